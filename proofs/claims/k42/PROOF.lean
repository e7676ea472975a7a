import PyProof.Rows.All
import Wide.All
import OpenK.AllK
import Wide.FinOn
import HandS.ForMost
import HandS.ForExc
import HandS.Evl
import HandS.Steps
import HandS.Star
import HandS.Property
import HandS.ClsMeth
import HandS.Defaults
import HandS.MakeKw
import HandS.MakeKwOnly
import HandS.Wide
import HandS.Flow
import HandS.IsInst
import KE.KDictCopyH
import HandS.Style
import HandS.TupAny
import HandS.TupMul
import HandS.NoneIn
import HandS.TupSets
import HandS.RevTup
import HandS.More
import HandS.Comp
import KE.GoesEnum
import KE.GoesMore
import HandS.Deep
import PyProof.WalksMore
import PyProof.Rows.SumAny
import HandS.List
import HandS.HeadHook1
import HandS.HeadHook2
import HandS.HeadHook3
import HandS.HeadEnd
import HandS.Codes
import HandS.ExcInit
import HandS.ExcField
import HandS.ExcIs
import HandS.ExcOwn
import HandS.TryOnly
import HandS.TryMany
import HandS.Lambda
import KE.KExcIs
import HandS.SetFor
import OpenK.KOps
import OpenK.KMeth
import KE.KOpsOwn
import KE.KCallOwn
import PyProof.InstEq
import KE.KDflt
import HandS.EndOwn
import PyProof.EqAt
import HandS.GenBody
import HandS.GenYield
import HandS.GenCall
import HandS.GenList
import KE.KRevSl
import PyProof.EqKinds
import PyProof.Raises
import PyProof.TypeEq
import PyProof.NeKinds
import HandS.Dict
import PyProof.DictUpdate
import HandS.Nested
import KE.KSuper
import PySem.Challenge.RW_warmswitch_k42_whole_plain_settings_and
set_option Elab.async false
set_option linter.all false
set_option maxRecDepth 100000
set_option maxHeartbeats 4000000
set_option hygiene false
local macro_rules | `(tactic| walk_at "cls") => `(tactic| first | (with_reducible exact Wm.WeatherC.cl (by assumption)) | (with_reducible exact Wm.HeaterC.cl (by assumption)) | (with_reducible exact Wm.RoomC.cl (by assumption)) | (with_reducible exact Wm.RunC.cl (by assumption)) | (with_reducible exact Wm.HistoryC.cl (by assumption)) | (with_reducible exact Wm.ThresholdObserverC.cl (by assumption)) | (with_reducible exact Wm.SettingC.cl (by assumption)) | (with_reducible exact Wm.HourSettingC.cl (by assumption)) | (with_reducible exact Wm.RestSettingC.cl (by assumption)) | (with_reducible exact Wm.PricesC.cl (by assumption)) | (with_reducible exact Wm.MomentC.cl (by assumption)) | (with_reducible exact Wm.LiveRoomC.cl (by assumption)) | (with_reducible exact Wm.AttemptC.cl (by assumption)))
local macro_rules | `(tactic| walk_at "noattr") => `(tactic| first | (with_reducible exact Wm.WeatherC.n_pattern (by assumption)) | (with_reducible exact Wm.HeaterC.n_power (by assumption)) | (with_reducible exact Wm.HeaterC.n_below (by assumption)) | (with_reducible exact Wm.HeaterC.n_above (by assumption)) | (with_reducible exact Wm.RoomC.n_outside (by assumption)) | (with_reducible exact Wm.RoomC.n_inside (by assumption)) | (with_reducible exact Wm.RoomC.n_begin_degrees (by assumption)) | (with_reducible exact Wm.RoomC.n_past (by assumption)) | (with_reducible exact Wm.RoomC.n_repeated (by assumption)) | (with_reducible exact Wm.RoomC.n_share (by assumption)) | (with_reducible exact Wm.RoomC.n_coldest (by assumption)) | (with_reducible exact Wm.RoomC.n_warmest (by assumption)) | (with_reducible exact Wm.RunC.n_begin (by assumption)) | (with_reducible exact Wm.RunC.n_end (by assumption)) | (with_reducible exact Wm.RunC.n_degrees (by assumption)) | (with_reducible exact Wm.RunC.n_is_heating (by assumption)) | (with_reducible exact Wm.RunC.n_sums (by assumption)) | (with_reducible exact Wm.RunC.n_size (by assumption)) | (with_reducible exact Wm.RunC.n_drift (by assumption)) | (with_reducible exact Wm.HistoryC.n_shifts (by assumption)) | (with_reducible exact Wm.HistoryC.n_added (by assumption)) | (with_reducible exact Wm.HistoryC.n_floor (by assumption)) | (with_reducible exact Wm.HistoryC.n_ceiling (by assumption)) | (with_reducible exact Wm.HistoryC.n_was_heating (by assumption)) | (with_reducible exact Wm.HistoryC.n_runs (by assumption)) | (with_reducible exact Wm.HistoryC.n_loop (by assumption)) | (with_reducible exact Wm.ThresholdObserverC.n_outside (by assumption)) | (with_reducible exact Wm.ThresholdObserverC.n_power (by assumption)) | (with_reducible exact Wm.ThresholdObserverC.n_tick (by assumption)) | (with_reducible exact Wm.ThresholdObserverC.n_degrees (by assumption)) | (with_reducible exact Wm.ThresholdObserverC.n_is_heating (by assumption)) | (with_reducible exact Wm.ThresholdObserverC.n_lows (by assumption)) | (with_reducible exact Wm.ThresholdObserverC.n_highs (by assumption)) | (with_reducible exact Wm.ThresholdObserverC.n_noted (by assumption)) | (with_reducible exact Wm.SettingC.n_least (by assumption)) | (with_reducible exact Wm.SettingC.n_most (by assumption)) | (with_reducible exact Wm.HourSettingC.n_least (by assumption)) | (with_reducible exact Wm.HourSettingC.n_most (by assumption)) | (with_reducible exact Wm.HourSettingC.n_length (by assumption)) | (with_reducible exact Wm.HourSettingC.n_hours (by assumption)) | (with_reducible exact Wm.RestSettingC.n_least (by assumption)) | (with_reducible exact Wm.RestSettingC.n_most (by assumption)) | (with_reducible exact Wm.RestSettingC.n_rest (by assumption)) | (with_reducible exact Wm.PricesC.n_table (by assumption)) | (with_reducible exact Wm.MomentC.n_tick (by assumption)) | (with_reducible exact Wm.MomentC.n_heat (by assumption)) | (with_reducible exact Wm.MomentC.n_on (by assumption)) | (with_reducible exact Wm.MomentC.n_burnt (by assumption)) | (with_reducible exact Wm.MomentC.n_sky (by assumption)) | (with_reducible exact Wm.MomentC.n_stove (by assumption)) | (with_reducible exact Wm.LiveRoomC.n_moment (by assumption)) | (with_reducible exact Wm.LiveRoomC.n_earlier (by assumption)) | (with_reducible exact Wm.LiveRoomC.n_done (by assumption)) | (with_reducible exact Wm.AttemptC.n_live (by assumption)) | (with_reducible exact Wm.AttemptC.n_kept (by assumption)) | (with_reducible exact Wm.AttemptC.n_stack (by assumption)) | (with_reducible exact Wm.AttemptC.n_steps (by assumption)))
local macro_rules | `(tactic| walk_at "at") => `(tactic| first | assumption | exact Wm.Hold.rd (by assumption) (by assumption) | exact Wm.Hold.get (i := 0) (by assumption) rfl | exact Wm.Hold.get (i := 1) (by assumption) rfl | exact Wm.Hold.get (i := 2) (by assumption) rfl | exact Wm.Hold.get (i := 3) (by assumption) rfl | exact Wm.Hold.get (i := 4) (by assumption) rfl)
local macro_rules | `(tactic| walk_at "s1") => `(tactic| (with_reducible refine Wm.r_I (by show (0 : Int) < _; decide) ?_))
local macro_rules | `(tactic| walk_at "s1") => `(tactic| (with_reducible refine Wm.r_I Wm.cpow12 ?_))
local macro_rules | `(tactic| walk_at "s1") => `(tactic| (with_reducible refine Wm.r_I Wm.cpow18 ?_))
local macro_rules | `(tactic| walk_at "s1") => `(tactic| (with_reducible refine Wm.r_I (Wm.cdiv (by decide) (by decide)) ?_))
local macro_rules | `(tactic| walk_at "s1") => `(tactic| (with_reducible refine Wm.r_I (Wm.cmulL (by decide)) ?_))
local macro_rules | `(tactic| walk_at "s1") => `(tactic| (with_reducible refine Wm.r_I (Wm.cmulR (by decide)) ?_))
local macro_rules | `(tactic| walk_at "s1") => `(tactic| ((with_reducible refine' Wm.gtup_h ?a ?b ?_); (case a => walk_at "at"); (case b => rfl)))
local macro_rules | `(tactic| walk_at "s1") => `(tactic| ((with_reducible refine' Wm.len_t ?a ?b ?_); (case a => assumption); (case b => assumption)))
local macro_rules | `(tactic| walk_at "s1") => `(tactic| ((with_reducible refine' Wm.len_l ?a ?b ?_); (case a => assumption); (case b => assumption)))
local macro_rules | `(tactic| walk_at "s1") => `(tactic| ((with_reducible refine' Wm.len_h ?a ?_); (case a => walk_at "at")))
local macro_rules | `(tactic| walk_at "s1") => `(tactic| ((with_reducible refine' Wm.len_ht ?a ?_); (case a => walk_at "at")))
local macro_rules | `(tactic| walk_at "s1") => `(tactic| ((with_reducible refine' Wm.rix_h ?a ?b ?_); (case a => walk_at "at"); (case b => rfl)))
local macro_rules | `(tactic| walk_at "s1") => `(tactic| ((with_reducible refine' Wm.rix_ht ?a ?b ?_); (case a => walk_at "at"); (case b => rfl)))
local macro_rules | `(tactic| walk_at "s1") => `(tactic| ((with_reducible refine' Wm.prp_h ?e ?_); (case e => walk_at "at")))
local macro_rules | `(tactic| walk_at "s1") => `(tactic| ((with_reducible refine' Wm.mtd_h ?e ?l ?_); (case e => walk_at "at"); (case l => rfl)))
local macro_rules | `(tactic| walk_at "s1") => `(tactic| ((with_reducible refine' Wm.fld_h ?e ?c ?n ?l ?_); (case e => walk_at "at"); (case c => walk_at "cls"); (case n => walk_at "noattr"); (case l => rfl)))
local macro_rules | `(tactic| walk_at "s1") => `(tactic| (with_reducible refine Wm.r_lcR2 ?_))
local macro_rules | `(tactic| walk_at "s1") => `(tactic| (with_reducible refine Wm.r_lcR1 ?_))
local macro_rules | `(tactic| walk_at "s1") => `(tactic| (with_reducible refine Wm.r_lcT ?_))
local macro_rules | `(tactic| walk_at "s1") => `(tactic| (with_reducible refine Wm.r_gfld ?_))
local macro_rules | `(tactic| walk_at "s1") => `(tactic| (with_reducible refine Wm.r_lcE ?_))
local macro_rules | `(tactic| walk_at "s1") => `(tactic| (with_reducible refine Wm.r_lcL ?_))
local macro_rules | `(tactic| walk_at "s1") => `(tactic| (with_reducible refine Wm.r_forR3 ?_))
local macro_rules | `(tactic| walk_at "s1") => `(tactic| (with_reducible refine Wm.r_forR2 ?_))
local macro_rules | `(tactic| walk_at "s1") => `(tactic| (with_reducible refine Wm.r_forR1 ?_))
local macro_rules | `(tactic| walk_at "s1") => `(tactic| (with_reducible refine Wm.r_forT ?_))
local macro_rules | `(tactic| walk_at "s1") => `(tactic| (with_reducible refine Wm.r_forL ?_))
local macro_rules | `(tactic| walk_at "s1") => `(tactic| ((with_reducible refine' Wm.setF_m ?h 3 ?e ?c ?a ?l ?_); (case h => assumption); (case e => rfl); (case c => walk_at "cls"); (case a => walk_at "noattr"); (case l => exact of_decide_eq_true rfl); intro H1 hh1; simp only [List.set_cons_zero, List.set_cons_succ] at hh1; revert H1; intro _ _))
local macro_rules | `(tactic| walk_at "s1") => `(tactic| ((with_reducible refine' Wm.setF_m ?h 2 ?e ?c ?a ?l ?_); (case h => assumption); (case e => rfl); (case c => walk_at "cls"); (case a => walk_at "noattr"); (case l => exact of_decide_eq_true rfl); intro H1 hh1; simp only [List.set_cons_zero, List.set_cons_succ] at hh1; revert H1; intro _ _))
local macro_rules | `(tactic| walk_at "s1") => `(tactic| ((with_reducible refine' Wm.setF_m ?h 1 ?e ?c ?a ?l ?_); (case h => assumption); (case e => rfl); (case c => walk_at "cls"); (case a => walk_at "noattr"); (case l => exact of_decide_eq_true rfl); intro H1 hh1; simp only [List.set_cons_zero, List.set_cons_succ] at hh1; revert H1; intro _ _))
local macro_rules | `(tactic| walk_at "s1") => `(tactic| ((with_reducible refine' Wm.setF_m ?h 0 ?e ?c ?a ?l ?_); (case h => assumption); (case e => rfl); (case c => walk_at "cls"); (case a => walk_at "noattr"); (case l => exact of_decide_eq_true rfl); intro H1 hh1; simp only [List.set_cons_zero, List.set_cons_succ] at hh1; revert H1; intro _ _))
local macro_rules | `(tactic| walk_at "s1") => `(tactic| ((with_reducible refine' Wm.r_ty ?e ?_); (case e => walk_at "at")))
local macro_rules | `(tactic| walk_at "s1") => `(tactic| (with_reducible refine Wm.notN ?_))
local macro_rules | `(tactic| walk_at "s1") => `(tactic| (with_reducible refine Wm.isN ?_))
local macro_rules | `(tactic| walk_at "s1") => `(tactic| (with_reducible refine Wm.abs1 ?_))
local macro_rules | `(tactic| walk_at "s1") => `(tactic| (with_reducible refine Wm.max2 ?_))
local macro_rules | `(tactic| walk_at "s1") => `(tactic| (with_reducible refine Wm.min2 ?_))
local macro_rules | `(tactic| walk_at "s1") => `(tactic| (with_reducible refine Wm.int_b ?_))
local macro_rules | `(tactic| walk_at "s1") => `(tactic| (with_reducible refine Wm.int_i ?_))
local macro_rules | `(tactic| walk_at "s1") => `(tactic| (with_reducible refine Wm.r_app ?_))
local macro_rules | `(tactic| walk_at "s1") => `(tactic| (with_reducible refine Wm.r_setF ?_))
local macro_rules | `(tactic| walk_at "s1") => `(tactic| (with_reducible refine Wm.r_sub ?_))
local macro_rules | `(tactic| walk_at "s1") => `(tactic| (with_reducible refine Wm.r_gnil ?_))
local macro_rules | `(tactic| walk_at "s1") => `(tactic| (with_reducible refine Wm.r_gcons ?_))
local macro_rules | `(tactic| walk_at "s1") => `(tactic| (with_reducible refine Wm.r_xi ?_))
local macro_rules | `(tactic| walk_at "s1") => `(tactic| (with_reducible refine Wm.r_part ?_))
local macro_rules | `(tactic| walk_at "s1") => `(tactic| (with_reducible refine Wm.r_nopart ?_))
local macro_rules | `(tactic| walk_at "s1") => `(tactic| (with_reducible refine Wm.r_sl ?_))
local macro_rules | `(tactic| walk_at "s1") => `(tactic| (with_reducible refine Wm.r_three ?_; try simp only [List.set_cons_zero, List.set_cons_succ]))
local macro_rules | `(tactic| walk_at "s1") => `(tactic| (with_reducible refine Wm.r_seenGet ?_))
local macro_rules | `(tactic| walk_at "s1") => `(tactic| (with_reducible refine Wm.r_seenPut ?_))
local macro_rules | `(tactic| walk_at "s1") => `(tactic| (with_reducible refine Wm.r_par3 ?_))
local macro_rules | `(tactic| walk_at "s1") => `(tactic| (with_reducible refine Wm.r_nF ?_))
local macro_rules | `(tactic| walk_at "s1") => `(tactic| (with_reducible refine Wm.r_nT ?_))
local macro_rules | `(tactic| walk_at "s1") => `(tactic| (with_reducible refine Wm.r_chain3 ?_))
local macro_rules | `(tactic| walk_at "s1") => `(tactic| (with_reducible refine Wm.r_forET ?_))
local macro_rules | `(tactic| walk_at "s1") => `(tactic| (with_reducible refine Wm.r_yes ?_))
local macro_rules | `(tactic| walk_at "s1") => `(tactic| (with_reducible refine Wm.r_two ?_; try simp only [List.set_cons_zero, List.set_cons_succ]))
local macro_rules | `(tactic| walk_at "s1") => `(tactic| (with_reducible refine Wm.r_par2 ?_))
local macro_rules | `(tactic| walk_at "s1") => `(tactic| (with_reducible refine Wm.r_ipI ?_))
local macro_rules | `(tactic| walk_at "s1") => `(tactic| ((with_reducible refine' Wm.r_aug ?h ?_); (case h => rfl)))
local macro_rules | `(tactic| walk_at "s1") => `(tactic| (with_reducible refine Wm.r_retN ?_))
local macro_rules | `(tactic| walk_at "s1") => `(tactic| (with_reducible refine Wm.r_drop ?_))
local macro_rules | `(tactic| walk_at "s1") => `(tactic| (with_reducible refine Wm.r_next ?_))
local macro_rules | `(tactic| walk_at "s1") => `(tactic| (with_reducible refine Wm.r_iteF ?_))
local macro_rules | `(tactic| walk_at "s1") => `(tactic| (with_reducible refine Wm.r_iteT ?_))
local macro_rules | `(tactic| walk_at "s1") => `(tactic| (with_reducible refine Wm.r_U ?_))
local macro_rules | `(tactic| walk_at "s1") => `(tactic| (with_reducible refine Wm.r_un ?_))
local macro_rules | `(tactic| walk_at "s1") => `(tactic| (with_reducible refine Wm.r_if ?_))
local macro_rules | `(tactic| walk_at "s1") => `(tactic| (with_reducible refine Wm.r_notV ?_))
local macro_rules | `(tactic| walk_at "s1") => `(tactic| (with_reducible refine Wm.r_orV ?_))
local macro_rules | `(tactic| walk_at "s1") => `(tactic| (with_reducible refine Wm.r_andV ?_))
local macro_rules | `(tactic| walk_at "s1") => `(tactic| (with_reducible refine Wm.r_not ?_))
local macro_rules | `(tactic| walk_at "s1") => `(tactic| (with_reducible refine Wm.r_or ?_))
local macro_rules | `(tactic| walk_at "s1") => `(tactic| (with_reducible refine Wm.r_and ?_))
local macro_rules | `(tactic| walk_at "s1") => `(tactic| (with_reducible refine Wm.r_chain ?_))
local macro_rules | `(tactic| walk_at "s1") => `(tactic| (with_reducible refine Wm.r_lst ?_))
local macro_rules | `(tactic| walk_at "s1") => `(tactic| (with_reducible refine Wm.r_tup ?_))
local macro_rules | `(tactic| walk_at "s1") => `(tactic| (with_reducible refine Wm.r_cb ?_))
local macro_rules | `(tactic| walk_at "s1") => `(tactic| (with_reducible refine Wm.r_makKw ?_))
local macro_rules | `(tactic| walk_at "s1") => `(tactic| (with_reducible refine Wm.r_mak ?_))
local macro_rules | `(tactic| walk_at "s1") => `(tactic| (with_reducible refine Wm.r_prp ?_))
local macro_rules | `(tactic| walk_at "s1") => `(tactic| (with_reducible refine Wm.r_mtd ?_))
local macro_rules | `(tactic| walk_at "s1") => `(tactic| (with_reducible refine Wm.r_call ?_))
local macro_rules | `(tactic| walk_at "s1") => `(tactic| (with_reducible refine Wm.r_fld ?_))
local macro_rules | `(tactic| walk_at "s1") => `(tactic| (with_reducible refine Wm.r_neB ?_))
local macro_rules | `(tactic| walk_at "s1") => `(tactic| (with_reducible refine Wm.r_eqB ?_))
local macro_rules | `(tactic| walk_at "s1") => `(tactic| (with_reducible refine Wm.r_neI ?_))
local macro_rules | `(tactic| walk_at "s1") => `(tactic| (with_reducible refine Wm.r_eqI ?_))
local macro_rules | `(tactic| walk_at "s1") => `(tactic| (with_reducible refine Wm.r_B ?_))
local macro_rules | `(tactic| walk_at "s1") => `(tactic| (with_reducible refine Wm.r_bl ?_))
local macro_rules | `(tactic| walk_at "s1") => `(tactic| (with_reducible refine Wm.r_test ?_))
local macro_rules | `(tactic| walk_at "s1") => `(tactic| (with_reducible refine Wm.r_ret ?_))
local macro_rules | `(tactic| walk_at "s1") => `(tactic| (with_reducible refine Wm.r_rt ?_))
local macro_rules | `(tactic| walk_at "s1") => `(tactic| (with_reducible refine Wm.r_nx ?_))
local macro_rules | `(tactic| walk_at "s1") => `(tactic| (with_reducible refine Wm.r_gname ?_; try simp only [List.set_cons_zero, List.set_cons_succ]))
local macro_rules | `(tactic| walk_at "s1") => `(tactic| (with_reducible refine Wm.r_asg ?_))
local macro_rules | `(tactic| walk_at "s1") => `(tactic| (with_reducible refine Wm.r_nil ?_))
local macro_rules | `(tactic| walk_at "s1") => `(tactic| (with_reducible refine Wm.r_cons ?_))
local macro_rules | `(tactic| walk_at "s1") => `(tactic| (with_reducible refine Wm.r_I0 ?_))
local macro_rules | `(tactic| walk_at "s1") => `(tactic| (with_reducible refine Wm.r_c ?_))
local macro_rules | `(tactic| walk_at "s1") => `(tactic| ((with_reducible refine' Wm.r_var ?h ?_); (case h => rfl)))
local macro_rules | `(tactic| walk_at "s1") => `(tactic| (with_reducible refine Wm.r_op ?_))
local macro_rules | `(tactic| walk_at "s1") => `(tactic| (with_reducible refine Wm.r_seq ?_))
local macro_rules | `(tactic| walk_at "s") => `(tactic| repeat (first | walk_at "s1" | (with_reducible refine Wm.r_ifS ?_)))
local macro_rules | `(tactic| walk_at "t") => `(tactic| repeat (walk_at "s1"))
local macro_rules | `(tactic| walk_at "sz") => `(tactic| exact of_decide_eq_true rfl)
local macro_rules | `(tactic| walk_at "d") => `(tactic| first | (with_reducible refine Wm.r_dT (by omega) ?_) | (with_reducible refine Wm.r_dF (by omega) ?_) | (with_reducible refine Wm.r_dN (by omega) ?_) | (with_reducible refine Wm.r_dM (by omega) ?_))
local macro_rules | `(tactic| walk_at "sd") => `(tactic| repeat (first | walk_at "s1" | (with_reducible refine Wm.r_ifS ?_) | walk_at "d"))
local macro_rules | `(tactic| walk_at "ex") => `(tactic| first
  | assumption
  | exact Wm.Ex.refl _
  | (refine Wm.Ex.trans ?_ (by assumption); walk_at "ex")
  | (refine Wm.Ex.trans ?_ (Wm.Hold.ex (by assumption)); walk_at "ex"))
local macro_rules | `(tactic| walk_at "room") => `(tactic| first
  | assumption
  | (refine' Wm.IsRoom.up ?e ?h; (case h => assumption); (case e => walk_at "ex")))
local macro_rules | `(tactic| walk_at "opt") => `(tactic| first
  | assumption
  | (refine' Wm.OptAt.up ?e ?h; (case h => assumption); (case e => walk_at "ex")))
local macro_rules | `(tactic| walk_at "lst") => `(tactic| first
  | assumption
  | (refine' Wm.Lst.at_ ?h ?e; (case h => assumption); (case e => walk_at "ex"))
  | exact Wm.Hold.get (i := 0) (by assumption) rfl | exact Wm.Hold.get (i := 1) (by assumption) rfl | exact Wm.Hold.get (i := 2) (by assumption) rfl | exact Wm.Hold.get (i := 3) (by assumption) rfl | exact Wm.Hold.get (i := 4) (by assumption) rfl)
local macro_rules | `(tactic| walk_at "tup") => `(tactic| first
  | assumption
  | (refine' Wm.Tup.at_ ?h ?e; (case h => assumption); (case e => walk_at "ex")))
local macro_rules | `(tactic| walk_at "p1") => `(tactic| first
  | (with_reducible refine Wm.r_p18 ?_) | (with_reducible refine Wm.r_p12 ?_) | (with_reducible refine Wm.r_p17 ?_) | (with_reducible refine Wm.r_p15 ?_) | (with_reducible refine Wm.r_p11 ?_) | (with_reducible refine Wm.r_p6 ?_) | (with_reducible refine Wm.r_p5 ?_) | (with_reducible refine Wm.r_p4 ?_) | (with_reducible refine Wm.r_p9 ?_) | (with_reducible refine Wm.r_p13 ?_) | (with_reducible refine Wm.r_p20 ?_) | (with_reducible refine Wm.r_p30 ?_) | (with_reducible refine Wm.r_p16 ?_))
local macro_rules | `(tactic| walk_at "w2") => `(tactic| ((with_reducible refine' Wm.tup_N ?hP ?hh ?_); (case hP => walk_at "sz"); (case hh => assumption); intro _ _ _ _ _ _))
local macro_rules | `(tactic| walk_at "w2") => `(tactic| ((with_reducible refine' Wm.r_mod ?h ?_); (case h => omega)))
local macro_rules | `(tactic| walk_at "w2") => `(tactic| ((with_reducible refine' Wm.r_I (Wm.cdiv ?h ?h2) ?_); (case h => omega); (case h2 => omega)))
local macro_rules | `(tactic| walk_at "w2") => `(tactic| ((with_reducible refine' Wm.r_I (Wm.cmulR ?h) ?_); (case h => omega)))
local macro_rules | `(tactic| walk_at "w2") => `(tactic| ((with_reducible refine' Wm.r_I (Wm.cmulL ?h) ?_); (case h => omega)))
local macro_rules | `(tactic| walk_at "w2") => `(tactic| ((with_reducible refine' Wm.gtup_h ?a ?b ?_); (case a => walk_at "tup"); (case b => rfl)))
local macro_rules | `(tactic| walk_at "w2") => `(tactic| ((with_reducible refine' Wm.len_h ?a ?_); (case a => walk_at "lst")))
local macro_rules | `(tactic| walk_at "w2") => `(tactic| ((with_reducible refine' Wm.len_ht ?a ?_); (case a => walk_at "tup")))
local macro_rules | `(tactic| walk_at "w2") => `(tactic| ((with_reducible refine' Wm.rix_h ?a ?b ?_); (case a => walk_at "lst"); (case b => rfl)))
local macro_rules | `(tactic| walk_at "w2") => `(tactic| ((with_reducible refine' Wm.rix_ht ?a ?b ?_); (case a => walk_at "tup"); (case b => rfl)))
local macro_rules | `(tactic| walk_at "w2") => `(tactic| ((with_reducible refine' Wm.ap_sws ?hh ?ir ?t0 ?t1 ?_); (case hh => assumption); (case ir => walk_at "room"); (case t0 => omega); (case t1 => omega); intro _ _))
local macro_rules | `(tactic| walk_at "w2") => `(tactic| ((with_reducible refine' Wm.ap_heats ?hh ?ir ?t0 ?t1 ?_); (case hh => assumption); (case ir => walk_at "room"); (case t0 => omega); (case t1 => omega); intro _ _))
local macro_rules | `(tactic| walk_at "w2") => `(tactic| ((with_reducible refine' Wm.ap_on ?hh ?ir ?t0 ?t1 ?_); (case hh => assumption); (case ir => walk_at "room"); (case t0 => omega); (case t1 => omega); intro _ _))
local macro_rules | `(tactic| walk_at "w2") => `(tactic| ((with_reducible refine' Wm.ap_temp ?hh ?ir ?t0 ?t1 ?_); (case hh => assumption); (case ir => walk_at "room"); (case t0 => omega); (case t1 => omega); intro _ _))
local macro_rules | `(tactic| walk_at "w2") => `(tactic| ((with_reducible refine' Wm.ap_prp ?ir ?_); (case ir => walk_at "room")))
local macro_rules | `(tactic| walk_at "w2") => `(tactic| ((with_reducible refine' Wm.ap_mtd ?ir ?hl ?_); (case ir => walk_at "room"); (case hl => intros; rfl)))
local macro_rules | `(tactic| walk_at "w2") => `(tactic| ((with_reducible refine' Wm.r_wp ?h ?_); (case h => rfl)))
local macro_rules | `(tactic| walk_at "w1") => `(tactic| first | walk_at "p1" | walk_at "s1" | walk_at "w2")
local macro_rules | `(tactic| walk_at "w") => `(tactic| repeat (first | walk_at "w1" | (with_reducible refine Wm.r_ifS ?_)))
local macro_rules | `(tactic| walk_at "wl") => `(tactic| ((with_reducible refine' Wm.lst_N ?hP ?hh ?_); (case hP => walk_at "sz"); (case hh => assumption); intro _ _ _ _ _ _))
local macro_rules | `(tactic| walk_at "wd") => `(tactic| repeat (first | walk_at "w1" | (with_reducible refine Wm.r_ifS ?_) | walk_at "d" | walk_at "wl"))
local macro_rules | `(tactic| walk_at "v") => `(tactic| repeat (walk_at "w1"))
set_option hygiene true
section
open PySem PySem.W PyProof.Rows
set_option maxRecDepth 100000 in
set_option maxHeartbeats 0 in
open_top k42_head for PySem.Challenge.rw_warmswitch_k42_whole_plain_settings_and
end

section
/-! ## 1. The ghost heap: G holds what never changes again, mu what may still change, H is the heap as it is -/
namespace Wm
open PySem PySem.Spec PyProof.Rows L2 StX
abbrev Ex := Evl.Ex
abbrev Mu := List (Addr × HO)
structure Hold (G : Hp) (mu : Mu) (H : Hp) : Prop where
  ex : Ex G H
  at_ : ∀ q ∈ mu, H q.1 = some q.2
  out : ∀ q ∈ mu, G q.1 = none
  nd : (mu.map (·.1)).Nodup
section
variable {G G' G1 G2 H H' H1 : Hp} {mu : Mu} {a p q : Addr} {o o' u : HO} {i : Nat}
theorem Ex.refl (H : Hp) : Ex H H := Evl.Ex.refl H
theorem Ex.trans (a : Ex G G1) (b : Ex G1 G2) : Ex G G2 := Evl.Ex.trans a b
theorem Ex.new (h : H p = none) : Ex H (upd H p o) := Evl.Ex.new h
theorem Hold.rd (h : Hold G mu H) (e : G a = some o) : H a = some o := h.ex a o e
theorem Hold.get (h : Hold G mu H) (e : mu[i]? = some (a, o)) : H a = some o := h.at_ _ (List.mem_of_getElem? e)
theorem Hold.g_none (h : Hold G mu H) (e : H p = none) : G p = none := Evl.fresh_back h.ex e
theorem Hold.mu_ne (h : Hold G mu H) (e : H p = none) : p ∉ mu.map (·.1) := fun z => by
  obtain ⟨q, hq, rfl⟩ := List.mem_map.mp z
  have := h.at_ q hq
  rw [e] at this
  cases this
theorem Hold.grow (h : Hold G mu H) (e : Ex H H') : Hold G mu H' := ⟨h.ex.trans e, fun q hq => e _ _ (h.at_ q hq), h.out, h.nd⟩
theorem Hold.newg (h : Hold G mu H) (e : H p = none) : Hold G mu (upd H p o) := h.grow (Ex.new e)
theorem Hold.new (h : Hold G mu H) (e : H p = none) : Hold (upd G p o) mu (upd H p o) := by
  have ne := h.mu_ne e
  refine ⟨fun b u hb => ?_, fun q hq => ?_, fun q hq => ?_, h.nd⟩
  · by_cases hp : b = p
    · subst hp; rw [upd_same] at hb ⊢; exact hb
    · rw [upd_ne hp] at hb ⊢; exact h.ex _ _ hb
  · have : q.1 ≠ p := fun z => ne (z ▸ List.mem_map_of_mem hq)
    rw [upd_ne this]; exact h.at_ q hq
  · have : q.1 ≠ p := fun z => ne (z ▸ List.mem_map_of_mem hq)
    rw [upd_ne this]; exact h.out q hq
theorem Hold.newm (h : Hold G mu H) (e : H p = none) : Hold G ((p, o) :: mu) (upd H p o) := by
  have ne := h.mu_ne e
  refine ⟨h.ex.trans (Ex.new e), fun q hq => ?_, fun q hq => ?_, ?_⟩
  · rcases List.mem_cons.mp hq with rfl | hq
    · exact upd_same
    · have : q.1 ≠ p := fun z => ne (z ▸ List.mem_map_of_mem hq)
      rw [upd_ne this]; exact h.at_ q hq
  · rcases List.mem_cons.mp hq with rfl | hq
    · exact h.g_none e
    · exact h.out q hq
  · rw [List.map_cons, List.nodup_cons]; exact ⟨ne, h.nd⟩
theorem nodup_fst {mu : Mu} (nd : (mu.map (·.1)).Nodup) {i j : Nat} {x y : Addr × HO} (hi : mu[i]? = some x) (hj : mu[j]? = some y) (e : x.1 = y.1) : i = j := by
  have h1 : (mu.map (·.1))[i]? = some x.1 := by rw [List.getElem?_map, hi] <;> rfl
  have h2 : (mu.map (·.1))[j]? = some x.1 := by rw [List.getElem?_map, hj, e] <;> rfl
  obtain ⟨l1, e1⟩ := List.getElem?_eq_some_iff.mp h1
  obtain ⟨l2, e2⟩ := List.getElem?_eq_some_iff.mp h2
  exact (List.getElem_inj nd).mp (e1.trans e2.symm)
theorem Hold.set (h : Hold G mu H) (e : mu[i]? = some (a, o)) : Hold G (mu.set i (a, o')) (upd H a o') := by
  have ga : G a = none := h.out _ (List.mem_of_getElem? e)
  have key : ∀ q ∈ mu.set i (a, o'), q = (a, o') ∨ (q ∈ mu ∧ q.1 ≠ a) := fun q hq => by
    obtain ⟨j, hj⟩ := List.mem_iff_getElem?.mp hq
    by_cases hij : i = j
    · subst hij
      rw [List.getElem?_set_self (List.getElem?_eq_some_iff.mp e).1] at hj
      cases hj; exact .inl rfl
    · rw [List.getElem?_set_ne hij] at hj
      exact .inr ⟨List.mem_of_getElem? hj, fun z => hij (nodup_fst h.nd e hj z.symm)⟩
  refine ⟨h.ex.mut ga, fun q hq => ?_, fun q hq => ?_, ?_⟩
  · rcases key q hq with rfl | ⟨hm, ne⟩
    · exact upd_same
    · rw [upd_ne ne]; exact h.at_ q hm
  · rcases key q hq with rfl | ⟨hm, ne⟩
    · exact ga
    · exact h.out q hm
  · have : (mu.set i (a, o')).map (·.1) = mu.map (·.1) := by
      rw [List.map_set]
      apply List.ext_getElem?
      intro j
      by_cases hij : i = j
      · subst hij
        rw [List.getElem?_set_self (by rw [List.length_map]; exact (List.getElem?_eq_some_iff.mp e).1), List.getElem?_map, e] <;> rfl
      · rw [List.getElem?_set_ne hij]
    rw [this]; exact h.nd
theorem Hold.drop {q : Addr × HO} (h : Hold G (q :: mu) H) : Hold G mu H := ⟨h.ex, fun x hx => h.at_ x (List.mem_cons_of_mem _ hx), fun x hx => h.out x (List.mem_cons_of_mem _ hx), (List.nodup_cons.mp (by simpa using h.nd)).2⟩
theorem Hold.frz (h : Hold G ((p, o) :: mu) H) : Hold (upd G p o) mu H := by
  have nd : p ∉ mu.map (·.1) := (List.nodup_cons.mp (by simpa using h.nd)).1
  refine ⟨fun b u hb => ?_, fun q hq => h.at_ q (List.mem_cons_of_mem _ hq), fun q hq => ?_, h.drop.nd⟩
  · by_cases hp : b = p
    · subst hp; rw [upd_same] at hb; cases hb; exact h.at_ _ List.mem_cons_self
    · rw [upd_ne hp] at hb; exact h.ex _ _ hb
  · have : q.1 ≠ p := fun z => nd (z ▸ List.mem_map_of_mem hq)
    rw [upd_ne this]; exact h.out q (List.mem_cons_of_mem _ hq)
theorem Hold.frz_ex (h : Hold G ((p, o) :: mu) H) : Ex G (upd G p o) := Ex.new (h.out _ List.mem_cons_self)
theorem Hold.swap {x y : Addr × HO} (h : Hold G (x :: y :: mu) H) : Hold G (y :: x :: mu) H := by
  refine ⟨h.ex, fun q hq => h.at_ q ?_, fun q hq => h.out q ?_, ?_⟩
  · rcases List.mem_cons.mp hq with rfl | hq
    · exact List.mem_cons_of_mem _ List.mem_cons_self
    · rcases List.mem_cons.mp hq with rfl | hq
      · exact List.mem_cons_self
      · exact List.mem_cons_of_mem _ (List.mem_cons_of_mem _ hq)
  · rcases List.mem_cons.mp hq with rfl | hq
    · exact List.mem_cons_of_mem _ List.mem_cons_self
    · rcases List.mem_cons.mp hq with rfl | hq
      · exact List.mem_cons_self
      · exact List.mem_cons_of_mem _ (List.mem_cons_of_mem _ hq)
  · have nd := h.nd
    simp only [List.map_cons, List.nodup_cons, List.mem_cons, not_or] at nd ⊢
    exact ⟨⟨fun z => nd.1.1 z.symm, nd.2.1⟩, nd.1.2, nd.2.2⟩
theorem _root_.L2.SqT.up {K : PySem.W.Frag} {xs : List V} (e : Ex G G') (h : SqT K G a xs) : SqT K G' a xs := Evl.ex_t e h
theorem _root_.L2.SqL.up {K : PySem.W.Frag} {xs : List V} (e : Ex G G') (h : SqL K G a xs) : SqL K G' a xs := Evl.ex_l e h
theorem Hold.tup {K : PySem.W.Frag} {xs : List V} (h : Hold G mu H) (t : SqT K G a xs) : SqT K H a xs := SqT.up h.ex t
theorem Hold.lst {K : PySem.W.Frag} {xs : List V} (h : Hold G mu H) (t : SqL K G a xs) : SqL K H a xs := SqL.up h.ex t
theorem SqT.of_ {K : PySem.W.Frag} {xs : List V} (e : G a = some (.tup xs)) : SqT K G a xs := Evl.st_of e
theorem SqL.of_ {K : PySem.W.Frag} {xs : List V} (e : G a = some (.lst xs)) : SqL K G a xs := Evl.sq_of e
end

/-! ## 2. Rules for readings, one step each -/
section
variable {K : PySem.W.Frag} {σ : L2.St} {H : Hp} {Q : VK} {QT : Bool → Hp → Prop} {QA : List V → Hp → Prop} {D : Ends} {i : Nat} {v : V} {ta tb tc te : TE} {tt tu : TT} {tr : TA} {t u z : TS} {r r' : R2}
theorem r_var (h : σ[i]? = some (some v)) (k : Q v H) : tVar i σ H Q := ⟨v, h, k⟩
theorem r_c (k : Q v H) : tC v σ H Q := k
theorem r_op (k : ta σ H fun x H1 => tb σ H1 fun y H2 => r x y H2 Q) : tOp r ta tb σ H Q := k
theorem r_un {ru : V → Hp → VK → Prop} (k : ta σ H fun x H1 => ru x H1 Q) : tUn ru ta σ H Q := k
theorem r_I0 {g : Int → Int → V} {a b : Int} (k : Q (g a b) H) : rI0 g (.int a) (.int b) H Q := ⟨a, b, rfl, rfl, k⟩
theorem r_I {C : Int → Int → Prop} {g : Int → Int → V} {a b : Int} (c : C a b) (k : Q (g a b) H) : rI C g (.int a) (.int b) H Q := ⟨a, b, rfl, rfl, c, k⟩
theorem r_U {g : Int → V} {a : Int} (k : Q (g a) H) : rU g (.int a) H Q := ⟨a, rfl, k⟩
theorem r_nil (k : QA [] H) : tNil σ H QA := k
theorem r_cons (k : te σ H fun x H1 => tr σ H1 fun xs H2 => QA (x :: xs) H2) : tCons te tr σ H QA := k
theorem r_test (k : te σ H fun x H1 => ∃ b, x = .bl b ∧ QT b H1) : tTest te σ H QT := k
theorem r_B (k : te σ H fun x H1 => ∃ b, x = .bl b ∧ QT b H1) : tB te σ H QT := k
theorem r_bl {P : Bool → Prop} {b : Bool} (k : P b) : ∃ c, V.bl b = .bl c ∧ P c := ⟨b, rfl, k⟩
theorem r_eqI {a b : Int} (k : Q (.bl (decide (a = b))) H) : rEq (.int a) (.int b) H Q := ⟨rfl, by rw [show decide (V.int a = V.int b) = decide (a = b) by simp]; exact k⟩
theorem r_neI {a b : Int} (k : Q (.bl (!decide (a = b))) H) : rNe (.int a) (.int b) H Q := ⟨rfl, by rw [show decide (V.int a = V.int b) = decide (a = b) by simp]; exact k⟩
theorem r_eqB {a b : Bool} (k : Q (.bl (a == b)) H) : rEq (.bl a) (.bl b) H Q := ⟨rfl, by rw [dec_bl]; exact k⟩
theorem r_neB {a b : Bool} (k : Q (.bl (a != b)) H) : rNe (.bl a) (.bl b) H Q := ⟨rfl, by rw [dec_bl]; exact k⟩
theorem r_chain (k : ta σ H fun x H1 => tb σ H1 fun y H2 => r x y H2 fun z H3 => ∃ k, z = .bl k ∧ (if k = true then tc σ H3 fun w' H4 => r' y w' H4 Q else Q (.bl false) H3)) : tChain r r' ta tb tc σ H Q := k
theorem r_and (k : tt σ H fun c H1 => if c = true then tu σ H1 QT else QT false H1) : tAnd tt tu σ H QT := k
theorem r_or (k : tt σ H fun c H1 => if c = true then QT true H1 else tu σ H1 QT) : tOr tt tu σ H QT := k
theorem r_not (k : tt σ H fun c H1 => QT (!c) H1) : tNot tt σ H QT := k
theorem r_andV (k : ta σ H fun x H1 => ∃ c, x = .bl c ∧ if c = true then tb σ H1 Q else Q (.bl false) H1) : tAndV ta tb σ H Q := k
theorem r_orV (k : ta σ H fun x H1 => ∃ c, x = .bl c ∧ if c = true then Q (.bl true) H1 else tb σ H1 Q) : tOrV ta tb σ H Q := k
theorem r_notV (k : ta σ H fun x H1 => ∃ c, x = .bl c ∧ Q (.bl (!c)) H1) : tNotV ta σ H Q := k
theorem r_if (k : tt σ H fun c H1 => if c = true then ta σ H1 Q else tb σ H1 Q) : tIf tt ta tb σ H Q := k
theorem r_iteT {A B : Prop} (k : A) : if true = true then A else B := by rw [if_pos rfl]; exact k
theorem r_iteF {A B : Prop} (k : B) : if false = true then A else B := by rw [if_neg Bool.false_ne_true]; exact k
theorem r_ite {A B : Prop} {b : Bool} (h1 : b = true → A) (h2 : b = false → B) : if b = true then A else B := by
  cases b
  · exact r_iteF (h2 rfl)
  · exact r_iteT (h1 rfl)
/-- statements -/
theorem r_seq (k : t { D with nx := u D } σ H) : tSeq t u D σ H := k
theorem r_asg {g : TG} (k : te σ H fun x H1 => g x σ H1 D.nx) : tAsg te g D σ H := k
theorem r_gname {R : L2.St → Hp → Prop} (k : R (σ.set i (some v)) H) : gName i v σ H R := k
theorem r_ret (k : te σ H D.rt) : tRet te D σ H := k
theorem r_next (k : D.nx σ H) : tNext D σ H := k
theorem r_drop (k : te σ H fun _ H1 => D.nx σ H1) : tDrop te D σ H := k
theorem r_ifS (k : tt σ H fun b H1 => if b = true then t D σ H1 else u D σ H1) : tIfS tt t u D σ H := k
theorem r_aug {x : V} {ti : TIp} (h : σ[i]? = some (some x)) (k : te σ H fun y H1 => ti x y H1 fun z H2 => D.nx (σ.set i (some z)) H2) : tAug i te ti D σ H := ⟨x, h, k⟩
theorem r_ipI {f : Int → Int → Int} {a b : Int} (k : Q (.int (f a b)) H) : ipI f (.int a) (.int b) H Q := ⟨a, b, rfl, rfl, k⟩
theorem r_two {P : V → V → Prop} {x y : V} (k : P x y) : ∃ v w, [x, y] = [v, w] ∧ P v w := ⟨x, y, rfl, k⟩
/-- a test whose answer is told: nothing is made on the way -/
theorem ifA {b : Bool} (h : Ans tt σ H b) (h1 : b = true → t D σ H) (h2 : b = false → u D σ H) : tIfS tt t u D σ H := by
  refine h _ ?_
  exact r_ite h1 h2
theorem ans_or2 {b1 b2 : Bool} (h1 : Ans tt σ H b1) (h2 : Ans tu σ H b2) : Ans (tOr tt tu) σ H (b1 || b2) := by
  cases b1 with
  | true => exact ans_or1 h1
  | false => exact ans_or h1 h2
end
end Wm
/-! ## 3. Rules over the held heap -/
namespace Wm
open PySem PySem.Spec PyProof.Rows L2 StX
/-- an attribute read off a value -/
def rFld (K : PySem.W.Frag) (f : Str) : V → Hp → VK → Prop := fun x H1 Q => ∃ a C dx fs v, x = .ref a ∧ H1 a = some (.ins C dx fs) ∧ Cls K C ∧ NoAttr K C f ∧ fs.lookup f = some v ∧ Q v H1
section
variable {K : PySem.W.Frag} {G H : Hp} {mu : Mu} {σ : L2.St} {Q : VK} {D : Ends} {C dx p : Addr} {fs : List (Str × V)} {f m : Str} {v w : V} {i j : Nat} {o : HO} {ta tv te : TE} {tr : TA} {xs : List V} {E : XK} {sp : Sp}
theorem r_fld (k : ta σ H (fun x H1 => rFld K f x H1 Q)) : tFld K ta f σ H Q := k
/-- o.f = e: the value, then the object -/
def rSetF (K : PySem.W.Frag) (f : Str) (y x : V) (H2 : Hp) (R : Hp → Prop) : Prop := ∃ a C dx fs, x = .ref a ∧ H2 a = some (.ins C dx fs) ∧ Cls K C ∧ NoAttr K C f ∧ fs.length < 1000 ∧ R (upd H2 a (.ins C dx (putF f y fs)))
theorem r_setF (k : tv σ H fun y H1 => ta σ H1 fun x H2 => rSetF K f y x H2 (fun H3 => D.nx σ H3)) : sFld K ta tv f D σ H := k
theorem setF_m {R : Hp → Prop} (hh : Hold G mu H) (i : Nat) (e : mu[i]? = some (p, .ins C dx fs)) (c : Cls K C) (n : NoAttr K C f) (l : fs.length < 1000)
    (k : ∀ H', Hold G (mu.set i (p, .ins C dx (putF f v fs))) H' → R H') : rSetF K f v (.ref p) H R := ⟨p, C, dx, fs, rfl, hh.get e, c, n, l, k _ (hh.set e)⟩
/-- displays: a new object -/
def rLst (xs : List V) (H1 : Hp) (Q : VK) : Prop := xs.length ≤ sizeLine ∧ ∀ p, H1 p = none → Q (.ref p) (upd H1 p (.lst xs))
def rTup (xs : List V) (H1 : Hp) (Q : VK) : Prop := xs.length ≤ sizeLine ∧ ∀ p, H1 p = none → Q (.ref p) (upd H1 p (.tup xs))
theorem r_tup (k : tr σ H fun xs H1 => rTup xs H1 Q) : tTup tr σ H Q := k
theorem r_lst (k : tr σ H fun xs H1 => rLst xs H1 Q) : tLst tr σ H Q := k
theorem tup_G (hP : xs.length ≤ sizeLine) (hh : Hold G mu H) (k : ∀ p G' H', Ex G G' → G' p = some (.tup xs) → Hold G' mu H' → Q (.ref p) H') : rTup xs H Q :=
  ⟨hP, fun p hp => k p _ _ (Ex.new (hh.g_none hp)) upd_same (hh.new hp)⟩
theorem lst_G (hP : xs.length ≤ sizeLine) (hh : Hold G mu H) (k : ∀ p G' H', Ex G G' → G' p = some (.lst xs) → Hold G' mu H' → Q (.ref p) H') : rLst xs H Q :=
  ⟨hP, fun p hp => k p _ _ (Ex.new (hh.g_none hp)) upd_same (hh.new hp)⟩
theorem lst_m (hP : xs.length ≤ sizeLine) (hh : Hold G mu H) (k : ∀ p H', Hold G ((p, .lst xs) :: mu) H' → Q (.ref p) H') : rLst xs H Q :=
  ⟨hP, fun p hp => k p _ (hh.newm hp)⟩
/-- .. of no further use -/
theorem tup_x (hP : xs.length ≤ sizeLine) (hh : Hold G mu H) (k : ∀ p H', H' p = some (.tup xs) → Hold G mu H' → Q (.ref p) H') : rTup xs H Q :=
  ⟨hP, fun p hp => k p _ upd_same (hh.newg hp)⟩
theorem lst_x (hP : xs.length ≤ sizeLine) (hh : Hold G mu H) (k : ∀ p H', H' p = some (.lst xs) → Hold G mu H' → Q (.ref p) H') : rLst xs H Q :=
  ⟨hP, fun p hp => k p _ upd_same (hh.newg hp)⟩
theorem new1_G (hh : Hold G mu H) (k : ∀ p G' H', Ex G G' → G' p = some o → Hold G' mu H' → Q (.ref p) H') : ∀ p, H p = none → Q (.ref p) (upd H p o) :=
  fun p hp => k p _ _ (Ex.new (hh.g_none hp)) upd_same (hh.new hp)
end
/-! ## 4. Calls by positional promises -/
def NoE (CX : CXT) : Prop := ∀ X : Cx, Passes CX X E0
theorem noE0 : NoE CX0 := fun _ => pass0
structure CalR (P : Program) (w : World) (K : PySem.W.Frag) (mg : Str → Option Value) (base : Heap) (CX : CXT) (k : Nat) (x : Str) (sp : Sp) : Prop where
  ex : ∃ f, FnR P w K mg base CX k f sp ∧ mg x = some (.ref f) ∧ PySem.W.keepIn K (.ref f) = true
structure MetR (P : Program) (w : World) (K : PySem.W.Frag) (mg : Str → Option Value) (base : Heap) (CX : CXT) (k : Nat) (C : Addr) (m : Str) (sp : Sp) : Prop where
  ex : ∃ f, FnR P w K mg base CX k f sp ∧ Cls K C ∧ Meth K C m f
structure MakR (P : Program) (w : World) (K : PySem.W.Frag) (mg : Str → Option Value) (base : Heap) (CX : CXT) (k : Nat) (x : Str) (C : Addr) (sp : Sp) : Prop where
  ex : ∃ f, FnR P w K mg base CX k f sp ∧ Mk K C f ∧ mg x = some (.ref C)
structure PrpR (P : Program) (w : World) (K : PySem.W.Frag) (mg : Str → Option Value) (base : Heap) (CX : CXT) (k : Nat) (C : Addr) (f : Str) (sp : Sp) : Prop where
  ex : ∃ (p g : Addr) (fd : FuncData) (ps : List Str), FnOk P w K mg base CX k g fd ps sp ∧ Cls K C ∧ PropOf K C f p g ∧ Binds K fd ps []
def tCal (sp : Sp) (E : XK) (t : TA) : TE := fun σ H Q => t σ H fun vs H1 => sp vs H1 Q E
def rMtd (C : Addr) (m : Str) (sp : Sp) (E : XK) (t : TA) (σ : L2.St) : V → Hp → VK → Prop := fun x H1 Q => ∃ a dx fs, x = .ref a ∧ H1 a = some (.ins C dx fs) ∧ fs.lookup m = none ∧ t σ H1 fun vs H2 => sp (x :: vs) H2 Q E
def tMtd (C : Addr) (m : Str) (sp : Sp) (E : XK) (ta : TE) (t : TA) : TE := fun σ H Q => ta σ H fun x H1 => rMtd C m sp E t σ x H1 Q
def tMak (C : Addr) (sp : Sp) (E : XK) (t : TA) : TE := fun σ H Q => t σ H fun vs H1 => ∀ x dx, H1 x = none → H1 dx = none → dx ≠ x → sp (V.ref x :: vs) (upd (upd H1 dx (.own x)) x (.ins C dx [])) (fun v H2 => v = .non ∧ Q (.ref x) H2) E
def rPrp (C : Addr) (sp : Sp) (E : XK) : V → Hp → VK → Prop := fun x H1 Q => ∃ a dx fs, x = .ref a ∧ H1 a = some (.ins C dx fs) ∧ sp [.ref a] H1 Q E
def tPrp (C : Addr) (sp : Sp) (E : XK) (ta : TE) : TE := fun σ H Q => ta σ H fun x H1 => rPrp C sp E x H1 Q
section
variable {X : Cx} {CX : CXT} {k j : Nat} {C : Addr} {sp : Sp} {E : XK} {x m f : Str} {p pos apos : Pos} {e o : Expr} {es : List Expr} {ta : TE} {t : TA}
theorem pe_cR (c : CalR X.prog X.w X.K X.mg X.base CX k x sp) (hr : Room j X.A) (hk : k ≤ j) (hx : Passes CX X E) (hg : Gl X x) (ha : PA X (e :: es) t)
    (hd : (x == ("__debug__" : Str)) = false := by decide) (he : starEach (e :: es) X.env = (false, eval e X.env) :: starEach es X.env := by rfl) (hpl : (backTo pos (starEach es X.env)).any (·.1) = false := by rfl) :
    PE X (.Call (.Name x p) (e :: es) [] pos) (tCal sp E t) := by
  obtain ⟨f, F, hm, kp⟩ := c.ex
  refine ⟨fun pins s σ H Q I h => ?_⟩
  refine wpAny_Call_Name_kw (ld_glob I hg hm ?_ hd)
  refine PySem.W.callWith_K (h₀ := X.base) I.ok.mod.kin kp (thn (ha.run pos pins s σ H _ I h) fun us s1 ⟨vs, H1, I1, r, q⟩ => ⟨I1.kIn, ?_⟩) he hpl
  exact wpAny_call (run_fnR F (hr.mono hk) hx I1 r q)
theorem pe_mtR {pl : Sem Bool} (c : MetR X.prog X.w X.K X.mg X.base CX k C m sp) (hr : Room j X.A) (hk : k ≤ j) (hx : Passes CX X E) (he : PE X o ta) (ha : PA X (e :: es) t)
    (hst : starEach (e :: es) X.env = (false, eval e X.env) :: starEach es X.env := by rfl) (hpl : (backTo pos (starEach es X.env)).any (·.1) = false := by rfl)
    (ht : eval (.Call (.Attribute o m apos) (e :: es) [] pos) X.env = (do
      let ov ← eval o X.env
      standAt apos.atName
      let (f, first) ← holding [ov] (getMethod ov m pl)
      callWith pos f first (backTo pos (starEach (e :: es) X.env)) (backToKw pos (keywordEach [] X.env))) := by rfl) :
    PE X (.Call (.Attribute o m apos) (e :: es) [] pos) (tMtd C m sp E ta t) := by
  obtain ⟨f, F, hc, hm⟩ := c.ex
  exact pe_methR (pl := pl) he hc hm F (hr.mono hk) hx ha hst hpl ht
theorem pe_mt0R {pl : Sem Bool} (c : MetR X.prog X.w X.K X.mg X.base CX k C m sp) (hr : Room j X.A) (hk : k ≤ j) (hx : Passes CX X E) (he : PE X o ta)
    (ht : eval (.Call (.Attribute o m apos) [] [] pos) X.env = (do
      let ov ← eval o X.env
      standAt apos.atName
      let (f, first) ← holding [ov] (getMethod ov m pl)
      callWith pos f first (backTo pos (starEach [] X.env)) (backToKw pos (keywordEach [] X.env))) := by rfl) :
    PE X (.Call (.Attribute o m apos) [] [] pos) (tMtd C m sp E ta tNil) := by
  obtain ⟨f, F, hc, hm⟩ := c.ex
  refine ⟨fun pins s σ H Q I h => ?_⟩
  refine PySem.W.methodCall_KW (pl := pl) (thn (he.run pins s σ H _ I h) fun u s1 ⟨x, H1, I1, rx, a, dx, fs, ex, ea, l, q⟩ => ?_) ht
  subst ex
  obtain rfl : u = Value.ref a := rx
  refine getmeth_ok I1 ea hc hm l ?_
  exact PySem.W.callWith_K0 (first := [.ref a]) I1.kIn hm.kp (wpAny_call (run_fnR (us := [.ref a]) (vs := [.ref a]) F (hr.mono hk) hx I1 (.cons rfl .nil) q))
theorem pe_mkR (c : MakR X.prog X.w X.K X.mg X.base CX k x C sp) (hr : Room j X.A) (hk : k + 1 ≤ j) (hx : Passes CX X E) (hg : Gl X x) (ha : PA X (e :: es) t) (hdb : (x == ("__debug__" : Str)) = false := by decide)
    (he : starEach (e :: es) X.env = (false, eval e X.env) :: starEach es X.env := by rfl) (hpl : (backTo pos (starEach es X.env)).any (·.1) = false := by rfl) : PE X (.Call (.Name x p) (e :: es) [] pos) (tMak C sp E t) := by
  obtain ⟨f, F, M, hm⟩ := c.ex
  exact pe_makeR M F (hr.mono hk) hg hm hx ha hdb he hpl
/-- C(*y) -/
def tMakS (K : PySem.W.Frag) (C : Addr) (sp : Sp) (E : XK) (te : TE) : TE := fun σ H Q => te σ H fun y H1 => ∃ a xs, y = V.ref a ∧ (SqT K H1 a xs ∨ SqL K H1 a xs) ∧ ∀ x dx, H1 x = none → H1 dx = none → dx ≠ x → sp (V.ref x :: xs) (upd (upd H1 dx (.own x)) x (.ins C dx [])) (fun v H2 => v = .non ∧ Q (.ref x) H2) E
theorem pe_mkSR {te : TE} {sp_ : Pos} (c : MakR X.prog X.w X.K X.mg X.base CX k x C sp) (hr : Room j X.A) (hk : k + 1 ≤ j) (hx : Passes CX X E) (hg : Gl X x) (he : PE X e te) (hdb : (x == ("__debug__" : Str)) = false := by decide)
    (hst : starEach [.Starred e sp_] X.env = [(true, eval e X.env)] := by rfl) : PE X (.Call (.Name x p) [.Starred e sp_] [] pos) (tMakS X.K C sp E te) := by
  obtain ⟨f, F, M, hm⟩ := c.ex
  refine ⟨fun pins s σ H Q I h => ?_⟩
  refine wpAny_Call_Name_kw (ld_glob I hg hm ?_ hdb)
  refine PySem.W.callWith_S (h₀ := X.base) I.ok.mod.kin M.kp (thn (he.run pins s σ H _ I h) fun v s1 ⟨y, H1, I1, ry, a, xs, ey, hxs, q⟩ => ?_) hst
  subst ey
  obtain rfl : v = Value.ref a := ry
  exact star_any I1 hxs fun us s2 I2 rv => ⟨I2.kIn, run_makeR M F (hr.mono hk) hx I2 rv q⟩
theorem pe_prR (c : PrpR X.prog X.w X.K X.mg X.base CX k C f sp) (hr : Room j X.A) (hk : k + 1 ≤ j) (hx : Passes CX X.nox E) (he : PE X e ta) (hab : attributeBase e f X.env (eval e X.env) = eval e X.env := by rfl) :
    PE X (.Attribute e f pos) (tPrp C sp E ta) := by
  obtain ⟨p, g, fd, ps, F, hc, hp, hb⟩ := c.ex
  exact pe_prop he hc hp F (hr.mono hk) hb .nil hx hab
end
section
variable {P : Program} {w : World} {K : PySem.W.Frag} {mg : Str → Option Value} {base : Heap} {CX : CXT}
theorem FnOk.R {f : Addr} {fd : FuncData} {ps : List Str} {k : Nat} {sp : Sp} (F : FnOk P w K mg base CX k f fd ps sp) (b : Binds K fd ps []) : FnR P w K mg base CX k f sp := by
  have h := F.raw b .nil
  exact h.imp fun vs H Q E q => by rw [List.append_nil]; exact q
end
section
variable {K : PySem.W.Frag} {G H : Hp} {mu : Mu} {σ : L2.St} {Q : VK} {C p : Addr} {m : Str} {ta te : TE} {tr : TA} {E : XK} {sp : Sp} {vs xs : List V}
theorem r_call (k : tr σ H fun vs H1 => sp vs H1 Q E) : tCal sp E tr σ H Q := k
theorem r_mtd (k : ta σ H fun x H1 => rMtd C m sp E tr σ x H1 Q) : tMtd C m sp E ta tr σ H Q := k
theorem r_prp (k : ta σ H fun x H1 => rPrp C sp E x H1 Q) : tPrp C sp E ta σ H Q := k
def rMak (C : Addr) (sp : Sp) (E : XK) (vs : List V) (H1 : Hp) (Q : VK) : Prop := ∀ x dx, H1 x = none → H1 dx = none → dx ≠ x → sp (V.ref x :: vs) (upd (upd H1 dx (.own x)) x (.ins C dx [])) (fun v H2 => v = .non ∧ Q (.ref x) H2) E
theorem r_mak (k : tr σ H fun vs H1 => rMak C sp E vs H1 Q) : tMak C sp E tr σ H Q := k
/-- the new instance is held apart -/
theorem make_m (hh : Hold G mu H) (k : ∀ x dx H', Hold G ((x, .ins C dx []) :: mu) H' → sp (.ref x :: vs) H' (fun v H2 => v = .non ∧ Q (.ref x) H2) E) : rMak C sp E vs H Q := fun x dx hx hd hne => by
  refine k x dx _ ((hh.newg (o := .own x) hd).newm ?_)
  rw [upd_ne (Ne.symm hne)]
  exact hx
end
end Wm
/-! ## 5. Names for the readings of built-ins; more rules -/
namespace Wm
open PySem PySem.Spec PyProof.Rows L2 StX
/-- the classes' addresses -/
structure Ads where
  P : Program
  w : World
  cWeather : Addr := 0
  cHeater : Addr := 0
  cRoom : Addr := 0
  cRun : Addr := 0
  cHistory : Addr := 0
  cThresholdObserver : Addr := 0
  cSetting : Addr := 0
  cHourSetting : Addr := 0
  cRestSetting : Addr := 0
  cPrices : Addr := 0
  cMoment : Addr := 0
  cLiveRoom : Addr := 0
  cAttempt : Addr := 0
  cWarmthError : Addr := 0
  cInvalidWeather : Addr := 0
  cInvalidHeater : Addr := 0
  cInvalidNumber : Addr := 0
  cOtherWeather : Addr := 0
  cContradiction : Addr := 0
  cInvalidSetting : Addr := 0
  cInvalidPrices : Addr := 0
  cInvalidOperation : Addr := 0
  cInvalidReport : Addr := 0
  /-- the table of the law's own code objects -/
  tLaw : Addr := 0
/-- the built-in names stand -/
structure Blt (mg : Str → Option Value) : Prop where
  n_len : mg "len" = none
  n_int : mg "int" = none
  n_min : mg "min" = none
  n_max : mg "max" = none
  n_sum : mg "sum" = none
  n_range : mg "range" = none
  n_enumerate : mg "enumerate" = none
  n_isinstance : mg "isinstance" = none
  n_list : mg "list" = none
  n_tuple : mg "tuple" = none
  n_sorted : mg "sorted" = none
  n_abs : mg "abs" = none
  n_str : mg "str" = none
  n_dict : mg "dict" = none
  n_bool : mg "bool" = none
  n_ValueError : mg "ValueError" = none
abbrev rLen (K : PySem.W.Frag) : List V → Hp → VK → Prop := fun xs H Q => ∃ x n, xs = [x] ∧ LenV K x H n ∧ Q (.int n) H
abbrev rMin2 : List V → Hp → VK → Prop := fun xs H Q => ∃ i j, xs = [.int i, .int j] ∧ Q (.int (if j < i then j else i)) H
abbrev rMax2 : List V → Hp → VK → Prop := fun xs H Q => ∃ i j, xs = [.int i, .int j] ∧ Q (.int (if j > i then j else i)) H
abbrev rInt : List V → Hp → VK → Prop := fun xs H Q => (∃ i, xs = [.int i] ∧ Q (.int i) H) ∨ ∃ k, xs = [.bl k] ∧ Q (.int (if k then 1 else 0)) H
abbrev rAbs : List V → Hp → VK → Prop := fun xs H Q => ∃ i, xs = [.int i] ∧ Q (.int (if i < 0 then -i else i)) H
abbrev rListOf (K : PySem.W.Frag) : List V → Hp → VK → Prop := fun xs H Q => ∃ p ys, xs = [.ref p] ∧ (SqL K H p ys ∨ SqT K H p ys) ∧ ∀ l, H l = none → Q (.ref l) (upd H l (.lst ys))
abbrev rTupOf (K : PySem.W.Frag) : List V → Hp → VK → Prop := fun xs H Q => ∃ p ys, xs = [.ref p] ∧ ((SqL K H p ys ∧ ∀ l, H l = none → Q (.ref l) (upd H l (.tup ys))) ∨ (SqT K H p ys ∧ Q (.ref p) H))
abbrev rCatS : R2 := fun x y H Q => ∃ i j, x = .str i ∧ y = .str j ∧ i.length + j.length ≤ sizeLine ∧ Q (.str (i ++ j)) H
section
variable {G G' H H' : Hp} {mu : Mu} {a p : Addr} {o : HO} {x y q : Addr × HO}
end
section
variable {K : PySem.W.Frag} {G H : Hp} {mu : Mu} {σ : L2.St} {Q : VK} {D : Ends} {p l : Addr} {xs ys vs : List V} {v w : V} {i j : Int} {n : Nat} {o : HO} {ta tb te : TE} {tr : TA} {x y : Addr × HO} {r : List V → Hp → VK → Prop}
theorem r_nx {u : L2.St → Hp → Prop} {rt : VK} {bk ct : L2.St → Hp → Prop} (k : u σ H) : Ends.nx ⟨u, rt, bk, ct⟩ σ H := k
theorem r_rt {u : L2.St → Hp → Prop} {rt : VK} {bk ct : L2.St → Hp → Prop} (k : rt v H) : Ends.rt ⟨u, rt, bk, ct⟩ v H := k
theorem r_cb (k : tr σ H fun vs H1 => r vs H1 Q) : tCB r tr σ H Q := k
theorem rix_h (e : H p = some (.lst xs)) (ha : atI xs i = some v) (k : Q v H) : rIx K (.ref p) (.int i) H Q := .inl ⟨p, xs, i, v, rfl, rfl, SqL.of e, ha, k⟩
theorem rix_l (hh : Hold G mu H) (e : SqL K G p xs) (ha : atI xs i = some v) (k : Q v H) : rIx K (.ref p) (.int i) H Q := .inl ⟨p, xs, i, v, rfl, rfl, hh.lst e, ha, k⟩
theorem len_l (hh : Hold G mu H) (e : SqL K G p xs) (k : Q (.int (xs.length : Nat)) H) : rLen K [.ref p] H Q := ⟨.ref p, xs.length, rfl, .inl ⟨xs, hh.lst e, rfl⟩, k⟩
theorem int_i (k : Q (.int i) H) : rInt [.int i] H Q := .inl ⟨i, rfl, k⟩
theorem int_b {b : Bool} (k : Q (.int (if b then 1 else 0)) H) : rInt [.bl b] H Q := .inr ⟨b, rfl, k⟩
theorem min2 (k : Q (.int (if j < i then j else i)) H) : rMin2 [.int i, .int j] H Q := ⟨i, j, rfl, k⟩
theorem max2 (k : Q (.int (if j > i then j else i)) H) : rMax2 [.int i, .int j] H Q := ⟨i, j, rfl, k⟩
theorem cat_G (hh : Hold G mu H) (h1 : H p = some (.lst xs)) (h2 : H l = some (.lst ys)) (hz : xs.length + ys.length ≤ sizeLine) (k : ∀ q G' H', Ex G G' → G' q = some (.lst (xs ++ ys)) → Hold G' mu H' → Q (.ref q) H') : rCat (.ref p) (.ref l) H Q :=
  ⟨p, l, xs, ys, rfl, rfl, h1, h2, hz, fun q hq => k q _ _ (Ex.new (hh.g_none hq)) upd_same (hh.new hq)⟩
theorem app_m (hh : Hold G mu H) (n : Nat) (e : mu[n]? = some (l, .lst xs)) (hz : xs.length < sizeLine) (k : ∀ H', Hold G (mu.set n (l, .lst (xs ++ [v]))) H' → Q .non H') : rAppend (.ref l) [v] H Q :=
  ⟨l, xs, v, rfl, rfl, hh.get e, hz, k _ (hh.set e)⟩
theorem r_app {T : String} (k : ta σ H fun x H1 => tyV K T x H1 ∧ tr σ H1 fun vs H2 => rAppend x vs H2 Q) : tBM K T rAppend ta tr σ H Q := k
/-- xs[i] = v -/
theorem r_sub {ti : TE} {ts : TSet} {R : L2.St → Hp → Prop} (k : ta σ H fun o H1 => ti σ H1 fun z H2 => ts o z v H2 fun H3 => R σ H3) : gSub ta ti ts v σ H R := k
theorem setL_m {R : Hp → Prop} {j : Nat} (hh : Hold G mu H) (n : Nat) (e : mu[n]? = some (l, .lst xs)) (hj : ixN xs.length i = some j) (k : ∀ H', Hold G (mu.set n (l, .lst (xs.set j v))) H' → R H') : rSetL (.ref l) (.int i) v H R :=
  ⟨l, xs, i, j, rfl, rfl, hh.get e, hj, k _ (hh.set e)⟩
theorem r_gcons {t : TG} {u : TGs} {R : L2.St → Hp → Prop} (k : t v σ H fun σ' H' => u vs σ' H' R) : gCons t u (v :: vs) σ H R := ⟨v, vs, rfl, k⟩
theorem r_gnil {R : L2.St → Hp → Prop} (k : R σ H) : gNil [] σ H R := ⟨rfl, k⟩
theorem r_sl {rr : V → Option Int → Option Int → Hp → VK → Prop} {tl th : TO} (k : te σ H fun x H1 => tl σ H1 fun l H2 => th σ H2 fun u H3 => rr x l u H3 Q) : tSl rr te tl th σ H Q := k
theorem r_nopart {QO : Option Int → Hp → Prop} (k : QO none H) : tNoPart σ H QO := k
theorem r_part {QO : Option Int → Hp → Prop} (k : te σ H fun x H1 => ∃ i, x = .int i ∧ QO (some i) H1) : tPart te σ H QO := k
theorem r_xi {P : Int → Prop} (k : P i) : ∃ j, V.int i = .int j ∧ P j := ⟨i, rfl, k⟩
end
theorem atI_of {α : Type} {xs : List α} {i : Int} {v : α} (h0 : 0 ≤ i) (h : xs[i.toNat]? = some v) : atI xs i = some v := by
  have hl := (List.getElem?_eq_some_iff.mp h).1
  unfold atI ixN
  rw [if_pos h0, if_pos (by omega)]
  exact h
theorem sz {n : Nat} (h : n ≤ 1000000) : n ≤ sizeLine := Nat.le_trans h (by decide)
theorem szl {n : Nat} (h : n < 1000000) : n < sizeLine := Nat.lt_of_lt_of_le h (by decide)
theorem cmulL {i j : Int} (h : -(2 ^ 64) < i ∧ i < 2 ^ 64) : CMul i j := .inl h
theorem cmulR {i j : Int} (h : -(2 ^ 64) < j ∧ j < 2 ^ 64) : CMul i j := .inr h
end Wm
namespace Wm
open PySem PySem.Spec PyProof.Rows L2 StX
theorem cdiv {i j : Int} (h0 : 0 < j) (h1 : j < 2 ^ 64) : CDivW i j := ⟨h0, by have := PySem.Flt.log2_lt_of (k := 64) (by decide) (show j.natAbs < 2 ^ 64 by omega); omega⟩
/-- an item of a list of ints -/
theorem ints_at {ns : List Int} {i : Nat} {z : Int} (h : ns[i]? = some z) : (ns.map V.int)[i]? = some (V.int z) := by rw [List.getElem?_map, h] <;> rfl
theorem ints_of {ns : List Int} {i : Nat} {y : V} (h : (ns.map V.int)[i]? = some y) : ∃ z, ns[i]? = some z ∧ y = V.int z := by
  rw [List.getElem?_map] at h
  cases e : ns[i]? with
  | none => rw [e] at h; cases h
  | some z => rw [e] at h; exact ⟨z, rfl, (Option.some.inj h).symm⟩
theorem get_some {α : Type} {l : List α} {i : Nat} (h : i < l.length) : ∃ z, l[i]? = some z := ⟨_, List.getElem?_eq_getElem h⟩
end Wm
/-! ## 6. The classes -/
namespace Wm
open PySem PySem.Spec PyProof.Rows L2 StX
/-- what the class Weather must have as the top has made it -/
structure WeatherC (K : PySem.W.Frag) (C : Addr) : Prop where
  cl : Cls K C
  n_pattern : NoAttr K C "pattern"
/-- what the class Heater must have as the top has made it -/
structure HeaterC (K : PySem.W.Frag) (C : Addr) : Prop where
  cl : Cls K C
  n_power : NoAttr K C "power"
  n_below : NoAttr K C "below"
  n_above : NoAttr K C "above"
/-- what the class Room must have as the top has made it -/
structure RoomC (K : PySem.W.Frag) (C : Addr) : Prop where
  cl : Cls K C
  n_outside : NoAttr K C "outside"
  n_inside : NoAttr K C "inside"
  n_begin_degrees : NoAttr K C "begin_degrees"
  n_past : NoAttr K C "past"
  n_repeated : NoAttr K C "repeated"
  n_share : NoAttr K C "share"
  n_coldest : NoAttr K C "coldest"
  n_warmest : NoAttr K C "warmest"
/-- what the class Run must have as the top has made it -/
structure RunC (K : PySem.W.Frag) (C : Addr) : Prop where
  cl : Cls K C
  n_begin : NoAttr K C "begin"
  n_end : NoAttr K C "end"
  n_degrees : NoAttr K C "degrees"
  n_is_heating : NoAttr K C "is_heating"
  n_sums : NoAttr K C "sums"
  n_size : NoAttr K C "size"
  n_drift : NoAttr K C "drift"
/-- what the class History must have as the top has made it -/
structure HistoryC (K : PySem.W.Frag) (C : Addr) : Prop where
  cl : Cls K C
  n_shifts : NoAttr K C "shifts"
  n_added : NoAttr K C "added"
  n_floor : NoAttr K C "floor"
  n_ceiling : NoAttr K C "ceiling"
  n_was_heating : NoAttr K C "was_heating"
  n_runs : NoAttr K C "runs"
  n_loop : NoAttr K C "loop"
/-- what the class ThresholdObserver must have as the top has made it -/
structure ThresholdObserverC (K : PySem.W.Frag) (C : Addr) : Prop where
  cl : Cls K C
  n_outside : NoAttr K C "outside"
  n_power : NoAttr K C "power"
  n_tick : NoAttr K C "tick"
  n_degrees : NoAttr K C "degrees"
  n_is_heating : NoAttr K C "is_heating"
  n_lows : NoAttr K C "lows"
  n_highs : NoAttr K C "highs"
  n_noted : NoAttr K C "noted"
/-- what the class Setting must have as the top has made it -/
structure SettingC (K : PySem.W.Frag) (C : Addr) : Prop where
  cl : Cls K C
  n_least : NoAttr K C "least"
  n_most : NoAttr K C "most"
/-- what the class HourSetting must have as the top has made it -/
structure HourSettingC (K : PySem.W.Frag) (C : Addr) : Prop where
  cl : Cls K C
  n_least : NoAttr K C "least"
  n_most : NoAttr K C "most"
  n_length : NoAttr K C "length"
  n_hours : NoAttr K C "hours"
/-- what the class RestSetting must have as the top has made it -/
structure RestSettingC (K : PySem.W.Frag) (C : Addr) : Prop where
  cl : Cls K C
  n_least : NoAttr K C "least"
  n_most : NoAttr K C "most"
  n_rest : NoAttr K C "rest"
/-- what the class Prices must have as the top has made it -/
structure PricesC (K : PySem.W.Frag) (C : Addr) : Prop where
  cl : Cls K C
  n_table : NoAttr K C "table"
/-- what the class Moment must have as the top has made it -/
structure MomentC (K : PySem.W.Frag) (C : Addr) : Prop where
  cl : Cls K C
  n_tick : NoAttr K C "tick"
  n_heat : NoAttr K C "heat"
  n_on : NoAttr K C "on"
  n_burnt : NoAttr K C "burnt"
  n_sky : NoAttr K C "sky"
  n_stove : NoAttr K C "stove"
/-- what the class LiveRoom must have as the top has made it -/
structure LiveRoomC (K : PySem.W.Frag) (C : Addr) : Prop where
  cl : Cls K C
  n_moment : NoAttr K C "moment"
  n_earlier : NoAttr K C "earlier"
  n_done : NoAttr K C "done"
/-- what the class Attempt must have as the top has made it -/
structure AttemptC (K : PySem.W.Frag) (C : Addr) : Prop where
  cl : Cls K C
  n_live : NoAttr K C "live"
  n_kept : NoAttr K C "kept"
  n_stack : NoAttr K C "stack"
  n_steps : NoAttr K C "steps"
theorem fld_h {K : PySem.W.Frag} {H : Hp} {Q : VK} {C dx p : Addr} {fs : List (Str × V)} {f : Str} {v : V} (e : H p = some (.ins C dx fs)) (c : Cls K C) (n : NoAttr K C f) (l : fs.lookup f = some v) (k : Q v H) : rFld K f (.ref p) H Q := ⟨p, C, dx, fs, v, rfl, e, c, n, l, k⟩
theorem mtd_h {H : Hp} {Q : VK} {C dx p : Addr} {fs : List (Str × V)} {m : Str} {sp : Sp} {E : XK} {t : TA} {σ : L2.St} (e : H p = some (.ins C dx fs)) (l : fs.lookup m = none) (k : t σ H fun vs H2 => sp (.ref p :: vs) H2 Q E) : rMtd C m sp E t σ (.ref p) H Q := ⟨p, dx, fs, rfl, e, l, k⟩
theorem prp_h {H : Hp} {Q : VK} {C dx p : Addr} {fs : List (Str × V)} {sp : Sp} {E : XK} (e : H p = some (.ins C dx fs)) (k : sp [.ref p] H Q E) : rPrp C sp E (.ref p) H Q := ⟨p, dx, fs, rfl, e, k⟩
theorem len_h {K : PySem.W.Frag} {H : Hp} {Q : VK} {p : Addr} {xs : List V} (e : H p = some (.lst xs)) (k : Q (.int (xs.length : Nat)) H) : rLen K [.ref p] H Q := ⟨.ref p, xs.length, rfl, .inl ⟨xs, SqL.of e, rfl⟩, k⟩
theorem len_ht {K : PySem.W.Frag} {H : Hp} {Q : VK} {p : Addr} {xs : List V} (e : H p = some (.tup xs)) (k : Q (.int (xs.length : Nat)) H) : rLen K [.ref p] H Q := ⟨.ref p, xs.length, rfl, .inr ⟨xs, SqT.of e, rfl⟩, k⟩
theorem rix_ht {K : PySem.W.Frag} {H : Hp} {Q : VK} {p : Addr} {xs : List V} {i : Int} {v : V} (e : H p = some (.tup xs)) (ha : atI xs i = some v) (k : Q v H) : rIx K (.ref p) (.int i) H Q := .inr (.inl ⟨p, xs, i, v, rfl, rfl, SqT.of e, ha, k⟩)
theorem gtup_h {K : PySem.W.Frag} {H : Hp} {σ : L2.St} {p : Addr} {xs : List V} {m : Nat} {ts : TGs} {R : L2.St → Hp → Prop} (e : H p = some (.tup xs)) (hl : xs.length = m) (k : ts xs σ H R) : gTup K m ts (.ref p) σ H R := ⟨p, xs, rfl, SqT.of e, hl, k⟩
end Wm
/-! ## 7. Loops -/
namespace Wm
open PySem PySem.Spec PyProof.Rows L2 StX
def TurnsW (J : It) (g : TG) (tb : TS) (D : Ends) (σ : L2.St) (H1 : Hp) : Prop := ∃ W : Nat → Nat → L2.St → Hp → Prop, (∃ m, W 0 m σ H1) ∧ ∀ i m σ H, W i m σ H →
  (J.stop i H ∧ D.nx σ H) ∨ (J.go i H ∧ ∃ N : L2.St → Hp → Prop, (∀ σ' H', N σ' H' → ∃ m', m' < m ∧ W (i + 1) m' σ' H') ∧ ∀ x H', J.yld i H x H' → g x σ H' fun σ2 H2 => tb { D with nx := N, ct := N, bk := D.nx } σ2 H2)
def ForL (K : PySem.W.Frag) (g : TG) (tb : TS) (D : Ends) (σ : L2.St) (x : V) (H1 : Hp) : Prop := ∃ a, x = .ref a ∧ (∃ xs, SqL K H1 a xs) ∧ TurnsW (Itl K a) g tb D σ H1
def ForT (K : PySem.W.Frag) (g : TG) (tb : TS) (D : Ends) (σ : L2.St) (x : V) (H1 : Hp) : Prop := ∃ a, x = .ref a ∧ (∃ xs, SqT K H1 a xs) ∧ TurnsW (Itt K a) g tb D σ H1
def ForR1 (g : TG) (tb : TS) (D : Ends) (σ : L2.St) (vs : List V) (H1 : Hp) : Prop := ∃ j : Int, vs = [.int j] ∧ -(2 ^ 62) ≤ j ∧ j < 2 ^ 62 ∧ TurnsW (Itr 0 j.toNat) g tb D σ H1
def ForR2 (g : TG) (tb : TS) (D : Ends) (σ : L2.St) (vs : List V) (H1 : Hp) : Prop := ∃ i j : Int, vs = [.int i, .int j] ∧ (-(2 ^ 62) ≤ i ∧ i < 2 ^ 62 ∧ -(2 ^ 62) ≤ j ∧ j < 2 ^ 62) ∧ TurnsW (Itr i (j - i).toNat) g tb D σ H1
section
variable {K : PySem.W.Frag} {G H : Hp} {mu : Mu} {σ : L2.St} {D : Ends} {a : Addr} {xs : List V} {tl : TE} {tr : TA} {g : TG} {tb : TS} {c : TT} {i : Nat}
theorem r_forL (k : tl σ H fun x H1 => ForL K g tb D σ x H1) : tFor (iList K tl) g tb D σ H := k
theorem r_forT (k : tl σ H fun x H1 => ForT K g tb D σ x H1) : tFor (iTup K tl) g tb D σ H := k
theorem r_forR1 (k : tr σ H fun vs H1 => ForR1 g tb D σ vs H1) : tFor (iRng1 tr) g tb D σ H := k
/-- over a list: the target is a name -/
theorem forL_by (e : SqL K H a xs) (Pv : Nat → L2.St → Hp → Prop) (h0 : Pv 0 σ H) (hl : ∀ i σ H, i ≤ xs.length → Pv i σ H → SqL K H a xs)
    (hs : ∀ i x σ H, xs[i]? = some x → Pv i σ H → g x σ H fun σ2 H2 => tb { D with nx := Pv (i + 1), ct := Pv (i + 1), bk := D.nx } σ2 H2) (hd : ∀ σ H, Pv xs.length σ H → D.nx σ H) : ForL K g tb D σ (.ref a) H :=
  ⟨a, rfl, ⟨xs, e⟩, for_list Pv h0 hl hs hd⟩
theorem forT_by (e : SqT K H a xs) (Pv : Nat → L2.St → Hp → Prop) (h0 : Pv 0 σ H) (hl : ∀ i σ H, i ≤ xs.length → Pv i σ H → SqT K H a xs)
    (hs : ∀ i x σ H, xs[i]? = some x → Pv i σ H → g x σ H fun σ2 H2 => tb { D with nx := Pv (i + 1), ct := Pv (i + 1), bk := D.nx } σ2 H2) (hd : ∀ σ H, Pv xs.length σ H → D.nx σ H) : ForT K g tb D σ (.ref a) H :=
  ⟨a, rfl, ⟨xs, e⟩, for_tup Pv h0 hl hs hd⟩
theorem forR1_by {n : Int} (hb : n < 2 ^ 62) (hb' : -(2 ^ 62) ≤ n) (Pv : Nat → L2.St → Hp → Prop) (h0 : Pv 0 σ H)
    (hs : ∀ (i : Nat) σ H, (i : Int) < n → Pv i σ H → g (.int (i : Int)) σ H fun σ2 H2 => tb { D with nx := Pv (i + 1), ct := Pv (i + 1), bk := D.nx } σ2 H2) (hd : ∀ σ H, Pv n.toNat σ H → D.nx σ H) : ForR1 g tb D σ [.int n] H :=
  ⟨n, rfl, hb', hb, for_range Pv h0 (fun i σ H hi p => by rw [Int.zero_add]; exact hs i σ H (by omega) p) hd⟩
theorem whileA (W : Nat → L2.St → Hp → Prop) (m0 : Nat) (h0 : W m0 σ H) (hs : ∀ m σ H, W m σ H → ∃ b, Ans c σ H b ∧
    (b = true → tb { D with nx := fun σ' H' => ∃ m', m' < m ∧ W m' σ' H', ct := fun σ' H' => ∃ m', m' < m ∧ W m' σ' H', bk := D.nx } σ H) ∧ (b = false → D.nx σ H)) : tWhile c tb D σ H := by
  refine ⟨W, ⟨m0, h0⟩, fun m σ H w => ?_⟩
  obtain ⟨b, ha, h1, h2⟩ := hs m σ H w
  refine ha _ ?_
  cases b with
  | true => exact r_iteT ⟨_, fun _ _ z => z, h1 rfl⟩
  | false => exact r_iteF (h2 rfl)
/-- comprehensions -/
def LcW (J : It) (g : TG) (tt : TT) (te : TE) (vs : List Nat) (σ : L2.St) (H1 : Hp) (Q : VK) : Prop := ∀ D, H1 D = none → ∃ W : Nat → Nat → Hp → Prop, (∃ m, W 0 m (upd H1 D (.lst []))) ∧ ∀ i m H, W i m H →
  (J.stop i H ∧ Q (.ref D) H) ∨ (J.go i H ∧ ∃ Nx : Hp → Prop, (∀ H', Nx H' → ∃ m', m' < m ∧ W (i + 1) m' H') ∧ ∀ x H', J.yld i H x H' → g x (wipe σ vs) H' fun σ2 H2 => wipe σ2 vs = wipe σ vs ∧ tt σ2 H2 fun b H3 =>
    if b = true then te σ2 H3 fun y H4 => ∃ acc, H4 D = some (.lst acc) ∧ acc.length < sizeLine ∧ Nx (upd H4 D (.lst (acc ++ [y]))) else Nx H3)
def LcL (K : PySem.W.Frag) (g : TG) (tt : TT) (te : TE) (vs : List Nat) (σ : L2.St) (Q : VK) (x : V) (H1 : Hp) : Prop := ∃ a, x = .ref a ∧ (∃ xs, SqL K H1 a xs) ∧ LcW (Itl K a) g tt te vs σ H1 Q
def LcT (K : PySem.W.Frag) (g : TG) (tt : TT) (te : TE) (vs : List Nat) (σ : L2.St) (Q : VK) (x : V) (H1 : Hp) : Prop := ∃ a, x = .ref a ∧ (∃ xs, SqT K H1 a xs) ∧ LcW (Itt K a) g tt te vs σ H1 Q
def LcR1 (g : TG) (tt : TT) (te : TE) (vs : List Nat) (σ : L2.St) (Q : VK) (xs : List V) (H1 : Hp) : Prop := ∃ j : Int, xs = [.int j] ∧ -(2 ^ 62) ≤ j ∧ j < 2 ^ 62 ∧ LcW (Itr 0 j.toNat) g tt te vs σ H1 Q
def LcR2 (g : TG) (tt : TT) (te : TE) (vs : List Nat) (σ : L2.St) (Q : VK) (xs : List V) (H1 : Hp) : Prop := ∃ i j : Int, xs = [.int i, .int j] ∧ (-(2 ^ 62) ≤ i ∧ i < 2 ^ 62 ∧ -(2 ^ 62) ≤ j ∧ j < 2 ^ 62) ∧ LcW (Itr i (j - i).toNat) g tt te vs σ H1 Q
variable {tt : TT} {te : TE} {vs : List Nat} {Q : VK}
theorem r_lcL (k : tl σ H fun x H1 => LcL K g tt te vs σ Q x H1) : tLc (iList K tl) g tt te vs σ H Q := k
theorem r_lcT (k : tl σ H fun x H1 => LcT K g tt te vs σ Q x H1) : tLc (iTup K tl) g tt te vs σ H Q := k
theorem r_lcR1 (k : tr σ H fun xs H1 => LcR1 g tt te vs σ Q xs H1) : tLc (iRng1 tr) g tt te vs σ H Q := k
theorem r_lcR2 (k : tr σ H fun xs H1 => LcR2 g tt te vs σ Q xs H1) : tLc (iRng2 tr) g tt te vs σ H Q := k
/-- the turn's end: the list D has one more item, or as many -/
def LcN (G : Hp) (P : Nat → List V → Hp → Mu → Prop) (i : Nat) (D : Addr) (H4 : Hp) : Prop := ∃ acc G4 mu4, acc.length ≤ i + 1 ∧ Ex G G4 ∧ Hold G4 ((D, .lst acc) :: mu4) H4 ∧ P (i + 1) acc G4 mu4
def LcY (G : Hp) (P : Nat → List V → Hp → Mu → Prop) (i : Nat) (D : Addr) (y : V) (H4 : Hp) : Prop := ∃ acc, H4 D = some (.lst acc) ∧ acc.length < sizeLine ∧ LcN G P i D (upd H4 D (.lst (acc ++ [y])))
theorem lcY {P : Nat → List V → Hp → Mu → Prop} {D : Addr} {y : V} {H4 G4 : Hp} {mu4 : Mu} {acc : List V} (hh : Hold G4 ((D, .lst acc) :: mu4) H4) (ex : Ex G G4) (hl : acc.length ≤ i) (hi : i < 1000000) (p : P (i + 1) (acc ++ [y]) G4 mu4) : LcY G P i D y H4 :=
  ⟨acc, hh.get (i := 0) rfl, szl (by omega), acc ++ [y], G4, mu4, by simp; omega, ex, hh.set (i := 0) rfl, p⟩
theorem lcN {P : Nat → List V → Hp → Mu → Prop} {D : Addr} {H4 G4 : Hp} {mu4 : Mu} {acc : List V} (hh : Hold G4 ((D, .lst acc) :: mu4) H4) (ex : Ex G G4) (hl : acc.length ≤ i) (p : P (i + 1) acc G4 mu4) : LcN G P i D H4 :=
  ⟨acc, G4, mu4, by omega, ex, hh, p⟩
abbrev LcTurn (G : Hp) (P : Nat → List V → Hp → Mu → Prop) (g : TG) (tt : TT) (te : TE) (vs : List Nat) (σ : L2.St) (i : Nat) (x : V) (D : Addr) (H' : Hp) : Prop :=
  g x (wipe σ vs) H' fun σ2 H2 => wipe σ2 vs = wipe σ vs ∧ tt σ2 H2 fun b H3 => if b = true then te σ2 H3 fun y H4 => LcY G P i D y H4 else LcN G P i D H3
theorem lc_go {n : Nat} {J : It} (hh : Hold G mu H) (src : Nat → V → Prop) (P : Nat → List V → Hp → Mu → Prop) (h0 : P 0 [] G mu)
    (hstop : ∀ H', Ex G H' → J.stop n H') (hgo : ∀ i H', i < n → Ex G H' → J.go i H') (hy : ∀ i H' x H'', i < n → Ex G H' → J.yld i H' x H'' → H'' = H' ∧ src i x)
    (hs : ∀ i x D acc G' mu' H', i < n → src i x → acc.length ≤ i → Ex G G' → Hold G' ((D, .lst acc) :: mu') H' → P i acc G' mu' → LcTurn G P g tt te vs σ i x D H')
    (hd : ∀ D acc G' mu' H', acc.length ≤ n → Ex G G' → Hold G' ((D, .lst acc) :: mu') H' → P n acc G' mu' → Q (.ref D) H') : LcW J g tt te vs σ H Q := by
  intro D hD
  refine ⟨fun i m H' => m = n - i ∧ i ≤ n ∧ ∃ acc G' mu', acc.length ≤ i ∧ Ex G G' ∧ Hold G' ((D, .lst acc) :: mu') H' ∧ P i acc G' mu', ⟨n, by simp, Nat.zero_le _, [], G, mu, Nat.le_refl _, Ex.refl G, hh.newm hD, h0⟩, ?_⟩
  rintro i m H' ⟨rfl, hi, acc, G', mu', hl, ex, hh', p⟩
  by_cases hlt : i < n
  · refine .inr ⟨hgo i H' hlt (ex.trans hh'.ex), LcN G P i D, fun H4 h4 => ⟨n - (i + 1), by omega, rfl, hlt, h4⟩, fun x H2 y => ?_⟩
    obtain ⟨e, hx⟩ := hy i H' x H2 hlt (ex.trans hh'.ex) y
    subst e
    exact hs i x D acc G' mu' _ hlt hx hl ex hh' p
  · have e : i = n := by omega
    subst e
    exact .inl ⟨hstop H' (ex.trans hh'.ex), hd D acc G' mu' H' hl ex hh' p⟩
theorem lcR1_by {n : Int} (hh : Hold G mu H) (hb : n < 2 ^ 62) (hb' : -(2 ^ 62) ≤ n) (P : Nat → List V → Hp → Mu → Prop) (h0 : P 0 [] G mu)
    (hs : ∀ (i : Nat) D acc G' mu' H', (i : Int) < n → acc.length ≤ i → Ex G G' → Hold G' ((D, .lst acc) :: mu') H' → P i acc G' mu' → LcTurn G P g tt te vs σ i (.int (i : Int)) D H')
    (hd : ∀ D acc G' mu' H', acc.length ≤ n.toNat → Ex G G' → Hold G' ((D, .lst acc) :: mu') H' → P n.toNat acc G' mu' → Q (.ref D) H') : LcR1 g tt te vs σ Q [.int n] H :=
  ⟨n, rfl, hb', hb, lc_go hh (fun i x => x = .int (i : Int)) P h0 (fun _ _ => Nat.le_refl _) (fun i H' hi _ => hi) (fun i H' x H'' _ _ y => ⟨y.1, by have := y.2; rw [Int.zero_add] at this; exact this⟩)
    (fun i x D acc G' mu' H' hi e hl ex h p => by subst e; exact hs i D acc G' mu' H' (by omega) hl ex h p) hd⟩
theorem lcL_by (hh : Hold G mu H) (e : SqL K G a xs) (P : Nat → List V → Hp → Mu → Prop) (h0 : P 0 [] G mu)
    (hs : ∀ i x D acc G' mu' H', xs[i]? = some x → acc.length ≤ i → Ex G G' → Hold G' ((D, .lst acc) :: mu') H' → P i acc G' mu' → LcTurn G P g tt te vs σ i x D H')
    (hd : ∀ D acc G' mu' H', acc.length ≤ xs.length → Ex G G' → Hold G' ((D, .lst acc) :: mu') H' → P xs.length acc G' mu' → Q (.ref D) H') : LcL K g tt te vs σ Q (.ref a) H :=
  ⟨a, rfl, ⟨xs, hh.lst e⟩, lc_go hh (fun i x => xs[i]? = some x) P h0 (fun H' ex => ⟨xs, e.up ex, Nat.le_refl _⟩) (fun i H' hi ex => ⟨xs, xs[i], e.up ex, by simp [hi]⟩) (fun i H' x H'' _ ex y => ⟨y.1, y.2 xs (e.up ex)⟩)
    (fun i x D acc G' mu' H' hi e2 hl ex h p => hs i x D acc G' mu' H' e2 hl ex h p) hd⟩
theorem lcT_by (hh : Hold G mu H) (e : SqT K G a xs) (P : Nat → List V → Hp → Mu → Prop) (h0 : P 0 [] G mu)
    (hs : ∀ i x D acc G' mu' H', xs[i]? = some x → acc.length ≤ i → Ex G G' → Hold G' ((D, .lst acc) :: mu') H' → P i acc G' mu' → LcTurn G P g tt te vs σ i x D H')
    (hd : ∀ D acc G' mu' H', acc.length ≤ xs.length → Ex G G' → Hold G' ((D, .lst acc) :: mu') H' → P xs.length acc G' mu' → Q (.ref D) H') : LcT K g tt te vs σ Q (.ref a) H :=
  ⟨a, rfl, ⟨xs, hh.tup e⟩, lc_go hh (fun i x => xs[i]? = some x) P h0 (fun H' ex => ⟨xs, e.up ex, Nat.le_refl _⟩) (fun i H' hi ex => ⟨xs, xs[i], e.up ex, by simp [hi]⟩) (fun i H' x H'' _ ex y => ⟨y.1, y.2 xs (e.up ex)⟩)
    (fun i x D acc G' mu' H' hi e2 hl ex h p => hs i x D acc G' mu' H' e2 hl ex h p) hd⟩
end
end Wm
namespace Wm
open PySem PySem.Spec PyProof.Rows L2 StX
theorem r_ty {K : PySem.W.Frag} {H : Hp} {p : Addr} {xs : List V} {R : Prop} (e : H p = some (.lst xs)) (k : R) : tyV K "list" (.ref p) H ∧ R := ⟨.inl ⟨rfl, xs, SqL.of e⟩, k⟩
theorem last_at {α : Type} {l : List α} {x : α} (h : l[l.length - 1]? = some x) : atI l (-1) = some x := by
  have hl := (List.getElem?_eq_some_iff.mp h).1
  unfold atI ixN
  rw [if_neg (by decide), if_pos (by omega)]
  show l[(-1 + (l.length : Int)).toNat]? = some x
  rw [show (-1 + (l.length : Int)).toNat = l.length - 1 by omega]
  exact h
theorem take_one {α : Type} {l : List α} {i : Nat} {x : α} (h : l[i]? = some x) : l.take (i + 1) = l.take i ++ [x] := by
  rw [List.take_add_one, h] <;> rfl
end Wm
/-! ## 8. Data compared -/
namespace Wm
open PySem PySem.Spec PyProof.Rows L2 StX
section
variable {K : PySem.W.Frag} {H : Hp} {Q : VK} {p q : Addr} {xs ys : List Int}
theorem dpAll_ints (xs : List Int) : DpAll K H (xs.map V.int) (xs.map PyData.int) := by
  induction xs with
  | nil => exact .nil
  | cons x r ih => exact .cons (.int x) ih
theorem canLay_ints (xs : List Int) : PyData.canLayAll0 (xs.map PyData.int) = true := by
  induction xs with
  | nil => rfl
  | cons x r ih =>
    simp only [List.map_cons, PyData.canLayAll0, PyData.canLay0, Bool.true_and]
    exact ih
theorem depth_ints (xs : List Int) : PyData.depthAll (xs.map PyData.int) = 0 := by
  induction xs with
  | nil => rfl
  | cons x r ih =>
    simp only [List.map_cons, PyData.depthAll, PyData.depth, ih]
    rfl
theorem eqv_ints : ∀ xs ys : List Int, PyData.eqvAll (xs.map PyData.int) (ys.map PyData.int) = decide (xs = ys)
  | [], [] => rfl
  | x :: xs, [] => by simp [PyData.eqvAll]
  | [], y :: ys => by simp [PyData.eqvAll]
  | x :: xs, y :: ys => by
    simp only [List.map_cons, PyData.eqvAll, PyData.eqv, eqv_ints xs ys]
    by_cases h : x = y
    · subst h; simp
    · simp [h]
theorem shaped_lst {ds : List PyData} (h : PyData.canLayAll0 ds = true) (hd : PyData.depthAll ds ≤ 60) : SeqAt.shaped (.list ds) = true := by
  unfold SeqAt.shaped
  rw [Bool.and_eq_true]
  refine ⟨by simpa [PyData.canLay0] using h, decide_eq_true (by simp only [PyData.depth]; omega)⟩
theorem shaped_tup {ds : List PyData} (h : PyData.canLayAll0 ds = true) (hd : PyData.depthAll ds ≤ 60) : SeqAt.shaped (.tuple ds) = true := by
  unfold SeqAt.shaped
  rw [Bool.and_eq_true]
  refine ⟨by simpa [PyData.canLay0] using h, decide_eq_true (by simp only [PyData.depth]; omega)⟩
theorem neI (h1 : SqL K H p (xs.map V.int)) (h2 : SqL K H q (ys.map V.int)) (k : Q (.bl (!decide (xs = ys))) H) : rNeD K (.ref p) (.ref q) H Q :=
  ⟨_, _, .lst h1 (dpAll_ints xs), .lst h2 (dpAll_ints ys), shaped_lst (canLay_ints xs) (by rw [depth_ints]; decide), shaped_lst (canLay_ints ys) (by rw [depth_ints]; decide), by simp only [PyData.eqv, eqv_ints]; exact k⟩
theorem neT (h1 : SqT K H p (xs.map V.int)) (h2 : SqT K H q (ys.map V.int)) (k : Q (.bl (!decide (xs = ys))) H) : rNeD K (.ref p) (.ref q) H Q :=
  ⟨_, _, .tup h1 (dpAll_ints xs), .tup h2 (dpAll_ints ys), shaped_tup (canLay_ints xs) (by rw [depth_ints]; decide), shaped_tup (canLay_ints ys) (by rw [depth_ints]; decide), by simp only [PyData.eqv, eqv_ints]; exact k⟩
theorem eqT (h1 : SqT K H p (xs.map V.int)) (h2 : SqT K H q (ys.map V.int)) (k : Q (.bl (decide (xs = ys))) H) : rEqD K (.ref p) (.ref q) H Q :=
  ⟨_, _, .tup h1 (dpAll_ints xs), .tup h2 (dpAll_ints ys), shaped_tup (canLay_ints xs) (by rw [depth_ints]; decide), shaped_tup (canLay_ints ys) (by rw [depth_ints]; decide), by simp only [PyData.eqv, eqv_ints]; exact k⟩
theorem min_by (h : SqL K H p (xs.map V.int)) (hne : 0 < xs.length) (k : ∀ m, m ∈ xs → (∀ y, y ∈ xs → m ≤ y) → Q (.int m) H) : rMin K [.ref p] H Q := ⟨p, xs, rfl, h, hne, k⟩
theorem sum_by (h : SqL K H p (xs.map V.int)) (k : Q (.int xs.sum) H) : rSum K [.ref p] H Q := ⟨p, xs, rfl, h, k⟩
theorem isN {x : V} (k : Q (.bl (decide (x = .non))) H) : rIsN x .non H Q := ⟨rfl, k⟩
theorem notN {x : V} (k : Q (.bl (!decide (x = .non))) H) : rNotN x .non H Q := ⟨rfl, k⟩
end
end Wm
namespace Wm
open PySem PySem.Spec PyProof.Rows L2 StX
theorem Hold.start (H : Hp) : Hold H [] H := ⟨Ex.refl H, (fun _ h => by cases h), (fun _ h => by cases h), List.nodup_nil⟩
end Wm
namespace Wm
open PySem PySem.Spec PyProof.Rows L2 StX
section
variable {K : PySem.W.Frag} {G H : Hp} {mu : Mu} {Q : VK} {xs : List V}
/-- a new object, told only by where it stands: it was not there ahead -/
theorem tup_n (hP : xs.length ≤ sizeLine) (hh : Hold G mu H) (k : ∀ p H', G p = none → H' p = some (.tup xs) → Hold G mu H' → Q (.ref p) H') : rTup xs H Q :=
  ⟨hP, fun p hp => k p _ (hh.g_none hp) upd_same (hh.newg hp)⟩
end
end Wm
end

section
/-! ## A dict from triples (int, int, bool) to their numbers in the order of coming -/
namespace Wm
open PySem PySem.Spec PyProof.Rows L2
abbrev K3 := Int × Int × Bool
def lf (k : K3) : List Leaf := [.num k.1, .num k.2.1, .num (if k.2.2 = true then 1 else 0)]
def tv3 (k : K3) : List V := [.int k.1, .int k.2.1, .bl k.2.2]
theorem lf_inj {a b : K3} (h : lf a = lf b) : a = b := by
  obtain ⟨a1, a2, a3⟩ := a
  obtain ⟨b1, b2, b3⟩ := b
  simp only [lf, List.cons.injEq, Leaf.num.injEq, and_true] at h
  obtain ⟨h1, h2, h3⟩ := h
  subst h1 h2
  cases a3 <;> cases b3 <;> first | rfl | simp at h3
/-- the entry of number i -/
def SeenE (i : Nat) (k : K3 × Addr) (x : List Leaf × Addr × Value) : Prop := x.1 = lf k.1 ∧ x.2.1 = k.2 ∧ ∃ t, x.2.2 = .int (i : Int) t
structure SeenX (ks : List (K3 × Addr)) (xs : List (List Leaf × Addr × Value)) : Prop where
  len : xs.length = ks.length
  at_ : ∀ i k x, ks[i]? = some k → xs[i]? = some x → SeenE i k x
def SeenAt (P : Program) (w : World) (a : Addr) (ks : List (K3 × Addr)) (h : Heap) : Prop :=
  (a == sysModules) = false ∧ ∃ xs, SeenX ks xs ∧ ∃ o es ep, h.get? a = some o ∧ o.ExactDict ∧ o.data = .dict es ep ∧ es.toList = xs.map (entryOfKey (tupleKind (leafKind P w))) ∧ (xs.map (·.1)).Nodup
def SeenO (P : Program) (w : World) (a : Addr) (ks : List (K3 × Addr)) : HO := .ext (SeenAt P w a ks)
theorem seen_ok {P : Program} {w : World} {H : Hp} {h : Heap} {a : Addr} {ks : List (K3 × Addr)} (s : SeenAt P w a ks h) : ObjOk P w H h a (SeenO P w a ks) := by
  obtain ⟨hd, xs, hx, o, es, ep, ho, r⟩ := id s
  refine ⟨s, ⟨o, ho⟩, fun h1 h2 q st => ?_⟩
  obtain ⟨hd', xs', hx', o', es', ep', ho', r'⟩ := q
  exact ⟨hd', xs', hx', o', es', ep', st _ ho', r'⟩
section
variable {X : Cx} {pins : List (Addr × Obj)} {σ : L2.St} {H : Hp} {s : Shared} {a t : Addr} {ks : List (K3 × Addr)} {k : K3}
theorem seen_key (I : Inv X pins σ H s) (e : H t = some (.tup (tv3 k))) : (tupleKind (leafKind X.prog X.w)).is s.heap (lf k) t := by
  obtain ⟨_, its, r, o, h1, h2, n, h3⟩ := (show ObjOk X.prog X.w H s.heap t (.tup (tv3 k)) from I.hok t _ e)
  refine ⟨o, its.toArray, n, h1, h2, h3, ?_⟩
  obtain ⟨k1, k2, k3⟩ := k
  cases r with
  | cons r1 r =>
    cases r with
    | cons r2 r =>
      cases r with
      | cons r3 r =>
        cases r
        obtain ⟨t1, rfl⟩ := r1
        obtain ⟨t2, rfl⟩ := r2
        cases r3
        refine .cons ?_ (.cons ?_ (.cons ?_ .nil))
        · show Leaf.isOf (.num k1) (.int k1 t1) = true
          simp [Leaf.isOf]
        · show Leaf.isOf (.num k2) (.int k2 t2) = true
          simp [Leaf.isOf]
        · show Leaf.isOf (.num (if k3 = true then 1 else 0)) (.bool k3) = true
          cases k3 <;> simp [Leaf.isOf]
theorem seen_rd (I : Inv X pins σ H s) (e : H a = some (SeenO X.prog X.w a ks)) (et : ∀ q ∈ ks, H q.2 = some (.tup (tv3 q.1))) :
    (a == sysModules) = false ∧ ∃ xs, SeenX ks xs ∧ s.heap.DictOfH (tupleKind (leafKind X.prog X.w)) a xs := by
  obtain ⟨⟨hd, xs, hx, o, es, ep, ho, h1, h2, h3, h4⟩, _⟩ := (show ObjOk X.prog X.w H s.heap a (SeenO X.prog X.w a ks) from I.hok a _ e)
  refine ⟨hd, xs, hx, o, es, ep, ho, h1, h2, h3, fun x hm => ?_, h4⟩
  obtain ⟨i, hi⟩ := List.mem_iff_getElem?.mp hm
  have hl : i < ks.length := by rw [← hx.len]; exact (List.getElem?_eq_some_iff.mp hi).1
  obtain ⟨q, hq⟩ := get_some hl
  obtain ⟨e1, e2, _⟩ := hx.at_ i q x hq hi
  rw [e1, e2]
  exact seen_key I (et q (List.mem_of_getElem? hq))
theorem find_of {xs : List (List Leaf × Addr × Value)} (nd : (xs.map (·.1)).Nodup) {i : Nat} {x : List Leaf × Addr × Value} (h : xs[i]? = some x) : atKey xs x.1 = some x.2 := by
  unfold atKey
  have : xs.find? (fun y => decide (y.1 = x.1)) = some x := by
    cases e : xs.find? (fun y => decide (y.1 = x.1)) with
    | none =>
      have := List.find?_eq_none.mp e x (List.mem_of_getElem? h)
      simp at this
    | some y =>
      have h1 := List.find?_some e
      have h2 := List.mem_of_find?_eq_some e
      obtain ⟨j, hj⟩ := List.mem_iff_getElem?.mp h2
      have ee : y.1 = x.1 := by simpa using h1
      have : j = i := by
        have a1 : (xs.map (·.1))[j]? = some x.1 := by rw [List.getElem?_map, hj] <;> simp [ee]
        have a2 : (xs.map (·.1))[i]? = some x.1 := by rw [List.getElem?_map, h] <;> rfl
        obtain ⟨l1, e1⟩ := List.getElem?_eq_some_iff.mp a1
        obtain ⟨l2, e2⟩ := List.getElem?_eq_some_iff.mp a2
        exact (List.getElem_inj nd).mp (e1.trans e2.symm)
      subst this
      rw [hj] at h
      exact h
  rw [this] <;> rfl
theorem seen_at {xs : List (List Leaf × Addr × Value)} (hx : SeenX ks xs) (nd : (xs.map (·.1)).Nodup) {i : Nat} {q : Addr} (h : ks[i]? = some (k, q)) : ∃ tk, atKey xs (lf k) = some (q, .int (i : Int) tk) := by
  have hl : i < xs.length := by rw [hx.len]; exact (List.getElem?_eq_some_iff.mp h).1
  obtain ⟨x, hxi⟩ := get_some hl
  obtain ⟨e1, e2, tk, e3⟩ := hx.at_ i _ x h hxi
  refine ⟨tk, ?_⟩
  rw [show lf k = x.1 from e1.symm, find_of nd hxi]
  obtain ⟨x1, x2, x3⟩ := x
  simp only at e2 e3
  rw [e2, e3]
theorem seen_no {xs : List (List Leaf × Addr × Value)} (hx : SeenX ks xs) (h : k ∉ ks.map (·.1)) : atKey xs (lf k) = none := by
  unfold atKey
  rw [List.find?_eq_none.mpr (fun x hm => ?_)]
  · rfl
  · obtain ⟨i, hi⟩ := List.mem_iff_getElem?.mp hm
    have hl : i < ks.length := by rw [← hx.len]; exact (List.getElem?_eq_some_iff.mp hi).1
    obtain ⟨q, hq⟩ := get_some hl
    obtain ⟨e1, _⟩ := hx.at_ i q x hq hi
    rw [e1]
    simp only [decide_eq_true_eq]
    intro z
    have := lf_inj z
    exact h (this ▸ List.mem_map_of_mem (List.mem_of_getElem? hq))
/-- {} -/
def tSeenNew (P : Program) (w : World) : TE := fun _ H Q => ∀ p, H p = none → Q (.ref p) (upd H p (SeenO P w p []))
theorem pe_seenNew {pos : Pos} : PE X (.Dict [] [] pos) (tSeenNew X.prog X.w) := ⟨fun pins s σ H Q I h =>
  wpAny_Dict_empty ⟨.ref s.heap.objs.size, _, I.laid (a := s.heap.objs.size) (o := SeenO X.prog X.w s.heap.objs.size []) (t' := s.toks) (fun _ _ q => Heap.get?_push_of_some _ q) (Nat.le_refl _)
    (seen_ok ⟨beq_eq_false_iff_ne.mpr (Ne.symm (Nat.ne_of_lt I.big)), [], ⟨rfl, fun i k x h => by simp at h⟩, _, #[], 0, Heap.get?_push_size _ rfl, ⟨rfl, rfl, rfl⟩, rfl, rfl, List.nodup_nil⟩), rfl, h _ (I.hok.fresh (Nat.le_refl _))⟩⟩
/-- key in seen -/
def rSeenIn (P : Program) (w : World) : R2 := fun x y H Q => ∃ (a t : Addr) (ks : List (K3 × Addr)) (k : K3), x = .ref t ∧ y = .ref a ∧ H a = some (SeenO P w a ks) ∧ H t = some (.tup (tv3 k)) ∧ (∀ q ∈ ks, H q.2 = some (.tup (tv3 q.1))) ∧ Q (.bl (decide (k ∈ ks.map (·.1)))) H
theorem op_seenIn (hu : X.A.units + 1 < cLine) : OpR X (compareOp .In) (rSeenIn X.prog X.w) := by
  intro pins s σ H x y v u Q I rx ry h
  obtain ⟨a, t, ks, k, rfl, rfl, ea, ek, et, q⟩ := h
  cases rx
  cases ry
  obtain ⟨hd, xs, hx, dd⟩ := seen_rd I ea et
  refine wpAny_in_heap (tupleKind_room_in1 hu) (seen_key I ek) hd dd ?_
  have e : (atKey xs (lf k)).isSome = decide (k ∈ ks.map (·.1)) := by
    by_cases hm : k ∈ ks.map (·.1)
    · obtain ⟨⟨k', qa⟩, hq, rfl⟩ := List.mem_map.mp hm
      obtain ⟨i, hi⟩ := List.mem_iff_getElem?.mp hq
      obtain ⟨_, _, _, _, _, _, _, _, nd⟩ := id dd
      obtain ⟨tk, e⟩ := seen_at hx nd hi
      rw [e, decide_eq_true hm] <;> rfl
    · rw [seen_no hx hm, decide_eq_false hm] <;> rfl
  rw [e]
  exact ⟨.bl _, H, I.tok _, rfl, q⟩
/-- seen[key], there -/
def rSeenGet (P : Program) (w : World) : R2 := fun x y H Q => ∃ (a t : Addr) (ks : List (K3 × Addr)) (k : K3) (i : Nat) (q : Addr), x = .ref a ∧ y = .ref t ∧ H a = some (SeenO P w a ks) ∧ H t = some (.tup (tv3 k)) ∧ (∀ q ∈ ks, H q.2 = some (.tup (tv3 q.1))) ∧ ks[i]? = some (k, q) ∧ Q (.int (i : Int)) H
def tSeenGet (P : Program) (w : World) (td ty : TE) : TE := fun σ H Q => td σ H fun x H1 => ty σ H1 fun y H2 => rSeenGet P w x y H2 Q
theorem pe_seenGet {o i : Expr} {td ty : TE} {pos : Pos} (hu : X.A.units + 1 < cLine) (ho : PE X o td) (hi : PE X i ty) (hs : NoSl i := by exact fun _ _ => rfl) : PE X (.Subscript o i pos) (tSeenGet X.prog X.w td ty) := by
  refine ⟨fun pins s σ H Q I h => ?_⟩
  refine subD_of PySem.F.slot_dict_getitem.lookup hs (thn (ho.run pins s σ H _ I h) fun u s1 ⟨x, H1, I1, rx, q1⟩ => thn (hi.run pins s1 σ H1 _ I1 q1) fun iv s2 ⟨y, H2, I2, ry, a, t, ks, k, i, qa, ex, ey, ea, ek, et, hk, q2⟩ => ?_)
  subst ex ey
  obtain rfl : u = Value.ref a := rx
  obtain rfl : iv = Value.ref t := ry
  obtain ⟨hd, xs, hx, dd⟩ := seen_rd I2 ea et
  obtain ⟨_, _, _, _, _, _, _, _, nd⟩ := id dd
  obtain ⟨tk, e⟩ := seen_at hx nd hk
  exact ⟨dd.typeIs, wpAny_getItem_heap (tupleKind_room_in1 hu) (seen_key I2 ek) dd e ⟨.int (i : Int), H2, I2.tok _, ⟨tk, rfl⟩, q2⟩⟩
/-- seen[key] = its number, new -/
def sSeenPut (P : Program) (w : World) (td ty tv : TE) : TS := fun D σ H => tv σ H fun z H1 => td σ H1 fun x H2 => ty σ H2 fun y H3 => ∃ (a t : Addr) (ks : List (K3 × Addr)) (k : K3), z = .int (ks.length : Int) ∧ x = .ref a ∧ y = .ref t ∧ H3 a = some (SeenO P w a ks) ∧ H3 t = some (.tup (tv3 k)) ∧
  (∀ q ∈ ks, H3 q.2 = some (.tup (tv3 q.1))) ∧ k ∉ ks.map (·.1) ∧ ks.length < sizeLine ∧ D.nx σ (upd H3 a (SeenO P w a (ks ++ [(k, t)])))
theorem ps_seenPut {o i value : Expr} {td ty tv : TE} {pos pos' : Pos} (hu : X.A.units + 1 < cLine) (ho : PE X o td) (hi : PE X i ty) (hv : PE X value tv) (hs : swapsWith value (some (.Subscript o i pos')) pos.line X.env = pure false) :
    PS X (.Assign [.Subscript o i pos'] value pos) (sSeenPut X.prog X.w td ty tv) := by
  refine ⟨fun pins s σ H D I h => ?_⟩
  refine wpAny_Assign_Subscript (thn (hv.run pins s σ H _ I h) fun r s1 ⟨v, H1, I1, rv, q1⟩ => thn (ho.run pins s1 σ H1 _ I1 q1) fun u s2 ⟨x, H2, I2, rx, q2⟩ => thn (hi.run pins s2 σ H2 _ I2 q2) fun iv s3 ⟨y, H3, I3, ry, a, t, ks, k, ez, ex, ey, ea, ek, et, hk, hl, q3⟩ => ?_) hs
  subst ex ey ez
  obtain rfl : u = Value.ref a := rx
  obtain rfl : iv = Value.ref t := ry
  obtain ⟨tk, rfl⟩ := rv
  obtain ⟨hd, xs, hx, dd⟩ := seen_rd I3 ea et
  have hz : xs.length ≤ sizeLine := by rw [hx.len]; exact Nat.le_of_lt hl
  refine wpAny_setItem_heap (hsz := hz) (tupleKind_room_in1 hu) (seen_key I3 ek) dd fun h' dd' hsb => ⟨σ, _, ?_, q3⟩
  rw [storedH_new (seen_no hx hk)] at dd'
  obtain ⟨qo, es, ep, hq, h2, h3, h4, _, h5⟩ := dd'
  refine d_write I3 (by rw [ea]; exact True.intro) hsb ⟨qo, hq⟩ (seen_ok ⟨hd, _, ⟨by simp [hx.len], fun j kk x hj hxj => ?_⟩, qo, es, ep, hq, h2, h3, h4, h5⟩)
  by_cases hlt : j < ks.length
  · rw [List.getElem?_append_left hlt] at hj
    rw [List.getElem?_append_left (by rw [hx.len]; exact hlt)] at hxj
    exact hx.at_ j kk x hj hxj
  · have hj2 := (List.getElem?_eq_some_iff.mp hj).1
    have e : j = ks.length := by simp at hj2; omega
    subst e
    rw [List.getElem?_append_right (Nat.le_refl _)] at hj
    rw [List.getElem?_append_right (by rw [hx.len]; exact Nat.le_refl _)] at hxj
    simp at hj
    simp [hx.len] at hxj
    subst hj hxj
    exact ⟨rfl, rfl, tk, rfl⟩
end
end Wm
end

section
local macro_rules | `(tactic| walk_at "WRuncls") => `(tactic| first | (with_reducible exact Wm.WeatherC.cl (by assumption)) | (with_reducible exact Wm.HeaterC.cl (by assumption)) | (with_reducible exact Wm.RoomC.cl (by assumption)) | (with_reducible exact Wm.RunC.cl (by assumption)) | (with_reducible exact Wm.HistoryC.cl (by assumption)) | (with_reducible exact Wm.ThresholdObserverC.cl (by assumption)) | (with_reducible exact Wm.SettingC.cl (by assumption)) | (with_reducible exact Wm.HourSettingC.cl (by assumption)) | (with_reducible exact Wm.RestSettingC.cl (by assumption)) | (with_reducible exact Wm.PricesC.cl (by assumption)) | (with_reducible exact Wm.MomentC.cl (by assumption)) | (with_reducible exact Wm.LiveRoomC.cl (by assumption)) | (with_reducible exact Wm.AttemptC.cl (by assumption)))
local macro_rules | `(tactic| walk_at "WRunnoattr") => `(tactic| first | (with_reducible exact Wm.WeatherC.n_pattern (by assumption)) | (with_reducible exact Wm.HeaterC.n_power (by assumption)) | (with_reducible exact Wm.HeaterC.n_below (by assumption)) | (with_reducible exact Wm.HeaterC.n_above (by assumption)) | (with_reducible exact Wm.RoomC.n_outside (by assumption)) | (with_reducible exact Wm.RoomC.n_inside (by assumption)) | (with_reducible exact Wm.RoomC.n_begin_degrees (by assumption)) | (with_reducible exact Wm.RoomC.n_past (by assumption)) | (with_reducible exact Wm.RoomC.n_repeated (by assumption)) | (with_reducible exact Wm.RoomC.n_share (by assumption)) | (with_reducible exact Wm.RoomC.n_coldest (by assumption)) | (with_reducible exact Wm.RoomC.n_warmest (by assumption)) | (with_reducible exact Wm.RunC.n_begin (by assumption)) | (with_reducible exact Wm.RunC.n_end (by assumption)) | (with_reducible exact Wm.RunC.n_degrees (by assumption)) | (with_reducible exact Wm.RunC.n_is_heating (by assumption)) | (with_reducible exact Wm.RunC.n_sums (by assumption)) | (with_reducible exact Wm.RunC.n_size (by assumption)) | (with_reducible exact Wm.RunC.n_drift (by assumption)) | (with_reducible exact Wm.HistoryC.n_shifts (by assumption)) | (with_reducible exact Wm.HistoryC.n_added (by assumption)) | (with_reducible exact Wm.HistoryC.n_floor (by assumption)) | (with_reducible exact Wm.HistoryC.n_ceiling (by assumption)) | (with_reducible exact Wm.HistoryC.n_was_heating (by assumption)) | (with_reducible exact Wm.HistoryC.n_runs (by assumption)) | (with_reducible exact Wm.HistoryC.n_loop (by assumption)) | (with_reducible exact Wm.ThresholdObserverC.n_outside (by assumption)) | (with_reducible exact Wm.ThresholdObserverC.n_power (by assumption)) | (with_reducible exact Wm.ThresholdObserverC.n_tick (by assumption)) | (with_reducible exact Wm.ThresholdObserverC.n_degrees (by assumption)) | (with_reducible exact Wm.ThresholdObserverC.n_is_heating (by assumption)) | (with_reducible exact Wm.ThresholdObserverC.n_lows (by assumption)) | (with_reducible exact Wm.ThresholdObserverC.n_highs (by assumption)) | (with_reducible exact Wm.ThresholdObserverC.n_noted (by assumption)) | (with_reducible exact Wm.SettingC.n_least (by assumption)) | (with_reducible exact Wm.SettingC.n_most (by assumption)) | (with_reducible exact Wm.HourSettingC.n_least (by assumption)) | (with_reducible exact Wm.HourSettingC.n_most (by assumption)) | (with_reducible exact Wm.HourSettingC.n_length (by assumption)) | (with_reducible exact Wm.HourSettingC.n_hours (by assumption)) | (with_reducible exact Wm.RestSettingC.n_least (by assumption)) | (with_reducible exact Wm.RestSettingC.n_most (by assumption)) | (with_reducible exact Wm.RestSettingC.n_rest (by assumption)) | (with_reducible exact Wm.PricesC.n_table (by assumption)) | (with_reducible exact Wm.MomentC.n_tick (by assumption)) | (with_reducible exact Wm.MomentC.n_heat (by assumption)) | (with_reducible exact Wm.MomentC.n_on (by assumption)) | (with_reducible exact Wm.MomentC.n_burnt (by assumption)) | (with_reducible exact Wm.MomentC.n_sky (by assumption)) | (with_reducible exact Wm.MomentC.n_stove (by assumption)) | (with_reducible exact Wm.LiveRoomC.n_moment (by assumption)) | (with_reducible exact Wm.LiveRoomC.n_earlier (by assumption)) | (with_reducible exact Wm.LiveRoomC.n_done (by assumption)) | (with_reducible exact Wm.AttemptC.n_live (by assumption)) | (with_reducible exact Wm.AttemptC.n_kept (by assumption)) | (with_reducible exact Wm.AttemptC.n_stack (by assumption)) | (with_reducible exact Wm.AttemptC.n_steps (by assumption)))
local macro_rules | `(tactic| walk_at "WRunat") => `(tactic| first | assumption | exact Wm.Hold.rd (by assumption) (by assumption) | exact Wm.Hold.get (i := 0) (by assumption) rfl | exact Wm.Hold.get (i := 1) (by assumption) rfl | exact Wm.Hold.get (i := 2) (by assumption) rfl | exact Wm.Hold.get (i := 3) (by assumption) rfl | exact Wm.Hold.get (i := 4) (by assumption) rfl)
local macro_rules | `(tactic| walk_at "WRuns1") => `(tactic| (with_reducible refine Wm.r_I (by show (0 : Int) < _; decide) ?_))
local macro_rules | `(tactic| walk_at "WRuns1") => `(tactic| (with_reducible refine Wm.r_I Wm.cpow12 ?_))
local macro_rules | `(tactic| walk_at "WRuns1") => `(tactic| (with_reducible refine Wm.r_I Wm.cpow18 ?_))
local macro_rules | `(tactic| walk_at "WRuns1") => `(tactic| (with_reducible refine Wm.r_I (Wm.cdiv (by decide) (by decide)) ?_))
local macro_rules | `(tactic| walk_at "WRuns1") => `(tactic| (with_reducible refine Wm.r_I (Wm.cmulL (by decide)) ?_))
local macro_rules | `(tactic| walk_at "WRuns1") => `(tactic| (with_reducible refine Wm.r_I (Wm.cmulR (by decide)) ?_))
local macro_rules | `(tactic| walk_at "WRuns1") => `(tactic| ((with_reducible refine' Wm.gtup_h ?a ?b ?_); (case a => walk_at "WRunat"); (case b => rfl)))
local macro_rules | `(tactic| walk_at "WRuns1") => `(tactic| ((with_reducible refine' Wm.len_t ?a ?b ?_); (case a => assumption); (case b => assumption)))
local macro_rules | `(tactic| walk_at "WRuns1") => `(tactic| ((with_reducible refine' Wm.len_l ?a ?b ?_); (case a => assumption); (case b => assumption)))
local macro_rules | `(tactic| walk_at "WRuns1") => `(tactic| ((with_reducible refine' Wm.len_h ?a ?_); (case a => walk_at "WRunat")))
local macro_rules | `(tactic| walk_at "WRuns1") => `(tactic| ((with_reducible refine' Wm.len_ht ?a ?_); (case a => walk_at "WRunat")))
local macro_rules | `(tactic| walk_at "WRuns1") => `(tactic| ((with_reducible refine' Wm.rix_h ?a ?b ?_); (case a => walk_at "WRunat"); (case b => rfl)))
local macro_rules | `(tactic| walk_at "WRuns1") => `(tactic| ((with_reducible refine' Wm.rix_ht ?a ?b ?_); (case a => walk_at "WRunat"); (case b => rfl)))
local macro_rules | `(tactic| walk_at "WRuns1") => `(tactic| ((with_reducible refine' Wm.prp_h ?e ?_); (case e => walk_at "WRunat")))
local macro_rules | `(tactic| walk_at "WRuns1") => `(tactic| ((with_reducible refine' Wm.mtd_h ?e ?l ?_); (case e => walk_at "WRunat"); (case l => rfl)))
local macro_rules | `(tactic| walk_at "WRuns1") => `(tactic| ((with_reducible refine' Wm.fld_h ?e ?c ?n ?l ?_); (case e => walk_at "WRunat"); (case c => walk_at "WRuncls"); (case n => walk_at "WRunnoattr"); (case l => rfl)))
local macro_rules | `(tactic| walk_at "WRuns1") => `(tactic| (with_reducible refine Wm.r_lcR2 ?_))
local macro_rules | `(tactic| walk_at "WRuns1") => `(tactic| (with_reducible refine Wm.r_lcR1 ?_))
local macro_rules | `(tactic| walk_at "WRuns1") => `(tactic| (with_reducible refine Wm.r_lcT ?_))
local macro_rules | `(tactic| walk_at "WRuns1") => `(tactic| (with_reducible refine Wm.r_lcL ?_))
local macro_rules | `(tactic| walk_at "WRuns1") => `(tactic| (with_reducible refine Wm.r_forR2 ?_))
local macro_rules | `(tactic| walk_at "WRuns1") => `(tactic| (with_reducible refine Wm.r_forR1 ?_))
local macro_rules | `(tactic| walk_at "WRuns1") => `(tactic| (with_reducible refine Wm.r_forT ?_))
local macro_rules | `(tactic| walk_at "WRuns1") => `(tactic| (with_reducible refine Wm.r_forL ?_))
local macro_rules | `(tactic| walk_at "WRuns1") => `(tactic| ((with_reducible refine' Wm.setF_m ?h 3 ?e ?c ?a ?l ?_); (case h => assumption); (case e => rfl); (case c => walk_at "WRuncls"); (case a => walk_at "WRunnoattr"); (case l => exact of_decide_eq_true rfl); intro H1 hh1; simp only [List.set_cons_zero, List.set_cons_succ] at hh1))
local macro_rules | `(tactic| walk_at "WRuns1") => `(tactic| ((with_reducible refine' Wm.setF_m ?h 2 ?e ?c ?a ?l ?_); (case h => assumption); (case e => rfl); (case c => walk_at "WRuncls"); (case a => walk_at "WRunnoattr"); (case l => exact of_decide_eq_true rfl); intro H1 hh1; simp only [List.set_cons_zero, List.set_cons_succ] at hh1))
local macro_rules | `(tactic| walk_at "WRuns1") => `(tactic| ((with_reducible refine' Wm.setF_m ?h 1 ?e ?c ?a ?l ?_); (case h => assumption); (case e => rfl); (case c => walk_at "WRuncls"); (case a => walk_at "WRunnoattr"); (case l => exact of_decide_eq_true rfl); intro H1 hh1; simp only [List.set_cons_zero, List.set_cons_succ] at hh1))
local macro_rules | `(tactic| walk_at "WRuns1") => `(tactic| ((with_reducible refine' Wm.setF_m ?h 0 ?e ?c ?a ?l ?_); (case h => assumption); (case e => rfl); (case c => walk_at "WRuncls"); (case a => walk_at "WRunnoattr"); (case l => exact of_decide_eq_true rfl); intro H1 hh1; simp only [List.set_cons_zero, List.set_cons_succ] at hh1))
local macro_rules | `(tactic| walk_at "WRuns1") => `(tactic| ((with_reducible refine' Wm.r_ty ?e ?_); (case e => walk_at "WRunat")))
local macro_rules | `(tactic| walk_at "WRuns1") => `(tactic| (with_reducible refine Wm.notN ?_))
local macro_rules | `(tactic| walk_at "WRuns1") => `(tactic| (with_reducible refine Wm.isN ?_))
local macro_rules | `(tactic| walk_at "WRuns1") => `(tactic| (with_reducible refine Wm.abs1 ?_))
local macro_rules | `(tactic| walk_at "WRuns1") => `(tactic| (with_reducible refine Wm.max2 ?_))
local macro_rules | `(tactic| walk_at "WRuns1") => `(tactic| (with_reducible refine Wm.min2 ?_))
local macro_rules | `(tactic| walk_at "WRuns1") => `(tactic| (with_reducible refine Wm.int_b ?_))
local macro_rules | `(tactic| walk_at "WRuns1") => `(tactic| (with_reducible refine Wm.int_i ?_))
local macro_rules | `(tactic| walk_at "WRuns1") => `(tactic| (with_reducible refine Wm.r_app ?_))
local macro_rules | `(tactic| walk_at "WRuns1") => `(tactic| (with_reducible refine Wm.r_setF ?_))
local macro_rules | `(tactic| walk_at "WRuns1") => `(tactic| (with_reducible refine Wm.r_sub ?_))
local macro_rules | `(tactic| walk_at "WRuns1") => `(tactic| (with_reducible refine Wm.r_gnil ?_))
local macro_rules | `(tactic| walk_at "WRuns1") => `(tactic| (with_reducible refine Wm.r_gcons ?_))
local macro_rules | `(tactic| walk_at "WRuns1") => `(tactic| (with_reducible refine Wm.r_xi ?_))
local macro_rules | `(tactic| walk_at "WRuns1") => `(tactic| (with_reducible refine Wm.r_part ?_))
local macro_rules | `(tactic| walk_at "WRuns1") => `(tactic| (with_reducible refine Wm.r_nopart ?_))
local macro_rules | `(tactic| walk_at "WRuns1") => `(tactic| (with_reducible refine Wm.r_sl ?_))
local macro_rules | `(tactic| walk_at "WRuns1") => `(tactic| (with_reducible refine Wm.r_two ?_; try simp only [List.set_cons_zero, List.set_cons_succ]))
local macro_rules | `(tactic| walk_at "WRuns1") => `(tactic| (with_reducible refine Wm.r_par ?_))
local macro_rules | `(tactic| walk_at "WRuns1") => `(tactic| (with_reducible refine Wm.r_ipI ?_))
local macro_rules | `(tactic| walk_at "WRuns1") => `(tactic| ((with_reducible refine' Wm.r_aug ?h ?_); (case h => rfl)))
local macro_rules | `(tactic| walk_at "WRuns1") => `(tactic| (with_reducible refine Wm.r_retN ?_))
local macro_rules | `(tactic| walk_at "WRuns1") => `(tactic| (with_reducible refine Wm.r_drop ?_))
local macro_rules | `(tactic| walk_at "WRuns1") => `(tactic| (with_reducible refine Wm.r_next ?_))
local macro_rules | `(tactic| walk_at "WRuns1") => `(tactic| (with_reducible refine Wm.r_iteF ?_))
local macro_rules | `(tactic| walk_at "WRuns1") => `(tactic| (with_reducible refine Wm.r_iteT ?_))
local macro_rules | `(tactic| walk_at "WRuns1") => `(tactic| (with_reducible refine Wm.r_U ?_))
local macro_rules | `(tactic| walk_at "WRuns1") => `(tactic| (with_reducible refine Wm.r_un ?_))
local macro_rules | `(tactic| walk_at "WRuns1") => `(tactic| (with_reducible refine Wm.r_if ?_))
local macro_rules | `(tactic| walk_at "WRuns1") => `(tactic| (with_reducible refine Wm.r_notV ?_))
local macro_rules | `(tactic| walk_at "WRuns1") => `(tactic| (with_reducible refine Wm.r_orV ?_))
local macro_rules | `(tactic| walk_at "WRuns1") => `(tactic| (with_reducible refine Wm.r_andV ?_))
local macro_rules | `(tactic| walk_at "WRuns1") => `(tactic| (with_reducible refine Wm.r_not ?_))
local macro_rules | `(tactic| walk_at "WRuns1") => `(tactic| (with_reducible refine Wm.r_or ?_))
local macro_rules | `(tactic| walk_at "WRuns1") => `(tactic| (with_reducible refine Wm.r_and ?_))
local macro_rules | `(tactic| walk_at "WRuns1") => `(tactic| (with_reducible refine Wm.r_chain ?_))
local macro_rules | `(tactic| walk_at "WRuns1") => `(tactic| (with_reducible refine Wm.r_lst ?_))
local macro_rules | `(tactic| walk_at "WRuns1") => `(tactic| (with_reducible refine Wm.r_tup ?_))
local macro_rules | `(tactic| walk_at "WRuns1") => `(tactic| (with_reducible refine Wm.r_cb ?_))
local macro_rules | `(tactic| walk_at "WRuns1") => `(tactic| (with_reducible refine Wm.r_mak ?_))
local macro_rules | `(tactic| walk_at "WRuns1") => `(tactic| (with_reducible refine Wm.r_prp ?_))
local macro_rules | `(tactic| walk_at "WRuns1") => `(tactic| (with_reducible refine Wm.r_mtd ?_))
local macro_rules | `(tactic| walk_at "WRuns1") => `(tactic| (with_reducible refine Wm.r_call ?_))
local macro_rules | `(tactic| walk_at "WRuns1") => `(tactic| (with_reducible refine Wm.r_fld ?_))
local macro_rules | `(tactic| walk_at "WRuns1") => `(tactic| (with_reducible refine Wm.r_neB ?_))
local macro_rules | `(tactic| walk_at "WRuns1") => `(tactic| (with_reducible refine Wm.r_eqB ?_))
local macro_rules | `(tactic| walk_at "WRuns1") => `(tactic| (with_reducible refine Wm.r_neI ?_))
local macro_rules | `(tactic| walk_at "WRuns1") => `(tactic| (with_reducible refine Wm.r_eqI ?_))
local macro_rules | `(tactic| walk_at "WRuns1") => `(tactic| (with_reducible refine Wm.r_B ?_))
local macro_rules | `(tactic| walk_at "WRuns1") => `(tactic| (with_reducible refine Wm.r_bl ?_))
local macro_rules | `(tactic| walk_at "WRuns1") => `(tactic| (with_reducible refine Wm.r_test ?_))
local macro_rules | `(tactic| walk_at "WRuns1") => `(tactic| (with_reducible refine Wm.r_ret ?_))
local macro_rules | `(tactic| walk_at "WRuns1") => `(tactic| (with_reducible refine Wm.r_rt ?_))
local macro_rules | `(tactic| walk_at "WRuns1") => `(tactic| (with_reducible refine Wm.r_nx ?_))
local macro_rules | `(tactic| walk_at "WRuns1") => `(tactic| (with_reducible refine Wm.r_gname ?_; try simp only [List.set_cons_zero, List.set_cons_succ]))
local macro_rules | `(tactic| walk_at "WRuns1") => `(tactic| (with_reducible refine Wm.r_asg ?_))
local macro_rules | `(tactic| walk_at "WRuns1") => `(tactic| (with_reducible refine Wm.r_nil ?_))
local macro_rules | `(tactic| walk_at "WRuns1") => `(tactic| (with_reducible refine Wm.r_cons ?_))
local macro_rules | `(tactic| walk_at "WRuns1") => `(tactic| (with_reducible refine Wm.r_I0 ?_))
local macro_rules | `(tactic| walk_at "WRuns1") => `(tactic| (with_reducible refine Wm.r_c ?_))
local macro_rules | `(tactic| walk_at "WRuns1") => `(tactic| ((with_reducible refine' Wm.r_var ?h ?_); (case h => rfl)))
local macro_rules | `(tactic| walk_at "WRuns1") => `(tactic| (with_reducible refine Wm.r_op ?_))
local macro_rules | `(tactic| walk_at "WRuns1") => `(tactic| (with_reducible refine Wm.r_seq ?_))
local macro_rules | `(tactic| walk_at "WRuns") => `(tactic| repeat (first | walk_at "WRuns1" | (with_reducible refine Wm.r_ifS ?_)))
local macro_rules | `(tactic| walk_at "WRunt") => `(tactic| repeat (walk_at "WRuns1"))
local macro_rules | `(tactic| walk_at "WRunsz") => `(tactic| exact of_decide_eq_true rfl)
namespace Wm
open PySem PySem.Spec PyProof.Rows L2 StX
/-! ## Runs -/
def psum (l : List Int) (i : Nat) : Int := (l.take i).sum
def sums (l : List Int) : List Int := (List.range (l.length + 1)).map (psum l)
def optI : Option Int → V
  | none => .non
  | some i => .int i
structure RunD where
  beg : Int
  fin : Option Int
  deg : Int
  on : Bool
  steps : List Int
def RunD.at_ (r : RunD) (t : Int) : Int := r.deg + (t - r.beg) / r.steps.length * r.steps.sum + psum r.steps ((t - r.beg) % r.steps.length).toNat
def runF (r : RunD) (s : Addr) : List (Str × V) := [("begin", .int r.beg), ("end", optI r.fin), ("degrees", .int r.deg), ("is_heating", .bl r.on), ("sums", .ref s), ("size", .int r.steps.length), ("drift", .int r.steps.sum)]
structure RunOk (r : RunD) : Prop where
  pos : 0 < r.steps.length
  len : r.steps.length ≤ 24
  ge : ∀ s ∈ r.steps, -100 ≤ s
  le : ∀ s ∈ r.steps, s ≤ 300
def IsRun (K : PySem.W.Frag) (A : Ads) (H : Hp) (p : Addr) (r : RunD) : Prop := RunC K A.cRun ∧ RunOk r ∧ ∃ dx s, H p = some (.ins A.cRun dx (runF r s)) ∧ H s = some (.lst ((sums r.steps).map V.int))
theorem IsRun.up {K : PySem.W.Frag} {A : Ads} {G H : Hp} {p : Addr} {r : RunD} (e : Ex G H) (h : IsRun K A G p r) : IsRun K A H p r := by
  obtain ⟨a, b, dx, s, h1, h2⟩ := h
  exact ⟨a, b, dx, s, e _ _ h1, e _ _ h2⟩
theorem psum_succ (l : List Int) {i : Nat} {x : Int} (h : l[i]? = some x) : psum l (i + 1) = psum l i + x := by
  unfold psum
  have hl := (List.getElem?_eq_some_iff.mp h).1
  rw [List.take_add_one, h]
  simp
theorem psum_all (l : List Int) : psum l l.length = l.sum := by unfold psum; rw [List.take_length]
theorem sums_len (l : List Int) : (sums l).length = l.length + 1 := by simp [sums]
theorem sums_at (l : List Int) {i : Nat} (h : i ≤ l.length) : (sums l)[i]? = some (psum l i) := by
  unfold sums
  rw [List.getElem?_map, List.getElem?_range (by omega)] <;> rfl
theorem sum_bound : ∀ (l : List Int), (∀ s ∈ l, -100 ≤ s) → (∀ s ∈ l, s ≤ 300) → -(100 * (l.length : Int)) ≤ l.sum ∧ l.sum ≤ 300 * l.length
  | [], _, _ => by simp
  | x :: l, h1, h2 => by
    have ih := sum_bound l (fun s hs => h1 s (List.mem_cons_of_mem _ hs)) (fun s hs => h2 s (List.mem_cons_of_mem _ hs))
    have a1 := h1 x List.mem_cons_self
    have a2 := h2 x List.mem_cons_self
    simp only [List.sum_cons, List.length_cons]
    omega
theorem RunOk.sumB {r : RunD} (h : RunOk r) : -2400 ≤ r.steps.sum ∧ r.steps.sum ≤ 7200 := by
  have := sum_bound r.steps h.ge h.le
  have := h.len
  omega
theorem RunOk.psumB {r : RunD} (h : RunOk r) (i : Nat) : -2400 ≤ psum r.steps i ∧ psum r.steps i ≤ 7200 := by
  have := sum_bound (r.steps.take i) (fun s hs => h.ge s (List.mem_of_mem_take hs)) (fun s hs => h.le s (List.mem_of_mem_take hs))
  have h2 : (r.steps.take i).length ≤ 24 := by rw [List.length_take]; have := h.len; omega
  unfold psum
  omega
def sp_Run_at (K : PySem.W.Frag) (A : Ads) : Sp := fun vs H Q _ => ∃ (p : Addr) (t : Int) (r : RunD), vs = [.ref p, .int t] ∧ IsRun K A H p r ∧ Q (.int (r.at_ t)) H
/-- where the bound is passed at a place of the round, for the first time -/
def fbAt (r : RunD) (bound sign : Int) (p : Nat) : Option Int :=
  if (bound - r.deg - psum r.steps p) * sign < 0 then some (r.beg + p)
  else if 0 < r.steps.sum * sign then some (r.beg + p + ((bound - r.deg - psum r.steps p) * sign / (r.steps.sum * sign) + 1) * r.steps.length)
  else none
def fbL (r : RunD) (bound sign : Int) (n : Nat) : List Int := (List.range n).filterMap (fbAt r bound sign)
def FB (r : RunD) (bound sign : Int) (o : Option Int) : Prop :=
  (o = none ∧ fbL r bound sign r.steps.length = []) ∨ ∃ m, o = some m ∧ m ∈ fbL r bound sign r.steps.length ∧ ∀ y ∈ fbL r bound sign r.steps.length, m ≤ y
theorem fbL_succ (r : RunD) (bound sign : Int) (n : Nat) : fbL r bound sign (n + 1) = fbL r bound sign n ++ (fbAt r bound sign n).toList := by
  unfold fbL
  rw [List.range_succ, List.filterMap_append]
  congr 1
theorem fbL_len (r : RunD) (bound sign : Int) (n : Nat) : (fbL r bound sign n).length ≤ n := by
  unfold fbL
  have := List.length_filterMap_le (fbAt r bound sign) (List.range n)
  rw [List.length_range] at this
  exact this
def sp_Run_first_beyond (K : PySem.W.Frag) (A : Ads) : Sp := fun vs H Q _ => ∃ (p : Addr) (bound sign : Int) (r : RunD), vs = [.ref p, .int bound, .int sign] ∧ IsRun K A H p r ∧ (sign = 1 ∨ sign = -1) ∧ ∀ o H', FB r bound sign o → Ex H H' → Q (optI o) H'
/-- (d, t): the greatest temperature times a sign up to a last tick, and the first such tick -/
def XIn (r : RunD) (last : Option Int) (u : Int) : Prop := r.beg ≤ u ∧ ∀ l, last = some l → u ≤ l
structure XT (r : RunD) (last : Option Int) (sign : Int) (n : Nat) (d t : Int) : Prop where
  inn : XIn r last t
  at_ : r.at_ t = d
  best : ∀ u, XIn r last u → ((u - r.beg) % r.steps.length).toNat < n → r.at_ u * sign ≤ d * sign ∧ (r.at_ u = d → t ≤ u)
theorem at_pk (r : RunD) (ok : RunOk r) {p k : Int} (h0 : 0 ≤ p) (h1 : p < r.steps.length) : r.at_ (r.beg + p + k * r.steps.length) = r.deg + k * r.steps.sum + psum r.steps p.toNat := by
  have op := ok.pos
  unfold RunD.at_
  have e : r.beg + p + k * r.steps.length - r.beg = p + k * r.steps.length := by omega
  rw [e, Int.add_mul_ediv_right _ _ (by omega), Int.add_mul_emod_self_right, Int.ediv_eq_zero_of_lt h0 h1, Int.emod_eq_of_lt h0 h1, Int.zero_add]
theorem at_beg (r : RunD) (ok : RunOk r) : r.at_ r.beg = r.deg := by
  have := at_pk r ok (p := 0) (k := 0) (Int.le_refl 0) (by have := ok.pos; omega)
  simpa [psum] using this
theorem pk_of (r : RunD) (ok : RunOk r) (u : Int) : u = r.beg + (u - r.beg) % r.steps.length + (u - r.beg) / r.steps.length * r.steps.length ∧ 0 ≤ (u - r.beg) % r.steps.length ∧ (u - r.beg) % r.steps.length < r.steps.length := by
  have op := ok.pos
  have h := Int.emod_add_mul_ediv (u - r.beg) r.steps.length
  refine ⟨?_, Int.emod_nonneg _ (by omega), Int.emod_lt_of_pos _ (by omega)⟩
  rw [Int.mul_comm] at h
  omega
/-- the tick of a place that is looked at -/
def xTick (r : RunD) (last : Option Int) (sign : Int) (p : Nat) : Int :=
  if 0 < r.steps.sum * sign then match last with
    | some l => r.beg + p + (l - (r.beg + p)) / r.steps.length * r.steps.length
    | none => r.beg + p
  else r.beg + p
theorem xTick_best (r : RunD) (ok : RunOk r) {last : Option Int} {sign : Int} (hs : sign = 1 ∨ sign = -1) (hn : last = none → ¬ 0 < r.steps.sum * sign) {p : Nat} (hp : p < r.steps.length) (hl : XIn r last (r.beg + p)) :
    XIn r last (xTick r last sign p) ∧ ∀ u, XIn r last u → ((u - r.beg) % r.steps.length).toNat = p → r.at_ u * sign ≤ r.at_ (xTick r last sign p) * sign ∧ (r.at_ u = r.at_ (xTick r last sign p) → xTick r last sign p ≤ u) := by
  have op := ok.pos
  have key : ∀ k : Int, r.at_ (r.beg + p + k * r.steps.length) = r.deg + k * r.steps.sum + psum r.steps p := fun k => by
    have := at_pk r ok (p := (p : Int)) (k := k) (by omega) (by omega)
    rw [Int.toNat_natCast] at this
    exact this
  by_cases hd : 0 < r.steps.sum * sign
  · cases last with
    | none => exact absurd hd (hn rfl)
    | some l =>
      have e : xTick r (some l) sign p = r.beg + p + (l - (r.beg + p)) / r.steps.length * r.steps.length := by unfold xTick; rw [if_pos hd]
      rw [e]
      have hle := hl.2 l rfl
      have k0 : 0 ≤ (l - (r.beg + p)) / r.steps.length := Int.ediv_nonneg (by omega) (by omega)
      have kl : (l - (r.beg + p)) / r.steps.length * r.steps.length ≤ l - (r.beg + p) := Int.ediv_mul_le _ (by omega)
      have kp : 0 ≤ (l - (r.beg + p)) / r.steps.length * r.steps.length := Int.mul_nonneg k0 (by omega)
      refine ⟨⟨by omega, fun l' h => by cases h; omega⟩, fun u hu hm => ?_⟩
      obtain ⟨eu, u0, u1⟩ := pk_of r ok u
      have hm' : (u - r.beg) % r.steps.length = p := by omega
      rw [hm'] at eu
      have hul := hu.2 l rfl
      rw [eu, key, key]
      generalize hk : (u - r.beg) / (r.steps.length : Int) = k at eu
      generalize hK : (l - (r.beg + p)) / (r.steps.length : Int) = k2
      have hkk : k ≤ k2 := by
        rw [← hK]
        exact (Int.le_ediv_iff_mul_le (by omega)).mpr (by omega)
      rcases hs with rfl | rfl
      · have hd' : 0 < r.steps.sum := by omega
        have m1 := Int.mul_le_mul_of_nonneg_right hkk (Int.le_of_lt hd')
        refine ⟨by omega, fun h => ?_⟩
        have h2 : k * r.steps.sum = k2 * r.steps.sum := by omega
        have h3 := Int.eq_of_mul_eq_mul_right (by omega) h2
        rw [h3]
        exact Int.le_refl _
      · have hd' : 0 < -r.steps.sum := by omega
        have m1 := Int.mul_le_mul_of_nonneg_right hkk (Int.le_of_lt hd')
        rw [Int.mul_neg, Int.mul_neg] at m1
        refine ⟨by omega, fun h => ?_⟩
        have h2 : k * r.steps.sum = k2 * r.steps.sum := by omega
        have h3 := Int.eq_of_mul_eq_mul_right (by omega) h2
        rw [h3]
        exact Int.le_refl _
  · have e : xTick r last sign p = r.beg + p := by unfold xTick; rw [if_neg hd]
    rw [e]
    refine ⟨hl, fun u hu hm => ?_⟩
    obtain ⟨eu, u0, u1⟩ := pk_of r ok u
    have hm' : (u - r.beg) % r.steps.length = p := by omega
    rw [hm'] at eu
    have k0 := key 0
    rw [Int.zero_mul, Int.add_zero] at k0
    rw [eu, key, k0]
    generalize hk : (u - r.beg) / (r.steps.length : Int) = k at eu
    have hk0 : 0 ≤ k := by
      rw [← hk]
      exact Int.ediv_nonneg (by have := hu.1; omega) (by omega)
    have hkl : 0 ≤ k * (r.steps.length : Int) := Int.mul_nonneg hk0 (by omega)
    rcases hs with rfl | rfl
    · have hd' : 0 ≤ -r.steps.sum := by omega
      have m1 := Int.mul_nonneg hk0 hd'
      rw [Int.mul_neg] at m1
      exact ⟨by omega, fun _ => by omega⟩
    · have hd' : 0 ≤ r.steps.sum := by omega
      have m1 := Int.mul_nonneg hk0 hd'
      exact ⟨by omega, fun _ => by omega⟩
theorem XT.start (r : RunD) (ok : RunOk r) {last : Option Int} {sign : Int} (hl : XIn r last r.beg) : XT r last sign 0 r.deg r.beg := ⟨hl, at_beg r ok, fun _ _ h => absurd h (Nat.not_lt_zero _)⟩
theorem XT.step {r : RunD} (ok : RunOk r) {last : Option Int} {sign d t : Int} (hs : sign = 1 ∨ sign = -1) (hn : last = none → ¬ 0 < r.steps.sum * sign) {p : Nat} (hp : p < r.steps.length) (hl : XIn r last (r.beg + p)) (h : XT r last sign p d t) :
    (if d * sign < r.at_ (xTick r last sign p) * sign ∨ (r.at_ (xTick r last sign p) = d ∧ xTick r last sign p < t) then XT r last sign (p + 1) (r.at_ (xTick r last sign p)) (xTick r last sign p) else XT r last sign (p + 1) d t) := by
  obtain ⟨b1, b2⟩ := xTick_best r ok hs hn hp hl
  generalize hx : xTick r last sign p = x at b1 b2
  generalize hv : r.at_ x = v at b2
  split
  · rename_i c
    refine ⟨b1, hv, fun u hu hlt => ?_⟩
    by_cases e : ((u - r.beg) % r.steps.length).toNat = p
    · exact b2 u hu e
    · obtain ⟨c1, c2⟩ := h.best u hu (by omega)
      rcases c with c | ⟨ce, cl⟩
      · refine ⟨by omega, fun z => ?_⟩
        rw [z] at c1
        omega
      · subst ce
        exact ⟨c1, fun z => by have := c2 z; omega⟩
  · rename_i c
    refine ⟨h.inn, h.at_, fun u hu hlt => ?_⟩
    by_cases e : ((u - r.beg) % r.steps.length).toNat = p
    · obtain ⟨c1, c2⟩ := b2 u hu e
      have c3 : ¬ d * sign < v * sign := fun z => c (.inl z)
      refine ⟨by omega, fun z => ?_⟩
      have ve : v = d := by
        rw [z] at c1
        rcases hs with rfl | rfl <;> omega
      have c4 := c2 (z.trans ve.symm)
      have c5 : ¬ x < t := fun w => c (.inr ⟨ve, w⟩)
      omega
    · exact h.best u hu (by omega)
def sp_Run_extreme (K : PySem.W.Frag) (A : Ads) : Sp := fun vs H Q _ => ∃ (p : Addr) (last : Option Int) (sign : Int) (r : RunD), vs = [.ref p, optI last, .int sign] ∧ IsRun K A H p r ∧ (sign = 1 ∨ sign = -1) ∧ XIn r last r.beg ∧
  (last = none → 0 < r.steps.sum * sign → Q .non H) ∧
  ((last = none → ¬ 0 < r.steps.sum * sign) → ∀ d t q H', XT r last sign r.steps.length d t → Ex H H' → H q = none → H' q = some (.tup [.int d, .int t]) → Q (.ref q) H')
def t_Run_init (K : PySem.W.Frag) (A : Ads) : TS := tSeq (sFld K (tVar 0) (tVar 1) "begin") (tSeq (sFld K (tVar 0) (tC .non) "end") (tSeq (sFld K (tVar 0) (tVar 2) "degrees") (tSeq (sFld K (tVar 0) (tVar 3) "is_heating") (tSeq (sFld K (tVar 0) (tLst (tCons (tC (.int 0)) (tNil))) "sums") (tSeq (tFor (iList K (tVar 4)) (gName 5) (tDrop (tBM K "list" rAppend (tFld K (tVar 0) "sums") (tCons (tOp (rI0 fun i j => .int (i + j)) (tOp (rIx K) (tFld K (tVar 0) "sums") (tUn (rU fun i => .int (-i)) (tC (.int 1)))) (tVar 5)) (tNil))))) (tSeq (sFld K (tVar 0) (tCB (rLen K) (tCons (tVar 4) (tNil))) "size") (sFld K (tVar 0) (tOp (rIx K) (tFld K (tVar 0) "sums") (tUn (rU fun i => .int (-i)) (tC (.int 1)))) "drift")))))))
def t_Run_at (K : PySem.W.Frag) (A : Ads) : TS := tSeq (tAsg (tOp (rI0 fun i j => .int (i - j)) (tVar 1) (tFld K (tVar 0) "begin")) (gName 2)) (tRet (tOp (rI0 fun i j => .int (i + j)) (tOp (rI0 fun i j => .int (i + j)) (tFld K (tVar 0) "degrees") (tOp (rI CMul fun i j => .int (i * j)) (tOp (rI CDivW fun i j => .int (i / j)) (tVar 2) (tFld K (tVar 0) "size")) (tFld K (tVar 0) "drift"))) (tOp (rIx K) (tFld K (tVar 0) "sums") (tOp (rI (fun _ j => 0 < j) fun i j => .int (i % j)) (tCB rInt (tCons (tVar 2) (tNil))) (tFld K (tVar 0) "size")))))
def t_Run_first_beyond (K : PySem.W.Frag) (A : Ads) : TS := tSeq (tAsg (tLst (tNil)) (gName 3)) (tSeq (tFor (iRng1 (tCons (tFld K (tVar 0) "size") (tNil))) (gName 4) (tSeq (tAsg (tOp (rI CMul fun i j => .int (i * j)) (tOp (rI0 fun i j => .int (i - j)) (tOp (rI0 fun i j => .int (i - j)) (tVar 1) (tFld K (tVar 0) "degrees")) (tOp (rIx K) (tFld K (tVar 0) "sums") (tVar 4))) (tVar 2)) (gName 5)) (tIfS (tTest (tOp (rI0 fun i j => .bl (decide (i < j))) (tVar 5) (tC (.int 0)))) (tDrop (tBM K "list" rAppend (tVar 3) (tCons (tOp (rI0 fun i j => .int (i + j)) (tFld K (tVar 0) "begin") (tVar 4)) (tNil)))) (tIfS (tTest (tOp (rI0 fun i j => .bl (decide (j < i))) (tOp (rI CMul fun i j => .int (i * j)) (tFld K (tVar 0) "drift") (tVar 2)) (tC (.int 0)))) (tDrop (tBM K "list" rAppend (tVar 3) (tCons (tOp (rI0 fun i j => .int (i + j)) (tOp (rI0 fun i j => .int (i + j)) (tFld K (tVar 0) "begin") (tVar 4)) (tOp (rI CMul fun i j => .int (i * j)) (tOp (rI0 fun i j => .int (i + j)) (tOp (rI CDivW fun i j => .int (i / j)) (tVar 5) (tOp (rI CMul fun i j => .int (i * j)) (tFld K (tVar 0) "drift") (tVar 2))) (tC (.int 1))) (tFld K (tVar 0) "size"))) (tNil)))) (tNext))))) (tRet (tIf (tTest (tOp (rNeD K) (tVar 3) (tLst (tNil)))) (tCB (rMin K) (tCons (tVar 3) (tNil))) (tC .non))))
def t_Run_extreme_c1 (K : PySem.W.Frag) (A : Ads) : TS := tSeq (tAsg (tMtd A.cRun "at" (sp_Run_at K A) E0 (tVar 0) (tCons (tVar 5) (tNil))) (gName 6)) (tIfS (tOr (tTest (tOp (rI0 fun i j => .bl (decide (j < i))) (tOp (rI CMul fun i j => .int (i * j)) (tVar 6) (tVar 2)) (tOp (rI CMul fun i j => .int (i * j)) (tOp (rIx K) (tVar 3) (tC (.int 0))) (tVar 2)))) (tAnd (tTest (tOp rEq (tVar 6) (tOp (rIx K) (tVar 3) (tC (.int 0))))) (tTest (tOp (rI0 fun i j => .bl (decide (i < j))) (tVar 5) (tOp (rIx K) (tVar 3) (tC (.int 1))))))) (tAsg (tTup (tCons (tVar 6) (tCons (tVar 5) (tNil)))) (gName 3)) (tNext))
def t_Run_extreme (K : PySem.W.Frag) (A : Ads) : TS := tSeq (tIfS (tAnd (tTest (tOp rIsN (tVar 1) (tC .non))) (tTest (tOp (rI0 fun i j => .bl (decide (j < i))) (tOp (rI CMul fun i j => .int (i * j)) (tFld K (tVar 0) "drift") (tVar 2)) (tC (.int 0))))) (tRet (tC .non)) (tNext)) (tSeq (tAsg (tTup (tCons (tFld K (tVar 0) "degrees") (tCons (tFld K (tVar 0) "begin") (tNil)))) (gName 3)) (tSeq (tFor (iRng1 (tCons (tFld K (tVar 0) "size") (tNil))) (gName 4) (tSeq (tAsg (tOp (rI0 fun i j => .int (i + j)) (tFld K (tVar 0) "begin") (tVar 4)) (gName 5)) (tSeq (tIfS (tAnd (tTest (tOp rNotN (tVar 1) (tC .non))) (tTest (tOp (rI0 fun i j => .bl (decide (j < i))) (tVar 5) (tVar 1)))) (tRet (tVar 3)) (tNext)) (tSeq (tIfS (tTest (tOp (rI0 fun i j => .bl (decide (j < i))) (tOp (rI CMul fun i j => .int (i * j)) (tFld K (tVar 0) "drift") (tVar 2)) (tC (.int 0)))) (tAug 5 (tOp (rI CMul fun i j => .int (i * j)) (tOp (rI CDivW fun i j => .int (i / j)) (tOp (rI0 fun i j => .int (i - j)) (tVar 1) (tVar 5)) (tFld K (tVar 0) "size")) (tFld K (tVar 0) "size")) (ipI fun i j => i + j)) (tNext)) (t_Run_extreme_c1 K A))))) (tRet (tVar 3))))
section
variable {K : PySem.W.Frag} {A : Ads}
theorem pure_Run_at (vs : List V) (H : Hp) (Q : VK) (E : XK) (h : sp_Run_at K A vs H Q E) : t_Run_at K A { nx := fun _ H' => Q .non H', rt := Q } (start ["self", "tick", "place"] vs) H := by
  obtain ⟨p, t, r, rfl, ⟨TR, ok, dx, s, h1, h2⟩, k⟩ := h
  have ol := ok.len
  have op := ok.pos
  have os := ok.sumB
  show t_Run_at K A _ [some (.ref p), some (.int t), none] H
  unfold t_Run_at
  walk_at "WRuns"
  refine r_I (cdiv (by omega) (by omega)) ?_
  walk_at "WRuns"
  refine r_I (cmulR (by omega)) ?_
  walk_at "WRuns"
  refine r_I (show (0 : Int) < (r.steps.length : Int) by omega) ?_
  have m0 := Int.emod_nonneg (t - r.beg) (show (r.steps.length : Int) ≠ 0 by omega)
  have m1 := Int.emod_lt_of_pos (t - r.beg) (show (0 : Int) < (r.steps.length : Int) by omega)
  refine rix_h h2 (atI_of m0 (ints_at (sums_at r.steps (by omega)))) ?_
  walk_at "WRuns"
  exact k
def sp_Run_init (K : PySem.W.Frag) (A : Ads) : Sp := fun vs H Q _ => ∃ (p dx st : Addr) (b d : Int) (on : Bool) (steps : List Int) (G : Hp) (mu : Mu), vs = [.ref p, .int b, .int d, .bl on, .ref st] ∧ RunC K A.cRun ∧ Hold G ((p, .ins A.cRun dx []) :: mu) H ∧ SqL K G st (steps.map V.int) ∧ steps.length ≤ 24 ∧
  ∀ (s : Addr) (G' H' : Hp), Ex G G' → G' s = some (.lst ((sums steps).map V.int)) → Hold G' ((p, .ins A.cRun dx (runF ⟨b, none, d, on, steps⟩ s)) :: mu) H' → Q .non H'
theorem pure_Run_init (vs : List V) (H : Hp) (Q : VK) (E : XK) (h : sp_Run_init K A vs H Q E) : t_Run_init K A { nx := fun _ H' => Q .non H', rt := Q } (start ["self", "begin", "degrees", "is_heating", "steps", "step"] vs) H := by
  obtain ⟨p, dx, st, b, d, on, steps, G, mu, rfl, TR, hh, hst, hl, k⟩ := h
  show t_Run_init K A _ [some (.ref p), some (.int b), some (.int d), some (.bl on), some (.ref st), none] H
  unfold t_Run_init
  walk_at "WRuns"
  refine lst_m (by decide) (by assumption) fun s H1 hh => ?_
  walk_at "WRuns"
  rename_i H2 hh2
  refine forL_by (hh2.lst hst) (fun i σ H => ∃ v : Option V, σ = [some (.ref p), some (.int b), some (.int d), some (.bl on), some (.ref st), v] ∧
    Hold G ((s, .lst (((sums steps).take (i + 1)).map V.int)) :: (p, .ins A.cRun dx ([("begin", .int b), ("end", .non), ("degrees", .int d), ("is_heating", .bl on), ("sums", .ref s)] : List (Str × V))) :: mu) H)
    ⟨none, rfl, ?_⟩ (fun i σ H _ ⟨_, _, hh⟩ => hh.lst hst) ?_ ?_
  · have e : (sums steps).take 1 = [0] := by
      unfold sums
      rw [List.range_succ_eq_map]
      rfl
    rw [show 0 + 1 = 1 from rfl, e]
    exact hh2
  · rintro i x σ H3 hi ⟨v, rfl, hh⟩
    obtain ⟨z, hz, rfl⟩ := ints_of hi
    have il := (List.getElem?_eq_some_iff.mp hz).1
    have hlen : ((sums steps).take (i + 1)).length = i + 1 := by rw [List.length_take, sums_len]; omega
    walk_at "WRuns"
    refine rix_h (hh.get (i := 0) rfl) (last_at (ints_at (z := psum steps i) ?_)) ?_
    · rw [List.length_map, hlen, Nat.add_sub_cancel, List.getElem?_take_of_lt (by omega)]
      exact sums_at steps (by omega)
    walk_at "WRuns"
    refine app_m hh 0 rfl (szl (by rw [List.length_map, hlen]; omega)) fun H4 hh4 => ?_
    walk_at "WRuns"
    refine ⟨_, rfl, ?_⟩
    rw [take_one (sums_at steps (show i + 1 ≤ steps.length by omega)), psum_succ steps hz, List.map_append]
    exact hh4
  · rintro σ H3 ⟨v, rfl, hh⟩
    rw [List.length_map, show (sums steps).take (steps.length + 1) = sums steps by rw [← sums_len, List.take_length]] at hh
    walk_at "WRuns"
    refine rix_h (by walk_at "WRunat") (last_at (ints_at (z := steps.sum) ?_)) ?_
    · rw [List.length_map, sums_len, Nat.add_sub_cancel, sums_at steps (Nat.le_refl _), psum_all]
    walk_at "WRuns"
    rename_i H5 hh5
    rw [List.length_map] at hh5
    exact k s _ _ hh5.frz_ex upd_same hh5.frz
theorem pure_Run_first_beyond (vs : List V) (H : Hp) (Q : VK) (E : XK) (h : sp_Run_first_beyond K A vs H Q E) : t_Run_first_beyond K A { nx := fun _ H' => Q .non H', rt := Q } (start ["self", "bound", "sign", "found", "place", "gap"] vs) H := by
  obtain ⟨p, bound, sign, r, rfl, ⟨TR, ok, dx, s, h1, h2⟩, hs, k⟩ := h
  have ol := ok.len
  have op := ok.pos
  have os := ok.sumB
  have hh := Hold.start H
  show t_Run_first_beyond K A _ [some (.ref p), some (.int bound), some (.int sign), none, none, none] H
  unfold t_Run_first_beyond
  walk_at "WRuns"
  refine lst_m (by decide) (by assumption) fun f H1 hh1 => ?_
  walk_at "WRuns"
  refine forR1_by (by omega) (by omega) (fun i σ H' => ∃ v1 v2 : Option V, σ = [some (.ref p), some (.int bound), some (.int sign), some (.ref f), v1, v2] ∧ Hold H [(f, .lst ((fbL r bound sign i).map V.int))] H')
    ⟨none, none, rfl, hh1⟩ ?_ ?_
  · rintro i σ H2 hi ⟨v1, v2, rfl, hh2⟩
    have fl := fbL_len r bound sign i
    walk_at "WRuns"
    refine rix_h (hh2.rd h2) (atI_of (by omega) (ints_at (sums_at r.steps (show ((i : Int)).toNat ≤ r.steps.length by omega)))) ?_
    walk_at "WRuns"
    refine r_I (cmulR (by omega)) ?_
    walk_at "WRuns"
    rw [Int.toNat_natCast]
    refine r_ite (fun c => ?_) (fun c => ?_)
    · have e : fbAt r bound sign i = some (r.beg + i) := if_pos (of_decide_eq_true c)
      walk_at "WRuns"
      refine app_m hh2 0 rfl (szl (by simp; omega)) fun H3 hh3 => ?_
      walk_at "WRuns"
      refine ⟨_, _, rfl, ?_⟩
      rw [fbL_succ, e, List.map_append]
      exact hh3
    · walk_at "WRuns"
      refine r_I (cmulR (by omega)) ?_
      walk_at "WRuns"
      refine r_ite (fun c2 => ?_) (fun c2 => ?_)
      · have c1 := of_decide_eq_false c
        have c3 := of_decide_eq_true c2
        have e : fbAt r bound sign i = some (r.beg + i + ((bound - r.deg - psum r.steps i) * sign / (r.steps.sum * sign) + 1) * r.steps.length) := by
          unfold fbAt
          rw [if_neg c1, if_pos c3]
        walk_at "WRuns"
        refine r_I (cmulR (by omega)) ?_
        walk_at "WRuns"
        refine r_I (cdiv c3 (by rcases hs with rfl | rfl <;> omega)) ?_
        walk_at "WRuns"
        refine r_I (cmulR (by omega)) ?_
        walk_at "WRuns"
        refine app_m hh2 0 rfl (szl (by simp; omega)) fun H3 hh3 => ?_
        walk_at "WRuns"
        refine ⟨_, _, rfl, ?_⟩
        rw [fbL_succ, e, List.map_append]
        exact hh3
      · have c1 := of_decide_eq_false c
        have c3 := of_decide_eq_false c2
        have e : fbAt r bound sign i = none := by
          unfold fbAt
          rw [if_neg c1, if_neg c3]
        walk_at "WRuns"
        refine ⟨_, _, rfl, ?_⟩
        rw [fbL_succ, e]
        simpa using hh2
  · rintro σ H2 ⟨v1, v2, rfl, hh2⟩
    rw [Int.toNat_natCast] at hh2
    walk_at "WRuns"
    refine lst_x (by decide) (by assumption) fun q H3 hq hh3 => ?_
    refine neI (SqL.of (hh3.get (i := 0) rfl)) (SqL.of (hq.trans (by rfl : some (HO.lst []) = some (.lst (([] : List Int).map V.int))))) ?_
    walk_at "WRuns"
    refine r_ite (fun c => ?_) (fun c => ?_)
    · have ne : fbL r bound sign r.steps.length ≠ [] := by simpa using c
      walk_at "WRuns"
      refine min_by (SqL.of (hh3.get (i := 0) rfl)) (List.length_pos_iff.mpr ne) fun m hm hle => ?_
      walk_at "WRuns"
      exact k (some m) H3 (.inr ⟨m, rfl, hm, hle⟩) hh3.ex
    · have ne : fbL r bound sign r.steps.length = [] := by simpa using c
      walk_at "WRuns"
      exact k none H3 (.inl ⟨rfl, ne⟩) hh3.ex
theorem pure_Run_extreme (vs : List V) (H : Hp) (Q : VK) (E : XK) (h : sp_Run_extreme K A vs H Q E) : t_Run_extreme K A { nx := fun _ H' => Q .non H', rt := Q } (start ["self", "last", "sign", "best", "place", "tick", "degrees"] vs) H := by
  obtain ⟨p, last, sign, r, rfl, ir, hs, hb, kN, kS⟩ := h
  have ir' := ir
  obtain ⟨TR, ok, dx, s, h1, h2⟩ := ir'
  have ol := ok.len
  have op := ok.pos
  have os := ok.sumB
  have hh := Hold.start H
  show t_Run_extreme K A _ [some (.ref p), some (optI last), some (.int sign), none, none, none, none] H
  unfold t_Run_extreme
  have an : Ans (tTest (tOp (rI0 fun i j => .bl (decide (j < i))) (tOp (rI CMul fun i j => .int (i * j)) (tFld K (tVar 0) "drift") (tVar 2)) (tC (.int 0)))) [some (.ref p), some (optI last), some (.int sign), none, none, none, none] H (decide (0 < r.steps.sum * sign)) := fun Q q => by
    walk_at "WRuns"
    refine r_I (cmulR (by omega)) ?_
    walk_at "WRuns"
    exact q
  refine r_seq (ifA (ans_and2 (b1 := decide (optI last = .non)) (fun Q q => by walk_at "WRuns"; exact q) an) (fun c1 => ?_) (fun c1 => ?_))
  · walk_at "WRuns"
    rw [Bool.and_eq_true] at c1
    have e : last = none := by
      cases last with
      | none => rfl
      | some l => exact absurd (of_decide_eq_true c1.1) (by intro z; cases z)
    exact kN e (of_decide_eq_true c1.2)
  · have hn : last = none → ¬ 0 < r.steps.sum * sign := fun e z => by
      subst e
      rw [decide_eq_true z] at c1
      exact absurd c1 (by decide)
    have kS := kS hn
    walk_at "WRuns"
    refine tup_n (by walk_at "WRunsz") (by assumption) fun q0 H1 hq0 e0 hh1 => ?_
    walk_at "WRuns"
    refine forR1_by (by omega) (by omega) (fun i σ H' => ∃ (v4 v5 v6 : Option V) (q : Addr) (d t : Int), σ = [some (.ref p), some (optI last), some (.int sign), some (.ref q), v4, v5, v6] ∧ Hold H [] H' ∧ H q = none ∧ H' q = some (.tup [.int d, .int t]) ∧ XT r last sign i d t)
      ⟨none, none, none, q0, r.deg, r.beg, rfl, hh1, hq0, e0, XT.start r ok hb⟩ ?_ ?_
    · rintro i σ H2 hi ⟨v4, v5, v6, q, d, t, rfl, hh2, hq, eq, xt⟩
      have hp : i < r.steps.length := by omega
      have an2 : ∀ (σ : L2.St) (H' : Hp), σ[0]? = some (some (.ref p)) → σ[2]? = some (some (.int sign)) → Hold H [] H' → Ans (tTest (tOp (rI0 fun i j => .bl (decide (j < i))) (tOp (rI CMul fun i j => .int (i * j)) (tFld K (tVar 0) "drift") (tVar 2)) (tC (.int 0)))) σ H' (decide (0 < r.steps.sum * sign)) := fun σ H' e0 e2 hh Q q => by
        refine r_test (r_op (r_op (r_fld (r_var e0 ?_))))
        walk_at "WRuns"
        refine r_var e2 ?_
        refine r_I (cmulR (by omega)) ?_
        walk_at "WRuns"
        exact q
      have fin : ∀ (H3 : Hp) (x : Int), Hold H [] H3 → H3 q = some (.tup [.int d, .int t]) → XIn r last (r.beg + i) → x = xTick r last sign i →
          t_Run_extreme_c1 K A
          { nx := fun σ H' => ∃ (v4 v5 v6 : Option V) (q : Addr) (d t : Int), σ = [some (.ref p), some (optI last), some (.int sign), some (.ref q), v4, v5, v6] ∧ Hold H [] H' ∧ H q = none ∧ H' q = some (.tup [.int d, .int t]) ∧ XT r last sign (i + 1) d t,
            ct := fun σ H' => ∃ (v4 v5 v6 : Option V) (q : Addr) (d t : Int), σ = [some (.ref p), some (optI last), some (.int sign), some (.ref q), v4, v5, v6] ∧ Hold H [] H' ∧ H q = none ∧ H' q = some (.tup [.int d, .int t]) ∧ XT r last sign (i + 1) d t,
            bk := fun σ H' => tRet (tVar 3) { nx := fun _ H' => Q .non H', rt := Q } σ H', rt := Q } [some (.ref p), some (optI last), some (.int sign), some (.ref q), some (.int (i : Int)), some (.int x), v6] H3 := by
        intro H3 x hh3 eq3 hin hx
        have st := XT.step ok hs hn hp hin xt
        rw [← hx] at st
        unfold t_Run_extreme_c1
        walk_at "WRuns"
        refine ⟨p, x, r, rfl, ir.up hh3.ex, ?_⟩
        walk_at "WRunt"
        generalize hy : r.at_ x = y at st
        refine ifA (b := decide (d * sign < y * sign) || (decide (y = d) && decide (x < t))) (ans_or2 (fun Q q => ?_) (ans_and2 (fun Q q => ?_) (fun Q q => ?_))) (fun c => ?_) (fun c => ?_)
        · walk_at "WRuns"
          refine r_I (cmulR (by omega)) ?_
          walk_at "WRuns"
          refine r_I (cmulR (by omega)) ?_
          walk_at "WRuns"
          exact q
        · walk_at "WRuns"
          exact q
        · walk_at "WRuns"
          exact q
        · rw [Bool.or_eq_true, Bool.and_eq_true, decide_eq_true_eq, decide_eq_true_eq, decide_eq_true_eq] at c
          rw [if_pos c] at st
          walk_at "WRuns"
          refine tup_n (by walk_at "WRunsz") (by assumption) fun q4 H4 hq4 e4 hh4 => ?_
          walk_at "WRuns"
          exact ⟨_, _, _, q4, _, _, rfl, hh4, hq4, e4, st⟩
        · have c' : ¬ (d * sign < y * sign ∨ y = d ∧ x < t) := fun z => by
            rw [← decide_eq_true_eq (p := d * sign < y * sign), ← decide_eq_true_eq (p := y = d), ← decide_eq_true_eq (p := x < t), ← Bool.and_eq_true, ← Bool.or_eq_true, c] at z
            cases z
          rw [if_neg c'] at st
          walk_at "WRuns"
          exact ⟨_, _, _, q, _, _, rfl, hh3, hq, eq3, st⟩
      cases last with
      | none =>
        walk_at "WRunt"
        refine r_ifS ?_
        walk_at "WRunt"
        refine r_iteF ?_
        walk_at "WRunt"
        refine ifA (an2 _ _ rfl rfl hh2) (fun c => absurd (of_decide_eq_true c) (hn rfl)) (fun c => ?_)
        refine r_next ?_
        refine fin H2 _ hh2 eq ⟨by omega, fun l h => by cases h⟩ ?_
        unfold xTick
        rw [if_neg (of_decide_eq_false c)]
      | some l =>
        have eo : optI (some l) = .int l := rfl
        rw [eo]
        walk_at "WRunt"
        refine r_ifS ?_
        walk_at "WRunt"
        refine r_iteT ?_
        walk_at "WRunt"
        refine r_ite (fun c => ?_) (fun c => ?_)
        · -- past the last tick: all places are done
          have c2 : l < r.beg + i := of_decide_eq_true c
          walk_at "WRunt"
          refine kS d t q H2 ⟨xt.inn, xt.at_, fun u hu hlt => xt.best u hu ?_⟩ hh2.ex hq eq
          obtain ⟨eu, u0, u1⟩ := pk_of r ok u
          have hul := hu.2 l rfl
          have k0 : 0 ≤ (u - r.beg) / (r.steps.length : Int) * r.steps.length := Int.mul_nonneg (Int.ediv_nonneg (by have := hu.1; omega) (by omega)) (by omega)
          omega
        · have c2 : ¬ l < r.beg + i := of_decide_eq_false c
          have hin : XIn r (some l) (r.beg + i) := ⟨by omega, fun l' h => by cases h; omega⟩
          walk_at "WRunt"
          refine ifA (an2 _ _ rfl rfl hh2) (fun c3 => ?_) (fun c3 => ?_)
          · walk_at "WRunt"
            refine r_I (cdiv (by omega) (by omega)) ?_
            walk_at "WRunt"
            refine r_I (cmulR (by omega)) ?_
            walk_at "WRunt"
            refine fin H2 _ hh2 eq hin ?_
            unfold xTick
            rw [if_pos (of_decide_eq_true c3)]
          · refine r_next ?_
            refine fin H2 _ hh2 eq hin ?_
            unfold xTick
            rw [if_neg (of_decide_eq_false c3)]
    · rintro σ H2 ⟨v4, v5, v6, q, d, t, rfl, hh2, hq, eq, xt⟩
      rw [Int.toNat_natCast] at xt
      walk_at "WRuns"
      exact kS d t q H2 xt hh2.ex hq eq
end
end Wm
end

section
/-! ## What runs mean -/
namespace Wm
open PySem
def Beyond (r : RunD) (bound sign u : Int) : Prop := bound * sign < r.at_ u * sign
theorem fb_class (r : RunD) (ok : RunOk r) {bound sign : Int} (hs : sign = 1 ∨ sign = -1) {p : Nat} (hp : p < r.steps.length) :
    match fbAt r bound sign p with
    | some u => ∃ k : Int, 0 ≤ k ∧ u = r.beg + p + k * r.steps.length ∧ Beyond r bound sign u ∧ ∀ k', 0 ≤ k' → k' < k → ¬ Beyond r bound sign (r.beg + p + k' * r.steps.length)
    | none => ∀ k', 0 ≤ k' → ¬ Beyond r bound sign (r.beg + p + k' * r.steps.length) := by
  have key : ∀ k : Int, r.at_ (r.beg + p + k * r.steps.length) = r.deg + k * r.steps.sum + psum r.steps p := fun k => by
    have := at_pk r ok (p := (p : Int)) (k := k) (by omega) (by omega)
    rw [Int.toNat_natCast] at this
    exact this
  have bk : ∀ k : Int, Beyond r bound sign (r.beg + p + k * r.steps.length) ↔ (bound - r.deg - psum r.steps p) * sign < k * (r.steps.sum * sign) := fun k => by
    unfold Beyond
    rw [key]
    rcases hs with rfl | rfl
    · simp only [Int.mul_one]; omega
    · rw [Int.mul_neg_one, Int.mul_neg_one, Int.mul_neg_one, Int.mul_neg_one, Int.mul_neg]; omega
  unfold fbAt
  by_cases c1 : (bound - r.deg - psum r.steps p) * sign < 0
  · rw [if_pos c1]
    refine ⟨0, Int.le_refl 0, by omega, ?_, fun k' h0 h1 => by omega⟩
    have := (bk 0).mpr (by rw [Int.zero_mul]; exact c1)
    rw [Int.zero_mul, Int.add_zero] at this
    exact this
  · rw [if_neg c1]
    by_cases c2 : 0 < r.steps.sum * sign
    · rw [if_pos c2]
      have g0 : 0 ≤ (bound - r.deg - psum r.steps p) * sign := by omega
      generalize hg : (bound - r.deg - psum r.steps p) * sign = g at *
      generalize hd : r.steps.sum * sign = d at *
      have q0 : 0 ≤ g / d := Int.ediv_nonneg g0 (Int.le_of_lt c2)
      refine ⟨g / d + 1, by omega, rfl, (bk _).mpr ?_, fun k' h0 h1 z => ?_⟩
      · have := Int.lt_ediv_add_one_mul_self g c2
        exact this
      · have z' := (bk _).mp z
        have hk : k' ≤ g / d := by omega
        have m := Int.mul_le_mul_of_nonneg_right hk (Int.le_of_lt c2)
        have m2 := Int.ediv_mul_le g (Int.ne_of_gt c2)
        omega
    · rw [if_neg c2]
      intro k' h0 z
      have z' := (bk _).mp z
      have hd : 0 ≤ -(r.steps.sum * sign) := by omega
      have m := Int.mul_nonneg h0 hd
      rw [Int.mul_neg] at m
      omega
theorem fb_mem {r : RunD} {bound sign : Int} {y : Int} {n : Nat} : y ∈ fbL r bound sign n ↔ ∃ p, p < n ∧ fbAt r bound sign p = some y := by
  unfold fbL
  simp only [List.mem_filterMap, List.mem_range]
theorem FB.some_ {r : RunD} (ok : RunOk r) {bound sign e : Int} (hs : sign = 1 ∨ sign = -1) (h : FB r bound sign (some e)) : r.beg ≤ e ∧ Beyond r bound sign e ∧ ∀ u, r.beg ≤ u → u < e → ¬ Beyond r bound sign u := by
  rcases h with ⟨h, _⟩ | ⟨m, h, hm, hle⟩
  · cases h
  · cases h
    obtain ⟨p, hp, hpe⟩ := fb_mem.mp hm
    have c := fb_class r ok (bound := bound) hs hp
    rw [hpe] at c
    obtain ⟨k, hk, he, hb, hno⟩ := c
    have kl : 0 ≤ k * (r.steps.length : Int) := Int.mul_nonneg hk (by omega)
    refine ⟨by omega, hb, fun u hu hlt hbu => ?_⟩
    obtain ⟨eu, u0, u1⟩ := pk_of r ok u
    generalize hq : (u - r.beg) % (r.steps.length : Int) = q at *
    generalize hk2 : (u - r.beg) / (r.steps.length : Int) = k2 at *
    have hqn : q.toNat < r.steps.length := by omega
    have c2 := fb_class r ok (bound := bound) hs hqn
    have k20 : 0 ≤ k2 := by rw [← hk2]; exact Int.ediv_nonneg (by omega) (by omega)
    have eq : ((q.toNat : Nat) : Int) = q := Int.toNat_of_nonneg u0
    cases hf : fbAt r bound sign q.toNat with
    | none =>
      rw [hf] at c2
      have := c2 k2 k20
      rw [eq, ← eu] at this
      exact this hbu
    | some y =>
      rw [hf] at c2
      obtain ⟨k3, hk3, hy, hby, hno3⟩ := c2
      have hey := hle y (fb_mem.mpr ⟨q.toNat, hqn, hf⟩)
      rw [eq] at hy hno3
      by_cases hkk : k2 < k3
      · have := hno3 k2 k20 hkk
        rw [← eu] at this
        exact this hbu
      · have m := Int.mul_le_mul_of_nonneg_right (show k3 ≤ k2 by omega) (show (0 : Int) ≤ r.steps.length by omega)
        omega
theorem FB.none_ {r : RunD} (ok : RunOk r) {bound sign : Int} (hs : sign = 1 ∨ sign = -1) (h : FB r bound sign none) : ∀ u, r.beg ≤ u → ¬ Beyond r bound sign u := by
  rcases h with ⟨_, h⟩ | ⟨m, h, _⟩
  · intro u hu hbu
    obtain ⟨eu, u0, u1⟩ := pk_of r ok u
    generalize hq : (u - r.beg) % (r.steps.length : Int) = q at *
    generalize hk2 : (u - r.beg) / (r.steps.length : Int) = k2 at *
    have hqn : q.toNat < r.steps.length := by omega
    have c2 := fb_class r ok (bound := bound) hs hqn
    have k20 : 0 ≤ k2 := by rw [← hk2]; exact Int.ediv_nonneg (by omega) (by omega)
    have eq : ((q.toNat : Nat) : Int) = q := Int.toNat_of_nonneg u0
    cases hf : fbAt r bound sign q.toNat with
    | none =>
      rw [hf] at c2
      have := c2 k2 k20
      rw [eq, ← eu] at this
      exact this hbu
    | some y =>
      have := fb_mem.mpr ⟨q.toNat, hqn, hf⟩
      rw [h] at this
      cases this
  · cases h
/-- one tick further -/
theorem at_succ (r : RunD) (ok : RunOk r) (u : Int) : ∃ x, r.steps[((u - r.beg) % r.steps.length).toNat]? = some x ∧ r.at_ (u + 1) = r.at_ u + x := by
  have op := ok.pos
  obtain ⟨eu, u0, u1⟩ := pk_of r ok u
  generalize hq : (u - r.beg) % (r.steps.length : Int) = q at *
  generalize hk : (u - r.beg) / (r.steps.length : Int) = k at *
  obtain ⟨x, hx⟩ := get_some (l := r.steps) (i := q.toNat) (by omega)
  refine ⟨x, hx, ?_⟩
  have a0 := at_pk r ok (p := q) (k := k) u0 u1
  rw [← eu] at a0
  rw [a0]
  by_cases hl : q + 1 < r.steps.length
  · have a1 := at_pk r ok (p := q + 1) (k := k) (by omega) hl
    have e1 : r.beg + (q + 1) + k * r.steps.length = u + 1 := by omega
    rw [e1] at a1
    rw [a1, show (q + 1).toNat = q.toNat + 1 by omega, psum_succ r.steps hx]
    omega
  · have a1 := at_pk r ok (p := 0) (k := k + 1) (Int.le_refl 0) (by omega)
    have e1 : r.beg + 0 + (k + 1) * r.steps.length = u + 1 := by
      rw [Int.add_mul, Int.one_mul]
      omega
    rw [e1] at a1
    have hs := psum_succ r.steps hx
    rw [show q.toNat + 1 = r.steps.length by omega, psum_all] at hs
    have e0 : psum r.steps (0 : Int).toNat = 0 := by simp [psum]
    rw [a1, e0, Int.add_mul, Int.one_mul]
    omega
end Wm
end

section
/-! ## Histories: chains of runs, their bounds, and that they end -/
namespace Wm
open PySem
structure Par where
  ch : List Int
  gain : Int
  lo : Int
  hi : Int
  start : Int
  was : Bool
structure ParOk (P : Par) : Prop where
  pos : 0 < P.ch.length
  len : P.ch.length ≤ 24
  chB : ∀ x ∈ P.ch, -100 ≤ x ∧ x ≤ 100
  g1 : 1 ≤ P.gain
  g2 : P.gain ≤ 200
  lh : P.lo ≤ P.hi
  lo1 : -(10 ^ 12) ≤ P.lo
  hi1 : P.hi ≤ 10 ^ 12
  s1 : -(10 ^ 12) ≤ P.start
  s2 : P.start ≤ 10 ^ 12
def Par.dec (P : Par) (d : Int) (b : Bool) : Bool := if d < P.lo then true else (b && decide (d ≤ P.hi))
structure S3 where
  t : Int
  d : Int
  on : Bool
def Par.heat (P : Par) (on : Bool) : Int := if on = true then P.gain else 0
def phase (P : Par) (t : Int) : Nat := (t % P.ch.length).toNat
def stepsOf (P : Par) (t : Int) (on : Bool) : List Int := (P.ch.drop (phase P t) ++ P.ch.take (phase P t)).map (· + P.heat on)
def runFrom (P : Par) (s : S3) (e : Option Int) : RunD := ⟨s.t, e, s.d, s.on, stepsOf P s.t s.on⟩
def bnd (P : Par) (on : Bool) : Int := if on = true then P.hi else P.lo
def sgn (on : Bool) : Int := if on = true then 1 else -1
def nextS (P : Par) (s : S3) (e : Int) : S3 := ⟨e, (runFrom P s none).at_ e, !s.on⟩
def start3 (P : Par) : S3 := ⟨0, P.start, P.dec P.start P.was⟩
inductive Chn (P : Par) : List RunD → S3 → Prop
  | nil : Chn P [] (start3 P)
  | snoc {rs : List RunD} {s : S3} {e : Int} : Chn P rs s → FB (runFrom P s none) (bnd P s.on) (sgn s.on) (some e) → Chn P (rs ++ [runFrom P s (some e)]) (nextS P s e)
def keyS (P : Par) (s : S3) : Int × Int × Bool := (s.t % P.ch.length, s.d, s.on)
def keyR (P : Par) (r : RunD) : Int × Int × Bool := (r.beg % P.ch.length, r.deg, r.on)
theorem sgn_or (on : Bool) : sgn on = 1 ∨ sgn on = -1 := by cases on; exact .inr rfl; exact .inl rfl
theorem phase_lt {P : Par} (ok : ParOk P) (t : Int) : phase P t < P.ch.length := by
  have := ok.pos
  have := Int.emod_nonneg t (show (P.ch.length : Int) ≠ 0 by omega)
  have := Int.emod_lt_of_pos t (show (0 : Int) < P.ch.length by omega)
  unfold phase
  omega
theorem phase_cast {P : Par} (ok : ParOk P) (t : Int) : ((phase P t : Nat) : Int) = t % P.ch.length := by
  have := ok.pos
  have := Int.emod_nonneg t (show (P.ch.length : Int) ≠ 0 by omega)
  unfold phase
  omega
theorem steps_len {P : Par} (ok : ParOk P) (t : Int) (on : Bool) : (stepsOf P t on).length = P.ch.length := by
  have := phase_lt ok t
  unfold stepsOf
  simp only [List.length_map, List.length_append, List.length_drop, List.length_take]
  omega
theorem heat_ge {P : Par} (ok : ParOk P) (on : Bool) : 0 ≤ P.heat on ∧ P.heat on ≤ 200 := by
  have := ok.g1
  have := ok.g2
  unfold Par.heat
  split <;> omega
theorem steps_mem {P : Par} (ok : ParOk P) {t : Int} {on : Bool} {x : Int} (h : x ∈ stepsOf P t on) : -100 + P.heat on ≤ x ∧ x ≤ 100 + P.heat on := by
  unfold stepsOf at h
  obtain ⟨y, hy, rfl⟩ := List.mem_map.mp h
  have hm : y ∈ P.ch := by
    rcases List.mem_append.mp hy with h | h
    · exact List.mem_of_mem_drop h
    · exact List.mem_of_mem_take h
  have := ok.chB y hm
  omega
theorem run_ok {P : Par} (ok : ParOk P) (s : S3) (e : Option Int) : RunOk (runFrom P s e) := by
  have hl : (runFrom P s e).steps.length = P.ch.length := steps_len ok _ _
  have h0 := ok.pos
  have h1 := ok.len
  have hg := heat_ge ok s.on
  refine ⟨by omega, by omega, fun x hx => ?_, fun x hx => ?_⟩
  · have := steps_mem ok (t := s.t) (on := s.on) hx; omega
  · have := steps_mem ok (t := s.t) (on := s.on) hx; omega
/-- what holds of each state at which a run begins -/
structure StOk (P : Par) (n : Nat) (s : S3) : Prop where
  t0 : 0 ≤ s.t
  t1 : s.t ≤ n * 10 ^ 14
  d0 : -(10 ^ 12) - 100 ≤ s.d
  d1 : s.d ≤ 10 ^ 12 + 300
  on_ : s.on = true → s.d ≤ P.hi
  off : s.on = false → P.lo ≤ s.d
  onI : 0 < n → s.on = true → P.lo - 100 ≤ s.d ∧ s.d < P.lo
  offI : 0 < n → s.on = false → P.hi < s.d ∧ s.d ≤ P.hi + 300
theorem start_ok {P : Par} (ok : ParOk P) : StOk P 0 (start3 P) := by
  have := ok.s1
  have := ok.s2
  have := ok.lh
  refine ⟨Int.le_refl 0, by show (0 : Int) ≤ _; omega, by show _ ≤ P.start; omega, by show P.start ≤ _; omega, fun h => ?_, fun h => ?_, fun h => absurd h (Nat.lt_irrefl 0), fun h => absurd h (Nat.lt_irrefl 0)⟩
  · have h : P.dec P.start P.was = true := h
    show P.start ≤ P.hi
    unfold Par.dec at h
    split at h
    · omega
    · rw [Bool.and_eq_true] at h
      exact of_decide_eq_true h.2
  · have h : P.dec P.start P.was = false := h
    show P.lo ≤ P.start
    unfold Par.dec at h
    split at h
    · cases h
    · omega
/-- not beyond: cold enough, warm enough -/
theorem beyond_on {P : Par} {s : S3} (h : s.on = true) {u : Int} : Beyond (runFrom P s none) (bnd P s.on) (sgn s.on) u ↔ P.hi < (runFrom P s none).at_ u := by
  unfold Beyond bnd sgn
  rw [h, if_pos rfl, if_pos rfl, Int.mul_one, Int.mul_one]
theorem beyond_off {P : Par} {s : S3} (h : s.on = false) {u : Int} : Beyond (runFrom P s none) (bnd P s.on) (sgn s.on) u ↔ (runFrom P s none).at_ u < P.lo := by
  unfold Beyond bnd sgn
  rw [h, if_neg Bool.false_ne_true, if_neg Bool.false_ne_true, Int.mul_neg_one, Int.mul_neg_one]
  omega
theorem not_beyond_beg {P : Par} (ok : ParOk P) {n : Nat} {s : S3} (h : StOk P n s) : ¬ Beyond (runFrom P s none) (bnd P s.on) (sgn s.on) s.t := by
  have e : (runFrom P s none).at_ s.t = s.d := at_beg (runFrom P s none) (run_ok ok s none)
  cases ho : s.on with
  | true => rw [← ho, beyond_on ho, e]; have := h.on_ ho; omega
  | false => rw [← ho, beyond_off ho, e]; have := h.off ho; omega
theorem fb_far {r : RunD} (ok : RunOk r) {bound sign e : Int} (hs : sign = 1 ∨ sign = -1) (h : FB r bound sign (some e)) (hb : -(10 ^ 12) ≤ bound ∧ bound ≤ 10 ^ 12) (hd : -(10 ^ 12) - 100 ≤ r.deg ∧ r.deg ≤ 10 ^ 12 + 300) : e ≤ r.beg + 10 ^ 14 := by
  rcases h with ⟨h, _⟩ | ⟨m, h, hm, _⟩
  · cases h
  · cases h
    obtain ⟨p, hp, hpe⟩ := fb_mem.mp hm
    have hl := ok.len
    unfold fbAt at hpe
    split at hpe
    · cases hpe; omega
    · split at hpe
      · cases hpe
        rename_i c1 c2
        have ps := ok.psumB p
        have g1 : (bound - r.deg - psum r.steps p) * sign ≤ 10 ^ 12 + 10 ^ 12 + 8000 := by rcases hs with rfl | rfl <;> omega
        have q1 : (bound - r.deg - psum r.steps p) * sign / (r.steps.sum * sign) ≤ (bound - r.deg - psum r.steps p) * sign := Int.ediv_le_self _ (by omega)
        generalize (bound - r.deg - psum r.steps p) * sign / (r.steps.sum * sign) = q at *
        have q2 : q + 1 ≤ 2000000008001 := by omega
        have m := Int.mul_le_mul_of_nonneg_right q2 (show (0 : Int) ≤ r.steps.length by omega)
        omega
      · cases hpe
theorem next_ok {P : Par} (ok : ParOk P) {n : Nat} {s : S3} {e : Int} (h : StOk P n s) (hf : FB (runFrom P s none) (bnd P s.on) (sgn s.on) (some e)) : s.t < e ∧ StOk P (n + 1) (nextS P s e) := by
  have rok := run_ok ok s none
  obtain ⟨f1, f2, f3⟩ := hf.some_ rok (sgn_or _)
  have f1 : s.t ≤ e := f1
  have nb := not_beyond_beg ok h
  have hlt : s.t < e := by
    rcases Int.lt_or_eq_of_le f1 with h | h
    · exact h
    · rw [h] at nb; exact absurd f2 nb
  have nb2 := f3 (e - 1) (show s.t ≤ e - 1 by omega) (by omega)
  have l1 := ok.lo1
  have h1 := ok.hi1
  have lh := ok.lh
  have d0 := h.d0
  have d1 := h.d1
  have far := fb_far rok (sgn_or _) hf (by unfold bnd; split <;> omega) ⟨h.d0, h.d1⟩
  have far : e ≤ s.t + 10 ^ 14 := far
  obtain ⟨x, hx, ha⟩ := at_succ (runFrom P s none) rok (e - 1)
  have hxm := steps_mem ok (t := s.t) (on := s.on) (List.mem_of_getElem? hx)
  rw [show e - 1 + 1 = e by omega] at ha
  have t0 := h.t0
  have t1 := h.t1
  have hg := heat_ge ok s.on
  cases ho : s.on with
  | true =>
    rw [beyond_on ho] at f2 nb2
    have eq : P.lo ≤ (runFrom P s none).at_ e := by omega
    have eq2 : (runFrom P s none).at_ e ≤ P.hi + 300 := by omega
    have no : (nextS P s e).on = false := by show (!s.on) = false; rw [ho]; rfl
    refine ⟨hlt, ⟨by show 0 ≤ e; omega, by show e ≤ _; omega, ?_, ?_, fun z => ?_, fun _ => eq, fun _ z => ?_, fun _ _ => ⟨f2, eq2⟩⟩⟩
    · show _ ≤ (runFrom P s none).at_ e; omega
    · show (runFrom P s none).at_ e ≤ _; omega
    · rw [no] at z; cases z
    · rw [no] at z; cases z
  | false =>
    rw [beyond_off ho] at f2 nb2
    have h0 : P.heat s.on = 0 := by rw [ho]; rfl
    have eq : (runFrom P s none).at_ e ≤ P.hi := by omega
    have eq2 : P.lo - 100 ≤ (runFrom P s none).at_ e := by omega
    have no : (nextS P s e).on = true := by show (!s.on) = true; rw [ho]; rfl
    refine ⟨hlt, ⟨by show 0 ≤ e; omega, by show e ≤ _; omega, ?_, ?_, fun _ => eq, fun z => ?_, fun _ _ => ⟨eq2, f2⟩, fun _ z => ?_⟩⟩
    · show _ ≤ (runFrom P s none).at_ e; omega
    · show (runFrom P s none).at_ e ≤ _; omega
    · rw [no] at z; cases z
    · rw [no] at z; cases z
theorem Chn.ok {P : Par} (ok : ParOk P) {rs : List RunD} {s : S3} (h : Chn P rs s) : StOk P rs.length s := by
  induction h with
  | nil => exact start_ok ok
  | snoc hc hf ih =>
    have := (next_ok ok ih hf).2
    simpa using this
/-- the run of number i of a chain -/
theorem Chn.at_ {P : Par} {rs : List RunD} {s : S3} (h : Chn P rs s) : ∀ {i : Nat} {r : RunD}, rs[i]? = some r → ∃ s' e, Chn P (rs.take i) s' ∧ r = runFrom P s' (some e) ∧ FB (runFrom P s' none) (bnd P s'.on) (sgn s'.on) (some e) ∧
    ((∃ r2, rs[i + 1]? = some r2 ∧ r2.beg = e ∧ r2.deg = (runFrom P s' none).at_ e ∧ r2.on = !s'.on) ∨ (i + 1 = rs.length ∧ s = nextS P s' e)) := by
  induction h with
  | nil => intro i r h; simp at h
  | @snoc rs s e hc hf ih =>
    intro i r hi
    by_cases hlt : i < rs.length
    · rw [List.getElem?_append_left hlt] at hi
      obtain ⟨s', e', h1, h2, h3, h4⟩ := ih hi
      refine ⟨s', e', by rw [List.take_append_of_le_length (Nat.le_of_lt hlt)]; exact h1, h2, h3, .inl ?_⟩
      rcases h4 with ⟨r2, h5, h6⟩ | ⟨h5, h6⟩
      · exact ⟨r2, by rw [List.getElem?_append_left (List.getElem?_eq_some_iff.mp h5).1]; exact h5, h6⟩
      · subst h6
        exact ⟨runFrom P (nextS P s' e') (some e), by rw [h5, List.getElem?_append_right (Nat.le_refl _)]; simp, rfl, rfl, rfl⟩
    · have hl := (List.getElem?_eq_some_iff.mp hi).1
      have e1 : i = rs.length := by simp at hl; omega
      subst e1
      rw [List.getElem?_append_right (Nat.le_refl _)] at hi
      simp at hi
      subst hi
      exact ⟨s, e, by simpa using hc, rfl, hf, .inr ⟨by simp, rfl⟩⟩
theorem pigeon : ∀ (n : Nat) (l : List Nat), l.Nodup → (∀ x ∈ l, x < n) → l.length ≤ n
  | 0, l, _, h => by
    cases l with
    | nil => exact Nat.le_refl 0
    | cons x l => exact absurd (h x List.mem_cons_self) (Nat.not_lt_zero _)
  | n + 1, l, nd, h => by
    by_cases hm : n ∈ l
    · have := pigeon n (l.erase n) (nd.erase n) (fun x hx => by
        have h1 := h x (List.mem_of_mem_erase hx)
        have h2 : x ≠ n := fun e => by
          rw [e, nd.mem_erase_iff] at hx
          exact hx.1 rfl
        omega)
      rw [List.length_erase_of_mem hm] at this
      omega
    · have := pigeon n l nd (fun x hx => by
        have h1 := h x hx
        have h2 : x ≠ n := fun e => hm (e ▸ hx)
        omega)
      omega
/-- a number of a key below 9,601: 0 for the first one -/
def codeK (P : Par) (k : Int × Int × Bool) : Nat := (k.1 * 400 + (if k.2.2 = true then k.2.1 - (P.lo - 100) else k.2.1 - (P.hi + 1) + 100)).toNat
theorem Chn.code {P : Par} (ok : ParOk P) {rs : List RunD} {s : S3} (h : Chn P rs s) {i : Nat} {r : RunD} (hi : rs[i + 1]? = some r) :
    ∃ q : Int, (codeK P (keyR P r) : Int) = (r.beg % P.ch.length) * 400 + q ∧ 0 ≤ q ∧ q < 400 ∧ (r.on = true → q = r.deg - (P.lo - 100) ∧ q < 100) ∧ (r.on = false → q = r.deg - (P.hi + 1) + 100 ∧ 100 ≤ q) := by
  obtain ⟨s', e, h1, rfl, _, _⟩ := h.at_ hi
  have so := h1.ok ok
  have hl : 0 < (rs.take (i + 1)).length := by
    have := (List.getElem?_eq_some_iff.mp hi).1
    rw [List.length_take]
    omega
  have m0 := Int.emod_nonneg s'.t (show (P.ch.length : Int) ≠ 0 by have := ok.pos; omega)
  cases ho : s'.on with
  | true =>
    have := so.onI hl ho
    refine ⟨s'.d - (P.lo - 100), ?_, by omega, by omega, fun _ => ⟨rfl, by omega⟩, fun z => absurd (ho.symm.trans z) (by decide)⟩
    show (((s'.t % P.ch.length) * 400 + (if s'.on = true then s'.d - (P.lo - 100) else s'.d - (P.hi + 1) + 100)).toNat : Int) = s'.t % P.ch.length * 400 + _
    rw [if_pos ho]
    omega
  | false =>
    have := so.offI hl ho
    refine ⟨s'.d - (P.hi + 1) + 100, ?_, by omega, by omega, fun z => absurd (ho.symm.trans z) (by decide), fun _ => ⟨rfl, by omega⟩⟩
    show (((s'.t % P.ch.length) * 400 + (if s'.on = true then s'.d - (P.lo - 100) else s'.d - (P.hi + 1) + 100)).toNat : Int) = s'.t % P.ch.length * 400 + _
    rw [if_neg (by rw [ho]; exact Bool.false_ne_true)]
    omega
theorem Chn.bound {P : Par} (ok : ParOk P) {rs : List RunD} {s : S3} (h : Chn P rs s) (nd : (rs.map (keyR P)).Nodup) : rs.length ≤ 9601 := by
  cases rs with
  | nil => exact Nat.zero_le _
  | cons r rs =>
    have nd2 : (rs.map (keyR P)).Nodup := (List.nodup_cons.mp nd).2
    have key : ∀ {i : Nat} {x : RunD}, rs[i]? = some x → _ := fun {i x} hi => h.code ok (i := i) (r := x) (by simpa using hi)
    have hl := ok.len
    have hp := ok.pos
    have nd3 : ((rs.map (keyR P)).map (codeK P)).Nodup := by
      rw [List.Nodup, List.pairwise_map]
      have nd2' := nd2
      rw [List.Nodup, List.pairwise_iff_getElem] at nd2'
      rw [List.pairwise_iff_getElem]
      intro i j hi hj hij e
      apply nd2' i j hi hj hij
      rw [List.getElem_map, List.getElem_map] at e ⊢
      have hi' : i < rs.length := by simpa using hi
      have hj' : j < rs.length := by simpa using hj
      obtain ⟨q1, a1, a2, a3, a4, a5⟩ := key (List.getElem?_eq_getElem hi')
      obtain ⟨q2, b1, b2, b3, b4, b5⟩ := key (List.getElem?_eq_getElem hj')
      generalize rs[i] = x at *
      generalize rs[j] = y at *
      rw [e] at a1
      have hq : q1 = q2 := by omega
      have hph : x.beg % (P.ch.length : Int) = y.beg % P.ch.length := by omega
      have hon : x.on = y.on := by
        cases hx : x.on <;> cases hy : y.on
        · rfl
        · have := (a5 hx).2; have := (b4 hy).2; omega
        · have := (a4 hx).2; have := (b5 hy).2; omega
        · rfl
      have hdeg : x.deg = y.deg := by
        cases hx : x.on
        · have := (a5 hx).1; have := (b5 (hon ▸ hx)).1; omega
        · have := (a4 hx).1; have := (b4 (hon ▸ hx)).1; omega
      unfold keyR
      rw [hph, hdeg, hon]
    have := pigeon 9600 _ nd3 (fun c hc => by
      obtain ⟨k, hk, rfl⟩ := List.mem_map.mp hc
      obtain ⟨x, hx, rfl⟩ := List.mem_map.mp hk
      obtain ⟨i, hi⟩ := List.mem_iff_getElem?.mp hx
      obtain ⟨q, a1, a2, a3, _⟩ := key hi
      have m1 := Int.emod_lt_of_pos x.beg (show (0 : Int) < P.ch.length by omega)
      omega)
    simp only [List.length_map] at this
    simp only [List.length_cons]
    omega
/-- a whole history -/
structure HistOk (P : Par) (rs : List RunD) (loop : Option Int) : Prop where
  par : ParOk P
  nd : (rs.map (keyR P)).Nodup
  shape : (loop = none ∧ ∃ rs0 s, Chn P rs0 s ∧ rs = rs0 ++ [runFrom P s none] ∧ FB (runFrom P s none) (bnd P s.on) (sgn s.on) none) ∨
    (∃ (j : Nat) (r : RunD) (s : S3), loop = some (j : Int) ∧ Chn P rs s ∧ rs[j]? = some r ∧ keyR P r = keyS P s)
end Wm
end

section
/-! ## More rules -/
namespace Wm
open PySem PySem.Spec PyProof.Rows L2 StX
section
variable {K : PySem.W.Frag} {G H : Hp} {mu : Mu} {Q : VK} {xs ys : List V} {a b : Addr} {σ : L2.St} {D : Ends}
theorem r_yes {QT : Bool → Hp → Prop} (k : QT true H) : tYes σ H QT := k
theorem ints_snoc {L : List Int} {i : Nat} {z : Int} (h : L[i]? = some z) : (L.take i).map V.int ++ [V.int z] = (L.take (i + 1)).map V.int := by
  rw [take_one h, List.map_append] <;> rfl
theorem r_par2 {i j : Nat} {tr : TA} (k : tr σ H fun vs H1 => ∃ v w, vs = [v, w] ∧ D.nx ((σ.set i (some v)).set j (some w)) H1) : tPar i j tr D σ H := k
theorem r_par3 {i j l : Nat} {ta : TA} (k : ta σ H fun vs H1 => ∃ u v w, vs = [u, v, w] ∧ D.nx (((σ.set i (some u)).set j (some v)).set l (some w)) H1) : tPar3 i j l ta D σ H := k
theorem r_three {P : V → V → V → Prop} {x y z : V} (k : P x y z) : ∃ u v w, [x, y, z] = [u, v, w] ∧ P u v w := ⟨x, y, z, rfl, k⟩
theorem catA_G (hh : Hold G mu H) (h1 : SqT K G a xs) (h2 : SqT K G b ys) (hz : xs.length + ys.length ≤ sizeLine) (k : ∀ p G' H', Ex G G' → SqT K G' p (xs ++ ys) → Hold G' mu H' → Q (.ref p) H') : rCatA K (.ref a) (.ref b) H Q := by
  refine ⟨a, b, xs, ys, rfl, rfl, hh.tup h1, hh.tup h2, hz, fun e => ?_, fun _ e => ?_, fun _ _ p hp => k p _ _ (Ex.new (hh.g_none hp)) (SqT.of_ upd_same) (hh.new hp)⟩
  · subst e
    exact k b G H (Ex.refl G) h2 hh
  · subst e
    exact k a G H (Ex.refl G) (by rw [List.append_nil]; exact h1) hh
theorem slA_G {lo hi : Option Int} (hh : Hold G mu H) (h : SqT K G a xs) (k : ∀ p G' H', Ex G G' → SqT K G' p (cutV xs lo hi) → Hold G' mu H' → Q (.ref p) H') : rSlA K (.ref a) lo hi H Q := by
  refine ⟨a, xs, rfl, hh.tup h, fun e => ?_, fun _ p hp => k p _ _ (Ex.new (hh.g_none hp)) (SqT.of_ upd_same) (hh.new hp)⟩
  refine k a G H (Ex.refl G) ?_ hh
  have : cutV xs lo hi = xs := by
    unfold cutV
    rw [e.1, e.2]
    simp
  rw [this]
  exact h
theorem seenNew_m {P : Program} {w : World} (hh : Hold G mu H) (k : ∀ p H', Hold G ((p, SeenO P w p []) :: mu) H' → Q (.ref p) H') : tSeenNew P w σ H Q := fun p hp => k p _ (hh.newm hp)
def rSeenPut (P : Program) (w : World) (D : Ends) (σ : L2.St) (z x y : V) (H3 : Hp) : Prop := ∃ (a t : Addr) (ks : List (K3 × Addr)) (k : K3), z = .int (ks.length : Int) ∧ x = .ref a ∧ y = .ref t ∧ H3 a = some (SeenO P w a ks) ∧ H3 t = some (.tup (tv3 k)) ∧
  (∀ q ∈ ks, H3 q.2 = some (.tup (tv3 q.1))) ∧ k ∉ ks.map (·.1) ∧ ks.length < sizeLine ∧ D.nx σ (upd H3 a (SeenO P w a (ks ++ [(k, t)])))
theorem r_seenPut {P : Program} {w : World} {td ty tv : TE} (k : tv σ H fun z H1 => td σ H1 fun x H2 => ty σ H2 fun y H3 => rSeenPut P w D σ z x y H3) : sSeenPut P w td ty tv D σ H := k
theorem r_seenGet {P : Program} {w : World} {td ty : TE} (k : td σ H fun x H1 => ty σ H1 fun y H2 => rSeenGet P w x y H2 Q) : tSeenGet P w td ty σ H Q := k
theorem cut_from (xs : List V) {i : Int} {n : Nat} (h : i = (n : Int)) (hn : n ≤ xs.length) : cutV xs (some i) none = xs.drop n := by
  subst h
  unfold cutV
  rw [HT.sIx_nat, HT.sIx_none, Nat.min_eq_left hn]
  exact List.take_of_length_le (by simp)
theorem cut_to (xs : List V) {i : Int} {n : Nat} (h : i = (n : Int)) (hn : n ≤ xs.length) : cutV xs none (some i) = xs.take n := by
  subst h
  unfold cutV
  rw [HT.sIx_nat, HT.sIx_none, Nat.min_eq_left hn]
  simp
end
end Wm
end

section
/-! ## super() in a method: defs that close over their class -/
namespace Wm
open PySem PySem.Spec PyProof.Rows L2 StX PySem.W
abbrev nfS (x qual : Str) (st : Stmt) (cc c : Addr) : NdefX.NF := ⟨x, qual, defArgs st, defBody st, defScope st, [("__class__", cc)], c⟩
/-- a def at f whose one free name is __class__; D: its class; cc: the cell; c: its code object -/
structure FunS (P : Program) (K : Frag) (x qual : Str) (st : Stmt) (kws : List (Str × V)) (f D cc c : Addr) (fd : FuncData) : Prop where
  ex : ∃ (oc : Value) (od : Option Addr) (kV doc pm : Value) (an : Option Addr) (ct : Value) (osl : Array (Option Value)),
    fd = fnX x qual (defArgs st) (defBody st) (defScope st) [("__class__", cc)] .none kV doc pm an (.ref c) ct ∧ K.lookup f = some ⟨oc, od, .func fd, osl⟩ ∧ codeIn K (.ref c) qual = true ∧ KwdV K kV kws
  kp : keepIn K (.ref f) = true
  cell : ∃ (cl : Value) (cld : Option Addr) (csl : Array (Option Value)), K.lookup cc = some ⟨cl, cld, .cell (some (.ref D)), csl⟩
  file : ∃ (ccl : Value) (cdd : Option Addr) (vs : Array Value) (ccs : Array (Option Value)) (file : Str) (tf : Tok), K.lookup c = some ⟨ccl, cdd, .fields vs, ccs⟩ ∧ vs[2]? = some (.str file tf) ∧ ((P.main.file : Str) == file) = true
  top : (P.main.scope.names.lookup ("super" : Str)).isSome = false
/-- what is known of the classes: the class C of the object that calls, whose method m behind D is g -/
structure SupC (K : Frag) (C D : Addr) (m : Str) (g : Addr) : Prop where
  cls : ∃ cd, clsIn K D = some cd
  sub : mroIn K C (.ref D) = some true
  at_ : ks_superIn K C D m = some (some (.ref g))
  ty : typeIn K (.ref g) = some (.type "function")
  fi : fnIn K g = true
  op : nsIn K cStatics "thirdparty.any" = some none
/-! ### the judgement of code that knows where it runs -/
structure QE (X : Cx) (b : List Stmt) (e : Expr) (t : TE) : Prop where
  run : ∀ (pins : List (Addr × Obj)) (s : Shared) (σ : L2.St) (H : Hp) (Q : VK), Inv X pins σ H s → t σ H Q → _root_.PySem.wpAt (model X.prog X.w) X.A (.func b X.env) (eval e X.env) (EP X pins σ Q) X.xe s
structure QS (X : Cx) (b : List Stmt) (st : Stmt) (t : TS) : Prop where
  run : ∀ (pins : List (Addr × Obj)) (s : Shared) (σ : L2.St) (H : Hp) (D : Ends), Inv X pins σ H s → t D σ H → _root_.PySem.wpAt (model X.prog X.w) X.A (.func b X.env) (exec st X.env) (SP X pins D) X.xe s
structure QSs (X : Cx) (b : List Stmt) (st : List Stmt) (t : TS) : Prop where
  run : ∀ (pins : List (Addr × Obj)) (s : Shared) (σ : L2.St) (H : Hp) (D : Ends), Inv X pins σ H s → t D σ H → _root_.PySem.wpAt (model X.prog X.w) X.A (.func b X.env) (execs st X.env) (SP X pins D) X.xe s
section
variable {X : Cx} {b : List Stmt} {st : Stmt} {rest : List Stmt} {t u : TS} {e : Expr} {te : TE} {pos : Pos}
theorem qs_of (h : PS X st t) : QS X b st t := ⟨fun pins s σ H D I ht => wpAt_of_wpAny (h.run pins s σ H D I ht)⟩
theorem qss_of (h : PSs X rest t) : QSs X b rest t := ⟨fun pins s σ H D I ht => wpAt_of_wpAny (h.run pins s σ H D I ht)⟩
theorem qss_cons (h1 : QS X b st t) (h2 : QSs X b rest u) : QSs X b (st :: rest) (tSeq t u) := by
  refine ⟨fun pins s σ H D I h => ?_⟩
  refine ks_wpAt_execs_cons (ks_wpAt_mono (h1.run pins s σ H { D with nx := u D } I h) (fun f s1 q => ?_) fun _ _ z => z)
  cases f with
  | next =>
    obtain ⟨σ1, H1, I1, q⟩ := q
    exact h2.run pins s1 σ1 H1 D I1 q
  | ret v => exact q
  | brk => exact q
  | cont => exact q
theorem qs_expr (he : QE X b e te) (hs : swapsWith e none pos.line X.env = pure false := by rfl) : QS X b (.Expr e pos) (tDrop te) := by
  refine ⟨fun pins s σ H D I h => ?_⟩
  exact ks_wpAt_Expr_any (ks_wpAt_mono (he.run pins s σ H _ I h) (fun v s1 ⟨x, H1, I1, r1, q1⟩ => ⟨σ, H1, I1, q1⟩) fun _ _ z => z) I.quiet hs
theorem qs_set {i : Nat} {x : Str} {pos' : Pos} (hN : X.N.Nodup) (hi : X.N[i]? = some x) (hx : Loc X.env.scope x) (he : QE X b e te) (hs : swapsWith e (some (.Name x pos')) pos.line X.env = pure false := by rfl) (hf : X.fn x = true ∨ X.env.scope.names.lookup x = some .local := by first | exact .inl rfl | exact .inr rfl | assumption) :
    QS X b (.Assign [.Name x pos'] e pos) (tAsg te (gName i)) := by
  refine ⟨fun pins s σ H D I h => ?_⟩
  refine ks_wpAt_Assign_Name (ks_wpAt_mono (he.run pins s σ H _ I h) (fun v s1 ⟨y, H1, I1, r1, q1⟩ => ?_) fun _ _ z => z) hs
  exact store_ok I1 hN hi hx r1 (fun s2 I2 => ⟨_, H1, I2, q1⟩) hf
end
/-- super().m(e, ..); self stands in the first slot, its class is C -/
def tSup (C : Addr) (sp : Sp) (E : XK) (t : TA) : TE := fun σ H Q => ∃ x dx fs, σ[0]? = some (some (.ref x)) ∧ H x = some (.ins C dx fs) ∧ t σ H fun vs H2 => sp (.ref x :: vs) H2 Q E
section
variable {X : Cx} {b : List Stmt} {CX : CXT} {k : Nat} {x qual m : Str} {st : Stmt} {kws : List (Str × V)} {f D cc c C g : Addr} {fd : FuncData} {sp : Sp} {E : XK} {e : Expr} {es : List Expr} {p0 p1 apos pos : Pos} {t : TA} {pl : Sem Bool}
theorem qe_super (hF : FunS X.prog X.K x qual st kws f D cc c fd) (hS : SupC X.K C D m g) (F : FnR X.prog X.w X.K X.mg X.base CX k g sp) (hr : Room k X.A) (hx : Passes CX X E) (ha : PA X (e :: es) t) (hmg : X.mg "super" = none) {ar : Arg} (hp : ((defArgs st).posonlyargs ++ (defArgs st).args).head? = some ar) (hN : X.N[0]? = some ar.arg)
    (hka : X.env.kindOf ar.arg = some .local) (hks : X.env.kindOf "super" = some .globalImplicit) (hkc : X.env.kindOf "__class__" = some .free) (hat : (m == ("__class__" : Str)) = false := by decide)
    (hfu : X.env.func = some f := by rfl) (hco : X.env.code = .ref c := by rfl) (hcl : X.env.cells.lookup ("__class__" : Str) = some cc := by rfl)
    (hst : starEach (e :: es) X.env = (false, eval e X.env) :: starEach es X.env := by rfl) (hpl : (backTo pos (starEach es X.env)).any (·.1) = false := by rfl)
    (ht : eval (.Call (.Attribute (.Call (.Name "super" p0) [] [] p1) m apos) (e :: es) [] pos) X.env = (do
      let ov ← attributeBase (.Call (.Name "super" p0) [] [] p1) m X.env (eval (.Call (.Name "super" p0) [] [] p1) X.env)
      standAt apos.atName
      let (f, first) ← holding [ov] (getMethod ov m pl)
      callWith pos f first (backTo pos (starEach (e :: es) X.env)) []) := by rfl) :
    QE X b (.Call (.Attribute (.Call (.Name "super" p0) [] [] p1) m apos) (e :: es) [] pos) (tSup C sp E t) := by
  refine ⟨fun pins s σ H Q I h => ?_⟩
  obtain ⟨a, dx, fs, e0, ea, h⟩ := h
  obtain ⟨oc, od, kV, doc, pm, an, ct, osl, efd, lk, hcd, _⟩ := hF.ex
  obtain ⟨cl, cld, csl, hcell⟩ := hF.cell
  obtain ⟨ccl, cdd, vs, ccs, file, tf, hcode, hvs, hfile⟩ := hF.file
  obtain ⟨cdD, hD⟩ := hS.cls
  have KX := I.kIn
  refine ks_wpAt_MethodCall (pl := pl) ?_ ht
  refine ks_wpAt_super_base (of := ⟨oc, od, .func fd, osl⟩) (fd := fd) (ar := ar) hks hkc hat hfu (KX _ _ lk) rfl (by rw [efd]; exact hp) hco (KX _ _ hcode) rfl hvs hfile hF.top ?_
  obtain ⟨mb, h1, h2⟩ := I.mod.blt
  refine ks_loadName_global I.ok.kind hks (Calls.loadGlobal_builtin (by rw [I.ok.glob]; exact I.mod.glob.keeps I.bk) hmg (by rw [I.ok.blt]; exact h1.keeps I.bk) ((h2 "super" (by decide)).trans (by first | rfl | decide +kernel)) ⟨rfl, ?_⟩)
  refine wpAny_loadName_free I.ok.kind hkc hcl ⟨_, KX _ _ hcell, rfl⟩ ?_
  obtain ⟨mL, hns, hl⟩ := I.loc
  obtain ⟨u, ru, lk0⟩ := hl 0 ar.arg _ hN e0 (.inl hka)
  obtain rfl : u = Value.ref a := ru
  have hmv : mL ar.arg = some (.ref a) := by
    rcases lk0 with ⟨_, z⟩ | ⟨z, _⟩
    · exact z
    · rcases z with z | z <;> rw [hka] at z <;> cases z
  refine wpAny_loadName_local I.ok.kind hka hns hmv ?_
  obtain ⟨oD, hD1, hD2⟩ : ∃ oD, s.heap.get? D = some oD ∧ oD.data = .cls cdD := by
    unfold clsIn at hD
    split at hD
    · rename_i c1 d1 cd1 sl1 ho
      cases hD
      exact ⟨_, KX _ _ ho, rfl⟩
    · cases hD
  obtain ⟨mA, O, _, _, _, _⟩ := L2.ins_get I.hok ea
  obtain ⟨odx, J, _⟩ := O.look
  obtain ⟨hh, gg, dd, tt, os⟩ := s
  refine ks_wpAny_isType_cls hD1 hD2 ⟨rfl, ?_⟩
  refine ks_wpAny_call_super hD1 hD2 J.at_ J.cls (fun c2 e2 => ?_) (looks_mroIn KX hS.sub) (fun h' e' k' => ?_)
  · have := J.no
    unfold notCls at this
    rw [e2] at this
    exact Bool.noConfusion this
  have I1 : Inv X pins σ H ⟨h', gg, dd, tt, os⟩ := I.kept (t' := tt) k'
  have KX1 := I1.kIn
  have J1 : InstAt h' a (instObj C dx) C (some odx) := by
    obtain ⟨q1, q2, q3, q4⟩ := J
    exact ⟨k' _ _ q1, q2, q3, k' _ _ q4⟩
  have hm := hS.at_
  cases hc : clsIn X.K C with
  | none => unfold ks_superIn at hm; rw [hc] at hm; cases hm
  | some cd =>
    unfold ks_superIn at hm
    rw [hc] at hm
    obtain ⟨of, hof, hofc⟩ : ∃ of, h'.get? g = some of ∧ of.cls = .type "function" := by
      have ht' : (X.K.lookup g).map (·.cls) = some (.type "function") := hS.ty
      cases z : X.K.lookup g with
      | none => rw [z] at ht'; cases ht'
      | some of => rw [z] at ht'; exact ⟨of, KX1 _ _ z, Option.some.inj ht'⟩
    refine ks_wpAny_getMethod_super e' (looks_opaque KX1 hS.op) (l₀ := cd.mro) ?_ rfl KX1 hm hof hofc (ks_ne KX1 J1 hc) hat ?_
    · exact fun A Q E s k q => wpAny_bind ((looks_clsIn KX1 hc) A _ E s k (wpAny_pure q))
    · have I2 := ClX.met_new (g := g) (C := a) I1
      refine ClX.callwith_cm I2 (ClX.base_none I1 (Nat.le_refl _)) hS.fi (thn (ha.run pos _ _ σ H _ I2 h) fun us s3 ⟨ws, H2, I3, rv, q2⟩ => ⟨⟨ClX.pin_at I3, I3.kIn⟩, ?_⟩) hst hpl
      exact ClX.run_cm F hr hx I3 rv q2
end
end Wm
end

section
local macro_rules | `(tactic| walk_at "WHistcls") => `(tactic| first | (with_reducible exact Wm.WeatherC.cl (by assumption)) | (with_reducible exact Wm.HeaterC.cl (by assumption)) | (with_reducible exact Wm.RoomC.cl (by assumption)) | (with_reducible exact Wm.RunC.cl (by assumption)) | (with_reducible exact Wm.HistoryC.cl (by assumption)) | (with_reducible exact Wm.ThresholdObserverC.cl (by assumption)) | (with_reducible exact Wm.SettingC.cl (by assumption)) | (with_reducible exact Wm.HourSettingC.cl (by assumption)) | (with_reducible exact Wm.RestSettingC.cl (by assumption)) | (with_reducible exact Wm.PricesC.cl (by assumption)) | (with_reducible exact Wm.MomentC.cl (by assumption)) | (with_reducible exact Wm.LiveRoomC.cl (by assumption)) | (with_reducible exact Wm.AttemptC.cl (by assumption)))
local macro_rules | `(tactic| walk_at "WHistnoattr") => `(tactic| first | (with_reducible exact Wm.WeatherC.n_pattern (by assumption)) | (with_reducible exact Wm.HeaterC.n_power (by assumption)) | (with_reducible exact Wm.HeaterC.n_below (by assumption)) | (with_reducible exact Wm.HeaterC.n_above (by assumption)) | (with_reducible exact Wm.RoomC.n_outside (by assumption)) | (with_reducible exact Wm.RoomC.n_inside (by assumption)) | (with_reducible exact Wm.RoomC.n_begin_degrees (by assumption)) | (with_reducible exact Wm.RoomC.n_past (by assumption)) | (with_reducible exact Wm.RoomC.n_repeated (by assumption)) | (with_reducible exact Wm.RoomC.n_share (by assumption)) | (with_reducible exact Wm.RoomC.n_coldest (by assumption)) | (with_reducible exact Wm.RoomC.n_warmest (by assumption)) | (with_reducible exact Wm.RunC.n_begin (by assumption)) | (with_reducible exact Wm.RunC.n_end (by assumption)) | (with_reducible exact Wm.RunC.n_degrees (by assumption)) | (with_reducible exact Wm.RunC.n_is_heating (by assumption)) | (with_reducible exact Wm.RunC.n_sums (by assumption)) | (with_reducible exact Wm.RunC.n_size (by assumption)) | (with_reducible exact Wm.RunC.n_drift (by assumption)) | (with_reducible exact Wm.HistoryC.n_shifts (by assumption)) | (with_reducible exact Wm.HistoryC.n_added (by assumption)) | (with_reducible exact Wm.HistoryC.n_floor (by assumption)) | (with_reducible exact Wm.HistoryC.n_ceiling (by assumption)) | (with_reducible exact Wm.HistoryC.n_was_heating (by assumption)) | (with_reducible exact Wm.HistoryC.n_runs (by assumption)) | (with_reducible exact Wm.HistoryC.n_loop (by assumption)) | (with_reducible exact Wm.ThresholdObserverC.n_outside (by assumption)) | (with_reducible exact Wm.ThresholdObserverC.n_power (by assumption)) | (with_reducible exact Wm.ThresholdObserverC.n_tick (by assumption)) | (with_reducible exact Wm.ThresholdObserverC.n_degrees (by assumption)) | (with_reducible exact Wm.ThresholdObserverC.n_is_heating (by assumption)) | (with_reducible exact Wm.ThresholdObserverC.n_lows (by assumption)) | (with_reducible exact Wm.ThresholdObserverC.n_highs (by assumption)) | (with_reducible exact Wm.ThresholdObserverC.n_noted (by assumption)) | (with_reducible exact Wm.SettingC.n_least (by assumption)) | (with_reducible exact Wm.SettingC.n_most (by assumption)) | (with_reducible exact Wm.HourSettingC.n_least (by assumption)) | (with_reducible exact Wm.HourSettingC.n_most (by assumption)) | (with_reducible exact Wm.HourSettingC.n_length (by assumption)) | (with_reducible exact Wm.HourSettingC.n_hours (by assumption)) | (with_reducible exact Wm.RestSettingC.n_least (by assumption)) | (with_reducible exact Wm.RestSettingC.n_most (by assumption)) | (with_reducible exact Wm.RestSettingC.n_rest (by assumption)) | (with_reducible exact Wm.PricesC.n_table (by assumption)) | (with_reducible exact Wm.MomentC.n_tick (by assumption)) | (with_reducible exact Wm.MomentC.n_heat (by assumption)) | (with_reducible exact Wm.MomentC.n_on (by assumption)) | (with_reducible exact Wm.MomentC.n_burnt (by assumption)) | (with_reducible exact Wm.MomentC.n_sky (by assumption)) | (with_reducible exact Wm.MomentC.n_stove (by assumption)) | (with_reducible exact Wm.LiveRoomC.n_moment (by assumption)) | (with_reducible exact Wm.LiveRoomC.n_earlier (by assumption)) | (with_reducible exact Wm.LiveRoomC.n_done (by assumption)) | (with_reducible exact Wm.AttemptC.n_live (by assumption)) | (with_reducible exact Wm.AttemptC.n_kept (by assumption)) | (with_reducible exact Wm.AttemptC.n_stack (by assumption)) | (with_reducible exact Wm.AttemptC.n_steps (by assumption)))
local macro_rules | `(tactic| walk_at "WHistat") => `(tactic| first | assumption | exact Wm.Hold.rd (by assumption) (by assumption) | exact Wm.Hold.get (i := 0) (by assumption) rfl | exact Wm.Hold.get (i := 1) (by assumption) rfl | exact Wm.Hold.get (i := 2) (by assumption) rfl | exact Wm.Hold.get (i := 3) (by assumption) rfl | exact Wm.Hold.get (i := 4) (by assumption) rfl)
local macro_rules | `(tactic| walk_at "WHists1") => `(tactic| (with_reducible refine Wm.r_I (by show (0 : Int) < _; decide) ?_))
local macro_rules | `(tactic| walk_at "WHists1") => `(tactic| (with_reducible refine Wm.r_I Wm.cpow12 ?_))
local macro_rules | `(tactic| walk_at "WHists1") => `(tactic| (with_reducible refine Wm.r_I Wm.cpow18 ?_))
local macro_rules | `(tactic| walk_at "WHists1") => `(tactic| (with_reducible refine Wm.r_I (Wm.cdiv (by decide) (by decide)) ?_))
local macro_rules | `(tactic| walk_at "WHists1") => `(tactic| (with_reducible refine Wm.r_I (Wm.cmulL (by decide)) ?_))
local macro_rules | `(tactic| walk_at "WHists1") => `(tactic| (with_reducible refine Wm.r_I (Wm.cmulR (by decide)) ?_))
local macro_rules | `(tactic| walk_at "WHists1") => `(tactic| ((with_reducible refine' Wm.gtup_h ?a ?b ?_); (case a => walk_at "WHistat"); (case b => rfl)))
local macro_rules | `(tactic| walk_at "WHists1") => `(tactic| ((with_reducible refine' Wm.len_t ?a ?b ?_); (case a => assumption); (case b => assumption)))
local macro_rules | `(tactic| walk_at "WHists1") => `(tactic| ((with_reducible refine' Wm.len_l ?a ?b ?_); (case a => assumption); (case b => assumption)))
local macro_rules | `(tactic| walk_at "WHists1") => `(tactic| ((with_reducible refine' Wm.len_h ?a ?_); (case a => walk_at "WHistat")))
local macro_rules | `(tactic| walk_at "WHists1") => `(tactic| ((with_reducible refine' Wm.len_ht ?a ?_); (case a => walk_at "WHistat")))
local macro_rules | `(tactic| walk_at "WHists1") => `(tactic| ((with_reducible refine' Wm.rix_h ?a ?b ?_); (case a => walk_at "WHistat"); (case b => rfl)))
local macro_rules | `(tactic| walk_at "WHists1") => `(tactic| ((with_reducible refine' Wm.rix_ht ?a ?b ?_); (case a => walk_at "WHistat"); (case b => rfl)))
local macro_rules | `(tactic| walk_at "WHists1") => `(tactic| ((with_reducible refine' Wm.prp_h ?e ?_); (case e => walk_at "WHistat")))
local macro_rules | `(tactic| walk_at "WHists1") => `(tactic| ((with_reducible refine' Wm.mtd_h ?e ?l ?_); (case e => walk_at "WHistat"); (case l => rfl)))
local macro_rules | `(tactic| walk_at "WHists1") => `(tactic| ((with_reducible refine' Wm.fld_h ?e ?c ?n ?l ?_); (case e => walk_at "WHistat"); (case c => walk_at "WHistcls"); (case n => walk_at "WHistnoattr"); (case l => rfl)))
local macro_rules | `(tactic| walk_at "WHists1") => `(tactic| (with_reducible refine Wm.r_lcR2 ?_))
local macro_rules | `(tactic| walk_at "WHists1") => `(tactic| (with_reducible refine Wm.r_lcR1 ?_))
local macro_rules | `(tactic| walk_at "WHists1") => `(tactic| (with_reducible refine Wm.r_lcT ?_))
local macro_rules | `(tactic| walk_at "WHists1") => `(tactic| (with_reducible refine Wm.r_lcL ?_))
local macro_rules | `(tactic| walk_at "WHists1") => `(tactic| (with_reducible refine Wm.r_forR2 ?_))
local macro_rules | `(tactic| walk_at "WHists1") => `(tactic| (with_reducible refine Wm.r_forR1 ?_))
local macro_rules | `(tactic| walk_at "WHists1") => `(tactic| (with_reducible refine Wm.r_forT ?_))
local macro_rules | `(tactic| walk_at "WHists1") => `(tactic| (with_reducible refine Wm.r_forL ?_))
local macro_rules | `(tactic| walk_at "WHists1") => `(tactic| ((with_reducible refine' Wm.setF_m ?h 3 ?e ?c ?a ?l ?_); (case h => assumption); (case e => rfl); (case c => walk_at "WHistcls"); (case a => walk_at "WHistnoattr"); (case l => exact of_decide_eq_true rfl); intro H1 hh1; simp only [List.set_cons_zero, List.set_cons_succ] at hh1))
local macro_rules | `(tactic| walk_at "WHists1") => `(tactic| ((with_reducible refine' Wm.setF_m ?h 2 ?e ?c ?a ?l ?_); (case h => assumption); (case e => rfl); (case c => walk_at "WHistcls"); (case a => walk_at "WHistnoattr"); (case l => exact of_decide_eq_true rfl); intro H1 hh1; simp only [List.set_cons_zero, List.set_cons_succ] at hh1))
local macro_rules | `(tactic| walk_at "WHists1") => `(tactic| ((with_reducible refine' Wm.setF_m ?h 1 ?e ?c ?a ?l ?_); (case h => assumption); (case e => rfl); (case c => walk_at "WHistcls"); (case a => walk_at "WHistnoattr"); (case l => exact of_decide_eq_true rfl); intro H1 hh1; simp only [List.set_cons_zero, List.set_cons_succ] at hh1))
local macro_rules | `(tactic| walk_at "WHists1") => `(tactic| ((with_reducible refine' Wm.setF_m ?h 0 ?e ?c ?a ?l ?_); (case h => assumption); (case e => rfl); (case c => walk_at "WHistcls"); (case a => walk_at "WHistnoattr"); (case l => exact of_decide_eq_true rfl); intro H1 hh1; simp only [List.set_cons_zero, List.set_cons_succ] at hh1))
local macro_rules | `(tactic| walk_at "WHists1") => `(tactic| ((with_reducible refine' Wm.r_ty ?e ?_); (case e => walk_at "WHistat")))
local macro_rules | `(tactic| walk_at "WHists1") => `(tactic| (with_reducible refine Wm.notN ?_))
local macro_rules | `(tactic| walk_at "WHists1") => `(tactic| (with_reducible refine Wm.isN ?_))
local macro_rules | `(tactic| walk_at "WHists1") => `(tactic| (with_reducible refine Wm.abs1 ?_))
local macro_rules | `(tactic| walk_at "WHists1") => `(tactic| (with_reducible refine Wm.max2 ?_))
local macro_rules | `(tactic| walk_at "WHists1") => `(tactic| (with_reducible refine Wm.min2 ?_))
local macro_rules | `(tactic| walk_at "WHists1") => `(tactic| (with_reducible refine Wm.int_b ?_))
local macro_rules | `(tactic| walk_at "WHists1") => `(tactic| (with_reducible refine Wm.int_i ?_))
local macro_rules | `(tactic| walk_at "WHists1") => `(tactic| (with_reducible refine Wm.r_app ?_))
local macro_rules | `(tactic| walk_at "WHists1") => `(tactic| (with_reducible refine Wm.r_setF ?_))
local macro_rules | `(tactic| walk_at "WHists1") => `(tactic| (with_reducible refine Wm.r_sub ?_))
local macro_rules | `(tactic| walk_at "WHists1") => `(tactic| (with_reducible refine Wm.r_gnil ?_))
local macro_rules | `(tactic| walk_at "WHists1") => `(tactic| (with_reducible refine Wm.r_gcons ?_))
local macro_rules | `(tactic| walk_at "WHists1") => `(tactic| (with_reducible refine Wm.r_xi ?_))
local macro_rules | `(tactic| walk_at "WHists1") => `(tactic| (with_reducible refine Wm.r_part ?_))
local macro_rules | `(tactic| walk_at "WHists1") => `(tactic| (with_reducible refine Wm.r_nopart ?_))
local macro_rules | `(tactic| walk_at "WHists1") => `(tactic| (with_reducible refine Wm.r_sl ?_))
local macro_rules | `(tactic| walk_at "WHists1") => `(tactic| (with_reducible refine Wm.r_three ?_; try simp only [List.set_cons_zero, List.set_cons_succ]))
local macro_rules | `(tactic| walk_at "WHists1") => `(tactic| (with_reducible refine Wm.r_seenGet ?_))
local macro_rules | `(tactic| walk_at "WHists1") => `(tactic| (with_reducible refine Wm.r_seenPut ?_))
local macro_rules | `(tactic| walk_at "WHists1") => `(tactic| (with_reducible refine Wm.r_par3 ?_))
local macro_rules | `(tactic| walk_at "WHists1") => `(tactic| (with_reducible refine Wm.r_yes ?_))
local macro_rules | `(tactic| walk_at "WHists1") => `(tactic| (with_reducible refine Wm.r_two ?_; try simp only [List.set_cons_zero, List.set_cons_succ]))
local macro_rules | `(tactic| walk_at "WHists1") => `(tactic| (with_reducible refine Wm.r_par2 ?_))
local macro_rules | `(tactic| walk_at "WHists1") => `(tactic| (with_reducible refine Wm.r_ipI ?_))
local macro_rules | `(tactic| walk_at "WHists1") => `(tactic| ((with_reducible refine' Wm.r_aug ?h ?_); (case h => rfl)))
local macro_rules | `(tactic| walk_at "WHists1") => `(tactic| (with_reducible refine Wm.r_retN ?_))
local macro_rules | `(tactic| walk_at "WHists1") => `(tactic| (with_reducible refine Wm.r_drop ?_))
local macro_rules | `(tactic| walk_at "WHists1") => `(tactic| (with_reducible refine Wm.r_next ?_))
local macro_rules | `(tactic| walk_at "WHists1") => `(tactic| (with_reducible refine Wm.r_iteF ?_))
local macro_rules | `(tactic| walk_at "WHists1") => `(tactic| (with_reducible refine Wm.r_iteT ?_))
local macro_rules | `(tactic| walk_at "WHists1") => `(tactic| (with_reducible refine Wm.r_U ?_))
local macro_rules | `(tactic| walk_at "WHists1") => `(tactic| (with_reducible refine Wm.r_un ?_))
local macro_rules | `(tactic| walk_at "WHists1") => `(tactic| (with_reducible refine Wm.r_if ?_))
local macro_rules | `(tactic| walk_at "WHists1") => `(tactic| (with_reducible refine Wm.r_notV ?_))
local macro_rules | `(tactic| walk_at "WHists1") => `(tactic| (with_reducible refine Wm.r_orV ?_))
local macro_rules | `(tactic| walk_at "WHists1") => `(tactic| (with_reducible refine Wm.r_andV ?_))
local macro_rules | `(tactic| walk_at "WHists1") => `(tactic| (with_reducible refine Wm.r_not ?_))
local macro_rules | `(tactic| walk_at "WHists1") => `(tactic| (with_reducible refine Wm.r_or ?_))
local macro_rules | `(tactic| walk_at "WHists1") => `(tactic| (with_reducible refine Wm.r_and ?_))
local macro_rules | `(tactic| walk_at "WHists1") => `(tactic| (with_reducible refine Wm.r_chain ?_))
local macro_rules | `(tactic| walk_at "WHists1") => `(tactic| (with_reducible refine Wm.r_lst ?_))
local macro_rules | `(tactic| walk_at "WHists1") => `(tactic| (with_reducible refine Wm.r_tup ?_))
local macro_rules | `(tactic| walk_at "WHists1") => `(tactic| (with_reducible refine Wm.r_cb ?_))
local macro_rules | `(tactic| walk_at "WHists1") => `(tactic| (with_reducible refine Wm.r_mak ?_))
local macro_rules | `(tactic| walk_at "WHists1") => `(tactic| (with_reducible refine Wm.r_prp ?_))
local macro_rules | `(tactic| walk_at "WHists1") => `(tactic| (with_reducible refine Wm.r_mtd ?_))
local macro_rules | `(tactic| walk_at "WHists1") => `(tactic| (with_reducible refine Wm.r_call ?_))
local macro_rules | `(tactic| walk_at "WHists1") => `(tactic| (with_reducible refine Wm.r_fld ?_))
local macro_rules | `(tactic| walk_at "WHists1") => `(tactic| (with_reducible refine Wm.r_neB ?_))
local macro_rules | `(tactic| walk_at "WHists1") => `(tactic| (with_reducible refine Wm.r_eqB ?_))
local macro_rules | `(tactic| walk_at "WHists1") => `(tactic| (with_reducible refine Wm.r_neI ?_))
local macro_rules | `(tactic| walk_at "WHists1") => `(tactic| (with_reducible refine Wm.r_eqI ?_))
local macro_rules | `(tactic| walk_at "WHists1") => `(tactic| (with_reducible refine Wm.r_B ?_))
local macro_rules | `(tactic| walk_at "WHists1") => `(tactic| (with_reducible refine Wm.r_bl ?_))
local macro_rules | `(tactic| walk_at "WHists1") => `(tactic| (with_reducible refine Wm.r_test ?_))
local macro_rules | `(tactic| walk_at "WHists1") => `(tactic| (with_reducible refine Wm.r_ret ?_))
local macro_rules | `(tactic| walk_at "WHists1") => `(tactic| (with_reducible refine Wm.r_rt ?_))
local macro_rules | `(tactic| walk_at "WHists1") => `(tactic| (with_reducible refine Wm.r_nx ?_))
local macro_rules | `(tactic| walk_at "WHists1") => `(tactic| (with_reducible refine Wm.r_gname ?_; try simp only [List.set_cons_zero, List.set_cons_succ]))
local macro_rules | `(tactic| walk_at "WHists1") => `(tactic| (with_reducible refine Wm.r_asg ?_))
local macro_rules | `(tactic| walk_at "WHists1") => `(tactic| (with_reducible refine Wm.r_nil ?_))
local macro_rules | `(tactic| walk_at "WHists1") => `(tactic| (with_reducible refine Wm.r_cons ?_))
local macro_rules | `(tactic| walk_at "WHists1") => `(tactic| (with_reducible refine Wm.r_I0 ?_))
local macro_rules | `(tactic| walk_at "WHists1") => `(tactic| (with_reducible refine Wm.r_c ?_))
local macro_rules | `(tactic| walk_at "WHists1") => `(tactic| ((with_reducible refine' Wm.r_var ?h ?_); (case h => rfl)))
local macro_rules | `(tactic| walk_at "WHists1") => `(tactic| (with_reducible refine Wm.r_op ?_))
local macro_rules | `(tactic| walk_at "WHists1") => `(tactic| (with_reducible refine Wm.r_seq ?_))
local macro_rules | `(tactic| walk_at "WHists") => `(tactic| repeat (first | walk_at "WHists1" | (with_reducible refine Wm.r_ifS ?_)))
local macro_rules | `(tactic| walk_at "WHistt") => `(tactic| repeat (walk_at "WHists1"))
local macro_rules | `(tactic| walk_at "WHistsz") => `(tactic| exact of_decide_eq_true rfl)
namespace Wm
open PySem PySem.Spec PyProof.Rows L2 StX
/-! ## Histories: the object and its methods -/
def histF (P : Par) (sh ru : Addr) (loop : Option Int) : List (Str × V) := [("shifts", .ref sh), ("added", .int P.gain), ("floor", .int P.lo), ("ceiling", .int P.hi), ("was_heating", .bl P.was), ("runs", .ref ru), ("loop", optI loop)]
structure RunsAt (K : PySem.W.Frag) (A : Ads) (H : Hp) (ras : List Addr) (rs : List RunD) : Prop where
  len : ras.length = rs.length
  at_ : ∀ (i : Nat) (a : Addr) (r : RunD), ras[i]? = some a → rs[i]? = some r → IsRun K A H a r
def IsHist (K : PySem.W.Frag) (A : Ads) (H : Hp) (p : Addr) (P : Par) (rs : List RunD) (loop : Option Int) : Prop :=
  HistoryC K A.cHistory ∧ RunC K A.cRun ∧ HistOk P rs loop ∧ ∃ dx sh ru ras, H p = some (.ins A.cHistory dx (histF P sh ru loop)) ∧ H sh = some (.tup (P.ch.map V.int)) ∧ H ru = some (.lst (ras.map V.ref)) ∧ RunsAt K A H ras rs
theorem RunsAt.up {K : PySem.W.Frag} {A : Ads} {G H : Hp} {ras : List Addr} {rs : List RunD} (e : Ex G H) (h : RunsAt K A G ras rs) : RunsAt K A H ras rs := ⟨h.len, fun i a r h1 h2 => (h.at_ i a r h1 h2).up e⟩
theorem IsHist.up {K : PySem.W.Frag} {A : Ads} {G H : Hp} {p : Addr} {P : Par} {rs : List RunD} {loop : Option Int} (e : Ex G H) (h : IsHist K A G p P rs loop) : IsHist K A H p P rs loop := by
  obtain ⟨a, b, c, dx, sh, ru, ras, h1, h2, h3, h4⟩ := h
  exact ⟨a, b, c, dx, sh, ru, ras, e _ _ h1, e _ _ h2, e _ _ h3, h4.up e⟩
theorem refs_at {as : List Addr} {i : Nat} {a : Addr} (h : as[i]? = some a) : (as.map V.ref)[i]? = some (V.ref a) := by rw [List.getElem?_map, h] <;> rfl
theorem RunsAt.add {K : PySem.W.Frag} {A : Ads} {H : Hp} {ras : List Addr} {rs : List RunD} {a : Addr} {r : RunD} (h : RunsAt K A H ras rs) (hr : IsRun K A H a r) : RunsAt K A H (ras ++ [a]) (rs ++ [r]) := by
  refine ⟨by simp [h.len], fun i b x h1 h2 => ?_⟩
  by_cases hl : i < rs.length
  · rw [List.getElem?_append_left (by rw [h.len]; exact hl)] at h1
    rw [List.getElem?_append_left hl] at h2
    exact h.at_ i b x h1 h2
  · have hl2 := (List.getElem?_eq_some_iff.mp h2).1
    have e : i = rs.length := by simp at hl2; omega
    subst e
    rw [List.getElem?_append_right (by rw [h.len]; exact Nat.le_refl _)] at h1
    rw [List.getElem?_append_right (Nat.le_refl _)] at h2
    simp [h.len] at h1 h2
    subst h1 h2
    exact hr
/-- one run of a list -/
theorem RunsAt.get {K : PySem.W.Frag} {A : Ads} {H : Hp} {ras : List Addr} {rs : List RunD} (h : RunsAt K A H ras rs) {i : Nat} {r : RunD} (hi : rs[i]? = some r) : ∃ a dx s, ras[i]? = some a ∧ IsRun K A H a r ∧ H a = some (.ins A.cRun dx (runF r s)) := by
  have hl : i < ras.length := by rw [h.len]; exact (List.getElem?_eq_some_iff.mp hi).1
  obtain ⟨a, ha⟩ := get_some hl
  have := h.at_ i a r ha hi
  obtain ⟨_, _, dx, s, h1, _⟩ := id this
  exact ⟨a, dx, s, ha, this, h1⟩
def sp_History_decide (K : PySem.W.Frag) (A : Ads) : Sp := fun vs H Q _ => ∃ (p dx sh ru : Addr) (d : Int) (b : Bool) (P : Par) (loop : Option Int), vs = [.ref p, .int d, .bl b] ∧ HistoryC K A.cHistory ∧ H p = some (.ins A.cHistory dx (histF P sh ru loop)) ∧ Q (.bl (P.dec d b)) H
def sp_History_find_runs (K : PySem.W.Frag) (A : Ads) : Sp := fun vs H Q _ => ∃ (p dx sh ru : Addr) (P : Par) (G : Hp) (mu : Mu), vs = [.ref p, .int P.start, .bl P.was] ∧ HistoryC K A.cHistory ∧ RunC K A.cRun ∧ ParOk P ∧
  Hold G ((ru, .lst []) :: (p, .ins A.cHistory dx (histF P sh ru none)) :: mu) H ∧ G sh = some (.tup (P.ch.map V.int)) ∧
  ∀ (rs : List RunD) (loop : Option Int) (G' H' : Hp), Ex G G' → IsHist K A G' p P rs loop → Hold G' mu H' → Q .non H'
def sp_History_init (K : PySem.W.Frag) (A : Ads) : Sp := fun vs H Q _ => ∃ (p dx sh : Addr) (P : Par) (G : Hp) (mu : Mu), vs = [.ref p, .ref sh, .int P.gain, .int P.lo, .int P.hi, .int P.start, .bl P.was] ∧ HistoryC K A.cHistory ∧ RunC K A.cRun ∧ ParOk P ∧
  Hold G ((p, .ins A.cHistory dx []) :: mu) H ∧ G sh = some (.tup (P.ch.map V.int)) ∧
  ∀ (rs : List RunD) (loop : Option Int) (G' H' : Hp), Ex G G' → IsHist K A G' p P rs loop → Hold G' mu H' → Q .non H'
def t_History_init (K : PySem.W.Frag) (A : Ads) : TS := tSeq (sFld K (tVar 0) (tVar 1) "shifts") (tSeq (sFld K (tVar 0) (tVar 2) "added") (tSeq (sFld K (tVar 0) (tVar 3) "floor") (tSeq (sFld K (tVar 0) (tVar 4) "ceiling") (tSeq (sFld K (tVar 0) (tVar 6) "was_heating") (tSeq (sFld K (tVar 0) (tLst (tNil)) "runs") (tSeq (sFld K (tVar 0) (tC .non) "loop") (tDrop (tMtd A.cHistory "find_runs" (sp_History_find_runs K A) E0 (tVar 0) (tCons (tVar 5) (tCons (tVar 6) (tNil)))))))))))
def t_History_decide (K : PySem.W.Frag) (A : Ads) : TS := tSeq (tIfS (tTest (tOp (rI0 fun i j => .bl (decide (i < j))) (tVar 1) (tFld K (tVar 0) "floor"))) (tRet (tC (.bl true))) (tNext)) (tRet (tAndV (tVar 2) (tOp (rI0 fun i j => .bl (decide (i ≤ j))) (tVar 1) (tFld K (tVar 0) "ceiling"))))
def t_History_find_runs (K : PySem.W.Frag) (A : Ads) : TS := tSeq (tPar3 3 4 5 (tCons (tC (.int 0)) (tCons (tSeenNew A.P A.w) (tCons (tC (.bl true)) (tNil))))) (tSeq (tAsg (tMtd A.cHistory "decide" (sp_History_decide K A) E0 (tVar 0) (tCons (tVar 1) (tCons (tVar 2) (tNil)))) (gName 2)) (tWhile (tB (tVar 5)) (tSeq (tAsg (tOp (rI (fun _ j => 0 < j) fun i j => .int (i % j)) (tCB rInt (tCons (tVar 3) (tNil))) (tCB (rLen K) (tCons (tFld K (tVar 0) "shifts") (tNil)))) (gName 6)) (tSeq (tAsg (tTup (tCons (tVar 6) (tCons (tVar 1) (tCons (tVar 2) (tNil))))) (gName 7)) (tIfS (tTest (tOp (rSeenIn A.P A.w) (tVar 7) (tVar 4))) (tSeq (sFld K (tVar 0) (tSeenGet A.P A.w (tVar 4) (tVar 7)) "loop") (tAsg (tC (.bl false)) (gName 5))) (tSeq (sSeenPut A.P A.w (tVar 4) (tVar 7) (tCB (rLen K) (tCons (tFld K (tVar 0) "runs") (tNil)))) (tSeq (tAsg (tIf (tB (tVar 2)) (tFld K (tVar 0) "added") (tC (.int 0))) (gName 8)) (tSeq (tAsg (tOp (rCatA K) (tSl (rSlA K) (tFld K (tVar 0) "shifts") (tPart (tVar 6)) (tNoPart)) (tSl (rSlA K) (tFld K (tVar 0) "shifts") (tNoPart) (tPart (tVar 6)))) (gName 9)) (tSeq (tAsg (tMak A.cRun (sp_Run_init K A) E0 (tCons (tVar 3) (tCons (tVar 1) (tCons (tVar 2) (tCons (tLc (iTup K (tVar 9)) (gName 11) (tYes) (tOp (rI0 fun i j => .int (i + j)) (tVar 11) (tVar 8)) [11]) (tNil)))))) (gName 10)) (tSeq (sFld K (tVar 10) (tIf (tB (tVar 2)) (tMtd A.cRun "first_beyond" (sp_Run_first_beyond K A) E0 (tVar 10) (tCons (tFld K (tVar 0) "ceiling") (tCons (tC (.int 1)) (tNil)))) (tMtd A.cRun "first_beyond" (sp_Run_first_beyond K A) E0 (tVar 10) (tCons (tFld K (tVar 0) "floor") (tCons (tUn (rU fun i => .int (-i)) (tC (.int 1))) (tNil))))) "end") (tSeq (tDrop (tBM K "list" rAppend (tFld K (tVar 0) "runs") (tCons (tVar 10) (tNil)))) (tIfS (tTest (tOp rIsN (tFld K (tVar 10) "end") (tC .non))) (tAsg (tC (.bl false)) (gName 5)) (tPar3 3 1 2 (tCons (tFld K (tVar 10) "end") (tCons (tMtd A.cRun "at" (sp_Run_at K A) E0 (tVar 10) (tCons (tFld K (tVar 10) "end") (tNil))) (tCons (tNotV (tVar 2)) (tNil)))))))))))))))))
section
variable {K : PySem.W.Frag} {A : Ads}
theorem pure_History_decide (vs : List V) (H : Hp) (Q : VK) (E : XK) (h : sp_History_decide K A vs H Q E) : t_History_decide K A { nx := fun _ H' => Q .non H', rt := Q } (start ["self", "degrees", "is_heating"] vs) H := by
  obtain ⟨p, dx, sh, ru, d, b, P, loop, rfl, TH, h1, k⟩ := h
  show t_History_decide K A _ [some (.ref p), some (.int d), some (.bl b)] H
  unfold t_History_decide
  unfold Par.dec at k
  walk_at "WHists"
  refine r_ite (fun c => ?_) (fun c => ?_)
  · rw [if_pos (of_decide_eq_true c)] at k
    walk_at "WHists"
    exact k
  · rw [if_neg (of_decide_eq_false c)] at k
    walk_at "WHists"
    cases b with
    | true =>
      walk_at "WHists"
      rw [Bool.true_and] at k
      exact k
    | false => exact r_iteF k
theorem pure_History_init (vs : List V) (H : Hp) (Q : VK) (E : XK) (h : sp_History_init K A vs H Q E) : t_History_init K A { nx := fun _ H' => Q .non H', rt := Q } (start ["self", "changes", "gain", "low", "high", "start", "is_heating"] vs) H := by
  obtain ⟨p, dx, sh, P, G, mu, rfl, TH, TR, ok, hh, hsh, k⟩ := h
  show t_History_init K A _ [some (.ref p), some (.ref sh), some (.int P.gain), some (.int P.lo), some (.int P.hi), some (.int P.start), some (.bl P.was)] H
  unfold t_History_init
  walk_at "WHists"
  rename_i H1 hh1
  refine lst_m (by decide) hh1 fun ru H2 hh2 => ?_
  walk_at "WHists"
  rename_i H3 hh3 H4 hh4
  refine ⟨p, dx, sh, ru, P, G, mu, rfl, TH, TR, ok, hh4, hsh, fun rs loop G' H' ex ih hh' => ?_⟩
  walk_at "WHists"
  exact k rs loop G' H' ex ih hh'
/-- the loop of find_runs, open and shut -/
def FOpen (K : PySem.W.Frag) (A : Ads) (P : Par) (p dx sh ru se : Addr) (G : Hp) (mu : Mu) (m : Nat) (σ : L2.St) (H : Hp) : Prop := ∃ (s : S3) (rs : List RunD) (ras : List Addr) (ks : List (K3 × Addr)) (G1 : Hp) (v6 v7 v8 v9 v10 v11 : Option V),
  σ = [some (.ref p), some (.int s.d), some (.bl s.on), some (.int s.t), some (.ref se), some (.bl true), v6, v7, v8, v9, v10, v11] ∧ Ex G G1 ∧
  Hold G1 ((se, SeenO A.P A.w se ks) :: (ru, .lst (ras.map V.ref)) :: (p, .ins A.cHistory dx (histF P sh ru none)) :: mu) H ∧ Chn P rs s ∧ (rs.map (keyR P)).Nodup ∧ RunsAt K A G1 ras rs ∧ ks.map (·.1) = rs.map (keyR P) ∧
  (∀ q ∈ ks, G1 q.2 = some (.tup (tv3 q.1))) ∧ m = 9603 - rs.length
def FShut (K : PySem.W.Frag) (A : Ads) (P : Par) (p dx sh ru se : Addr) (G : Hp) (mu : Mu) (m : Nat) (σ : L2.St) (H : Hp) : Prop := ∃ (rs : List RunD) (loop : Option Int) (ras : List Addr) (o : HO) (G1 : Hp) (v1 v2 v3 v6 v7 v8 v9 v10 v11 : Option V),
  σ = [some (.ref p), v1, v2, v3, some (.ref se), some (.bl false), v6, v7, v8, v9, v10, v11] ∧ Ex G G1 ∧
  Hold G1 ((se, o) :: (ru, .lst (ras.map V.ref)) :: (p, .ins A.cHistory dx (histF P sh ru loop)) :: mu) H ∧ HistOk P rs loop ∧ RunsAt K A G1 ras rs ∧ m = 0
theorem pure_History_find_runs (vs : List V) (H : Hp) (Q : VK) (E : XK) (h : sp_History_find_runs K A vs H Q E) : t_History_find_runs K A { nx := fun _ H' => Q .non H', rt := Q } (start ["self", "degrees", "is_heating", "tick", "seen", "is_open", "phase", "key", "added", "shifts", "run", "shift"] vs) H := by
  obtain ⟨p, dx, sh, ru, P, G, mu, rfl, TH, TR, ok, hh, hsh, k⟩ := h
  show t_History_find_runs K A _ [some (.ref p), some (.int P.start), some (.bl P.was), none, none, none, none, none, none, none, none, none] H
  unfold t_History_find_runs
  walk_at "WHists"
  refine seenNew_m hh fun se H1 hh1 => ?_
  walk_at "WHists"
  refine ⟨p, dx, sh, ru, P.start, P.was, P, none, rfl, TH, hh1.get (i := 2) rfl, ?_⟩
  walk_at "WHists"
  refine whileA (fun m σ H' => FOpen K A P p dx sh ru se G mu m σ H' ∨ FShut K A P p dx sh ru se G mu m σ H') 9603
    (.inl ⟨start3 P, [], [], [], G, none, none, none, none, none, none, rfl, Ex.refl G, hh1, .nil, List.nodup_nil, ⟨rfl, fun i a r h1 _ => by simp at h1⟩, rfl, (fun q hq => by cases hq), rfl⟩) ?_
  rintro m σ H2 (⟨s, rs, ras, ks, G1, v6, v7, v8, v9, v10, v11, rfl, ex1, hh2, hc, nd, hrs, hks, hkt, rfl⟩ | ⟨rs, loop, ras, o, G1, v1, v2, v3, v6, v7, v8, v9, v10, v11, rfl, ex1, hh2, hok, hrs, rfl⟩)
  · refine ⟨true, fun Q q => by walk_at "WHists"; exact q, fun _ => ?_, fun z => by cases z⟩
    have hl := hc.bound ok nd
    have so := hc.ok ok
    have op := ok.pos
    have ol := ok.len
    have hsh1 := ex1 _ _ hsh
    walk_at "WHists"
    refine r_I (show (0 : Int) < ((P.ch.map V.int).length : Nat) by rw [List.length_map]; omega) ?_
    walk_at "WHists"
    rw [List.length_map]
    refine tup_G (by walk_at "WHistsz") hh2 fun kt G2 H3 ex2 hkt2 hh3 => ?_
    have hkt2 : G2 kt = some (.tup (tv3 (keyS P s))) := hkt2
    have hkk : ∀ q ∈ ks, G2 q.2 = some (.tup (tv3 q.1)) := fun q hq => ex2 _ _ (hkt q hq)
    have hsh2 := ex2 _ _ hsh1
    walk_at "WHists"
    refine ⟨se, kt, ks, keyS P s, rfl, rfl, hh3.get (i := 0) rfl, hh3.rd hkt2, fun q hq => hh3.rd (hkk q hq), ?_⟩
    walk_at "WHists"
    refine r_ite (fun c => ?_) (fun c => ?_)
    · have hm := of_decide_eq_true c
      rw [hks] at hm
      obtain ⟨r, hr, hrk⟩ := List.mem_map.mp hm
      obtain ⟨j, hj⟩ := List.mem_iff_getElem?.mp hr
      have hkj : ∃ q, ks[j]? = some (keyS P s, q) := by
        have e : (ks.map (·.1))[j]? = some (keyS P s) := by rw [hks, List.getElem?_map, hj, ← hrk] <;> rfl
        rw [List.getElem?_map] at e
        cases hq : ks[j]? with
        | none => rw [hq] at e; cases e
        | some x =>
          rw [hq] at e
          obtain ⟨x1, x2⟩ := x
          cases e
          exact ⟨x2, rfl⟩
      obtain ⟨q, hq⟩ := hkj
      walk_at "WHists"
      refine ⟨se, kt, ks, keyS P s, j, q, rfl, rfl, hh3.get (i := 0) rfl, hh3.rd hkt2, fun q hq => hh3.rd (hkk q hq), hq, ?_⟩
      walk_at "WHists"
      rename_i H4 hh4
      refine ⟨0, by omega, .inr ⟨rs, some (j : Int), ras, _, G2, _, _, _, _, _, _, _, _, _, rfl, ex1.trans ex2, hh4, ⟨ok, nd, .inr ⟨j, r, s, rfl, hc, hj, hrk⟩⟩, hrs.up ex2, rfl⟩⟩
    · have hm := of_decide_eq_false c
      have hkl : ks.length = rs.length := by
        have := congrArg List.length hks
        rw [List.length_map, List.length_map] at this
        exact this
      walk_at "WHists"
      refine ⟨se, kt, ks, keyS P s, by rw [List.length_map, hrs.len, hkl], rfl, rfl, hh3.get (i := 0) rfl, hh3.rd hkt2, fun q hq => hh3.rd (hkk q hq), hm, szl (by omega), ?_⟩
      have hh4 := hh3.set (i := 0) (o' := SeenO A.P A.w se (ks ++ [(keyS P s, kt)])) rfl
      rw [List.set_cons_zero] at hh4
      generalize upd H3 se (SeenO A.P A.w se (ks ++ [(keyS P s, kt)])) = H4 at hh4 ⊢
      refine r_nx (r_seq (r_asg ((show Val _ _ _ (.int (P.heat s.on)) from fun Q q => ?_) _ ?_)))
      · revert q
        unfold Par.heat
        cases s.on with
        | true => intro q; walk_at "WHists"; exact q
        | false => intro q; walk_at "WHists"; exact q
      walk_at "WHists"
      refine slA_G hh4 (SqT.of_ hsh2) fun a1 G5 H5 ex5 h5 hh5 => ?_
      walk_at "WHists"
      refine slA_G hh5 (SqT.of_ (ex5 _ _ hsh2)) fun a2 G6 H6 ex6 h6 hh6 => ?_
      have pl := phase_lt ok s.t
      rw [cut_from _ (phase_cast ok s.t).symm (by rw [List.length_map]; omega)] at h5
      rw [cut_to _ (phase_cast ok s.t).symm (by rw [List.length_map]; omega)] at h6
      walk_at "WHists"
      refine catA_G hh6 (h5.up ex6) h6 (sz (by rw [List.length_drop, List.length_take, List.length_map]; omega)) fun a3 G7 H7 ex7 h7 hh7 => ?_
      rw [← List.map_drop, ← List.map_take, ← List.map_append] at h7
      walk_at "WHists"
      refine lcT_by hh7 h7 (fun i acc G' mu' => acc = (((P.ch.drop (phase P s.t) ++ P.ch.take (phase P s.t)).map (· + P.heat s.on)).take i).map V.int ∧ mu' = ((se, SeenO A.P A.w se (ks ++ [(keyS P s, kt)])) :: (ru, .lst (ras.map V.ref)) :: (p, .ins A.cHistory dx (histF P sh ru none)) :: mu)) ⟨rfl, rfl⟩ ?_ ?_
      · rintro i x D acc G' mu' H8 hx hal exx hhx ⟨rfl, rfl⟩
        obtain ⟨z, hz, rfl⟩ := ints_of hx
        have il := (List.getElem?_eq_some_iff.mp hz).1
        walk_at "WHists"
        refine ⟨rfl, ?_⟩
        walk_at "WHists"
        refine lcY hhx exx hal (by simp only [List.length_append, List.length_drop, List.length_take] at il; omega) ⟨?_, rfl⟩
        exact ints_snoc (by rw [List.getElem?_map, hz] <;> rfl)
      rintro D acc G8 mu' H8 hal ex8 hh8 ⟨rfl, rfl⟩
      rw [List.length_map] at hh8
      rw [show ∀ l : List Int, (l.map (· + P.heat s.on)).take l.length = l.map (· + P.heat s.on) from fun l => by rw [List.take_of_length_le (by simp)]] at hh8
      have e9 := hh8.frz_ex
      have hh9 := hh8.frz
      have hD : (upd G8 D (.lst ((stepsOf P s.t s.on).map V.int))) D = some (.lst ((stepsOf P s.t s.on).map V.int)) := upd_same
      have hh9 : Hold (upd G8 D (.lst ((stepsOf P s.t s.on).map V.int))) _ H8 := hh9
      have e9 : Ex G8 (upd G8 D (.lst ((stepsOf P s.t s.on).map V.int))) := e9
      generalize upd G8 D (.lst ((stepsOf P s.t s.on).map V.int)) = G9 at hh9 hD e9
      walk_at "WHists"
      refine make_m hh9 fun x dx' H10 hh10 => ⟨x, dx', D, s.t, s.d, s.on, stepsOf P s.t s.on, G9, _, rfl, TR, hh10, SqL.of_ hD, by rw [steps_len ok]; omega, fun sm G11 H11 ex11 hs11 hh11 => ⟨rfl, ?_⟩⟩
      have rk : ∀ e, RunOk (runFrom P s e) := run_ok ok s
      have exA : Ex G2 G11 := ex5.trans (ex6.trans (ex7.trans (ex8.trans (e9.trans ex11))))
      walk_at "WHists"
      have ir : IsRun K A H11 x (runFrom P s none) := ⟨TR, rk none, dx', sm, hh11.get (i := 0) rfl, hh11.rd hs11⟩
      have fb : ∀ (σ' : L2.St) (Q : VK), σ'[0]? = some (some (.ref p)) → σ'[2]? = some (some (.bl s.on)) → σ'[10]? = some (some (.ref x)) → (∀ o H', FB (runFrom P s none) (bnd P s.on) (sgn s.on) o → Ex H11 H' → Q (optI o) H') →
          if s.on = true then (tMtd A.cRun "first_beyond" (sp_Run_first_beyond K A) E0 (tVar 10) (tCons (tFld K (tVar 0) "ceiling") (tCons (tC (.int 1)) (tNil)))) σ' H11 Q else (tMtd A.cRun "first_beyond" (sp_Run_first_beyond K A) E0 (tVar 10) (tCons (tFld K (tVar 0) "floor") (tCons (tUn (rU fun i => .int (-i)) (tC (.int 1))) (tNil)))) σ' H11 Q := by
        intro σ' Q i0 i2 i10 q
        refine r_ite (fun c => ?_) (fun c => ?_)
        · refine r_mtd (r_var i10 (mtd_h (hh11.get (i := 0) rfl) rfl (r_cons (r_fld (r_var i0 ?_)))))
          walk_at "WHists"
          refine ⟨x, P.hi, 1, runFrom P s none, rfl, ir, .inl rfl, fun o H' h1 h2 => q o H' ?_ h2⟩
          rw [c]
          exact h1
        · refine r_mtd (r_var i10 (mtd_h (hh11.get (i := 0) rfl) rfl (r_cons (r_fld (r_var i0 ?_)))))
          walk_at "WHists"
          refine ⟨x, P.lo, -1, runFrom P s none, rfl, ir, .inr rfl, fun o H' h1 h2 => q o H' ?_ h2⟩
          rw [c]
          exact h1
      refine fb _ _ rfl rfl rfl fun o H12 hfb ex12 => ?_
      have hh12 := hh11.grow ex12
      walk_at "WHists"
      rename_i H13 hh13
      have hh13 : Hold G11 ((x, .ins A.cRun dx' (runF (runFrom P s o) sm)) :: (se, SeenO A.P A.w se (ks ++ [(keyS P s, kt)])) :: (ru, .lst (ras.map V.ref)) :: (p, .ins A.cHistory dx (histF P sh ru none)) :: mu) H13 := hh13
      walk_at "WHists"
      refine app_m hh13 2 rfl (szl (by rw [List.length_map, hrs.len]; omega)) fun H14 hh14 => ?_
      simp only [List.set_cons_zero, List.set_cons_succ] at hh14
      have e15 := hh14.frz_ex
      have hh15 := hh14.frz
      have hx15 : (upd G11 x (.ins A.cRun dx' (runF (runFrom P s o) sm))) x = some (.ins A.cRun dx' (runF (runFrom P s o) sm)) := upd_same
      generalize hG : upd G11 x (.ins A.cRun dx' (runF (runFrom P s o) sm)) = G15 at hh15 hx15 e15
      have ir15 : IsRun K A G15 x (runFrom P s o) := ⟨TR, rk o, dx', sm, hx15, e15 _ _ hs11⟩
      have exB : Ex G2 G15 := exA.trans e15
      have hrs15 : RunsAt K A G15 (ras ++ [x]) (rs ++ [runFrom P s o]) := (hrs.up (ex2.trans exB)).add ir15
      have nd15 : ((rs ++ [runFrom P s o]).map (keyR P)).Nodup := by
        rw [List.map_append, List.nodup_append]
        refine ⟨nd, by simp, fun a ha b hb e => ?_⟩
        simp only [List.map_cons, List.map_nil, List.mem_singleton] at hb
        rw [hks] at hm
        apply hm
        rw [show keyS P s = b from hb.symm, ← e]
        exact ha
      rw [show (ras.map V.ref) ++ [V.ref x] = (ras ++ [x]).map V.ref from by rw [List.map_append] <;> rfl] at hh15
      have hx14 : H14 x = some (.ins A.cRun dx' (runF (runFrom P s o) sm)) := hh14.get (i := 0) rfl
      walk_at "WHists"
      refine r_ite (fun c => ?_) (fun c => ?_)
      · have eo : o = none := by
          cases o with
          | none => rfl
          | some l => exact absurd (of_decide_eq_true c) (by intro z; cases z)
        subst eo
        walk_at "WHists"
        refine ⟨0, by omega, .inr ⟨_, none, _, _, G15, _, _, _, _, _, _, _, _, _, rfl, (ex1.trans ex2).trans exB, hh15, ⟨ok, nd15, .inl ⟨rfl, rs, s, hc, rfl, hfb⟩⟩, hrs15, rfl⟩⟩
      · obtain ⟨e, rfl⟩ : ∃ e, o = some e := by
          cases o with
          | none => exact absurd rfl (of_decide_eq_false c)
          | some l => exact ⟨l, rfl⟩
        walk_at "WHists"
        refine ⟨x, e, runFrom P s (some e), rfl, ir15.up hh15.ex, ?_⟩
        walk_at "WHists"
        refine ⟨_, ?_, .inl ⟨nextS P s e, _, _, _, G15, _, _, _, _, _, _, rfl, (ex1.trans ex2).trans exB, hh15, .snoc hc hfb, nd15, hrs15, ?_, ?_, rfl⟩⟩
        · rw [List.length_append, List.length_singleton]
          omega
        · rw [List.map_append, List.map_append, hks]
          rfl
        · intro q hq
          rcases List.mem_append.mp hq with h | h
          · exact exB _ _ (hkk q h)
          · rw [List.mem_singleton] at h
            subst h
            exact exB _ _ hkt2
  · refine ⟨false, fun Q q => by walk_at "WHists"; exact q, fun z => (by cases z), fun _ => ?_⟩
    have hh3 := hh2.drop
    have e3 := hh3.frz_ex
    have hh4 := hh3.frz
    have e4 := hh4.frz_ex
    have hh5 := hh4.frz
    refine k rs loop _ _ (ex1.trans (e3.trans e4)) ⟨TH, TR, hok, dx, sh, ru, ras, upd_same, e4 _ _ (e3 _ _ (ex1 _ _ hsh)), e4 _ _ upd_same, hrs.up (e3.trans e4)⟩ hh5
end
end Wm
end

section
/-! ## The simulation tick by tick, and that the runs are it -/
namespace Wm
open PySem
def chAt (P : Par) (t : Int) : Int := P.ch.getD (phase P t) 0
def simN (P : Par) : Nat → Int × Bool
  | 0 => (P.start, P.dec P.start P.was)
  | t + 1 => ((simN P t).1 + chAt P t + P.heat (simN P t).2, P.dec ((simN P t).1 + chAt P t + P.heat (simN P t).2) (simN P t).2)
@[irreducible] def dAt (P : Par) (t : Int) : Int := (simN P t.toNat).1
@[irreducible] def oAt (P : Par) (t : Int) : Bool := (simN P t.toNat).2
theorem d_succ (P : Par) {t : Int} (h : 0 ≤ t) : dAt P (t + 1) = dAt P t + chAt P t + P.heat (oAt P t) := by
  unfold dAt oAt
  rw [show (t + 1).toNat = t.toNat + 1 by omega]
  show (simN P t.toNat).1 + chAt P ((t.toNat : Nat) : Int) + P.heat (simN P t.toNat).2 = _
  rw [Int.toNat_of_nonneg h]
theorem o_succ (P : Par) {t : Int} (h : 0 ≤ t) : oAt P (t + 1) = P.dec (dAt P (t + 1)) (oAt P t) := by
  rw [d_succ P h]
  unfold dAt oAt
  rw [show (t + 1).toNat = t.toNat + 1 by omega]
  show P.dec ((simN P t.toNat).1 + chAt P ((t.toNat : Nat) : Int) + P.heat (simN P t.toNat).2) _ = _
  rw [Int.toNat_of_nonneg h]
theorem d_zero (P : Par) : dAt P 0 = P.start := by unfold dAt; rfl
theorem o_zero (P : Par) : oAt P 0 = P.dec P.start P.was := by unfold oAt; rfl
theorem rot_at (l : List Int) {p q : Nat} (hp : p < l.length) (hq : q < l.length) : (l.drop p ++ l.take p)[q]? = l[(p + q) % l.length]? := by
  by_cases h : p + q < l.length
  · rw [List.getElem?_append_left (by rw [List.length_drop]; omega), List.getElem?_drop, Nat.mod_eq_of_lt h]
  · rw [List.getElem?_append_right (by rw [List.length_drop]; omega), List.length_drop, List.getElem?_take_of_lt (by omega), Nat.mod_eq_sub_mod (by omega), Nat.mod_eq_of_lt (by omega)]
    congr 1
    omega
theorem ch_some {P : Par} (ok : ParOk P) (t : Int) : P.ch[phase P t]? = some (chAt P t) := by
  unfold chAt
  rw [List.getD_eq_getElem?_getD, List.getElem?_eq_getElem (phase_lt ok t)] <;> rfl
theorem ch_per {P : Par} {t u : Int} (h : t % P.ch.length = u % P.ch.length) : chAt P t = chAt P u := by
  unfold chAt phase
  rw [h]
theorem steps_at {P : Par} (ok : ParOk P) (t u : Int) (on : Bool) : (stepsOf P t on)[((u - t) % P.ch.length).toNat]? = some (chAt P u + P.heat on) := by
  have op := ok.pos
  have hl := phase_lt ok t
  have hc := phase_cast ok t
  have q0 := Int.emod_nonneg (u - t) (show (P.ch.length : Int) ≠ 0 by omega)
  have q1 := Int.emod_lt_of_pos (u - t) (show (0 : Int) < P.ch.length by omega)
  unfold stepsOf
  rw [List.getElem?_map, rot_at P.ch hl (by omega)]
  have e : (phase P t + ((u - t) % P.ch.length).toNat) % P.ch.length = phase P u := by
    have e2 : ((phase P t + ((u - t) % P.ch.length).toNat : Nat) : Int) % P.ch.length = u % P.ch.length := by
      rw [Int.natCast_add, hc, Int.toNat_of_nonneg q0, ← Int.add_emod]
      congr 1
      omega
    have := phase_cast ok u
    rw [← e2] at this
    omega
  rw [e, ch_some ok u]
  rfl
theorem run_succ {P : Par} (ok : ParOk P) (s : S3) (u : Int) : (runFrom P s none).at_ (u + 1) = (runFrom P s none).at_ u + (chAt P u + P.heat s.on) := by
  obtain ⟨x, hx, ha⟩ := at_succ (runFrom P s none) (run_ok ok s none) u
  have e : (runFrom P s none).steps.length = P.ch.length := steps_len ok _ _
  rw [e] at hx
  have h2 := steps_at ok s.t u s.on
  have : x = chAt P u + P.heat s.on := Option.some.inj (hx.symm.trans h2)
  rw [ha, this]
theorem dec_beyond {P : Par} (ok : ParOk P) (s : S3) (u : Int) : (Beyond (runFrom P s none) (bnd P s.on) (sgn s.on) u → P.dec ((runFrom P s none).at_ u) s.on = !s.on) ∧ (¬ Beyond (runFrom P s none) (bnd P s.on) (sgn s.on) u → P.dec ((runFrom P s none).at_ u) s.on = s.on) := by
  have lh := ok.lh
  unfold Par.dec
  cases ho : s.on with
  | true =>
    rw [← ho, beyond_on ho, ho]
    refine ⟨fun h => ?_, fun h => ?_⟩
    · rw [if_neg (by omega), Bool.true_and]
      exact decide_eq_false (by omega)
    · split
      · rfl
      · rw [Bool.true_and]
        exact decide_eq_true (by omega)
  | false =>
    rw [← ho, beyond_off ho, ho]
    refine ⟨fun h => ?_, fun h => ?_⟩
    · rw [if_pos h] <;> rfl
    · rw [if_neg h] <;> rfl
theorem run_sim {P : Par} (ok : ParOk P) {s : S3} (h0 : 0 ≤ s.t) (hd : dAt P s.t = s.d) (ho : oAt P s.t = s.on) : ∀ k : Nat, (∀ v, s.t ≤ v → v < s.t + k → ¬ Beyond (runFrom P s none) (bnd P s.on) (sgn s.on) v) →
    dAt P (s.t + k) = (runFrom P s none).at_ (s.t + k) ∧ (¬ Beyond (runFrom P s none) (bnd P s.on) (sgn s.on) (s.t + k) → oAt P (s.t + k) = s.on) ∧ (0 < k → Beyond (runFrom P s none) (bnd P s.on) (sgn s.on) (s.t + k) → oAt P (s.t + k) = !s.on)
  | 0, _ => by
    have e : (runFrom P s none).at_ s.t = s.d := at_beg (runFrom P s none) (run_ok ok s none)
    rw [show s.t + ((0 : Nat) : Int) = s.t by omega, e]
    exact ⟨hd, fun _ => ho, fun z => absurd z (Nat.lt_irrefl 0)⟩
  | k + 1, hn => by
    obtain ⟨i1, i2, _⟩ := run_sim ok h0 hd ho k (fun v a b => hn v a (by omega))
    have i2 := i2 (hn _ (by omega) (by omega))
    have e : s.t + ((k + 1 : Nat) : Int) = s.t + k + 1 := by omega
    rw [e]
    have hp : 0 ≤ s.t + (k : Int) := by omega
    have d1 : dAt P (s.t + k + 1) = (runFrom P s none).at_ (s.t + k + 1) := by
      rw [d_succ P hp, i1, i2, run_succ ok]
      omega
    refine ⟨d1, fun h => ?_, fun _ h => ?_⟩
    · rw [o_succ P hp, d1, i2]
      exact (dec_beyond ok s _).2 h
    · rw [o_succ P hp, d1, i2]
      exact (dec_beyond ok s _).1 h
/-- what a run of the list tells -/
structure RunV (P : Par) (r : RunD) : Prop where
  b0 : 0 ≤ r.beg
  sim : ∀ u, r.beg ≤ u → (∀ e, r.fin = some e → u < e) → dAt P u = r.at_ u ∧ oAt P u = r.on
  fin : ∀ e, r.fin = some e → r.beg < e ∧ dAt P e = r.at_ e ∧ oAt P e = !r.on
  shape : r = runFrom P ⟨r.beg, r.deg, r.on⟩ r.fin
theorem Chn.sim {P : Par} (ok : ParOk P) {rs : List RunD} {s : S3} (h : Chn P rs s) : dAt P s.t = s.d ∧ oAt P s.t = s.on ∧ ∀ r ∈ rs, RunV P r ∧ ∃ e, r.fin = some e := by
  induction h with
  | nil => exact ⟨d_zero P, o_zero P, fun r h => by cases h⟩
  | @snoc rs s e hc hf ih =>
    obtain ⟨i1, i2, i3⟩ := ih
    have so := hc.ok ok
    obtain ⟨lt, so2⟩ := next_ok ok so hf
    obtain ⟨f1, f2, f3⟩ := hf.some_ (run_ok ok s none) (sgn_or _)
    have key := fun k hk => run_sim ok so.t0 i1 i2 k hk
    have he : s.t + (((e - s.t).toNat : Nat) : Int) = e := by omega
    obtain ⟨a1, a2, a3⟩ := key (e - s.t).toNat (fun v hv hv2 => f3 v hv (by omega))
    rw [he] at a1 a2 a3
    have a3 := a3 (by omega) f2
    refine ⟨a1, a3, fun r hr => ?_⟩
    rcases List.mem_append.mp hr with hr | hr
    · exact i3 r hr
    · rw [List.mem_singleton] at hr
      subst hr
      refine ⟨⟨so.t0, fun u hu hlt => ?_, fun e' h' => ?_, rfl⟩, e, rfl⟩
      · have hu : s.t ≤ u := hu
        have hlt : u < e := hlt e rfl
        have hk : s.t + (((u - s.t).toNat : Nat) : Int) = u := by omega
        obtain ⟨b1, b2, _⟩ := key (u - s.t).toNat (fun v hv hv2 => f3 v hv (by omega))
        rw [hk] at b1 b2
        exact ⟨b1, b2 (f3 u hu hlt)⟩
      · cases h'
        exact ⟨lt, a1, a3⟩
theorem open_sim {P : Par} (ok : ParOk P) {rs : List RunD} {s : S3} (h : Chn P rs s) (hf : FB (runFrom P s none) (bnd P s.on) (sgn s.on) none) : RunV P (runFrom P s none) := by
  obtain ⟨i1, i2, _⟩ := h.sim ok
  have so := h.ok ok
  have nb := hf.none_ (run_ok ok s none) (sgn_or _)
  refine ⟨so.t0, fun u hu _ => ?_, fun e' h' => (by cases h'), rfl⟩
  have hu : s.t ≤ u := hu
  have hk : s.t + (((u - s.t).toNat : Nat) : Int) = u := by omega
  obtain ⟨b1, b2, _⟩ := run_sim ok so.t0 i1 i2 (u - s.t).toNat (fun v hv hv2 => nb v hv)
  rw [hk] at b1 b2
  exact ⟨b1, b2 (nb u hu)⟩
theorem per_sim (P : Par) {a b : Int} (ha : 0 ≤ a) (hb : 0 ≤ b) (hp : a % P.ch.length = b % P.ch.length) (hd : dAt P a = dAt P b) (ho : oAt P a = oAt P b) : ∀ k : Nat, dAt P (a + k) = dAt P (b + k) ∧ oAt P (a + k) = oAt P (b + k)
  | 0 => by simpa using ⟨hd, ho⟩
  | k + 1 => by
    obtain ⟨h1, h2⟩ := per_sim P ha hb hp hd ho k
    have e : ∀ x : Int, x + ((k + 1 : Nat) : Int) = x + k + 1 := fun x => by omega
    have hc : chAt P (a + k) = chAt P (b + k) := ch_per (by rw [Int.add_emod, hp, ← Int.add_emod])
    have d : dAt P (a + k + 1) = dAt P (b + k + 1) := by rw [d_succ P (by omega), d_succ P (by omega), h1, h2, hc]
    rw [e a, e b]
    exact ⟨d, by rw [o_succ P (by omega), o_succ P (by omega), d, h2]⟩
/-! ### lists of runs -/
def begAt (rs : List RunD) (j : Int) : Int := match rs[j.toNat]? with | some r => r.beg | none => 0
def finLast (rs : List RunD) : Int := match rs[rs.length - 1]? with | some ⟨_, some e, _, _, _⟩ => e | _ => 0
def circ (rs : List RunD) (j : Int) : Int := finLast rs - begAt rs j
def wrapT (rs : List RunD) (loop : Option Int) (t : Int) : Int := match loop with | none => 0 | some j => if t < finLast rs then 0 else (t - begAt rs j) / circ rs j
def wrapP (rs : List RunD) (loop : Option Int) (t : Int) : Int := match loop with | none => t | some j => if t < finLast rs then t else t - (t - begAt rs j) / circ rs j * circ rs j
/-- all that is told of a history's runs -/
structure HistV (P : Par) (rs : List RunD) (loop : Option Int) : Prop where
  par : ParOk P
  nd : (rs.map (keyR P)).Nodup
  ne : 0 < rs.length
  le : rs.length ≤ 9603
  each : ∀ r ∈ rs, RunV P r
  first : ∃ r, rs[0]? = some r ∧ r.beg = 0 ∧ r.on = P.dec P.start P.was ∧ r.deg = P.start
  next : ∀ (i : Nat) (r r2 : RunD), rs[i]? = some r → rs[i + 1]? = some r2 → r.fin = some r2.beg ∧ r2.on = !r.on ∧ r2.deg = r.at_ r2.beg
  small : ∀ r ∈ rs, r.beg ≤ 9603 * 10 ^ 14 ∧ ∀ e, r.fin = some e → e ≤ 9603 * 10 ^ 14
  open_ : loop = none → ∃ r, rs[rs.length - 1]? = some r ∧ r.fin = none
  shut : ∀ j, loop = some j → 0 ≤ j ∧ ∃ r l e, rs[j.toNat]? = some r ∧ rs[rs.length - 1]? = some l ∧ l.fin = some e ∧ r.beg < e ∧ (e - r.beg) % P.ch.length = 0 ∧ dAt P e = r.deg ∧ oAt P e = r.on ∧ r.on = !l.on
theorem Chn.first {P : Par} {rs : List RunD} {s : S3} (h : Chn P rs s) : (rs = [] ∧ s = start3 P) ∨ ∃ r, rs[0]? = some r ∧ r.beg = 0 ∧ r.on = P.dec P.start P.was ∧ r.deg = P.start := by
  induction h with
  | nil => exact .inl ⟨rfl, rfl⟩
  | @snoc rs s e hc hf ih =>
    rcases ih with ⟨rfl, rfl⟩ | ⟨r, h1, h2⟩
    · exact .inr ⟨_, rfl, rfl, rfl, rfl⟩
    · exact .inr ⟨r, by rw [List.getElem?_append_left (List.getElem?_eq_some_iff.mp h1).1]; exact h1, h2⟩
theorem Chn.next {P : Par} {rs : List RunD} {s : S3} (h : Chn P rs s) {i : Nat} {r r2 : RunD} (h1 : rs[i]? = some r) (h2 : rs[i + 1]? = some r2) : r.fin = some r2.beg ∧ r2.on = !r.on ∧ r2.deg = r.at_ r2.beg := by
  obtain ⟨s', e, _, rfl, _, h3⟩ := h.at_ h1
  rcases h3 with ⟨r3, h4, h5, h6, h7⟩ | ⟨h4, _⟩
  · rw [h2] at h4
    cases h4
    exact ⟨by rw [h5] <;> rfl, h7, by rw [h6, h5] <;> rfl⟩
  · have := (List.getElem?_eq_some_iff.mp h2).1
    omega
theorem Chn.last {P : Par} {rs : List RunD} {s : S3} (h : Chn P rs s) : (rs = [] ∧ s = start3 P) ∨ ∃ l, rs[rs.length - 1]? = some l ∧ l.fin = some s.t ∧ s.on = !l.on ∧ s.d = l.at_ s.t := by
  cases h with
  | nil => exact .inl ⟨rfl, rfl⟩
  | @snoc rs s e hc hf => exact .inr ⟨runFrom P s (some e), by simp, rfl, rfl, rfl⟩
theorem keyR_eq {P : Par} {r : RunD} {s : S3} (h : keyR P r = keyS P s) : r.beg % P.ch.length = s.t % P.ch.length ∧ r.deg = s.d ∧ r.on = s.on := by
  unfold keyR keyS at h
  simpa using h
theorem Chn.small {P : Par} (ok : ParOk P) {rs : List RunD} {s : S3} (h : Chn P rs s) : s.t ≤ rs.length * 10 ^ 14 ∧ ∀ r ∈ rs, r.beg ≤ rs.length * 10 ^ 14 ∧ ∀ e, r.fin = some e → e ≤ rs.length * 10 ^ 14 := by
  induction h with
  | nil => exact ⟨Int.le_refl 0, fun r h => by cases h⟩
  | @snoc rs s e hc hf ih =>
    obtain ⟨i1, i2⟩ := ih
    have so := hc.ok ok
    obtain ⟨lt, so2⟩ := next_ok ok so hf
    have h1 : e ≤ ((rs.length + 1 : Nat) : Int) * 10 ^ 14 := so2.t1
    rw [List.length_append, List.length_singleton]
    refine ⟨h1, fun r hr => ?_⟩
    rcases List.mem_append.mp hr with hr | hr
    · obtain ⟨a, b⟩ := i2 r hr
      exact ⟨by omega, fun e he => by have := b e he; omega⟩
    · rw [List.mem_singleton] at hr
      subst hr
      exact ⟨show s.t ≤ _ by omega, fun e' he => by cases he; exact h1⟩
theorem HistOk.v {P : Par} {rs : List RunD} {loop : Option Int} (h : HistOk P rs loop) : HistV P rs loop := by
  have ok := h.par
  rcases h.shape with ⟨rfl, rs0, s, hc, rfl, hf⟩ | ⟨j, r, s, rfl, hc, hj, hk⟩
  · have nd0 : (rs0.map (keyR P)).Nodup := by
      have := h.nd
      rw [List.map_append, List.nodup_append] at this
      exact this.1
    have hb := hc.bound ok nd0
    obtain ⟨sm1, sm2⟩ := hc.small ok
    obtain ⟨_, _, hs⟩ := hc.sim ok
    have last : (rs0 ++ [runFrom P s none])[(rs0 ++ [runFrom P s none]).length - 1]? = some (runFrom P s none) := by simp
    refine ⟨ok, h.nd, by simp, by simp; omega, fun r hr => ?_, ?_, fun i r r2 h1 h2 => ?_, fun r hr => ?_, fun _ => ⟨_, last, rfl⟩, fun j hj => by cases hj⟩
    · rcases List.mem_append.mp hr with hr | hr
      · exact (hs r hr).1
      · rw [List.mem_singleton] at hr
        subst hr
        exact open_sim ok hc hf
    · rcases hc.first with ⟨rfl, rfl⟩ | ⟨r, h1, h2⟩
      · exact ⟨_, rfl, rfl, rfl, rfl⟩
      · exact ⟨r, by rw [List.getElem?_append_left (List.getElem?_eq_some_iff.mp h1).1]; exact h1, h2⟩
    · have l2 := (List.getElem?_eq_some_iff.mp h2).1
      rw [List.length_append, List.length_singleton] at l2
      rw [List.getElem?_append_left (by omega)] at h1
      by_cases hl : i + 1 < rs0.length
      · rw [List.getElem?_append_left hl] at h2
        exact hc.next h1 h2
      · have e : i + 1 = rs0.length := by omega
        rw [e, List.getElem?_append_right (Nat.le_refl _)] at h2
        simp at h2
        subst h2
        rcases hc.last with ⟨rfl, _⟩ | ⟨l, h3, h4, h5, h6⟩
        · simp at h1
        · have e2 : rs0.length - 1 = i := by omega
          rw [e2, h1] at h3
          cases h3
          exact ⟨h4, h5, h6⟩
    · rcases List.mem_append.mp hr with hr | hr
      · obtain ⟨a, b⟩ := sm2 r hr
        exact ⟨by omega, fun e he => by have := b e he; omega⟩
      · rw [List.mem_singleton] at hr
        subst hr
        exact ⟨show s.t ≤ _ by omega, fun e he => by cases he⟩
  · have hb := hc.bound ok h.nd
    obtain ⟨sm1, sm2⟩ := hc.small ok
    obtain ⟨sd, so, hs⟩ := hc.sim ok
    have hjl := (List.getElem?_eq_some_iff.mp hj).1
    have hne : rs ≠ [] := fun e => by rw [e] at hjl; exact absurd hjl (Nat.not_lt_zero _)
    obtain ⟨l, l1, l2, l3, l4⟩ : ∃ l, rs[rs.length - 1]? = some l ∧ l.fin = some s.t ∧ s.on = !l.on ∧ s.d = l.at_ s.t := by
      rcases hc.last with ⟨rfl, _⟩ | h
      · exact absurd rfl hne
      · exact h
    obtain ⟨k1, k2, k3⟩ := keyR_eq hk
    refine ⟨ok, h.nd, by omega, by omega, fun r hr => (hs r hr).1, ?_, fun i r r2 h1 h2 => hc.next h1 h2, fun r hr => ?_, fun z => (by cases z), fun j' hj' => ?_⟩
    · rcases hc.first with ⟨rfl, rfl⟩ | h
      · exact absurd rfl hne
      · exact h
    · obtain ⟨a, b⟩ := sm2 r hr
      exact ⟨by omega, fun e he => by have := b e he; omega⟩
    · cases hj'
      refine ⟨by omega, r, l, s.t, hj, l1, l2, ?_, ?_, sd.trans k2.symm, so.trans k3.symm, k3.trans l3⟩
      · have mono : ∀ (i : Nat) (a : RunD), rs[i]? = some a → a.beg < s.t := by
          intro i
          induction hn : rs.length - i generalizing i with
          | zero => intro a ha; have := (List.getElem?_eq_some_iff.mp ha).1; omega
          | succ n ih =>
            intro a ha
            obtain ⟨v, e, he⟩ := hs a (List.mem_of_getElem? ha)
            have hlt := (v.fin e he).1
            by_cases hl : i + 1 < rs.length
            · obtain ⟨b, hb⟩ := get_some hl
              have h1 := (hc.next ha hb).1
              rw [he] at h1
              cases h1
              have := ih (i + 1) (by omega) b hb
              omega
            · have e2 : i = rs.length - 1 := by have := (List.getElem?_eq_some_iff.mp ha).1; omega
              rw [e2, l1] at ha
              cases ha
              rw [he] at l2
              cases l2
              exact hlt
        exact mono j r hj
      · exact Int.emod_eq_emod_iff_emod_sub_eq_zero.mp k1.symm
end Wm
end

section
namespace Wm
open PySem
theorem begAt_of {rs : List RunD} {j : Int} {r : RunD} (h : rs[j.toNat]? = some r) : begAt rs j = r.beg := by unfold begAt; rw [h]
theorem finLast_of {rs : List RunD} {l : RunD} {e : Int} (h : rs[rs.length - 1]? = some l) (he : l.fin = some e) : finLast rs = e := by
  unfold finLast
  rw [h]
  obtain ⟨a, b, c, d, f⟩ := l
  cases he
  rfl
theorem HistV.pick {P : Par} {rs : List RunD} {loop : Option Int} (h : HistV P rs loop) {i : Nat} {r : RunD} {t : Int} (hi : rs[i]? = some r) (h1 : r.beg ≤ t) (h2 : ∀ r2, rs[i + 1]? = some r2 → t < r2.beg) (h3 : loop = none ∨ t < finLast rs) :
    dAt P t = r.at_ t ∧ oAt P t = r.on ∧ ∀ e, r.fin = some e → t < e := by
  have v := h.each r (List.mem_of_getElem? hi)
  have key : ∀ e, r.fin = some e → t < e := by
    intro e he
    by_cases hl : i + 1 < rs.length
    · obtain ⟨r2, hr2⟩ := get_some hl
      have := (h.next i r r2 hi hr2).1
      rw [he] at this
      cases this
      exact h2 r2 hr2
    · have hil := (List.getElem?_eq_some_iff.mp hi).1
      have e2 : i = rs.length - 1 := by omega
      rw [e2] at hi
      cases loop with
      | none =>
        obtain ⟨x, hx, hf⟩ := h.open_ rfl
        rw [hi] at hx
        cases hx
        rw [he] at hf
        cases hf
      | some j =>
        rcases h3 with h3 | h3
        · cases h3
        · rw [finLast_of hi he] at h3
          exact h3
  exact ⟨(v.sim t h1 key).1, (v.sim t h1 key).2, key⟩
structure Shut (P : Par) (rs : List RunD) (j : Int) : Prop where
  j0 : 0 ≤ j
  jl : j < rs.length
  b0 : 0 ≤ begAt rs j
  lt : begAt rs j < finLast rs
  big : finLast rs ≤ 9603 * 10 ^ 14
  c0 : 0 < circ rs j
  cB : circ rs j ≤ 9603 * 10 ^ 14
  ph : circ rs j % P.ch.length = 0
  d : dAt P (finLast rs) = dAt P (begAt rs j)
  o : oAt P (finLast rs) = oAt P (begAt rs j)
theorem HistV.shut_ {P : Par} {rs : List RunD} {j : Int} (h : HistV P rs (some j)) : Shut P rs j := by
  obtain ⟨j0, r, l, e, hj, hl, he, hlt, hm, hd, ho, _⟩ := h.shut j rfl
  have hjl := (List.getElem?_eq_some_iff.mp hj).1
  have b := begAt_of hj
  have f := finLast_of hl he
  have v := h.each r (List.mem_of_getElem? hj)
  have v2 := h.each l (List.mem_of_getElem? hl)
  have sm := (h.small l (List.mem_of_getElem? hl)).2 e he
  have s0 := v.sim r.beg (Int.le_refl _) (fun e' h' => (v.fin e' h').1)
  have ok : RunOk r := by rw [v.shape]; exact run_ok h.par _ _
  have hb := at_beg r ok
  have b0 := v.b0
  refine ⟨j0, by omega, by omega, by omega, by omega, ?_, ?_, ?_, ?_, ?_⟩
  · unfold circ; omega
  · unfold circ; omega
  · unfold circ; rw [b, f]; exact hm
  · rw [f, b, hd, s0.1, hb]
  · rw [f, b, ho, s0.2]
theorem Shut.per1 {P : Par} {rs : List RunD} {j : Int} (h : Shut P rs j) {t : Int} (ht : begAt rs j ≤ t) : dAt P (t + circ rs j) = dAt P t ∧ oAt P (t + circ rs j) = oAt P t := by
  have b0 := h.b0
  have lt := h.lt
  have e : begAt rs j + (((t - begAt rs j).toNat : Nat) : Int) = t := by omega
  have e2 : finLast rs + (((t - begAt rs j).toNat : Nat) : Int) = t + circ rs j := by unfold circ; omega
  have := per_sim P (a := finLast rs) (b := begAt rs j) (by omega) b0 (by
    have := h.ph
    unfold circ at this
    exact Int.emod_eq_emod_iff_emod_sub_eq_zero.mpr this) h.d h.o (t - begAt rs j).toNat
  rw [e, e2] at this
  exact this
theorem Shut.per {P : Par} {rs : List RunD} {j : Int} (h : Shut P rs j) {t : Int} (ht : begAt rs j ≤ t) : ∀ k : Nat, dAt P (t + k * circ rs j) = dAt P t ∧ oAt P (t + k * circ rs j) = oAt P t
  | 0 => by rw [show t + ((0 : Nat) : Int) * circ rs j = t by rw [Int.natCast_zero, Int.zero_mul]; omega]; exact ⟨rfl, rfl⟩
  | k + 1 => by
    obtain ⟨h1, h2⟩ := h.per ht k
    have c0 := h.c0
    have kc : 0 ≤ (k : Int) * circ rs j := Int.mul_nonneg (by omega) (by omega)
    obtain ⟨h3, h4⟩ := h.per1 (t := t + k * circ rs j) (by omega)
    have e : t + ((k + 1 : Nat) : Int) * circ rs j = t + k * circ rs j + circ rs j := by
      rw [Int.natCast_add, Int.add_mul]
      omega
    rw [e]
    exact ⟨h3.trans h1, h4.trans h2⟩
theorem Shut.perI {P : Par} {rs : List RunD} {j : Int} (h : Shut P rs j) {t k : Int} (ht : begAt rs j ≤ t) (hk : 0 ≤ k) : dAt P (t + k * circ rs j) = dAt P t ∧ oAt P (t + k * circ rs j) = oAt P t := by
  have := h.per ht k.toNat
  rw [Int.toNat_of_nonneg hk] at this
  exact this
/-- what wrapping tells -/
structure Wrap (P : Par) (rs : List RunD) (loop : Option Int) (t : Int) : Prop where
  p0 : 0 ≤ wrapP rs loop t
  pt : wrapP rs loop t ≤ t
  pl : loop = none ∨ wrapP rs loop t < finLast rs
  t0 : 0 ≤ wrapT rs loop t
  tt : wrapT rs loop t ≤ t
  d : dAt P (wrapP rs loop t) = dAt P t
  o : oAt P (wrapP rs loop t) = oAt P t
  ph : wrapP rs loop t % P.ch.length = t % P.ch.length
  eq : ∀ j, loop = some j → t = wrapP rs loop t + wrapT rs loop t * circ rs j ∧ (0 < wrapT rs loop t → begAt rs j ≤ wrapP rs loop t)
  zero : wrapT rs loop t = 0 → wrapP rs loop t = t
theorem HistV.wrap {P : Par} {rs : List RunD} {loop : Option Int} (h : HistV P rs loop) {t : Int} (ht : 0 ≤ t) : Wrap P rs loop t := by
  cases loop with
  | none => exact ⟨ht, Int.le_refl t, .inl rfl, Int.le_refl 0, ht, rfl, rfl, rfl, fun j hj => (by cases hj), fun _ => rfl⟩
  | some j =>
    have s := h.shut_
    have b0 := s.b0
    have lt := s.lt
    have c0 := s.c0
    by_cases hl : t < finLast rs
    · have e1 : wrapP rs (some j) t = t := by unfold wrapP; simp only; rw [if_pos hl]
      have e2 : wrapT rs (some j) t = 0 := by unfold wrapT; simp only; rw [if_pos hl]
      refine ⟨by omega, by omega, .inr (by omega), by omega, by omega, by rw [e1], by rw [e1], by rw [e1], fun j' hj' => ?_, fun _ => e1⟩
      rw [e1, e2, Int.zero_mul]
      exact ⟨by omega, fun z => absurd z (by omega)⟩
    · have e1 : wrapP rs (some j) t = t - (t - begAt rs j) / circ rs j * circ rs j := by unfold wrapP; simp only; rw [if_neg hl]
      have e2 : wrapT rs (some j) t = (t - begAt rs j) / circ rs j := by unfold wrapT; simp only; rw [if_neg hl]
      have q0 : 0 ≤ (t - begAt rs j) / circ rs j := Int.ediv_nonneg (by omega) (by omega)
      have q1 : (t - begAt rs j) / circ rs j ≤ t - begAt rs j := Int.ediv_le_self _ (by omega)
      have m := Int.emod_add_mul_ediv (t - begAt rs j) (circ rs j)
      have m0 := Int.emod_nonneg (t - begAt rs j) (show circ rs j ≠ 0 by omega)
      have m1 := Int.emod_lt_of_pos (t - begAt rs j) c0
      rw [Int.mul_comm] at m
      generalize hq : (t - begAt rs j) / circ rs j = q at *
      have qc : 0 ≤ q * circ rs j := Int.mul_nonneg q0 (by omega)
      have hc : circ rs j = finLast rs - begAt rs j := rfl
      have pb : begAt rs j ≤ t - q * circ rs j := by omega
      have per := s.perI pb q0
      rw [show t - q * circ rs j + q * circ rs j = t by omega] at per
      refine ⟨by omega, by omega, .inr (by omega), by omega, by omega, by rw [e1]; exact per.1.symm, by rw [e1]; exact per.2.symm, ?_, fun j' hj' => ?_, fun z => ?_⟩
      · rw [e1]
        have hd : (P.ch.length : Int) ∣ circ rs j := Int.dvd_of_emod_eq_zero s.ph
        have hd2 : (P.ch.length : Int) ∣ q * circ rs j := Int.dvd_trans hd (Int.dvd_mul_left _ _)
        refine Int.emod_eq_emod_iff_emod_sub_eq_zero.mpr ?_
        rw [show t - q * circ rs j - t = -(q * circ rs j) by omega]
        exact Int.emod_eq_zero_of_dvd (Int.dvd_neg.mpr hd2)
      · cases hj'
        rw [e1, e2]
        exact ⟨by omega, fun _ => pb⟩
      · rw [e2] at z
        rw [e1, z, Int.zero_mul, Int.sub_zero]
end Wm
end

section
namespace Wm
open PySem PySem.Spec PyProof.Rows L2 StX
/-! ## Histories: asking -/
def sp_History_circle (K : PySem.W.Frag) (A : Ads) : Sp := fun vs H Q _ => ∃ (p : Addr) (P : Par) (rs : List RunD) (j : Int), vs = [.ref p] ∧ IsHist K A H p P rs (some j) ∧ Q (.int (circ rs j)) H
def sp_History_wrapped (K : PySem.W.Frag) (A : Ads) : Sp := fun vs H Q _ => ∃ (p : Addr) (t : Int) (P : Par) (rs : List RunD) (loop : Option Int), vs = [.ref p, .int t] ∧ IsHist K A H p P rs loop ∧
  ∀ q H', Ex H H' → H q = none → H' q = some (.tup [.int (wrapT rs loop t), .int (wrapP rs loop t)]) → Q (.ref q) H'
def sp_History_run_at (K : PySem.W.Frag) (A : Ads) : Sp := fun vs H Q _ => ∃ (p : Addr) (t : Int) (P : Par) (rs : List RunD) (loop : Option Int), vs = [.ref p, .int t] ∧ IsHist K A H p P rs loop ∧ 0 ≤ t ∧
  ∀ (i : Nat) (a : Addr) (r : RunD), rs[i]? = some r → IsRun K A H a r → r.beg ≤ t → (∀ r2, rs[i + 1]? = some r2 → t < r2.beg) → Q (.ref a) H
def t_History_circle (K : PySem.W.Frag) (A : Ads) : TS := tRet (tOp (rI0 fun i j => .int (i - j)) (tFld K (tOp (rIx K) (tFld K (tVar 0) "runs") (tUn (rU fun i => .int (-i)) (tC (.int 1)))) "end") (tFld K (tOp (rIx K) (tFld K (tVar 0) "runs") (tFld K (tVar 0) "loop")) "begin"))
def t_History_wrapped (K : PySem.W.Frag) (A : Ads) : TS := tSeq (tIfS (tOr (tTest (tOp rIsN (tFld K (tVar 0) "loop") (tC .non))) (tTest (tOp (rI0 fun i j => .bl (decide (i < j))) (tVar 1) (tFld K (tOp (rIx K) (tFld K (tVar 0) "runs") (tUn (rU fun i => .int (-i)) (tC (.int 1)))) "end")))) (tRet (tTup (tCons (tC (.int 0)) (tCons (tVar 1) (tNil))))) (tNext)) (tSeq (tAsg (tOp (rI CDivW fun i j => .int (i / j)) (tOp (rI0 fun i j => .int (i - j)) (tVar 1) (tFld K (tOp (rIx K) (tFld K (tVar 0) "runs") (tFld K (tVar 0) "loop")) "begin")) (tMtd A.cHistory "circle" (sp_History_circle K A) E0 (tVar 0) tNil)) (gName 2)) (tRet (tTup (tCons (tVar 2) (tCons (tOp (rI0 fun i j => .int (i - j)) (tVar 1) (tOp (rI CMul fun i j => .int (i * j)) (tVar 2) (tMtd A.cHistory "circle" (sp_History_circle K A) E0 (tVar 0) tNil))) (tNil))))))
def t_History_run_at (K : PySem.W.Frag) (A : Ads) : TS := tSeq (tPar 2 3 (tCons (tC (.int 0)) (tCons (tCB (rLen K) (tCons (tFld K (tVar 0) "runs") (tNil))) (tNil)))) (tSeq (tWhile (tTest (tOp (rI0 fun i j => .bl (decide (j < i))) (tOp (rI0 fun i j => .int (i - j)) (tVar 3) (tVar 2)) (tC (.int 1)))) (tSeq (tAsg (tOp (rI CDivW fun i j => .int (i / j)) (tOp (rI0 fun i j => .int (i + j)) (tVar 2) (tVar 3)) (tC (.int 2))) (gName 4)) (tIfS (tTest (tOp (rI0 fun i j => .bl (decide (i ≤ j))) (tFld K (tOp (rIx K) (tFld K (tVar 0) "runs") (tVar 4)) "begin") (tVar 1))) (tAsg (tVar 4) (gName 2)) (tAsg (tVar 4) (gName 3))))) (tRet (tOp (rIx K) (tFld K (tVar 0) "runs") (tVar 2))))
section
variable {K : PySem.W.Frag} {A : Ads}
theorem IsHist.last {H : Hp} {ras : List Addr} {rs : List RunD} (h : RunsAt K A H ras rs) {l : RunD} (hl : rs[rs.length - 1]? = some l) : ∃ a dx s, atI (ras.map V.ref) (-1) = some (V.ref a) ∧ IsRun K A H a l ∧ H a = some (.ins A.cRun dx (runF l s)) := by
  obtain ⟨a, dx, s, h1, h2, h3⟩ := h.get hl
  refine ⟨a, dx, s, last_at ?_, h2, h3⟩
  rw [List.length_map, h.len]
  exact refs_at h1
theorem IsHist.num {H : Hp} {ras : List Addr} {rs : List RunD} (h : RunsAt K A H ras rs) {j : Int} (j0 : 0 ≤ j) {r : RunD} (hj : rs[j.toNat]? = some r) : ∃ a dx s, atI (ras.map V.ref) j = some (V.ref a) ∧ IsRun K A H a r ∧ H a = some (.ins A.cRun dx (runF r s)) := by
  obtain ⟨a, dx, s, h1, h2, h3⟩ := h.get hj
  exact ⟨a, dx, s, atI_of j0 (refs_at h1), h2, h3⟩
theorem pure_History_circle (vs : List V) (H : Hp) (Q : VK) (E : XK) (h : sp_History_circle K A vs H Q E) : t_History_circle K A { nx := fun _ H' => Q .non H', rt := Q } (start ["self"] vs) H := by
  obtain ⟨p, P, rs, j, rfl, ⟨TH, TR, hok, dx, sh, ru, ras, h1, h2, h3, h4⟩, k⟩ := h
  obtain ⟨j0, r, l, e, hj, hl, he, _⟩ := hok.v.shut j rfl
  obtain ⟨a, dx1, s1, i1, ir1, o1⟩ := IsHist.num h4 j0 hj
  obtain ⟨b, dx2, s2, i2, ir2, o2⟩ := IsHist.last h4 hl
  show t_History_circle K A _ [some (.ref p)] H
  unfold t_History_circle
  walk_at "s"
  refine rix_h h3 i2 ?_
  walk_at "s"
  refine rix_h h3 i1 ?_
  walk_at "s"
  refine ⟨e, r.beg, by rw [he] <;> rfl, rfl, ?_⟩
  unfold circ at k
  rw [begAt_of hj, finLast_of hl he] at k
  exact k
theorem pure_History_wrapped (vs : List V) (H : Hp) (Q : VK) (E : XK) (h : sp_History_wrapped K A vs H Q E) : t_History_wrapped K A { nx := fun _ H' => Q .non H', rt := Q } (start ["self", "tick", "turns"] vs) H := by
  obtain ⟨p, t, P, rs, loop, rfl, ih, k⟩ := h
  obtain ⟨TH, TR, hok, dx, sh, ru, ras, h1, h2, h3, h4⟩ := id ih
  have hv := hok.v
  show t_History_wrapped K A _ [some (.ref p), some (.int t), none] H
  unfold t_History_wrapped
  cases loop with
  | none =>
    walk_at "s"
    refine r_ite (fun _ => ?_) (fun c => absurd rfl (of_decide_eq_false c))
    walk_at "s"
    refine tup_n (by walk_at "sz") (Hold.start H) fun q H' hq hq' hh => k q H' hh.ex hq hq'
  | some j =>
    obtain ⟨j0, r, l, e, hj, hl, he, _⟩ := hv.shut j rfl
    have sc := hv.shut_
    obtain ⟨a, dx1, s1, i1, ir1, o1⟩ := IsHist.num h4 j0 hj
    obtain ⟨b, dx2, s2, i2, ir2, o2⟩ := IsHist.last h4 hl
    walk_at "s"
    refine r_ite (fun c => absurd (of_decide_eq_true c) (by intro z; cases z)) (fun _ => ?_)
    walk_at "s"
    refine rix_h h3 i2 ?_
    walk_at "s"
    refine ⟨t, e, rfl, by rw [he] <;> rfl, ?_⟩
    have eb := begAt_of hj
    have ef := finLast_of hl he
    have c0 := sc.c0
    have cB := sc.cB
    unfold wrapT wrapP at k
    simp only [eb, ef] at k
    walk_at "s"
    refine r_ite (fun c => ?_) (fun c => ?_)
    · rw [if_pos (of_decide_eq_true c), if_pos (of_decide_eq_true c)] at k
      walk_at "s"
      refine tup_n (by walk_at "sz") (Hold.start H) fun q H' hq hq' hh => k q H' hh.ex hq hq'
    · rw [if_neg (of_decide_eq_false c), if_neg (of_decide_eq_false c)] at k
      walk_at "s"
      refine rix_h h3 i1 ?_
      walk_at "s"
      refine ⟨p, P, rs, j, rfl, ih, ?_⟩
      refine r_I (cdiv (by omega) (by omega)) ?_
      walk_at "s"
      refine ⟨p, P, rs, j, rfl, ih, ?_⟩
      refine r_I (cmulR (by omega)) ?_
      walk_at "s"
      refine tup_n (by walk_at "sz") (Hold.start H) fun q H' hq hq' hh => k q H' hh.ex hq hq'
theorem pure_History_run_at (vs : List V) (H : Hp) (Q : VK) (E : XK) (h : sp_History_run_at K A vs H Q E) : t_History_run_at K A { nx := fun _ H' => Q .non H', rt := Q } (start ["self", "tick", "low", "high", "middle"] vs) H := by
  obtain ⟨p, t, P, rs, loop, rfl, ih, t0, k⟩ := h
  obtain ⟨TH, TR, hok, dx, sh, ru, ras, h1, h2, h3, h4⟩ := id ih
  have hv := hok.v
  have hne := hv.ne
  show t_History_run_at K A _ [some (.ref p), some (.int t), none, none, none] H
  unfold t_History_run_at
  obtain ⟨r0, f1, f2, _⟩ := hv.first
  walk_at "s"
  rw [List.length_map, h4.len]
  refine whileA (fun m σ H' => H' = H ∧ ∃ (lo hi : Nat) (v : Option V), σ = [some (.ref p), some (.int t), some (.int (lo : Int)), some (.int (hi : Int)), v] ∧ lo < hi ∧ hi ≤ rs.length ∧ m = hi - lo ∧ (∃ r, rs[lo]? = some r ∧ r.beg ≤ t) ∧ (∀ r, rs[hi]? = some r → t < r.beg)) rs.length
    ⟨rfl, 0, rs.length, none, rfl, hne, Nat.le_refl _, rfl, ⟨r0, f1, by omega⟩, fun r hr => by have := (List.getElem?_eq_some_iff.mp hr).1; omega⟩ ?_
  rintro m σ H' ⟨rfl, lo, hi, v, rfl, hlt, hle, rfl, ⟨rl, hrl, hrlt⟩, hhi⟩
  have len := hv.le
  refine ⟨decide (1 < (hi : Int) - lo), fun Q q => by walk_at "s"; exact q, fun c => ?_, fun c => ?_⟩
  · have c := of_decide_eq_true c
    have m1 : (((lo + hi) / 2 : Nat) : Int) = ((lo : Int) + hi) / 2 := by omega
    obtain ⟨rm, hrm⟩ := get_some (l := rs) (i := (lo + hi) / 2) (by omega)
    obtain ⟨a, dx1, s1, i1, ir1, o1⟩ := IsHist.num h4 (j := ((lo : Int) + hi) / 2) (by omega) (by rw [← m1, Int.toNat_natCast]; exact hrm)
    walk_at "s"
    refine rix_h h3 i1 ?_
    walk_at "s"
    refine r_ite (fun c2 => ?_) (fun c2 => ?_)
    · walk_at "s"
      exact ⟨hi - (lo + hi) / 2, by omega, by trivial, (lo + hi) / 2, hi, _, by rw [m1], by omega, hle, rfl, ⟨rm, hrm, of_decide_eq_true c2⟩, hhi⟩
    · walk_at "s"
      refine ⟨(lo + hi) / 2 - lo, by omega, by trivial, lo, (lo + hi) / 2, _, by rw [m1], by omega, by omega, rfl, ⟨rl, hrl, hrlt⟩, fun r hr => ?_⟩
      rw [hrm] at hr
      cases hr
      have := of_decide_eq_false c2
      omega
  · have c := of_decide_eq_false c
    have e : hi = lo + 1 := by omega
    subst e
    obtain ⟨a, dx1, s1, i1, ir1, o1⟩ := IsHist.num h4 (j := (lo : Int)) (by omega) (by rw [Int.toNat_natCast]; exact hrl)
    walk_at "s"
    refine rix_h h3 i1 ?_
    exact k lo a rl hrl ir1 hrlt hhi
end
end Wm
end

section
/-! ## enumerate over a tuple -/
namespace PySem
open Sem (wp)
open AutoSeq1 (wpAny_loadPart')
theorem wm_meets_enum1 {v : Value} {o : Obj} {H : Heap → Prop} (B : Begins v o H) :
    Meets (Builtin.«enumerate.__new__» ⟨[.type "enumerate", v], []⟩) (fun _ R s => H s.heap ∧
      R (.ok (.ret (.ref (s.heap.push o).objs.size))) { s with heap := (s.heap.push o).push { cls := .type "enumerate", data := .fields #[.none, .bool false, .ref s.heap.objs.size, rawInt 0, .none, .none] } }) :=
  .of_wp fun prog w A R s h => by
    obtain ⟨hp, g, d, tk, os⟩ := s; obtain ⟨h1, h⟩ := h
    have hsub := sub_enumerate
    have q1 : ∀ {A' : Around} {E : Value → Shared → Prop} {Q : Value → Shared → Prop}, Q (.ref hp.objs.size) ⟨hp.push o, g, d, tk, os⟩ → wpAny (model prog w) A' (pyIter v) Q E ⟨hp, g, d, tk, os⟩ :=
      fun q => B.iter prog w _ _ ⟨hp, g, d, tk, os⟩ _ h1 q
    wp_walk using q1
    refine wpAny_stack_any fun st => wpAny_pure ?_
    split
    · rename_i c _ _ _ _ _
      cases (c == Value.type "enumerate")
      · wp_walk using q1
        exact ⟨_, rfl, h⟩
      · wp_walk using q1
        exact ⟨_, rfl, h⟩
    · wp_walk using q1
      exact ⟨_, rfl, h⟩
section
variable {prog : Program} {w : World} {A : Around} {E : Value → Shared → Prop} {s : Shared}
theorem wm_enum1 {v : Value} {o : Obj} {H : Heap → Prop} {Q : Value → Shared → Prop} (B : Begins v o H) (h1 : H s.heap)
    (h : ∀ h', IsEnum h' (s.heap.objs.size + 1) s.heap.objs.size 0 .none → h'.get? s.heap.objs.size = some o → h'.objs.size = s.heap.objs.size + 2 →
      (∀ b o, s.heap.get? b = some o → h'.get? b = some o) → Q (.ref (s.heap.objs.size + 1)) { s with heap := h' }) :
    wpAny (model prog w) A (call (.type "enumerate") [v]) Q E s := by
  refine callType_new F.called_enumerate (by decide) (F.typeCall_enumerate_1 _) (F.newCall_enumerate_1 _) (fun obj => F.args_object_init_2 obj _) F.entry_enumerate_new
    (wm_meets_enum1 B) ⟨h1, ?_⟩
  have hz : (s.heap.push o).objs.size = s.heap.objs.size + 1 := Heap.size_push ..
  show _ ∧ _
  rw [hz]
  have he : IsEnum ((s.heap.push o).push { cls := .type "enumerate", data := .fields #[.none, .bool false, .ref s.heap.objs.size, rawInt 0, .none, .none] }) (s.heap.objs.size + 1) s.heap.objs.size 0 .none := by
    have := Heap.get?_push_size (s.heap.push o) (o := { cls := .type "enumerate", data := .fields #[.none, .bool false, .ref s.heap.objs.size, rawInt 0, .none, .none] }) rfl
    rw [hz] at this; exact this
  refine ⟨⟨_, he, rfl⟩, h _ he (Heap.get?_push_of_some _ (Heap.get?_push_size _ B.free)) (by rw [Heap.size_push, hz]) fun b o x => Heap.get?_push_of_some _ (Heap.get?_push_of_some _ x)⟩
end
end PySem
namespace Wm
open PySem PySem.Spec PyProof.Rows L2 StX
/-- the tuple at a, each item in a new pair -/
def Iet (K : PySem.W.Frag) (a : Addr) : It :=
  ⟨fun i H => ∃ (xs : List V) (x : V), SqT K H a xs ∧ xs[i]? = some x, fun i H v H' => ∃ T x, v = .ref T ∧ H T = none ∧ H' = upd H T (.tup [.int (i : Nat), x]) ∧ ∀ xs, SqT K H a xs → xs[i]? = some x, fun i H => ∃ xs : List V, SqT K H a xs ∧ xs.length = i⟩
theorem sqT_inj {X : Cx} {pins : List (Addr × Obj)} {σ : L2.St} {H : Hp} {s : Shared} {a : Addr} {xs ys : List V} (I : Inv X pins σ H s) (h : SqT X.K H a xs) (h2 : SqT X.K H a ys) : xs = ys := I.tuple_inj h h2
theorem turn_enumT {P : Program} {w : World} {K : PySem.W.Frag} {elts : List Expr} {kk : Nat} {tpos : Pos} (a e it : Addr) (hai : a ≠ it) :
    Turn P w K (.Tuple elts kk tpos) (Iet K a) [e, it] e (fun i h => (∃ old, IsEnum h e it ((i : Nat) : Int) old) ∧ h.IsTupleIter it a i ∧ e ≠ it) where
  mem := by simp
  obj := fun i h st b hb => by
    obtain ⟨⟨old, he⟩, ⟨o, ho, hc, hd⟩, _⟩ := st
    have e' : b = e ∨ b = it := by simpa using hb
    rcases e' with z | z
    · rw [z]; exact ⟨_, he, fun v q => nomatch q⟩
    · rw [z]; exact ⟨o, ho, fun v q => by rw [hd] at q; cases q⟩
  keep := fun i h h' st k => let ⟨⟨old, he⟩, hi, hne⟩ := st; ⟨⟨old, k e (by simp) _ he⟩, hi.at fun o q => k it (by simp) o q, hne⟩
  item := by
    intro X hP hw hK hc i pins s σ H E I hf st hg
    subst hP hw hK
    obtain ⟨⟨old, he⟩, hit, hne⟩ := st
    obtain ⟨xs, x, hq, hx⟩ := hg
    obtain ⟨its, rv, p, hz⟩ := I.tuple hq
    obtain ⟨u, hu, ru⟩ := rv.get hx
    have hel : e < s.heap.objs.size := Heap.lt_size he
    have hil : it < s.heap.objs.size := by obtain ⟨_, q, _⟩ := hit; exact Heap.lt_size q
    have hil2 : i < its.toArray.size := by
      have := (List.getElem?_eq_some_iff.mp hu).1
      simpa using this
    have hea : e ≠ a := fun z => by
      obtain ⟨o, ho, hc', _⟩ := p
      rw [z] at he
      rw [he] at ho
      cases ho
      exact absurd (Value.type.inj hc') (by decide)
    refine wpAny_pyNext_enum_itemC (Draws.tuple (A := X.A.in1) (I.ok.hd hc) it a hai its.toArray) he ⟨hit, p⟩ hil2 hne (by simp [hne, hea]) fun x' h' tk hx' ho hst hT hsz hk => ?_
    have hxu : x' = u := by
      have h2 : its.toArray[i]? = some u := by simpa using hu
      rw [h2] at hx'
      cases hx'
      rfl
    subst hxu
    refine ⟨_, rfl, wpAny_letOwnedTupleGo_enum (s := { s with heap := h', toks := tk + 1 }) ho fun h'' he' sb => ?_⟩
    have hT2 : h''.get? s.heap.objs.size = some { cls := .type "tuple", data := .seq #[.int i tk, x'] } := (sb.2 _ (Nat.ne_of_gt hel)).trans hT
    have new : ObjOk X.prog X.w (upd H s.heap.objs.size (.tup [.int (i : Nat), x])) h'' s.heap.objs.size (.tup [.int (i : Nat), x]) :=
      ⟨by show 2 ≤ sizeLine; decide, [.int i tk, x'], .cons ⟨_, rfl⟩ (.cons ru .nil), ⟨_, hT2, rfl, _, rfl⟩⟩
    have I1 : Inv X pins σ (upd H s.heap.objs.size (.tup [.int (i : Nat), x])) { s with heap := h'', toks := tk + 1 } :=
      I.turnedNew (ch := [e, it]) (fun b ob hb q => (sb.2 b (fun z => hb (by simp [z]))).trans (hk b ob (fun z => hb (by simp [z])) (fun z => hb (by simp [z])) q)) hf (Nat.le_refl _) new
    refine ⟨.ref s.heap.objs.size, _, I1, rfl, ⟨_, x, rfl, I.hok.fresh (Nat.le_refl _), rfl, fun ys hy => by rw [sqT_inj I hy hq]; exact hx⟩, ⟨⟨x', ?_⟩, hst.1.at fun o q => (sb.2 it (Ne.symm hne)).trans q, hne⟩, fun b hb => ?_⟩
    · have e1 : ((i + 1 : Nat) : Int) = (i : Int) + 1 := by omega
      rw [e1]; exact he'
    · have hb' : b < s.heap.objs.size := by
        have e' : b = e ∨ b = it := by simpa using hb
        rcases e' with z | z
        · rw [z]; exact hel
        · rw [z]; exact hil
      rw [upd_ne (Nat.ne_of_lt hb')]
      exact (hf b hb).1
  done := by
    intro X hP hw hK hc i pins s σ H E I hf st hg
    subst hP hw hK
    obtain ⟨⟨old, he⟩, hit, hne⟩ := st
    obtain ⟨xs, hq, hx⟩ := hg
    obtain ⟨its, rv, p, hz⟩ := I.tuple hq
    obtain ⟨f0, f1, f2, f3, f4, f5⟩ := hf it (by simp)
    have hl := rv.length
    have p2 : s.heap.IsTuple a its.toArray := p
    have hn : its.toArray.size = i := by rw [List.size_toArray, ← hl]; exact hx
    subst hn
    exact wpAny_pyNext_enum_endD (Draws.tuple (A := X.A.in1) (I.ok.hd hc) it a hai its.toArray) he ⟨hit, p2⟩ fun h' eb => ⟨rfl, I.turned (t' := s.toks) (fun b o hb q => eb b o hb q) f0 f1 f3 f4 f5⟩
  self := fun A i s Q E st h => let ⟨⟨_, he⟩, _⟩ := st; wpAny_pyIter_enum he h
def iEnumT (K : PySem.W.Frag) (ta : TA) : TI := fun σ H R => ta σ H fun vs H1 => ∃ a xs, vs = [.ref a] ∧ SqT K H1 a xs ∧ R (Iet K a) H1
theorem pi_enumT {X : Cx} {e : Expr} {ta : TA} {p pos tpos : Pos} {elts : List Expr} {kk : Nat} (hg : Gl X "enumerate") (hm : X.mg "enumerate" = none) (ha : PA X [e] ta) (hs : starEach [e] X.env = [(false, eval e X.env)] := by rfl) :
    PI X (.Tuple elts kk tpos) (.Call (.Name "enumerate" p) [e] [] pos) (iEnumT X.K ta) := by
  refine ⟨fun pins s σ H R I h => ?_⟩
  refine Call_ (ld_blt I hg hm boot_enumerate (PyProof.Rows.callWith_type1 (thn (ha.run pos pins s σ H _ I h) fun us s1 ⟨vs, H1, I1, r1, q1⟩ => ?_) hs rfl))
  obtain ⟨a, xs, ex, hq, q⟩ := q1
  subst ex
  cases r1 with
  | cons r rr =>
    cases rr
    cases r
    obtain ⟨its, rv, p', hz⟩ := I1.tuple hq
    have p2 : s1.heap.IsTuple a its.toArray := p'
    have hal : a < s1.heap.objs.size := by obtain ⟨_, q, _⟩ := p2; exact Heap.lt_size q
    refine wm_enum1 (begins_tuple a its.toArray) p2 fun h' he hit hsz hk => wpAny_pyIter_enum he ?_
    have I2 : Inv X pins σ H1 { s1 with heap := h' } := I1.kept (t' := s1.toks) hk
    refine ⟨s1.heap.objs.size + 1, [s1.heap.objs.size + 1, s1.heap.objs.size], _, _, H1, rfl, I2, turn_enumT a (s1.heap.objs.size + 1) s1.heap.objs.size (Nat.ne_of_lt hal), ⟨⟨.none, he⟩, ⟨_, hit, rfl, rfl⟩, Nat.succ_ne_self _⟩, fun b hb => ?_, q⟩
    have e' : b = s1.heap.objs.size + 1 ∨ b = s1.heap.objs.size := by simpa using hb
    have hle : s1.heap.objs.size ≤ b := by
      rcases e' with z | z
      · rw [z]; exact Nat.le_add_right _ _
      · rw [z]; exact Nat.le_refl _
    exact I1.fpOk hle (I1.hok.fresh hle)
/-- for i, x in enumerate(t) -/
def ForET (K : PySem.W.Frag) (g : TG) (tb : TS) (D : Ends) (σ : L2.St) (vs : List V) (H1 : Hp) : Prop := ∃ a xs, vs = [.ref a] ∧ SqT K H1 a xs ∧ TurnsW (Iet K a) g tb D σ H1
section
variable {K : PySem.W.Frag} {H : Hp} {σ : L2.St} {D : Ends} {a : Addr} {xs : List V} {tr : TA} {g : TG} {tb : TS}
theorem r_forET (k : tr σ H fun vs H1 => ForET K g tb D σ vs H1) : tFor (iEnumT K tr) g tb D σ H := k
theorem forET_by (e : SqT K H a xs) (Pv : Nat → L2.St → Hp → Prop) (h0 : Pv 0 σ H) (hl : ∀ i σ H, i ≤ xs.length → Pv i σ H → Ex H H ∧ SqT K H a xs)
    (hs : ∀ i x σ H T, xs[i]? = some x → Pv i σ H → H T = none → g (.ref T) σ (upd H T (.tup [.int (i : Int), x])) fun σ2 H2 => tb { D with nx := Pv (i + 1), ct := Pv (i + 1), bk := D.nx } σ2 H2) (hd : ∀ σ H, Pv xs.length σ H → D.nx σ H) : ForET K g tb D σ [.ref a] H := by
  refine ⟨a, xs, rfl, e, fun i m σ H => m = xs.length - i ∧ i ≤ xs.length ∧ Pv i σ H, ⟨xs.length, rfl, Nat.zero_le _, h0⟩, ?_⟩
  rintro i m σ H ⟨rfl, hi, p⟩
  by_cases hlt : i < xs.length
  · obtain ⟨x, hx⟩ := get_some hlt
    refine .inr ⟨⟨xs, x, (hl i σ H hi p).2, hx⟩, Pv (i + 1), fun σ' H' h => ⟨xs.length - (i + 1), by omega, rfl, hlt, h⟩, ?_⟩
    rintro v H' ⟨T, y, rfl, hT, rfl, hy⟩
    exact hs i y σ H T (hy xs (hl i σ H hi p).2) p hT
  · have e : i = xs.length := by omega
    subst e
    exact .inl ⟨⟨xs, (hl _ σ H hi p).2, rfl⟩, hd σ H p⟩
end
end Wm
namespace Wm
open PySem PySem.Spec PyProof.Rows L2 StX
/-! ## a op b op c op d -/
def tChain3 (r r' r'' : R2) (ta tb tc td : TE) : TE := fun σ H Q => ta σ H fun x H1 => tb σ H1 fun y H2 => r x y H2 fun z H3 => ∃ k, z = .bl k ∧
  (if k = true then tc σ H3 fun w' H4 => r' y w' H4 (fun z' H5 => ∃ k', z' = .bl k' ∧ (if k' = true then td σ H5 fun v' H6 => r'' w' v' H6 Q else Q (.bl false) H5)) else Q (.bl false) H3)
section
variable {X : Cx} {a b c d : Expr} {ta tb tc td : TE} {op op' op'' : CmpOp} {r r' r'' : R2} {pos : Pos}
theorem pt_chain3 (ho : OpR X (compareOp op) r) (ho' : OpR X (compareOp op') r') (ho'' : OpR X (compareOp op'') r'') (ha : PE X a ta) (hb : PE X b tb) (hc : PE X c tc) (hd : PE X d td)
    (hm : lastMarks [op, op', op''] [b, c, d] = false := by with_unfolding_all rfl) : PT X (.Compare a [op, op', op''] [b, c, d] pos) (tTest (tChain3 r r' r'' ta tb tc td)) := by
  refine ⟨fun pins s σ H Q I h => ?_⟩
  refine isTrue_chain (thn (ha.run pins s σ H _ I h) fun v s1 ⟨x, H1, I1, r1, q1⟩ => test_link (thn (hb.run pins s1 σ H1 _ I1 q1) fun u s2 ⟨y, H2, I2, r2, q2⟩ =>
    thn (ho pins s2 σ H2 x y v u _ I2 r1 r2 q2) fun dd s3 ⟨z, H3, I3, r3, k, e, q3⟩ => ?_)) hm
  subst e
  cases r3
  refine wpAny_truthy_bool ?_
  cases k with
  | false =>
    obtain ⟨k', e', q'⟩ := q3
    cases e'
    exact ite_ff ⟨H3, I3, q'⟩
  | true =>
    refine ite_tt (test_link (thn (hc.run pins s3 σ H3 _ I3 q3) fun w' s4 ⟨z', H4, I4, r4, q4⟩ => thn (ho' pins s4 σ H4 y z' u w' _ I4 r2 r4 q4) fun d' s5 ⟨z2, H5, I5, r5, k2, e2, q5⟩ => ?_))
    subst e2
    cases r5
    refine wpAny_truthy_bool ?_
    cases k2 with
    | false =>
      obtain ⟨k', e', q'⟩ := q5
      cases e'
      exact ite_ff ⟨H5, I5, q'⟩
    | true =>
      refine ite_tt (test_last (thn (hd.run pins s5 σ H5 _ I5 q5) fun w6 s6 ⟨z6, H6, I6, r6, q6⟩ => thn (ho'' pins s6 σ H6 z' z6 w' w6 _ I6 r4 r6 q6) fun d7 s7 ⟨z7, H7, I7, r7, k7, e7, q7⟩ => ?_))
      subst e7
      cases r7
      exact wpAny_truthy_bool ⟨H7, I7, q7⟩
end
section
variable {σ : L2.St} {H : Hp} {Q : VK} {ta tb tc td : TE} {r r' r'' : R2}
theorem r_chain3 (k : ta σ H fun x H1 => tb σ H1 fun y H2 => r x y H2 fun z H3 => ∃ k, z = .bl k ∧
  (if k = true then tc σ H3 fun w' H4 => r' y w' H4 (fun z' H5 => ∃ k', z' = .bl k' ∧ (if k' = true then td σ H5 fun v' H6 => r'' w' v' H6 Q else Q (.bl false) H5)) else Q (.bl false) H3)) : tChain3 r r' r'' ta tb tc td σ H Q := k
end
end Wm
namespace Wm
section
variable {A B P : Prop} [Decidable P]
theorem r_dT (h : P) (k : A) : if decide P = true then A else B := by rw [if_pos (decide_eq_true h)]; exact k
theorem r_dF (h : ¬ P) (k : B) : if decide P = true then A else B := by rw [if_neg (by rw [decide_eq_false h]; exact Bool.false_ne_true)]; exact k
theorem r_dN (h : P) (k : B) : if (!decide P) = true then A else B := by rw [decide_eq_true h]; exact k
theorem r_dM (h : ¬ P) (k : A) : if (!decide P) = true then A else B := by rw [decide_eq_false h]; exact k
theorem r_nT (k : B) : if (!true) = true then A else B := k
end
end Wm
namespace Wm
open PySem PySem.Spec PyProof.Rows L2 StX
/-- C(e, .., k = v, ..) -/
def tMakKw (C : Addr) (n m : Nat) (sp : Sp) (E : XK) (t tk : TA) : TE := tMakeK C n m sp (fun us ws => us ++ ws) E t tk
def rMakKw (C : Addr) (n m : Nat) (sp : Sp) (E : XK) (vs zs : List V) (H2 : Hp) (Q : VK) : Prop := vs.length = n ∧ zs.length = m ∧ ∀ x dx, H2 x = none → H2 dx = none → dx ≠ x →
  sp ((.ref x :: vs) ++ zs) (upd (upd H2 dx (.own x)) x (.ins C dx [])) (fun v H3 => v = .non ∧ Q (.ref x) H3) E
theorem r_makKw {C : Addr} {n m : Nat} {sp : Sp} {E : XK} {t tk : TA} {σ : L2.St} {H : Hp} {Q : VK} (k : t σ H fun vs H1 => tk σ H1 fun zs H2 => rMakKw C n m sp E vs zs H2 Q) : tMakKw C n m sp E t tk σ H Q := k
theorem makeKw_m {C : Addr} {n m : Nat} {sp : Sp} {E : XK} {vs zs : List V} {H : Hp} {Q : VK} {G : Hp} {mu : Mu} (hh : Hold G mu H) (h1 : vs.length = n) (h2 : zs.length = m) (k : ∀ x dx H', Hold G ((x, .ins C dx []) :: mu) H' → sp ((.ref x :: vs) ++ zs) H' (fun v H2 => v = .non ∧ Q (.ref x) H2) E) : rMakKw C n m sp E vs zs H Q :=
  ⟨h1, h2, make_m (sp := fun vs' H' Q' E' => sp (vs' ++ zs) H' Q' E') hh k⟩
section
variable {K : PySem.W.Frag} {G : Hp} {mu : Mu} {H : Hp} {p : Addr} {ys : List V} {Q : VK}
end
end Wm
end

section
namespace Wm
open PySem PySem.Spec PyProof.Rows L2 StX
/-! ## Weather, heaters and what rooms keep -/
def WOk (ch : List Int) : Prop := 0 < ch.length ∧ ch.length ≤ 24 ∧ ∀ x ∈ ch, -100 ≤ x ∧ x ≤ 100
def IsWeather (K : PySem.W.Frag) (A : Ads) (H : Hp) (p t : Addr) (ch : List Int) : Prop := WeatherC K A.cWeather ∧ WOk ch ∧ ∃ dx, H p = some (.ins A.cWeather dx [("pattern", .ref t)]) ∧ H t = some (.tup (ch.map V.int))
theorem IsWeather.up {K : PySem.W.Frag} {A : Ads} {G H : Hp} {p t : Addr} {ch : List Int} (e : Ex G H) (h : IsWeather K A G p t ch) : IsWeather K A H p t ch := by
  obtain ⟨a, b, dx, h1, h2⟩ := h
  exact ⟨a, b, dx, e _ _ h1, e _ _ h2⟩
def HtOk (g lo hi : Int) : Prop := 1 ≤ g ∧ g ≤ 200 ∧ -(10 ^ 12) ≤ lo ∧ lo ≤ hi ∧ hi ≤ 10 ^ 12
def IsHeater (K : PySem.W.Frag) (A : Ads) (H : Hp) (p : Addr) (g lo hi : Int) : Prop := HeaterC K A.cHeater ∧ HtOk g lo hi ∧ ∃ dx, H p = some (.ins A.cHeater dx [("power", .int g), ("below", .int lo), ("above", .int hi)])
theorem IsHeater.up {K : PySem.W.Frag} {A : Ads} {G H : Hp} {p : Addr} {g lo hi : Int} (e : Ex G H) (h : IsHeater K A G p g lo hi) : IsHeater K A H p g lo hi := by
  obtain ⟨a, b, dx, h1⟩ := h
  exact ⟨a, b, dx, e _ _ h1⟩
def sp_validate_number (K : PySem.W.Frag) (A : Ads) : Sp := fun vs H Q _ => ∃ n lo hi : Int, vs = [.int n, .int lo, .int hi] ∧ lo ≤ n ∧ n ≤ hi ∧ Q .non H
def sp_common_divisor (K : PySem.W.Frag) (A : Ads) : Sp := fun vs H Q _ => ∃ a b : Nat, vs = [.int (a : Int), .int (b : Int)] ∧ Q (.int (Nat.gcd a b : Nat)) H
def sp_Weather_body (K : PySem.W.Frag) (A : Ads) : Sp := fun vs H Q _ => ∃ (p dx t : Addr) (ch : List Int) (G : Hp) (mu : Mu), vs = [.ref p, .ref t] ∧ WeatherC K A.cWeather ∧ WOk ch ∧ Hold G ((p, .ins A.cWeather dx []) :: mu) H ∧ G t = some (.tup (ch.map V.int)) ∧
  ∀ G' H', Ex G G' → IsWeather K A G' p t ch → Hold G' mu H' → Q .non H'
def sp_Weather_init (K : PySem.W.Frag) (A : Ads) : Sp := fun vs H Q E => ∃ ws rest, vs = ws ++ rest ∧ ws.length = ["self"].length ∧ rest.length ≤ sizeLine ∧ ∀ p, H p = Option.none → sp_Weather_body K A (ws ++ [V.ref p]) (upd H p (.tup rest)) Q E
def sp_Weather_changes (K : PySem.W.Frag) (A : Ads) : Sp := fun vs H Q _ => ∃ (p t : Addr) (ch : List Int), vs = [.ref p] ∧ IsWeather K A H p t ch ∧ Q (.ref t) H
def sp_Heater_init (K : PySem.W.Frag) (A : Ads) : Sp := fun vs H Q _ => ∃ (p dx : Addr) (g lo hi : Int) (G : Hp) (mu : Mu), vs = [.ref p, .int g, .int lo, .int hi] ∧ HeaterC K A.cHeater ∧ HtOk g lo hi ∧ Hold G ((p, .ins A.cHeater dx []) :: mu) H ∧
  ∀ G' H', Ex G G' → IsHeater K A G' p g lo hi → Hold G' mu H' → Q .non H'
def sp_Heater_gain (K : PySem.W.Frag) (A : Ads) : Sp := fun vs H Q _ => ∃ (p : Addr) (g lo hi : Int), vs = [.ref p] ∧ IsHeater K A H p g lo hi ∧ Q (.int g) H
def sp_Heater_low (K : PySem.W.Frag) (A : Ads) : Sp := fun vs H Q _ => ∃ (p : Addr) (g lo hi : Int), vs = [.ref p] ∧ IsHeater K A H p g lo hi ∧ Q (.int lo) H
def sp_Heater_high (K : PySem.W.Frag) (A : Ads) : Sp := fun vs H Q _ => ∃ (p : Addr) (g lo hi : Int), vs = [.ref p] ∧ IsHeater K A H p g lo hi ∧ Q (.int hi) H
def t_validate_number (K : PySem.W.Frag) (A : Ads) : TS := tIfS (tNot (tTest (tChain (rI0 fun i j => .bl (decide (i ≤ j))) (rI0 fun i j => .bl (decide (i ≤ j))) (tVar 1) (tVar 0) (tVar 2)))) (tNever) (tNext)
def t_common_divisor (K : PySem.W.Frag) (A : Ads) : TS := tSeq (tWhile (tTest (tOp rNe (tVar 1) (tC (.int 0)))) (tPar 0 1 (tCons (tVar 1) (tCons (tOp (rI (fun _ j => 0 < j) fun i j => .int (i % j)) (tCB rInt (tCons (tVar 0) (tNil))) (tCB rInt (tCons (tVar 1) (tNil)))) (tNil))))) (tRet (tVar 0))
def t_Weather_init (K : PySem.W.Frag) (A : Ads) : TS := tSeq (tIfS (tTest (tOp (rEqD K) (tVar 1) (tTup (tNil)))) (tNever) (tNext)) (tSeq (tFor (iEnumT K (tCons (tVar 1) (tNil))) (gTup K 2 (gCons (gName 2) (gCons (gName 3) (gNil)))) (tIfS (tOr (tTest (tOp rEq (tVar 2) (tC (.int 24)))) (tNot (tTest (tChain (rI0 fun i j => .bl (decide (i ≤ j))) (rI0 fun i j => .bl (decide (i ≤ j))) (tOp (rI0 fun i j => .int (i - j)) (tC (.int 0)) (tC (.int 100))) (tVar 3) (tC (.int 100)))))) (tNever) (tNext))) (sFld K (tVar 0) (tVar 1) "pattern"))
def t_Weather_changes (K : PySem.W.Frag) (A : Ads) : TS := tRet (tFld K (tVar 0) "pattern")
def t_Heater_init (K : PySem.W.Frag) (A : Ads) : TS := tSeq (tIfS (tOr (tNot (tTest (tChain (rI0 fun i j => .bl (decide (i ≤ j))) (rI0 fun i j => .bl (decide (i ≤ j))) (tC (.int 1)) (tVar 1) (tC (.int 200))))) (tNot (tTest (tChain3 (rI0 fun i j => .bl (decide (i ≤ j))) (rI0 fun i j => .bl (decide (i ≤ j))) (rI0 fun i j => .bl (decide (i ≤ j))) (tOp (rI0 fun i j => .int (i - j)) (tC (.int 0)) (tC (.int 1000000000000))) (tVar 2) (tVar 3) (tC (.int 1000000000000)))))) (tNever) (tNext)) (tSeq (sFld K (tVar 0) (tVar 1) "power") (tSeq (sFld K (tVar 0) (tVar 2) "below") (sFld K (tVar 0) (tVar 3) "above")))
def t_Heater_gain (K : PySem.W.Frag) (A : Ads) : TS := tRet (tFld K (tVar 0) "power")
def t_Heater_low (K : PySem.W.Frag) (A : Ads) : TS := tRet (tFld K (tVar 0) "below")
def t_Heater_high (K : PySem.W.Frag) (A : Ads) : TS := tRet (tFld K (tVar 0) "above")
section
variable {K : PySem.W.Frag} {A : Ads}
theorem pure_validate_number (vs : List V) (H : Hp) (Q : VK) (E : XK) (h : sp_validate_number K A vs H Q E) : t_validate_number K A { nx := fun _ H' => Q .non H', rt := Q } (start ["number", "smallest", "largest"] vs) H := by
  obtain ⟨n, lo, hi, rfl, h1, h2, k⟩ := h
  show t_validate_number K A _ [some (.int n), some (.int lo), some (.int hi)] H
  unfold t_validate_number
  walk_at "sd"
  exact k
theorem pure_common_divisor (vs : List V) (H : Hp) (Q : VK) (E : XK) (h : sp_common_divisor K A vs H Q E) : t_common_divisor K A { nx := fun _ H' => Q .non H', rt := Q } (start ["one", "other"] vs) H := by
  obtain ⟨a, b, rfl, k⟩ := h
  show t_common_divisor K A _ [some (.int a), some (.int b)] H
  unfold t_common_divisor
  refine r_seq (whileA (fun m σ H' => H' = H ∧ ∃ x y : Nat, σ = [some (.int (x : Int)), some (.int (y : Int))] ∧ m = y ∧ Nat.gcd x y = Nat.gcd a b) b ⟨rfl, a, b, rfl, rfl, rfl⟩ ?_)
  rintro m σ H' ⟨rfl, x, y, rfl, rfl, e⟩
  refine ⟨!decide ((m : Int) = 0), fun Q q => by walk_at "s"; exact q, fun c => ?_, fun c => ?_⟩
  · have c : m ≠ 0 := fun z => by subst z; simp at c
    walk_at "s"
    refine r_I (show (0 : Int) < (m : Int) by omega) ?_
    walk_at "s"
    refine ⟨x % m, Nat.mod_lt _ (by omega), by trivial, m, x % m, rfl, rfl, ?_⟩
    rw [← e, Nat.gcd_comm x m, Nat.gcd_rec m x, Nat.gcd_comm]
  · have c : m = 0 := by
      have : ((m : Int) = 0) := by simpa using c
      omega
    subst c
    rw [Nat.gcd_zero_right] at e
    subst e
    walk_at "s"
    exact k
theorem pure_Weather_changes (vs : List V) (H : Hp) (Q : VK) (E : XK) (h : sp_Weather_changes K A vs H Q E) : t_Weather_changes K A { nx := fun _ H' => Q .non H', rt := Q } (start ["self"] vs) H := by
  obtain ⟨p, t, ch, rfl, ⟨TW, wo, dx, h1, h2⟩, k⟩ := h
  show t_Weather_changes K A _ [some (.ref p)] H
  unfold t_Weather_changes
  walk_at "s"
  exact k
theorem pure_Heater_gain (vs : List V) (H : Hp) (Q : VK) (E : XK) (h : sp_Heater_gain K A vs H Q E) : t_Heater_gain K A { nx := fun _ H' => Q .non H', rt := Q } (start ["self"] vs) H := by
  obtain ⟨p, g, lo, hi, rfl, ⟨TW, wo, dx, h1⟩, k⟩ := h
  show t_Heater_gain K A _ [some (.ref p)] H
  unfold t_Heater_gain
  walk_at "s"
  exact k
theorem pure_Heater_low (vs : List V) (H : Hp) (Q : VK) (E : XK) (h : sp_Heater_low K A vs H Q E) : t_Heater_low K A { nx := fun _ H' => Q .non H', rt := Q } (start ["self"] vs) H := by
  obtain ⟨p, g, lo, hi, rfl, ⟨TW, wo, dx, h1⟩, k⟩ := h
  show t_Heater_low K A _ [some (.ref p)] H
  unfold t_Heater_low
  walk_at "s"
  exact k
theorem pure_Heater_high (vs : List V) (H : Hp) (Q : VK) (E : XK) (h : sp_Heater_high K A vs H Q E) : t_Heater_high K A { nx := fun _ H' => Q .non H', rt := Q } (start ["self"] vs) H := by
  obtain ⟨p, g, lo, hi, rfl, ⟨TW, wo, dx, h1⟩, k⟩ := h
  show t_Heater_high K A _ [some (.ref p)] H
  unfold t_Heater_high
  walk_at "s"
  exact k
theorem pure_Heater_init (vs : List V) (H : Hp) (Q : VK) (E : XK) (h : sp_Heater_init K A vs H Q E) : t_Heater_init K A { nx := fun _ H' => Q .non H', rt := Q } (start ["self", "gain", "low", "high"] vs) H := by
  obtain ⟨p, dx, g, lo, hi, G, mu, rfl, TH, ok, hh, k⟩ := h
  obtain ⟨o1, o2, o3, o4, o5⟩ := id ok
  show t_Heater_init K A _ [some (.ref p), some (.int g), some (.int lo), some (.int hi)] H
  unfold t_Heater_init
  walk_at "sd"
  rename_i H1 hh1 H2 hh2 H3 hh3
  exact k _ _ hh3.frz_ex ⟨TH, ok, dx, upd_same⟩ hh3.frz
theorem pure_Weather_init (vs : List V) (H : Hp) (Q : VK) (E : XK) (h : sp_Weather_body K A vs H Q E) : t_Weather_init K A { nx := fun _ H' => Q .non H', rt := Q } (start ["self", "changes", "index", "change"] vs) H := by
  obtain ⟨p, dx, t, ch, G, mu, rfl, TW, ok, hh, ht, k⟩ := h
  obtain ⟨o1, o2, o3⟩ := id ok
  show t_Weather_init K A _ [some (.ref p), some (.ref t), none, none] H
  unfold t_Weather_init
  walk_at "s"
  refine tup_G (by walk_at "sz") hh fun q G1 H1 ex1 hq hh1 => ?_
  refine eqT (xs := ch) (ys := []) (SqT.of_ (hh1.rd (ex1 _ _ ht))) (SqT.of_ (hh1.rd hq)) ?_
  walk_at "s"
  refine r_dF (fun z => by rw [z] at o1; exact absurd o1 (Nat.lt_irrefl 0)) ?_
  walk_at "s"
  refine forET_by (SqT.of_ (hh1.rd (ex1 _ _ ht))) (fun i σ H' => ∃ (v1 v2 : Option V), σ = [some (.ref p), some (.ref t), v1, v2] ∧ Hold G1 ((p, .ins A.cWeather dx []) :: mu) H') ⟨none, none, rfl, hh1⟩
    (fun i σ H' _ ⟨_, _, _, hh⟩ => ⟨Ex.refl H', SqT.of_ (hh.rd (ex1 _ _ ht))⟩) ?_ ?_
  · rintro i x σ H2 T hx ⟨v1, v2, rfl, hh2⟩ hT
    obtain ⟨z, hz, rfl⟩ := ints_of hx
    have hb := o3 z (List.mem_of_getElem? hz)
    have hi := (List.getElem?_eq_some_iff.mp hz).1
    refine gtup_h upd_same rfl ?_
    walk_at "sd"
    exact ⟨_, _, rfl, hh2.newg hT⟩
  · rintro σ H2 ⟨v1, v2, rfl, hh2⟩
    walk_at "s"
    rename_i H3 hh3
    exact k _ _ (ex1.trans hh3.frz_ex) ⟨TW, ok, dx, upd_same, hh3.frz_ex _ _ (ex1 _ _ ht)⟩ hh3.frz
end
end Wm
end

section
/-! ## What a room keeps of its history -/
namespace Wm
open PySem
def lenR (r : RunD) : Int := match r.fin with | some e => e - r.beg | none => 0
def lenAt (rs : List RunD) (i : Int) : Int := match rs[i.toNat]? with | some r => lenR r | none => 0
def repO (rs : List RunD) (loop : Option Int) : Option (Int × Int) :=
  match loop with
  | none => match rs[rs.length - 1]? with
    | some l => if l.steps.sum = 0 then some (l.beg, (l.steps.length : Int)) else none
    | none => none
  | some j => some (begAt rs j - (if 0 < j then min (lenAt rs (j - 1)) (lenAt rs ((rs.length : Int) - 1)) else 0), circ rs j)
def heatSum (rs : List RunD) : Int := ((rs.filter (·.on)).map lenR).sum
def share (rs : List RunD) (loop : Option Int) : Int × Int :=
  match loop with
  | none => match rs[rs.length - 1]? with
    | some l => if l.on = true then (1, 1) else (0, 1)
    | none => (0, 1)
  | some j => ((heatSum (rs.drop j.toNat)) / (Nat.gcd (heatSum (rs.drop j.toNat)).toNat (circ rs j).toNat : Nat), circ rs j / (Nat.gcd (heatSum (rs.drop j.toNat)).toNat (circ rs j).toNat : Nat))
/-- the greatest temperature times a sign, and the first tick of it -/
def Ext (P : Par) (rs : List RunD) (loop : Option Int) (sign : Int) : Option (Int × Int) → Prop
  | none => loop = none ∧ ∃ l, rs[rs.length - 1]? = some l ∧ 0 < l.steps.sum * sign
  | some (d, t) => 0 ≤ t ∧ t ≤ 9604 * 10 ^ 14 ∧ dAt P t = d ∧ ∀ u, 0 ≤ u → dAt P u * sign ≤ d * sign ∧ (dAt P u = d → t ≤ u)
/-- of one run -/
def XTO (r : RunD) (sign : Int) : Option (Int × Int) → Prop
  | none => r.fin = none ∧ 0 < r.steps.sum * sign
  | some (d, t) => XT r r.fin sign r.steps.length d t ∧ (r.fin = none → ¬ 0 < r.steps.sum * sign) ∧ (r.fin = none → t ≤ r.beg + r.steps.length)
/-- of the runs up to number i -/
structure ExtI (P : Par) (rs : List RunD) (sign : Int) (i : Nat) (d t : Int) : Prop where
  t0 : 0 ≤ t
  big : t ≤ 9604 * 10 ^ 14
  d_ : dAt P t = d
  fin : ∀ r e, rs[i]? = some r → r.fin = some e → t ≤ e
  best : ∀ u, 0 ≤ u → (∀ r e, rs[i]? = some r → r.fin = some e → u ≤ e) → dAt P u * sign ≤ d * sign ∧ (dAt P u = d → t ≤ u)
theorem RunV.at_le {P : Par} {r : RunD} (v : RunV P r) {u : Int} (h : XIn r r.fin u) : dAt P u = r.at_ u := by
  by_cases he : r.fin = some u
  · exact (v.fin u he).2.1
  · refine (v.sim u h.1 fun e h2 => ?_).1
    have := h.2 e h2
    have : u ≠ e := fun z => he (by rw [h2, z])
    omega
theorem HistV.runOk {P : Par} {rs : List RunD} {loop : Option Int} (h : HistV P rs loop) {r : RunD} (hr : r ∈ rs) : RunOk r := by
  rw [(h.each r hr).shape]
  exact run_ok h.par _ _
theorem XTO.use {P : Par} {rs : List RunD} {loop : Option Int} (h : HistV P rs loop) {r : RunD} (hr : r ∈ rs) {sign d t : Int} (x : XTO r sign (some (d, t))) :
    XIn r r.fin t ∧ dAt P t = d ∧ t ≤ 9604 * 10 ^ 14 ∧ ∀ u, XIn r r.fin u → dAt P u * sign ≤ d * sign ∧ (dAt P u = d → t ≤ u) := by
  have v := h.each r hr
  have ok := h.runOk hr
  obtain ⟨xt, _, hb⟩ := x
  have hd := v.at_le xt.inn
  refine ⟨xt.inn, hd.trans xt.at_, ?_, fun u hu => ?_⟩
  · obtain ⟨s1, s2⟩ := h.small r hr
    cases hf : r.fin with
    | none =>
      have := hb hf
      have := ok.len
      omega
    | some e =>
      have := s2 e hf
      have := xt.inn.2 e hf
      omega
  · rw [v.at_le hu]
    obtain ⟨_, u0, u1⟩ := pk_of r ok u
    exact xt.best u hu (by omega)
theorem ExtI.start {P : Par} {rs : List RunD} {loop : Option Int} (h : HistV P rs loop) {r : RunD} {sign d t : Int} (hr : rs[0]? = some r) (x : XTO r sign (some (d, t))) : ExtI P rs sign 0 d t := by
  obtain ⟨a, b, c, k⟩ := x.use h (List.mem_of_getElem? hr)
  obtain ⟨r0, h0, hb, _⟩ := h.first
  rw [hr] at h0
  cases h0
  have := a.1
  refine ⟨by omega, c, b, fun r' e h1 h2 => ?_, fun u hu hle => k u ⟨by omega, fun l hl => hle r l hr hl⟩⟩
  rw [hr] at h1
  cases h1
  exact a.2 e h2
theorem ExtI.step {P : Par} {rs : List RunD} {loop : Option Int} (h : HistV P rs loop) {i : Nat} {r : RunD} {sign d t d' t' : Int} (hs : sign = 1 ∨ sign = -1) (p : ExtI P rs sign i d t) (hr : rs[i + 1]? = some r) (x : XTO r sign (some (d', t'))) :
    (d * sign < d' * sign → ExtI P rs sign (i + 1) d' t') ∧ (¬ d * sign < d' * sign → ExtI P rs sign (i + 1) d t) := by
  obtain ⟨a, b, c, k⟩ := x.use h (List.mem_of_getElem? hr)
  have hl := (List.getElem?_eq_some_iff.mp hr).1
  obtain ⟨r0, h0⟩ := get_some (l := rs) (i := i) (by omega)
  have hf := (h.next i r0 r h0 hr).1
  have hb := (h.each r (List.mem_of_getElem? hr)).b0
  have tb := p.fin r0 r.beg h0 hf
  have a1 := a.1
  have only : ∀ {r' e}, rs[i + 1]? = some r' → r'.fin = some e → r.fin = some e := fun {r' e} h1 h2 => by
    rw [hr] at h1
    cases h1
    exact h2
  have lo : ∀ u, 0 ≤ u → u ≤ r.beg → dAt P u * sign ≤ d * sign ∧ (dAt P u = d → t ≤ u) := fun u h1 h2 => p.best u h1 fun r' e h3 h4 => by
    rw [h0] at h3
    cases h3
    rw [hf] at h4
    cases h4
    exact h2
  refine ⟨fun hlt => ⟨by omega, c, b, fun r' e h1 h2 => a.2 e (only h1 h2), fun u hu hle => ?_⟩, fun hlt => ⟨p.t0, p.big, p.d_, fun r' e h1 h2 => ?_, fun u hu hle => ?_⟩⟩
  · by_cases hub : u ≤ r.beg
    · have := (lo u hu hub).1
      refine ⟨by omega, fun z => ?_⟩
      rw [z] at this
      omega
    · exact k u ⟨by omega, fun l hl => hle r l hr hl⟩
  · have := (h.each r (List.mem_of_getElem? hr)).fin e (only h1 h2)
    omega
  · by_cases hub : u ≤ r.beg
    · exact lo u hu hub
    · have := (k u ⟨by omega, fun l hl => hle r l hr hl⟩).1
      exact ⟨by omega, fun _ => by omega⟩
theorem ExtI.done {P : Par} {rs : List RunD} {loop : Option Int} (h : HistV P rs loop) {sign d t : Int} (p : ExtI P rs sign (rs.length - 1) d t) : Ext P rs loop sign (some (d, t)) := by
  refine ⟨p.t0, p.big, p.d_, fun u hu => ?_⟩
  cases loop with
  | none =>
    obtain ⟨l, hl, hf⟩ := h.open_ rfl
    refine p.best u hu fun r e h1 h2 => ?_
    rw [hl] at h1
    cases h1
    rw [hf] at h2
    cases h2
  | some j =>
    obtain ⟨_, r, l, e, hj, hl, he, _⟩ := h.shut j rfl
    have w := h.wrap hu
    have wl : wrapP rs (some j) u < finLast rs := by
      rcases w.pl with z | z
      · cases z
      · exact z
    rw [finLast_of hl he] at wl
    have := p.best (wrapP rs (some j) u) w.p0 (fun r' e' h1 h2 => by
      rw [hl] at h1
      cases h1
      rw [he] at h2
      cases h2
      omega)
    rw [w.d] at this
    have := w.pt
    exact ⟨by omega, fun z => by have := this; omega⟩
theorem XT.small {r : RunD} (ok : RunOk r) {sign d t : Int} (hs : sign = 1 ∨ sign = -1) (hn : ¬ 0 < r.steps.sum * sign) (x : XT r none sign r.steps.length d t) : t ≤ r.beg + r.steps.length := by
  obtain ⟨e, p0, p1⟩ := pk_of r ok t
  have tb := x.inn.1
  generalize hp : (t - r.beg) % (r.steps.length : Int) = p at *
  have k0 : 0 ≤ (t - r.beg) / (r.steps.length : Int) := Int.ediv_nonneg (by omega) (by omega)
  generalize hk : (t - r.beg) / (r.steps.length : Int) = k at *
  have a1 := at_pk r ok (p := p) (k := k) p0 p1
  have a0 := at_pk r ok (p := p) (k := 0) p0 p1
  rw [← e, x.at_] at a1
  rw [Int.zero_mul, Int.zero_mul, Int.add_zero, Int.add_zero] at a0
  obtain ⟨_, u0, u1⟩ := pk_of r ok (r.beg + p)
  have b := x.best (r.beg + p) ⟨by omega, fun l hl => by cases hl⟩ (by omega)
  rw [a0] at b
  have ks : 0 ≤ k * -(r.steps.sum * sign) := Int.mul_nonneg k0 (by omega)
  rw [Int.mul_neg] at ks
  have e2 : k * (r.steps.sum * sign) = (k * r.steps.sum) * sign := (Int.mul_assoc _ _ _).symm
  have key : r.deg + psum r.steps p.toNat = d := by
    obtain ⟨b1, _⟩ := b
    rw [e2] at ks
    generalize k * r.steps.sum = z at *
    rcases hs with rfl | rfl
    · omega
    · omega
  have := b.2 key
  omega
theorem XTO.of {r : RunD} (ok : RunOk r) {sign d t : Int} (hs : sign = 1 ∨ sign = -1) (hn : r.fin = none → ¬ 0 < r.steps.sum * sign) (x : XT r r.fin sign r.steps.length d t) : XTO r sign (some (d, t)) :=
  ⟨x, hn, fun hf => by rw [hf] at x; exact x.small ok hs (hn hf)⟩
end Wm
end

section
namespace Wm
open PySem PySem.Spec PyProof.Rows L2 StX
/-! ## What a room keeps: repetition, share, extremes -/
def OptAt (H : Hp) (v : V) : Option (Int × Int) → Prop
  | none => v = .non
  | some (a, b) => ∃ q, v = .ref q ∧ H q = some (.tup [.int a, .int b])
def OptP (o : Option (Int × Int)) (H : Hp) (Q : VK) : Prop :=
  match o with
  | none => ∀ H', Ex H H' → Q .non H'
  | some (a, b) => ∀ q H', Ex H H' → H q = none → H' q = some (.tup [.int a, .int b]) → Q (.ref q) H'
theorem OptAt.up {G H : Hp} (e : Ex G H) {v : V} {o : Option (Int × Int)} (h : OptAt G v o) : OptAt H v o := by
  cases o with
  | none => exact h
  | some x =>
    obtain ⟨q, h1, h2⟩ := h
    exact ⟨q, h1, e _ _ h2⟩
theorem Hold.take {G : Hp} {mu : Mu} {H H' : Hp} {q : Addr} {o : HO} (hh : Hold G mu H) (e : Ex H H') (hq : H q = none) (ho : H' q = some o) : Hold (upd G q o) mu H' := by
  have hg := hh.g_none hq
  have hm := hh.mu_ne hq
  refine ⟨fun a x hx => ?_, fun x hx => e _ _ (hh.at_ x hx), fun x hx => ?_, hh.nd⟩
  · by_cases h : a = q
    · subst h
      rw [upd_same] at hx
      rw [← hx]
      exact ho
    · rw [upd_ne h] at hx
      exact e _ _ (hh.ex a x hx)
  · rw [upd_ne (fun z : x.1 = q => hm (by rw [← z]; exact List.mem_map_of_mem hx))]
    exact hh.out x hx
theorem opt_G {G : Hp} {mu : Mu} {H : Hp} {o : Option (Int × Int)} {Q : VK} (hh : Hold G mu H) (k : ∀ v G' H', Ex G G' → OptAt G' v o → Hold G' mu H' → Q v H') : OptP o H Q := by
  cases o with
  | none => exact fun H' e => k _ G H' (Ex.refl G) rfl (hh.grow e)
  | some x => exact fun q H' e hq hq' => k _ _ H' (Ex.new (hh.g_none hq)) ⟨q, rfl, upd_same⟩ (hh.take e hq hq')
def sp_repetition_of (K : PySem.W.Frag) (A : Ads) : Sp := fun vs H Q _ => ∃ (p : Addr) (P : Par) (rs : List RunD) (loop : Option Int), vs = [.ref p] ∧ IsHist K A H p P rs loop ∧ OptP (repO rs loop) H Q
def sp_share_of (K : PySem.W.Frag) (A : Ads) : Sp := fun vs H Q _ => ∃ (p : Addr) (P : Par) (rs : List RunD) (loop : Option Int), vs = [.ref p] ∧ IsHist K A H p P rs loop ∧ OptP (some (share rs loop)) H Q
def sp_extreme_of (K : PySem.W.Frag) (A : Ads) : Sp := fun vs H Q _ => ∃ (p : Addr) (sign : Int) (P : Par) (rs : List RunD) (loop : Option Int), vs = [.ref p, .int sign] ∧ IsHist K A H p P rs loop ∧ (sign = 1 ∨ sign = -1) ∧ ∀ o, Ext P rs loop sign o → OptP o H Q
def t_repetition_of (K : PySem.W.Frag) (A : Ads) : TS := tSeq (tPar 1 2 (tCons (tFld K (tVar 0) "runs") (tCons (tFld K (tVar 0) "loop") (tNil)))) (tSeq (tIfS (tTest (tOp rIsN (tVar 2) (tC .non))) (tRet (tIf (tTest (tOp rEq (tFld K (tOp (rIx K) (tVar 1) (tUn (rU fun i => .int (-i)) (tC (.int 1)))) "drift") (tC (.int 0)))) (tTup (tCons (tFld K (tOp (rIx K) (tVar 1) (tUn (rU fun i => .int (-i)) (tC (.int 1)))) "begin") (tCons (tFld K (tOp (rIx K) (tVar 1) (tUn (rU fun i => .int (-i)) (tC (.int 1)))) "size") (tNil)))) (tC .non))) (tNext)) (tSeq (tAsg (tFld K (tOp (rIx K) (tVar 1) (tVar 2)) "begin") (gName 3)) (tSeq (tIfS (tTest (tOp (rI0 fun i j => .bl (decide (j < i))) (tVar 2) (tC (.int 0)))) (tAug 3 (tCB rMin2 (tCons (tOp (rI0 fun i j => .int (i - j)) (tFld K (tOp (rIx K) (tVar 1) (tOp (rI0 fun i j => .int (i - j)) (tVar 2) (tC (.int 1)))) "end") (tFld K (tOp (rIx K) (tVar 1) (tOp (rI0 fun i j => .int (i - j)) (tVar 2) (tC (.int 1)))) "begin")) (tCons (tOp (rI0 fun i j => .int (i - j)) (tFld K (tOp (rIx K) (tVar 1) (tUn (rU fun i => .int (-i)) (tC (.int 1)))) "end") (tFld K (tOp (rIx K) (tVar 1) (tUn (rU fun i => .int (-i)) (tC (.int 1)))) "begin")) (tNil)))) (ipI fun i j => i - j)) (tNext)) (tRet (tTup (tCons (tVar 3) (tCons (tMtd A.cHistory "circle" (sp_History_circle K A) E0 (tVar 0) tNil) (tNil))))))))
def t_share_of (K : PySem.W.Frag) (A : Ads) : TS := tSeq (tIfS (tTest (tOp rIsN (tFld K (tVar 0) "loop") (tC .non))) (tRet (tIf (tB (tFld K (tOp (rIx K) (tFld K (tVar 0) "runs") (tUn (rU fun i => .int (-i)) (tC (.int 1)))) "is_heating")) (tTup (tCons (tC (.int 1)) (tCons (tC (.int 1)) (tNil)))) (tTup (tCons (tC (.int 0)) (tCons (tC (.int 1)) (tNil)))))) (tNext)) (tSeq (tAsg (tCB (rSum K) (tCons (tLc (iList K (tSl (rSlL K) (tFld K (tVar 0) "runs") (tPart (tFld K (tVar 0) "loop")) (tNoPart))) (gName 2) (tB (tFld K (tVar 2) "is_heating")) (tOp (rI0 fun i j => .int (i - j)) (tFld K (tVar 2) "end") (tFld K (tVar 2) "begin")) [2]) (tNil))) (gName 1)) (tSeq (tAsg (tCal (sp_common_divisor K A) E0 (tCons (tVar 1) (tCons (tMtd A.cHistory "circle" (sp_History_circle K A) E0 (tVar 0) tNil) (tNil)))) (gName 3)) (tRet (tTup (tCons (tOp (rI CDivW fun i j => .int (i / j)) (tVar 1) (tVar 3)) (tCons (tOp (rI CDivW fun i j => .int (i / j)) (tMtd A.cHistory "circle" (sp_History_circle K A) E0 (tVar 0) tNil) (tVar 3)) (tNil)))))))
def t_extreme_of (K : PySem.W.Frag) (A : Ads) : TS := tSeq (tAsg (tLc (iList K (tFld K (tVar 0) "runs")) (gName 3) (tYes) (tMtd A.cRun "extreme" (sp_Run_extreme K A) E0 (tVar 3) (tCons (tFld K (tVar 3) "end") (tCons (tVar 1) (tNil)))) [3]) (gName 2)) (tSeq (tIfS (tTest (tOp (rInD K) (tC .non) (tVar 2))) (tRet (tC .non)) (tNext)) (tSeq (tAsg (tOp (rIx K) (tVar 2) (tC (.int 0))) (gName 4)) (tSeq (tFor (iList K (tSl (rSlL K) (tVar 2) (tPart (tC (.int 1))) (tNoPart))) (gTup K 2 (gCons (gName 5) (gCons (gName 6) (gNil)))) (tIfS (tTest (tOp (rI0 fun i j => .bl (decide (j < i))) (tOp (rI CMul fun i j => .int (i * j)) (tVar 5) (tVar 1)) (tOp (rI CMul fun i j => .int (i * j)) (tOp (rIx K) (tVar 4) (tC (.int 0))) (tVar 1)))) (tAsg (tTup (tCons (tVar 5) (tCons (tVar 6) (tNil)))) (gName 4)) (tNext))) (tRet (tVar 4)))))
section
variable {K : PySem.W.Frag} {A : Ads}
theorem pure_repetition_of (vs : List V) (H : Hp) (Q : VK) (E : XK) (h : sp_repetition_of K A vs H Q E) : t_repetition_of K A { nx := fun _ H' => Q .non H', rt := Q } (start ["past", "runs", "loop", "first"] vs) H := by
  obtain ⟨p, P, rs, loop, rfl, ih, k⟩ := h
  obtain ⟨TH, TR, hok, dx, sh, ru, ras, h1, h2, h3, h4⟩ := id ih
  have hv := hok.v
  have hne := hv.ne
  show t_repetition_of K A _ [some (.ref p), none, none, none] H
  unfold t_repetition_of
  cases loop with
  | none =>
    obtain ⟨l, hl, hf⟩ := hv.open_ rfl
    obtain ⟨b, dx2, s2, i2, ir2, o2⟩ := IsHist.last h4 hl
    unfold repO at k
    simp only [hl] at k
    walk_at "s"
    refine r_ite (fun _ => ?_) (fun c => absurd rfl (of_decide_eq_false c))
    walk_at "s"
    refine rix_h h3 i2 ?_
    walk_at "s"
    refine r_ite (fun c => ?_) (fun c => ?_)
    · rw [if_pos (of_decide_eq_true c)] at k
      walk_at "s"
      refine rix_h h3 i2 ?_
      walk_at "s"
      refine rix_h h3 i2 ?_
      walk_at "s"
      exact tup_n (by walk_at "sz") (Hold.start H) fun q H' hq hq' hh => k q H' hh.ex hq hq'
    · rw [if_neg (of_decide_eq_false c)] at k
      walk_at "s"
      exact k H (Ex.refl H)
  | some j =>
    obtain ⟨j0, r, l, e, hj, hl, he, _⟩ := hv.shut j rfl
    obtain ⟨a, dx1, s1, i1, ir1, o1⟩ := IsHist.num h4 j0 hj
    obtain ⟨b, dx2, s2, i2, ir2, o2⟩ := IsHist.last h4 hl
    unfold repO at k
    simp only [begAt_of hj] at k
    walk_at "s"
    refine r_ite (fun c => absurd (of_decide_eq_true c) (by intro z; cases z)) (fun _ => ?_)
    walk_at "s"
    refine rix_h h3 i1 ?_
    walk_at "s"
    refine r_I0 ?_
    walk_at "s"
    refine r_ite (fun c => ?_) (fun c => ?_)
    · have c : 0 < j := of_decide_eq_true c
      rw [if_pos c] at k
      have hjl := (List.getElem?_eq_some_iff.mp hj).1
      obtain ⟨m, hm⟩ := get_some (l := rs) (i := (j - 1).toNat) (by omega)
      obtain ⟨a3, dx3, s3, i3, ir3, o3⟩ := IsHist.num h4 (show 0 ≤ j - 1 by omega) hm
      have hmn := (hv.next (j - 1).toNat m r hm (by rw [show (j - 1).toNat + 1 = j.toNat by omega]; exact hj)).1
      have e1 : lenAt rs (j - 1) = r.beg - m.beg := by unfold lenAt lenR; rw [hm]; simp only [hmn]
      have e2 : lenAt rs ((rs.length : Int) - 1) = e - l.beg := by unfold lenAt lenR; rw [show ((rs.length : Int) - 1).toNat = rs.length - 1 by omega, hl]; simp only [he]
      rw [e1, e2] at k
      walk_at "s"
      refine r_I0 ?_
      refine rix_h h3 i3 ?_
      walk_at "s"
      refine r_I0 ?_
      refine rix_h h3 i3 ?_
      walk_at "s"
      refine ⟨r.beg, m.beg, by rw [hmn] <;> rfl, rfl, ?_⟩
      walk_at "s"
      refine rix_h h3 i2 ?_
      walk_at "s"
      refine rix_h h3 i2 ?_
      walk_at "s"
      refine ⟨e, l.beg, by rw [he] <;> rfl, rfl, ?_⟩
      walk_at "s"
      refine ⟨p, P, rs, j, rfl, ih, ?_⟩
      walk_at "s"
      refine tup_n (by walk_at "sz") (Hold.start H) fun q H' hq hq' hh => k q H' hh.ex hq ?_
      rw [hq', show (if e - l.beg < r.beg - m.beg then e - l.beg else r.beg - m.beg) = min (r.beg - m.beg) (e - l.beg) by omega]
    · have c : ¬ 0 < j := of_decide_eq_false c
      rw [if_neg c, Int.sub_zero] at k
      walk_at "s"
      refine ⟨p, P, rs, j, rfl, ih, ?_⟩
      walk_at "s"
      exact tup_n (by walk_at "sz") (Hold.start H) fun q H' hq hq' hh => k q H' hh.ex hq hq'
theorem refs_of {as : List Addr} {i : Nat} {x : V} (h : (as.map V.ref)[i]? = some x) : ∃ a, as[i]? = some a ∧ x = V.ref a := by
  rw [List.getElem?_map] at h
  cases e : as[i]? with
  | none => rw [e] at h; cases h
  | some a => rw [e] at h; cases h; exact ⟨a, rfl, rfl⟩
theorem cut_refs (as : List Addr) {i : Int} {n : Nat} (h : i = (n : Int)) (hn : n ≤ as.length) : cutV (as.map V.ref) (some i) none = (as.drop n).map V.ref := by
  rw [cut_from _ h (by rw [List.length_map]; exact hn), List.map_drop]
theorem pure_share_of (vs : List V) (H : Hp) (Q : VK) (E : XK) (h : sp_share_of K A vs H Q E) : t_share_of K A { nx := fun _ H' => Q .non H', rt := Q } (start ["past", "heated", "run", "divisor"] vs) H := by
  obtain ⟨p, P, rs, loop, rfl, ih, k⟩ := h
  obtain ⟨TH, TR, hok, dx, sh, ru, ras, h1, h2, h3, h4⟩ := id ih
  have hv := hok.v
  have hne := hv.ne
  show t_share_of K A _ [some (.ref p), none, none, none] H
  unfold t_share_of
  cases loop with
  | none =>
    obtain ⟨l, hl, hf⟩ := hv.open_ rfl
    obtain ⟨b, dx2, s2, i2, ir2, o2⟩ := IsHist.last h4 hl
    unfold share at k
    simp only [hl] at k
    walk_at "s"
    refine r_ite (fun _ => ?_) (fun c => absurd rfl (of_decide_eq_false c))
    walk_at "s"
    refine rix_h h3 i2 ?_
    walk_at "s"
    refine r_ite (fun c => ?_) (fun c => ?_)
    · rw [if_pos c] at k
      walk_at "s"
      exact tup_n (by walk_at "sz") (Hold.start H) fun q H' hq hq' hh => k q H' hh.ex hq hq'
    · rw [if_neg (by rw [c]; exact Bool.false_ne_true)] at k
      walk_at "s"
      exact tup_n (by walk_at "sz") (Hold.start H) fun q H' hq hq' hh => k q H' hh.ex hq hq'
  | some j =>
    have sc := hv.shut_
    have j0 := sc.j0
    have jl := sc.jl
    have c0 := sc.c0
    have cB := sc.cB
    simp only [share] at k
    walk_at "s"
    refine r_ite (fun c => absurd (of_decide_eq_true c) (by intro z; cases z)) (fun _ => ?_)
    walk_at "s"
    refine r_xi ?_
    walk_at "s"
    refine ⟨ru, _, rfl, SqL.of h3, new1_G (Hold.start H) fun sl G1 H1 ex1 hsl hh1 => ?_⟩
    rw [cut_refs ras (n := j.toNat) (by omega) (by rw [h4.len]; omega)] at hsl
    have hlen : ((ras.drop j.toNat).map V.ref).length = (rs.drop j.toNat).length := by simp [h4.len]
    refine lcL_by hh1 (SqL.of hsl) (fun i acc G' mu' => acc = ((((rs.drop j.toNat).take i).filter (·.on)).map lenR).map V.int ∧ mu' = []) ⟨rfl, rfl⟩ ?_ ?_
    · rintro i x D acc G' mu' H2 hx hal exx hhx ⟨rfl, rfl⟩
      obtain ⟨a, ha, rfl⟩ := refs_of hx
      have hil : i < (rs.drop j.toNat).length := by rw [← hlen]; exact (List.getElem?_eq_some_iff.mp hx).1
      obtain ⟨r, hr⟩ := get_some hil
      rw [List.getElem?_drop] at ha
      have hr2 := hr
      rw [List.getElem?_drop] at hr2
      have ir := (h4.at_ _ a r ha hr2).up (ex1.trans (exx.trans hhx.ex))
      obtain ⟨_, _, dxr, sr, hor, _⟩ := id ir
      walk_at "s"
      refine ⟨rfl, ?_⟩
      walk_at "s"
      refine r_ite (fun c => ?_) (fun c => ?_)
      · have hfin : ∃ e, r.fin = some e := by
          by_cases hn : j.toNat + i + 1 < rs.length
          · obtain ⟨r2, hr3⟩ := get_some hn
            exact ⟨_, (hv.next _ r r2 hr2 hr3).1⟩
          · obtain ⟨_, _, l, e, _, hl, he, _⟩ := hv.shut j rfl
            have hil2 := (List.getElem?_eq_some_iff.mp hr2).1
            rw [show rs.length - 1 = j.toNat + i by omega, hr2] at hl
            cases hl
            exact ⟨e, he⟩
        obtain ⟨e, he⟩ := hfin
        walk_at "s"
        refine ⟨e, r.beg, by rw [he] <;> rfl, rfl, ?_⟩
        refine lcY hhx exx hal (by have := hv.le; rw [List.length_drop] at hil; omega) ⟨?_, rfl⟩
        have el : lenR r = e - r.beg := by unfold lenR; rw [he]
        rw [take_one hr, List.filter_append, List.filter_cons_of_pos (by exact c), List.filter_nil, List.map_append, List.map_append, List.map_cons, List.map_nil, List.map_cons, List.map_nil, el]
      · refine lcN hhx exx hal ⟨?_, rfl⟩
        rw [take_one hr, List.filter_append, List.filter_cons_of_neg (by rw [c]; exact Bool.false_ne_true), List.filter_nil, List.append_nil]
    rintro D acc G' mu' H2 hal exx hhx ⟨rfl, rfl⟩
    rw [hlen, List.take_length] at hhx
    have exH := ex1.trans (exx.trans hhx.ex)
    walk_at "s"
    refine sum_by (SqL.of (hhx.get (i := 0) rfl)) ?_
    have e1 : (((rs.drop j.toNat).filter (·.on)).map lenR).sum = heatSum (rs.drop j.toNat) := rfl
    rw [e1]
    have hs0 : 0 ≤ heatSum (rs.drop j.toNat) := by
      have : ∀ l : List RunD, (∀ r ∈ l, 0 ≤ lenR r) → 0 ≤ ((l.filter (·.on)).map lenR).sum := by
        intro l
        induction l with
        | nil => intro _; exact Int.le_refl 0
        | cons x l ih =>
          intro hl
          have i1 := ih (fun r hr => hl r (List.mem_cons_of_mem _ hr))
          have i2 := hl x List.mem_cons_self
          by_cases hx : x.on = true
          · rw [show (x :: l).filter (·.on) = x :: l.filter (·.on) from List.filter_cons_of_pos hx, List.map_cons, List.sum_cons]
            omega
          · rw [show (x :: l).filter (·.on) = l.filter (·.on) from List.filter_cons_of_neg hx]
            exact i1
      refine this _ fun r hr => ?_
      have v := hv.each r (List.mem_of_mem_drop hr)
      unfold lenR
      split
      · have := (v.fin _ ‹_›).1
        omega
      · omega
    generalize heatSum (rs.drop j.toNat) = hs at *
    generalize hcc : circ rs j = cc at *
    have ih2 : IsHist K A H2 p P rs (some j) := ih.up exH
    have h12 := exH _ _ h1
    have gpos : 0 < Nat.gcd hs.toNat cc.toNat := Nat.gcd_pos_of_pos_right _ (by omega)
    have gle : Nat.gcd hs.toNat cc.toNat ≤ cc.toNat := Nat.gcd_le_right _ (by omega)
    walk_at "s"
    refine ⟨p, P, rs, j, rfl, ih2, ?_⟩
    rw [hcc]
    walk_at "s"
    refine ⟨hs.toNat, cc.toNat, by rw [Int.toNat_of_nonneg hs0, Int.toNat_of_nonneg (by omega)], ?_⟩
    walk_at "s"
    refine r_I (cdiv (by omega) (by omega)) ?_
    walk_at "s"
    refine ⟨p, P, rs, j, rfl, ih2, ?_⟩
    rw [hcc]
    walk_at "s"
    refine r_I (cdiv (by omega) (by omega)) ?_
    walk_at "s"
    exact tup_n (by walk_at "sz") (Hold.start H2) fun q H' hq hq' hh => k q H' (exH.trans hh.ex) (by
      cases e : H q with
      | none => rfl
      | some o => rw [exH _ _ e] at hq; cases hq) hq'
/-- the data of an optional pair -/
def optD : Option (Int × Int) → PyData
  | none => .none
  | some (a, b) => .tuple [.int a, .int b]
theorem optD_dp {H : Hp} {v : V} {o : Option (Int × Int)} (h : OptAt H v o) : Dp K H v (optD o) := by
  cases o with
  | none => cases (show v = .non from h); exact .non
  | some x =>
    obtain ⟨q, rfl, hq⟩ := h
    exact .tup (SqT.of hq) (.cons (.int _) (.cons (.int _) .nil))
theorem optD_dps {H : Hp} : ∀ {vs : List V} {os : List (Option (Int × Int))}, vs.length = os.length → (∀ (i : Nat) (v : V) (o : Option (Int × Int)), vs[i]? = some v → os[i]? = some o → OptAt H v o) → DpAll K H vs (os.map optD)
  | [], [], _, _ => .nil
  | v :: vs, o :: os, hl, h => .cons (optD_dp (h 0 v o rfl rfl)) (optD_dps (by simpa using hl) fun i v o h1 h2 => h (i + 1) v o (by simpa using h1) (by simpa using h2))
theorem optD_lay : ∀ os : List (Option (Int × Int)), PyData.canLayAll0 (os.map optD) = true
  | [] => rfl
  | none :: os => by simp [PyData.canLayAll0, optD, PyData.canLay0, optD_lay os]
  | some (a, b) :: os => by simp [PyData.canLayAll0, optD, PyData.canLay0, optD_lay os]
theorem optD_depth : ∀ os : List (Option (Int × Int)), PyData.depthAll (os.map optD) ≤ 1
  | [] => by simp [PyData.depthAll]
  | none :: os => by simp [PyData.depthAll, optD, PyData.depth, optD_depth os]
  | some (a, b) :: os => by simp [PyData.depthAll, optD, PyData.depth, optD_depth os]
theorem optD_any : ∀ os : List (Option (Int × Int)), ((os.map optD).any fun z => PyData.eqv z .none) = os.any (·.isNone)
  | [] => rfl
  | none :: os => by simp [optD, PyData.eqv]
  | some (a, b) :: os => by simp [optD, PyData.eqv, optD_any os]
theorem pure_extreme_of (vs : List V) (H : Hp) (Q : VK) (E : XK) (h : sp_extreme_of K A vs H Q E) : t_extreme_of K A { nx := fun _ H' => Q .non H', rt := Q } (start ["past", "sign", "found", "run", "best", "degrees", "tick"] vs) H := by
  obtain ⟨p, sign, P, rs, loop, rfl, ih, hs, k⟩ := h
  obtain ⟨TH, TR, hok, dx, sh, ru, ras, h1, h2, h3, h4⟩ := id ih
  have hv := hok.v
  have hne := hv.ne
  have hle := hv.le
  show t_extreme_of K A _ [some (.ref p), some (.int sign), none, none, none, none, none] H
  unfold t_extreme_of
  walk_at "s"
  have hlen : (ras.map V.ref).length = rs.length := by rw [List.length_map, h4.len]
  refine lcL_by (Hold.start H) (SqL.of h3) (fun i acc G' mu' => mu' = [] ∧ acc.length = i ∧ ∃ os : List (Option (Int × Int)), os.length = i ∧ (∀ (n : Nat) (v : V) (o : Option (Int × Int)), acc[n]? = some v → os[n]? = some o → OptAt G' v o) ∧ (∀ (n : Nat) (r : RunD) (o : Option (Int × Int)), rs[n]? = some r → os[n]? = some o → XTO r sign o) ∧ ∀ (n : Nat) (q : Addr), acc[n]? = some (.ref q) → H q = none)
    ⟨rfl, rfl, [], rfl, (fun n v o h => by simp at h), (fun n r o _ h => by simp at h), (fun n q h => by simp at h)⟩ ?_ ?_
  · rintro i x D acc G' mu' H2 hx hal exx hhx ⟨rfl, hal2, os, hol, hos, hxs, hfr⟩
    obtain ⟨a, ha, rfl⟩ := refs_of hx
    have hil : i < rs.length := by rw [← hlen]; exact (List.getElem?_eq_some_iff.mp hx).1
    obtain ⟨r, hr⟩ := get_some hil
    have ir := (h4.at_ _ a r ha hr).up (exx.trans hhx.ex)
    obtain ⟨_, rok, dxr, sr, hor, _⟩ := id ir
    have v := hv.each r (List.mem_of_getElem? hr)
    have done : ∀ {v : V} {o : Option (Int × Int)} {G2 : Hp}, Ex G' G2 → OptAt G2 v o → (∀ q, v = .ref q → H q = none) → XTO r sign o → (∀ (n : Nat) (v' : V) (o' : Option (Int × Int)), (acc ++ [v])[n]? = some v' → (os ++ [o])[n]? = some o' → OptAt G2 v' o') ∧ (∀ (n : Nat) (r : RunD) (o' : Option (Int × Int)), rs[n]? = some r → (os ++ [o])[n]? = some o' → XTO r sign o') ∧ ∀ (n : Nat) (q : Addr), (acc ++ [v])[n]? = some (.ref q) → H q = none := by
      intro v o G2 e2 hvo hvf hxo
      refine ⟨fun n v' o' g1 g2 => ?_, fun n r' o' g1 g2 => ?_, fun n q g1 => ?_⟩
      · by_cases hn : n < i
        · rw [List.getElem?_append_left (by omega)] at g1 g2
          exact (hos n v' o' g1 g2).up e2
        · have := (List.getElem?_eq_some_iff.mp g1).1
          have e : n = i := by rw [List.length_append, List.length_singleton] at this; omega
          subst e
          rw [List.getElem?_append_right (by omega)] at g1 g2
          simp [hal2] at g1
          simp [hol] at g2
          subst g1 g2
          exact hvo
      · by_cases hn : n < i
        · rw [List.getElem?_append_left (by omega)] at g2
          exact hxs n r' o' g1 g2
        · have := (List.getElem?_eq_some_iff.mp g2).1
          have e : n = i := by rw [List.length_append, List.length_singleton] at this; omega
          subst e
          rw [List.getElem?_append_right (by omega)] at g2
          simp [hol] at g2
          subst g2
          rw [hr] at g1
          cases g1
          exact hxo
      · by_cases hn : n < i
        · rw [List.getElem?_append_left (by omega)] at g1
          exact hfr n q g1
        · have := (List.getElem?_eq_some_iff.mp g1).1
          have e : n = i := by rw [List.length_append, List.length_singleton] at this; omega
          subst e
          rw [List.getElem?_append_right (by omega)] at g1
          simp [hal2] at g1
          exact hvf q g1
    walk_at "s"
    refine ⟨rfl, ?_⟩
    walk_at "s"
    refine ⟨a, r.fin, sign, r, rfl, ir, hs, ⟨Int.le_refl _, fun l hl => Int.le_of_lt (v.fin l hl).1⟩, fun hf hd => ?_, fun hn d t q H' hxt ex' hq hq' => ?_⟩
    · obtain ⟨d1, d2, d3⟩ := done (v := .non) (o := none) (Ex.refl G') rfl (fun q z => by cases z) ⟨hf, hd⟩
      exact lcY hhx exx hal (by omega) ⟨rfl, by simp [hal2], os ++ [none], by simp [hol], d1, d2, d3⟩
    · have hh2 := hhx.take ex' hq hq'
      have hqH : H q = none := by
        cases e : H q with
        | none => rfl
        | some o => rw [hhx.ex _ _ (exx _ _ e)] at hq; cases hq
      obtain ⟨d1, d2, d3⟩ := done (v := .ref q) (o := some (d, t)) (Ex.new (hhx.g_none hq)) ⟨q, rfl, upd_same⟩ (fun q' z => by cases z; exact hqH) (XTO.of rok hs hn hxt)
      exact lcY hh2 (exx.trans (Ex.new (hhx.g_none hq))) hal (by omega) ⟨rfl, by simp [hal2], os ++ [some (d, t)], by simp [hol], d1, d2, d3⟩
  rintro D acc G' mu' H2 hal exx hhx ⟨rfl, hal2, os, hol, hos, hxs, hfr⟩
  rw [hlen] at hal2 hol
  have hhf := hhx.frz
  have hD : H2 D = some (.lst acc) := hhx.get (i := 0) rfl
  have exH := exx.trans hhx.ex
  have hos2 : ∀ (n : Nat) (v : V) (o : Option (Int × Int)), acc[n]? = some v → os[n]? = some o → OptAt H2 v o := fun n v o g1 g2 => (hos n v o g1 g2).up hhx.ex
  walk_at "s"
  refine ⟨.none, os.map optD, .non, .lst (SqL.of hD) (optD_dps (by omega) hos2), rfl, shaped_lst (optD_lay os) (Nat.le_trans (optD_depth os) (by decide)), ?_⟩
  rw [optD_any]
  walk_at "s"
  refine r_ite (fun c => ?_) (fun c => ?_)
  · have c2 : os.any (·.isNone) = true := c
    rw [List.any_eq_true] at c2
    obtain ⟨o, ho, hn⟩ := c2
    obtain ⟨n, hn2⟩ := List.mem_iff_getElem?.mp ho
    have hnl := (List.getElem?_eq_some_iff.mp hn2).1
    obtain ⟨r, hr⟩ := get_some (l := rs) (i := n) (by omega)
    have x := hxs n r o hr hn2
    cases o with
    | some z => simp at hn
    | none =>
      obtain ⟨hf, hd⟩ := x
      have hloop : loop = none ∧ n = rs.length - 1 := by
        by_cases hl : n + 1 < rs.length
        · obtain ⟨r2, hr2⟩ := get_some hl
          have := (hv.next n r r2 hr hr2).1
          rw [hf] at this
          cases this
        · have e : n = rs.length - 1 := by omega
          cases loop with
          | none => exact ⟨rfl, e⟩
          | some j =>
            obtain ⟨_, _, l, e', _, hl', he', _⟩ := hv.shut j rfl
            rw [← e, hr] at hl'
            cases hl'
            rw [hf] at he'
            cases he'
      have z := k none ⟨hloop.1, r, by rw [← hloop.2]; exact hr, hd⟩
      walk_at "s"
      exact z H2 exH
  · have c2 : os.any (·.isNone) = false := c
    have hsome : ∀ (n : Nat) (o : Option (Int × Int)), os[n]? = some o → ∃ d t, o = some (d, t) := fun n o ho => by
      cases o with
      | none =>
        have : os.any (·.isNone) = true := List.any_eq_true.mpr ⟨none, List.mem_of_getElem? ho, rfl⟩
        rw [c2] at this
        cases this
      | some z => exact ⟨z.1, z.2, rfl⟩
    have get : ∀ n, n < rs.length → ∃ v r d t q, acc[n]? = some v ∧ rs[n]? = some r ∧ XTO r sign (some (d, t)) ∧ v = .ref q ∧ H2 q = some (.tup [.int d, .int t]) := fun n hn => by
      obtain ⟨v, hv'⟩ := get_some (l := acc) (i := n) (by omega)
      obtain ⟨o, ho⟩ := get_some (l := os) (i := n) (by omega)
      obtain ⟨r, hr⟩ := get_some hn
      obtain ⟨d, t, rfl⟩ := hsome n o ho
      obtain ⟨q, e1, e2⟩ := hos2 n v _ hv' ho
      exact ⟨v, r, d, t, q, hv', hr, hxs n r _ hr ho, e1, e2⟩
    obtain ⟨v0, r0, d0, t0, q0, g1, g2, g3, rfl, g5⟩ := get 0 hne
    walk_at "s"
    refine rix_h hD (atI_of (by decide) g1) ?_
    walk_at "s"
    refine ⟨D, acc, rfl, SqL.of hD, new1_G (Hold.start H2) fun sl G3 H3 ex3 hsl hh3 => ?_⟩
    rw [cut_from acc (i := 1) (n := 1) rfl (by omega)] at hsl
    refine forL_by (SqL.of (hh3.rd hsl)) (fun i σ H' => ∃ (d t : Int) (b : Addr) (v3 v5 v6 : Option V), σ = [some (.ref p), some (.int sign), some (.ref D), v3, some (.ref b), v5, v6] ∧ Hold G3 [] H' ∧ H' b = some (.tup [.int d, .int t]) ∧ ExtI P rs sign i d t ∧ (H b = none))
      ⟨d0, t0, q0, _, _, _, rfl, hh3, hh3.rd (ex3 _ _ g5), .start hv g2 g3, hfr 0 q0 g1⟩ (fun i σ H' _ ⟨_, _, _, _, _, _, _, hh, _⟩ => SqL.of (hh.rd hsl)) ?_ ?_
    · rintro i x σ H4 hx ⟨d, t, b, v3, v5, v6, rfl, hh4, hb, hE, hbf⟩
      rw [List.getElem?_drop] at hx
      have hil : 1 + i < rs.length := by rw [← hal2]; exact (List.getElem?_eq_some_iff.mp hx).1
      obtain ⟨v, r, d', t', q, e1, e2, e3, rfl, e5⟩ := get (1 + i) hil
      rw [e1] at hx
      cases hx
      have hq4 := hh4.rd (ex3 _ _ e5)
      obtain ⟨s1, s2⟩ := hE.step hv hs (by rw [Nat.add_comm]; exact e2) e3
      refine gtup_h hq4 rfl ?_
      walk_at "s"
      refine r_I (cmulR (by omega)) ?_
      walk_at "s"
      refine r_I (cmulR (by omega)) ?_
      walk_at "s"
      refine r_ite (fun c => ?_) (fun c => ?_)
      · have c := of_decide_eq_true c
        walk_at "s"
        refine tup_n (by walk_at "sz") hh4 fun q5 H5 hq5 hq5' hh5 => ?_
        have hq5H : H q5 = none := by
          cases e : H q5 with
          | none => rfl
          | some o => rw [ex3 _ _ (exH _ _ e)] at hq5; cases hq5
        walk_at "s"
        exact ⟨d', t', q5, _, _, _, rfl, hh5, hq5', s1 c, hq5H⟩
      · have c := of_decide_eq_false c
        walk_at "s"
        exact ⟨d, t, b, _, _, _, rfl, hh4, hb, s2 c, hbf⟩
    · rintro σ H4 ⟨d, t, b, v3, v5, v6, rfl, hh4, hb, hE, hbf⟩
      rw [List.length_drop, hal2] at hE
      walk_at "s"
      exact k (some (d, t)) (hE.done hv) b H4 (exH.trans (ex3.trans hh4.ex)) hbf hb
end
end Wm
end

section
namespace Wm
open PySem PySem.Spec PyProof.Rows L2 StX
/-! ## Rooms -/
def roomF (w h pa : Addr) (start : Int) (vr vs vc vw : V) : List (Str × V) := [("outside", .ref w), ("inside", .ref h), ("begin_degrees", .int start), ("past", .ref pa), ("repeated", vr), ("share", vs), ("coldest", vc), ("warmest", vw)]
structure RoomD where
  w : Addr
  wt : Addr
  h : Addr
  pa : Addr
  P : Par
  rs : List RunD
  loop : Option Int
structure IsRoom (K : PySem.W.Frag) (A : Ads) (H : Hp) (p : Addr) (R : RoomD) : Prop where
  cl : RoomC K A.cRoom
  w_ : IsWeather K A H R.w R.wt R.P.ch
  h_ : IsHeater K A H R.h R.P.gain R.P.lo R.P.hi
  pa_ : IsHist K A H R.pa R.P R.rs R.loop
  ob : ∃ (dx : Addr) (vr vs vc vw : V) (o1 o2 : Option (Int × Int)), H p = some (.ins A.cRoom dx (roomF R.w R.h R.pa R.P.start vr vs vc vw)) ∧ OptAt H vr (repO R.rs R.loop) ∧ OptAt H vs (some (share R.rs R.loop)) ∧
    Ext R.P R.rs R.loop (-1) o1 ∧ OptAt H vc o1 ∧ Ext R.P R.rs R.loop 1 o2 ∧ OptAt H vw o2
theorem IsRoom.up {K : PySem.W.Frag} {A : Ads} {G H : Hp} {p : Addr} {R : RoomD} (e : Ex G H) (h : IsRoom K A G p R) : IsRoom K A H p R := by
  obtain ⟨a, b, c, d, dx, vr, vs, vc, vw, o1, o2, h1, h2, h3, h4, h5, h6, h7⟩ := h
  exact ⟨a, b.up e, c.up e, d.up e, dx, vr, vs, vc, vw, o1, o2, e _ _ h1, h2.up e, h3.up e, h4, h5.up e, h6, h7.up e⟩
theorem par_of {P : Par} (hw : WOk P.ch) (hh : HtOk P.gain P.lo P.hi) (s1 : -(10 ^ 12) ≤ P.start) (s2 : P.start ≤ 10 ^ 12) : ParOk P := by
  obtain ⟨a, b, c⟩ := hw
  obtain ⟨d, e, f, g, h⟩ := hh
  exact ⟨a, b, c, d, e, g, f, h, s1, s2⟩
def sp_Room_init (K : PySem.W.Frag) (A : Ads) : Sp := fun vs H Q _ => ∃ (p dx w wt h : Addr) (P : Par) (G : Hp) (mu : Mu), vs = [.ref p, .ref w, .ref h, .int P.start, .bl P.was] ∧ RoomC K A.cRoom ∧ HistoryC K A.cHistory ∧ RunC K A.cRun ∧
  IsWeather K A G w wt P.ch ∧ IsHeater K A G h P.gain P.lo P.hi ∧ -(10 ^ 12) ≤ P.start ∧ P.start ≤ 10 ^ 12 ∧ Hold G ((p, .ins A.cRoom dx []) :: mu) H ∧
  ∀ (rs : List RunD) (loop : Option Int) (pa : Addr) (G' H' : Hp), Ex G G' → IsRoom K A G' p ⟨w, wt, h, pa, P, rs, loop⟩ → Hold G' mu H' → Q .non H'
def sp_Room_weather (K : PySem.W.Frag) (A : Ads) : Sp := fun vs H Q _ => ∃ (p : Addr) (R : RoomD), vs = [.ref p] ∧ IsRoom K A H p R ∧ Q (.ref R.w) H
def sp_Room_heater (K : PySem.W.Frag) (A : Ads) : Sp := fun vs H Q _ => ∃ (p : Addr) (R : RoomD), vs = [.ref p] ∧ IsRoom K A H p R ∧ Q (.ref R.h) H
def sp_Room_start (K : PySem.W.Frag) (A : Ads) : Sp := fun vs H Q _ => ∃ (p : Addr) (R : RoomD), vs = [.ref p] ∧ IsRoom K A H p R ∧ Q (.int R.P.start) H
def sp_Room_repetition (K : PySem.W.Frag) (A : Ads) : Sp := fun vs H Q _ => ∃ (p dx w h pa : Addr) (s : Int) (vr v2 vc vw : V), vs = [.ref p] ∧ RoomC K A.cRoom ∧ H p = some (.ins A.cRoom dx (roomF w h pa s vr v2 vc vw)) ∧ Q vr H
def sp_Room_heating_share (K : PySem.W.Frag) (A : Ads) : Sp := fun vs H Q _ => ∃ (p dx w h pa : Addr) (s : Int) (vr v2 vc vw : V), vs = [.ref p] ∧ RoomC K A.cRoom ∧ H p = some (.ins A.cRoom dx (roomF w h pa s vr v2 vc vw)) ∧ Q v2 H
def sp_Room_lowest (K : PySem.W.Frag) (A : Ads) : Sp := fun vs H Q _ => ∃ (p dx w h pa : Addr) (s : Int) (vr v2 vc vw : V), vs = [.ref p] ∧ RoomC K A.cRoom ∧ H p = some (.ins A.cRoom dx (roomF w h pa s vr v2 vc vw)) ∧ Q vc H
def sp_Room_highest (K : PySem.W.Frag) (A : Ads) : Sp := fun vs H Q _ => ∃ (p dx w h pa : Addr) (s : Int) (vr v2 vc vw : V), vs = [.ref p] ∧ RoomC K A.cRoom ∧ H p = some (.ins A.cRoom dx (roomF w h pa s vr v2 vc vw)) ∧ Q vw H
def sp_Room_temperature (K : PySem.W.Frag) (A : Ads) : Sp := fun vs H Q _ => ∃ (p : Addr) (R : RoomD) (t : Int), vs = [.ref p, .int t] ∧ IsRoom K A H p R ∧ 0 ≤ t ∧ t ≤ 10 ^ 18 ∧ ∀ H', Ex H H' → Q (.int (dAt R.P t)) H'
def sp_Room_is_on (K : PySem.W.Frag) (A : Ads) : Sp := fun vs H Q _ => ∃ (p : Addr) (R : RoomD) (t : Int), vs = [.ref p, .int t] ∧ IsRoom K A H p R ∧ 0 ≤ t ∧ t ≤ 10 ^ 18 ∧ ∀ H', Ex H H' → Q (.bl (oAt R.P t)) H'
def sp_Room_loop_begin (K : PySem.W.Frag) (A : Ads) : Sp := fun vs H Q _ => ∃ (p : Addr) (R : RoomD) (j : Int), vs = [.ref p] ∧ IsRoom K A H p R ∧ R.loop = some j ∧ Q (.int (begAt R.rs j)) H
def t_Room_init (K : PySem.W.Frag) (A : Ads) : TS := tSeq (tDrop (tCal (sp_validate_number K A) E0 (tCons (tVar 3) (tCons (tOp (rI0 fun i j => .int (i - j)) (tC (.int 0)) (tC (.int 1000000000000))) (tCons (tC (.int 1000000000000)) (tNil)))))) (tSeq (sFld K (tVar 0) (tVar 1) "outside") (tSeq (sFld K (tVar 0) (tVar 2) "inside") (tSeq (sFld K (tVar 0) (tVar 3) "begin_degrees") (tSeq (sFld K (tVar 0) (tMak A.cHistory (sp_History_init K A) E0 (tCons (tPrp A.cWeather (sp_Weather_changes K A) E0 (tVar 1)) (tCons (tPrp A.cHeater (sp_Heater_gain K A) E0 (tVar 2)) (tCons (tPrp A.cHeater (sp_Heater_low K A) E0 (tVar 2)) (tCons (tPrp A.cHeater (sp_Heater_high K A) E0 (tVar 2)) (tCons (tVar 3) (tCons (tVar 4) (tNil)))))))) "past") (tSeq (sFld K (tVar 0) (tCal (sp_repetition_of K A) E0 (tCons (tFld K (tVar 0) "past") (tNil))) "repeated") (tSeq (sFld K (tVar 0) (tCal (sp_share_of K A) E0 (tCons (tFld K (tVar 0) "past") (tNil))) "share") (tSeq (sFld K (tVar 0) (tCal (sp_extreme_of K A) E0 (tCons (tFld K (tVar 0) "past") (tCons (tUn (rU fun i => .int (-i)) (tC (.int 1))) (tNil)))) "coldest") (sFld K (tVar 0) (tCal (sp_extreme_of K A) E0 (tCons (tFld K (tVar 0) "past") (tCons (tC (.int 1)) (tNil)))) "warmest"))))))))
def t_Room_weather (K : PySem.W.Frag) (A : Ads) : TS := tRet (tFld K (tVar 0) "outside")
def t_Room_heater (K : PySem.W.Frag) (A : Ads) : TS := tRet (tFld K (tVar 0) "inside")
def t_Room_start (K : PySem.W.Frag) (A : Ads) : TS := tRet (tFld K (tVar 0) "begin_degrees")
def t_Room_is_on (K : PySem.W.Frag) (A : Ads) : TS := tSeq (tDrop (tCal (sp_validate_number K A) E0 (tCons (tVar 1) (tCons (tC (.int 0)) (tCons (tC (.int 1000000000000000000)) (tNil)))))) (tRet (tFld K (tMtd A.cHistory "run_at" (sp_History_run_at K A) E0 (tFld K (tVar 0) "past") (tCons (tOp (rIx K) (tMtd A.cHistory "wrapped" (sp_History_wrapped K A) E0 (tFld K (tVar 0) "past") (tCons (tVar 1) (tNil))) (tC (.int 1))) (tNil))) "is_heating"))
def t_Room_loop_begin (K : PySem.W.Frag) (A : Ads) : TS := tRet (tFld K (tOp (rIx K) (tFld K (tFld K (tVar 0) "past") "runs") (tFld K (tFld K (tVar 0) "past") "loop")) "begin")
def t_Room_repetition (K : PySem.W.Frag) (A : Ads) : TS := tRet (tFld K (tVar 0) "repeated")
def t_Room_heating_share (K : PySem.W.Frag) (A : Ads) : TS := tRet (tFld K (tVar 0) "share")
def t_Room_temperature (K : PySem.W.Frag) (A : Ads) : TS := tSeq (tDrop (tCal (sp_validate_number K A) E0 (tCons (tVar 1) (tCons (tC (.int 0)) (tCons (tC (.int 1000000000000000000)) (tNil)))))) (tSeq (tAsg (tOp (rIx K) (tMtd A.cHistory "wrapped" (sp_History_wrapped K A) E0 (tFld K (tVar 0) "past") (tCons (tVar 1) (tNil))) (tC (.int 1))) (gName 2)) (tRet (tMtd A.cRun "at" (sp_Run_at K A) E0 (tMtd A.cHistory "run_at" (sp_History_run_at K A) E0 (tFld K (tVar 0) "past") (tCons (tVar 2) (tNil))) (tCons (tVar 2) (tNil)))))
def t_Room_lowest (K : PySem.W.Frag) (A : Ads) : TS := tRet (tFld K (tVar 0) "coldest")
def t_Room_highest (K : PySem.W.Frag) (A : Ads) : TS := tRet (tFld K (tVar 0) "warmest")
section
variable {K : PySem.W.Frag} {A : Ads}
theorem pure_Room_init (vs : List V) (H : Hp) (Q : VK) (E : XK) (h : sp_Room_init K A vs H Q E) : t_Room_init K A { nx := fun _ H' => Q .non H', rt := Q } (start ["self", "weather", "heater", "start", "on"] vs) H := by
  obtain ⟨p, dx, w, wt, hh, P, G, mu, rfl, TR, TH, TU, iw, ih, s1, s2, ho, k⟩ := h
  have hpo : ParOk P := par_of iw.2.1 ih.2.1 s1 s2
  show t_Room_init K A _ [some (.ref p), some (.ref w), some (.ref hh), some (.int P.start), some (.bl P.was)] H
  unfold t_Room_init
  walk_at "s"
  refine ⟨P.start, 0 - 1000000000000, 1000000000000, rfl, by omega, by omega, ?_⟩
  obtain ⟨_, _, dxw, hw1, hw2⟩ := id iw
  obtain ⟨_, _, dxh, hh1⟩ := id ih
  walk_at "s"
  rename_i H1 ho1 H2 ho2 H3 ho3
  have hW := ho3.rd hw1
  have hH := ho3.rd hh1
  refine ⟨w, wt, P.ch, rfl, iw.up ho3.ex, ?_⟩
  walk_at "s"
  refine ⟨hh, _, _, _, rfl, ih.up ho3.ex, ?_⟩
  walk_at "s"
  refine ⟨hh, _, _, _, rfl, ih.up ho3.ex, ?_⟩
  walk_at "s"
  refine ⟨hh, _, _, _, rfl, ih.up ho3.ex, ?_⟩
  walk_at "s"
  refine make_m ho3 fun x dx' H4 ho4 => ⟨x, dx', wt, P, G, _, rfl, TH, TU, hpo, ho4, hw2, fun rs loop G5 H5 ex5 ihi ho5 => ⟨rfl, ?_⟩⟩
  walk_at "s"
  rename_i H6 ho6
  refine ⟨x, P, rs, loop, rfl, ihi.up ho6.ex, opt_G ho6 fun vr G7 H7 ex7 oa7 ho7 => ?_⟩
  walk_at "s"
  rename_i H8 ho8
  refine ⟨x, P, rs, loop, rfl, (ihi.up ex7).up ho8.ex, opt_G ho8 fun vs' G9 H9 ex9 oa9 ho9 => ?_⟩
  walk_at "s"
  rename_i H10 ho10
  refine ⟨x, -1, P, rs, loop, rfl, ((ihi.up ex7).up ex9).up ho10.ex, .inr rfl, fun o1 he1 => opt_G ho10 fun vc G11 H11 ex11 oa11 ho11 => ?_⟩
  walk_at "s"
  rename_i H12 ho12
  refine ⟨x, 1, P, rs, loop, rfl, (((ihi.up ex7).up ex9).up ex11).up ho12.ex, .inl rfl, fun o2 he2 => opt_G ho12 fun vw G13 H13 ex13 oa13 ho13 => ?_⟩
  walk_at "s"
  rename_i H14 ho14
  have e15 := ho14.frz_ex
  have all : Ex G _ := ex5.trans (ex7.trans (ex9.trans (ex11.trans (ex13.trans e15))))
  exact k rs loop x _ _ all ⟨TR, iw.up all, ih.up all, ihi.up (ex7.trans (ex9.trans (ex11.trans (ex13.trans e15)))), dx, vr, vs', vc, vw, o1, o2, upd_same, oa7.up (ex9.trans (ex11.trans (ex13.trans e15))), oa9.up (ex11.trans (ex13.trans e15)), he1, oa11.up (ex13.trans e15), he2, oa13.up e15⟩ ho14.frz
theorem pure_Room_loop_begin (vs : List V) (H : Hp) (Q : VK) (E : XK) (h : sp_Room_loop_begin K A vs H Q E) : t_Room_loop_begin K A { nx := fun _ H' => Q .non H', rt := Q } (start ["self"] vs) H := by
  obtain ⟨p, R, j, rfl, ⟨cl, iw, ih, ip, dx, vr, vs, vc, vw, o1, o2, h1, _⟩, hj, k⟩ := h
  obtain ⟨w, wt, hh, pa, P, rs, loop⟩ := R
  simp only at hj
  subst hj
  obtain ⟨TH, TR, hok, dx1, sh, ru, ras, g1, g2, g3, g4⟩ := id ip
  obtain ⟨j0, r, l, e, hjr, hl, he, _⟩ := hok.v.shut j rfl
  obtain ⟨a, dx2, s1, i1, ir1, q1⟩ := IsHist.num g4 j0 hjr
  simp only [begAt_of hjr] at k
  simp only at h1
  show t_Room_loop_begin K A _ [some (.ref p)] H
  unfold t_Room_loop_begin
  walk_at "s"
  refine rix_h g3 i1 ?_
  walk_at "s"
  exact k
theorem pure_Room_temperature (vs : List V) (H : Hp) (Q : VK) (E : XK) (h : sp_Room_temperature K A vs H Q E) : t_Room_temperature K A { nx := fun _ H' => Q .non H', rt := Q } (start ["self", "tick", "place"] vs) H := by
  obtain ⟨p, R, t, rfl, ⟨cl, iw, ih, ip, dx, vr, vs, vc, vw, o1, o2, h1, _⟩, t0, t1, k⟩ := h
  obtain ⟨TH, TR, hok, dx1, sh, ru, ras, g1, g2, g3, g4⟩ := id ip
  have wr := hok.v.wrap t0
  show t_Room_temperature K A _ [some (.ref p), some (.int t), none] H
  unfold t_Room_temperature
  walk_at "s"
  refine ⟨t, 0, _, rfl, t0, by omega, ?_⟩
  walk_at "s"
  refine ⟨R.pa, t, R.P, R.rs, R.loop, rfl, ip, fun q H1 ex1 hq hq1 => ?_⟩
  have h11 := ex1 _ _ h1
  have g11 := ex1 _ _ g1
  walk_at "s"
  refine ⟨R.pa, _, R.P, R.rs, R.loop, rfl, ip.up ex1, wr.p0, fun i a r hi hr hb hn => ?_⟩
  obtain ⟨_, _, dxr, sr, hor, _⟩ := id hr
  have pk := hok.v.pick hi hb hn wr.pl
  walk_at "s"
  refine ⟨a, _, r, rfl, hr, ?_⟩
  rw [← pk.1, wr.d]
  exact k H1 ex1
theorem pure_Room_is_on (vs : List V) (H : Hp) (Q : VK) (E : XK) (h : sp_Room_is_on K A vs H Q E) : t_Room_is_on K A { nx := fun _ H' => Q .non H', rt := Q } (start ["self", "tick"] vs) H := by
  obtain ⟨p, R, t, rfl, ⟨cl, iw, ih, ip, dx, vr, vs, vc, vw, o1, o2, h1, _⟩, t0, t1, k⟩ := h
  obtain ⟨TH, TR, hok, dx1, sh, ru, ras, g1, g2, g3, g4⟩ := id ip
  have wr := hok.v.wrap t0
  show t_Room_is_on K A _ [some (.ref p), some (.int t)] H
  unfold t_Room_is_on
  walk_at "s"
  refine ⟨t, 0, _, rfl, t0, by omega, ?_⟩
  walk_at "s"
  refine ⟨R.pa, t, R.P, R.rs, R.loop, rfl, ip, fun q H1 ex1 hq hq1 => ?_⟩
  have h11 := ex1 _ _ h1
  have g11 := ex1 _ _ g1
  walk_at "s"
  refine ⟨R.pa, _, R.P, R.rs, R.loop, rfl, ip.up ex1, wr.p0, fun i a r hi hr hb hn => ?_⟩
  obtain ⟨_, _, dxr, sr, hor, _⟩ := id hr
  have pk := hok.v.pick hi hb hn wr.pl
  walk_at "s"
  rw [← pk.2.1, wr.o]
  exact k H1 ex1
end
end Wm
end

section
/-! ## Heating ticks -/
namespace Wm
open PySem
def hN (P : Par) : Nat → Int
  | 0 => 0
  | t + 1 => hN P t + if oAt P t = true then 1 else 0
@[irreducible] def hAt (P : Par) (t : Int) : Int := hN P t.toNat
theorem h_zero (P : Par) : hAt P 0 = 0 := by unfold hAt; rfl
theorem h_succ (P : Par) {t : Int} (h : 0 ≤ t) : hAt P (t + 1) = hAt P t + if oAt P t = true then 1 else 0 := by
  unfold hAt
  rw [show (t + 1).toNat = t.toNat + 1 by omega]
  show hN P t.toNat + (if oAt P ((t.toNat : Nat) : Int) = true then 1 else 0) = _
  rw [Int.toNat_of_nonneg h]
theorem h_run (P : Par) {a : Int} (h0 : 0 ≤ a) {c : Bool} : ∀ n : Nat, (∀ u, a ≤ u → u < a + n → oAt P u = c) → hAt P (a + n) = hAt P a + if c = true then (n : Int) else 0
  | 0, _ => by rw [show a + ((0 : Nat) : Int) = a by omega]; split <;> omega
  | n + 1, h => by
    have ih := h_run P h0 n (fun u h1 h2 => h u h1 (by omega))
    rw [show a + ((n + 1 : Nat) : Int) = a + n + 1 by omega, h_succ P (by omega), ih, h (a + n) (by omega) (by omega)]
    cases c <;> simp <;> omega
theorem h_const (P : Par) {a b : Int} (h0 : 0 ≤ a) (hab : a ≤ b) {c : Bool} (h : ∀ u, a ≤ u → u < b → oAt P u = c) : hAt P b = hAt P a + if c = true then b - a else 0 := by
  have := h_run P h0 (c := c) (b - a).toNat (fun u h1 h2 => h u h1 (by omega))
  rw [show a + (((b - a).toNat : Nat) : Int) = b by omega, show (((b - a).toNat : Nat) : Int) = b - a by omega] at this
  exact this
theorem h_le (P : Par) {a : Int} (h0 : 0 ≤ a) : ∀ n : Nat, hAt P a ≤ hAt P (a + n) ∧ hAt P (a + n) ≤ hAt P a + n
  | 0 => by rw [show a + ((0 : Nat) : Int) = a by omega]; omega
  | n + 1 => by
    have := h_le P h0 n
    rw [show a + ((n + 1 : Nat) : Int) = a + n + 1 by omega, h_succ P (by omega)]
    split <;> omega
theorem h_mono (P : Par) {a b : Int} (h0 : 0 ≤ a) (hab : a ≤ b) : hAt P a ≤ hAt P b ∧ hAt P b ≤ hAt P a + (b - a) := by
  have := h_le P h0 (b - a).toNat
  rw [show a + (((b - a).toNat : Nat) : Int) = b by omega] at this
  omega
theorem Shut.heat1 {P : Par} {rs : List RunD} {j : Int} (h : Shut P rs j) : ∀ n : Nat, hAt P (begAt rs j + n + circ rs j) = hAt P (begAt rs j + n) + (hAt P (finLast rs) - hAt P (begAt rs j))
  | 0 => by
    rw [show begAt rs j + ((0 : Nat) : Int) = begAt rs j by omega, show begAt rs j + circ rs j = finLast rs by unfold circ; omega]
    omega
  | n + 1 => by
    have ih := h.heat1 n
    have b0 := h.b0
    have c0 := h.c0
    have p := (h.per1 (t := begAt rs j + n) (by omega)).2
    rw [show begAt rs j + ((n + 1 : Nat) : Int) + circ rs j = begAt rs j + n + circ rs j + 1 by omega, show begAt rs j + ((n + 1 : Nat) : Int) = begAt rs j + n + 1 by omega, h_succ P (by omega), h_succ P (by omega), ih, p]
    omega
theorem Shut.heat {P : Par} {rs : List RunD} {j : Int} (h : Shut P rs j) {t : Int} (ht : begAt rs j ≤ t) : ∀ k : Nat, hAt P (t + k * circ rs j) = hAt P t + k * (hAt P (finLast rs) - hAt P (begAt rs j))
  | 0 => by simp
  | k + 1 => by
    have ih := h.heat ht k
    have c0 := h.c0
    have kc : 0 ≤ (k : Int) * circ rs j := Int.mul_nonneg (by omega) (by omega)
    have := h.heat1 (t + k * circ rs j - begAt rs j).toNat
    rw [show begAt rs j + (((t + k * circ rs j - begAt rs j).toNat : Nat) : Int) = t + k * circ rs j by omega] at this
    rw [show t + ((k + 1 : Nat) : Int) * circ rs j = t + k * circ rs j + circ rs j by rw [Int.natCast_add, Int.add_mul]; omega, this, ih, Int.natCast_add, Int.add_mul]
    omega
theorem Shut.heatI {P : Par} {rs : List RunD} {j : Int} (h : Shut P rs j) {t k : Int} (ht : begAt rs j ≤ t) (hk : 0 ≤ k) : hAt P (t + k * circ rs j) = hAt P t + k * (hAt P (finLast rs) - hAt P (begAt rs j)) := by
  have := h.heat ht k.toNat
  rw [Int.toNat_of_nonneg hk] at this
  exact this
/-- the ticks of heating of a run ahead of a tick -/
def heatIn (r : RunD) (t : Int) : Int := if r.on = true ∧ r.beg < t then (match r.fin with | none => t | some e => if t < e then t else e) - r.beg else 0
/-- where the runs up to number i end, but not behind t -/
def upTo (rs : List RunD) (t : Int) (i : Nat) : Int := match rs[i]? with | some r => if r.beg < t then r.beg else t | none => t
theorem heat_step {P : Par} {rs : List RunD} {loop : Option Int} (h : HistV P rs loop) {t : Int} (t0 : 0 ≤ t) (hl : loop = none ∨ t ≤ finLast rs) {i : Nat} {r : RunD} (hr : rs[i]? = some r) : hAt P (upTo rs t (i + 1)) = hAt P (upTo rs t i) + heatIn r t := by
  have v := h.each r (List.mem_of_getElem? hr)
  have b0 := v.b0
  have e1 : upTo rs t i = if r.beg < t then r.beg else t := by unfold upTo; rw [hr]
  have hil := (List.getElem?_eq_some_iff.mp hr).1
  -- the end that counts
  have e2 : upTo rs t (i + 1) = (match r.fin with | none => t | some e => if e < t then e else t) := by
    by_cases hn : i + 1 < rs.length
    · obtain ⟨r2, hr2⟩ := get_some hn
      have := (h.next i r r2 hr hr2).1
      unfold upTo
      rw [hr2, this]
    · have en : i = rs.length - 1 := by omega
      have : rs[i + 1]? = none := List.getElem?_eq_none (by omega)
      unfold upTo
      rw [this]
      cases hf : r.fin with
      | none => rfl
      | some e =>
        rw [en] at hr
        have fl := finLast_of hr hf
        rcases hl with hl | hl
        · subst hl
          obtain ⟨x, hx, hxf⟩ := h.open_ rfl
          rw [hr] at hx
          cases hx
          rw [hf] at hxf
          cases hxf
        · show t = if e < t then e else t
          rw [if_neg (by omega)]
  rw [e1, e2]
  by_cases hb : r.beg < t
  · rw [if_pos hb]
    have key : ∀ m, r.beg ≤ m → m ≤ t → (∀ e, r.fin = some e → m ≤ e) → hAt P m = hAt P r.beg + if r.on = true then m - r.beg else 0 := fun m m0 m1 m2 =>
      h_const P b0 m0 fun u u0 u1 => (v.sim u u0 fun e he => by have := m2 e he; omega).2
    unfold heatIn
    cases hf : r.fin with
    | none =>
      have := key t (by omega) (Int.le_refl _) (fun e he => by rw [hf] at he; cases he)
      simp only [hb, and_true]
      exact this
    | some e =>
      have fe := (v.fin e hf).1
      simp only [hb, and_true]
      by_cases hte : t < e
      · rw [if_neg (show ¬ e < t by omega), if_pos hte]
        exact key t (by omega) (Int.le_refl _) (fun e' he => by rw [hf] at he; cases he; omega)
      · rw [if_neg hte]
        by_cases het : e < t
        · rw [if_pos het]
          exact key e (by omega) (by omega) (fun e' he => by rw [hf] at he; cases he; omega)
        · have : e = t := by omega
          subst this
          rw [if_neg het]
          exact key e (by omega) (by omega) (fun e' he => by rw [hf] at he; cases he; omega)
  · have hz : heatIn r t = 0 := by unfold heatIn; rw [if_neg (fun z => hb z.2)]
    rw [if_neg hb, hz]
    cases hf : r.fin with
    | none => exact (Int.add_zero _).symm
    | some e =>
      have fe := (v.fin e hf).1
      simp only
      rw [if_neg (by omega)]
      exact (Int.add_zero _).symm
theorem heat_first {P : Par} {rs : List RunD} {loop : Option Int} (h : HistV P rs loop) {t : Int} (t0 : 0 ≤ t) : hAt P (upTo rs t 0) = 0 := by
  obtain ⟨r, hr, hb, _⟩ := h.first
  unfold upTo
  rw [hr]
  simp only
  split
  · rw [hb, h_zero]
  · rw [show t = 0 by omega, h_zero]
theorem heat_last (rs : List RunD) (t : Int) : upTo rs t rs.length = t := by
  unfold upTo
  rw [List.getElem?_eq_none (Nat.le_refl _)]
theorem HistV.heat_wrap {P : Par} {rs : List RunD} {loop : Option Int} (h : HistV P rs loop) {t : Int} (t0 : 0 ≤ t) :
    (wrapT rs loop t = 0 → hAt P t = hAt P (wrapP rs loop t)) ∧ (∀ j, loop = some j → 0 < wrapT rs loop t → hAt P t = hAt P (wrapP rs loop t) + wrapT rs loop t * (hAt P (finLast rs) - hAt P (begAt rs j))) := by
  have w := h.wrap t0
  refine ⟨fun z => by rw [w.zero z], fun j hj hp => ?_⟩
  subst hj
  obtain ⟨e, hb⟩ := w.eq j rfl
  have := h.shut_.heatI (t := wrapP rs (some j) t) (k := wrapT rs (some j) t) (hb hp) w.t0
  rw [← e] at this
  exact this
end Wm
end

section
namespace Wm
open PySem PySem.Spec PyProof.Rows L2 StX
/-! ## Heating ticks -/
def sp_Room_heated_before (K : PySem.W.Frag) (A : Ads) : Sp := fun vs H Q _ => ∃ (p : Addr) (R : RoomD) (t : Int), vs = [.ref p, .int t] ∧ IsRoom K A H p R ∧ 0 ≤ t ∧ (R.loop = none ∨ t ≤ finLast R.rs) ∧ Q (.int (hAt R.P t)) H
def sp_Room_heating_ticks (K : PySem.W.Frag) (A : Ads) : Sp := fun vs H Q _ => ∃ (p : Addr) (R : RoomD) (t : Int), vs = [.ref p, .int t] ∧ IsRoom K A H p R ∧ 0 ≤ t ∧ t ≤ 10 ^ 18 ∧ ∀ H', Ex H H' → Q (.int (hAt R.P t)) H'
def t_Room_heated_before (K : PySem.W.Frag) (A : Ads) : TS := tSeq (tAsg (tC (.int 0)) (gName 2)) (tSeq (tFor (iList K (tFld K (tFld K (tVar 0) "past") "runs")) (gName 3) (tIfS (tAnd (tB (tFld K (tVar 3) "is_heating")) (tTest (tOp (rI0 fun i j => .bl (decide (i < j))) (tFld K (tVar 3) "begin") (tVar 1)))) (tAug 2 (tOp (rI0 fun i j => .int (i - j)) (tIf (tTest (tOp rIsN (tFld K (tVar 3) "end") (tC .non))) (tVar 1) (tCB rMin2 (tCons (tFld K (tVar 3) "end") (tCons (tVar 1) (tNil))))) (tFld K (tVar 3) "begin")) (ipI fun i j => i + j)) (tNext))) (tRet (tVar 2)))
def t_Room_heating_ticks (K : PySem.W.Frag) (A : Ads) : TS := tSeq (tDrop (tCal (sp_validate_number K A) E0 (tCons (tVar 1) (tCons (tC (.int 0)) (tCons (tC (.int 1000000000000000000)) (tNil)))))) (tSeq (tAsg (tMtd A.cHistory "wrapped" (sp_History_wrapped K A) E0 (tFld K (tVar 0) "past") (tCons (tVar 1) (tNil))) (gTup K 2 (gCons (gName 2) (gCons (gName 3) (gNil))))) (tSeq (tAsg (tMtd A.cRoom "heated_before" (sp_Room_heated_before K A) E0 (tVar 0) (tCons (tVar 3) (tNil))) (gName 4)) (tSeq (tIfS (tTest (tOp (rI0 fun i j => .bl (decide (j < i))) (tVar 2) (tC (.int 0)))) (tAug 4 (tOp (rI CMul fun i j => .int (i * j)) (tVar 2) (tOp (rI0 fun i j => .int (i - j)) (tMtd A.cRoom "heated_before" (sp_Room_heated_before K A) E0 (tVar 0) (tCons (tFld K (tOp (rIx K) (tFld K (tFld K (tVar 0) "past") "runs") (tUn (rU fun i => .int (-i)) (tC (.int 1)))) "end") (tNil))) (tMtd A.cRoom "heated_before" (sp_Room_heated_before K A) E0 (tVar 0) (tCons (tMtd A.cRoom "loop_begin" (sp_Room_loop_begin K A) E0 (tVar 0) tNil) (tNil))))) (ipI fun i j => i + j)) (tNext)) (tRet (tVar 4)))))
section
variable {K : PySem.W.Frag} {A : Ads}
theorem pure_Room_heated_before (vs : List V) (H : Hp) (Q : VK) (E : XK) (h : sp_Room_heated_before K A vs H Q E) : t_Room_heated_before K A { nx := fun _ H' => Q .non H', rt := Q } (start ["self", "tick", "total", "run"] vs) H := by
  obtain ⟨p, R, t, rfl, ⟨cl, iw, ih, ip, dx, vr, vs, vc, vw, o1, o2, h1, _⟩, t0, hl, k⟩ := h
  obtain ⟨TH, TR, hok, dx1, sh, ru, ras, g1, g2, g3, g4⟩ := id ip
  have hv := hok.v
  show t_Room_heated_before K A _ [some (.ref p), some (.int t), none, none] H
  unfold t_Room_heated_before
  walk_at "s"
  refine forL_by (SqL.of g3) (fun i σ H' => H' = H ∧ ∃ v : Option V, σ = [some (.ref p), some (.int t), some (.int (hAt R.P (upTo R.rs t i))), v]) ⟨rfl, none, by rw [heat_first hv t0]⟩ (fun i σ H' _ ⟨e, _⟩ => by subst e; exact SqL.of g3) ?_ ?_
  · rintro i x σ H' hx ⟨rfl, v, rfl⟩
    obtain ⟨a, ha, rfl⟩ := refs_of hx
    have hil : i < R.rs.length := by rw [← g4.len]; exact (List.getElem?_eq_some_iff.mp ha).1
    obtain ⟨r, hr⟩ := get_some hil
    obtain ⟨_, _, dxr, sr, hor, _⟩ := g4.at_ _ a r ha hr
    have st := heat_step hv t0 hl hr
    refine r_gname ?_
    simp only [List.set_cons_zero, List.set_cons_succ]
    refine ifA (b := r.on && decide (r.beg < t)) (fun Q q => ?_) (fun c => ?_) (fun c => ?_)
    · walk_at "s"
      refine r_ite (fun c => ?_) (fun c => ?_)
      · rw [c, Bool.true_and] at q
        walk_at "s"
        exact q
      · rw [c, Bool.false_and] at q
        exact q
    · rw [Bool.and_eq_true] at c
      have c2 := of_decide_eq_true c.2
      unfold heatIn at st
      rw [if_pos ⟨c.1, c2⟩] at st
      walk_at "s"
      refine r_ite (fun c3 => ?_) (fun c3 => ?_)
      · have hf : r.fin = none := by
          cases hf : r.fin with
          | none => rfl
          | some l => rw [hf] at c3; exact absurd (of_decide_eq_true c3) (by intro z; cases z)
        rw [hf] at st
        walk_at "s"
        exact ⟨by trivial, _, by rw [st] <;> rfl⟩
      · obtain ⟨e, hf⟩ : ∃ e, r.fin = some e := by
          cases hf : r.fin with
          | none => rw [hf] at c3; exact absurd rfl (of_decide_eq_false c3)
          | some l => exact ⟨l, rfl⟩
        rw [hf] at st
        walk_at "s"
        refine ⟨e, t, by rw [hf] <;> rfl, ?_⟩
        walk_at "s"
        exact ⟨by trivial, _, by rw [st] <;> rfl⟩
    · have hz : heatIn r t = 0 := by
        unfold heatIn
        rw [if_neg (fun z => by rw [z.1, decide_eq_true z.2] at c; cases c)]
      rw [hz, Int.add_zero] at st
      walk_at "s"
      exact ⟨by trivial, _, by rw [st] <;> rfl⟩
  · rintro σ H' ⟨rfl, v, rfl⟩
    rw [List.length_map, g4.len, heat_last]
    walk_at "s"
    exact k
theorem pure_Room_heating_ticks (vs : List V) (H : Hp) (Q : VK) (E : XK) (h : sp_Room_heating_ticks K A vs H Q E) : t_Room_heating_ticks K A { nx := fun _ H' => Q .non H', rt := Q } (start ["self", "count", "turns", "tick", "total"] vs) H := by
  obtain ⟨p, R, t, rfl, ir, t0, t1, k⟩ := h
  obtain ⟨cl, iw, ih, ip, dx, vr, vs, vc, vw, o1, o2, h1, _⟩ := id ir
  obtain ⟨TH, TR, hok, dx1, sh, ru, ras, g1, g2, g3, g4⟩ := id ip
  have hv := hok.v
  have wr := hv.wrap t0
  obtain ⟨z1, z2⟩ := hv.heat_wrap t0
  show t_Room_heating_ticks K A _ [some (.ref p), some (.int t), none, none, none] H
  unfold t_Room_heating_ticks
  walk_at "s"
  refine ⟨t, 0, _, rfl, t0, by omega, ?_⟩
  walk_at "s"
  refine ⟨R.pa, t, R.P, R.rs, R.loop, rfl, ip, fun q H1 ex1 hq hq1 => ?_⟩
  have h11 := ex1 _ _ h1
  have g11 := ex1 _ _ g1
  have g31 := ex1 _ _ g3
  refine gtup_h hq1 rfl ?_
  walk_at "s"
  refine ⟨p, R, _, rfl, ir.up ex1, wr.p0, by rcases wr.pl with z | z; exact .inl z; exact .inr (Int.le_of_lt z), ?_⟩
  walk_at "s"
  refine r_ite (fun c => ?_) (fun c => ?_)
  · have c : 0 < wrapT R.rs R.loop t := of_decide_eq_true c
    have hj : ∃ j, R.loop = some j := by
      cases hl : R.loop with
      | none => rw [hl] at c; exact absurd c (by show ¬ (0 : Int) < 0; decide)
      | some j => exact ⟨j, rfl⟩
    obtain ⟨j, hj⟩ := hj
    have hv2 := hv
    rw [hj] at hv2
    have sc := hv2.shut_
    obtain ⟨j0, r, l, e, hjr, hl, he, _⟩ := hv2.shut j rfl
    obtain ⟨b, dx2, s2, i2, ir2, o2'⟩ := IsHist.last (g4.up ex1) hl
    have ef := finLast_of hl he
    have eb := begAt_of hjr
    have hmo := h_mono R.P sc.b0 (Int.le_of_lt sc.lt)
    have hbig := sc.big
    have hb0 := sc.b0
    walk_at "s"
    refine rix_h g31 i2 ?_
    walk_at "s"
    refine ⟨p, R, e, by rw [he] <;> rfl, ir.up ex1, by have := sc.lt; have := sc.b0; omega, .inr (by omega), ?_⟩
    walk_at "s"
    refine ⟨p, R, j, rfl, ir.up ex1, hj, ?_⟩
    walk_at "s"
    refine ⟨p, R, _, rfl, ir.up ex1, hb0, .inr (Int.le_of_lt sc.lt), ?_⟩
    walk_at "s"
    rw [← ef]
    refine r_I (cmulR (by omega)) ?_
    walk_at "s"
    rw [← z2 j hj c]
    exact k H1 ex1
  · have c : ¬ 0 < wrapT R.rs R.loop t := of_decide_eq_false c
    walk_at "s"
    rw [← z1 (by have := wr.t0; omega)]
    exact k H1 ex1
end
end Wm
end

section
namespace Wm
open PySem PySem.Spec PyProof.Rows L2 StX
/-! ## The law's helpers -/
def t_law_next (K : PySem.W.Frag) (A : Ads) : TS := tSeq (tAsg (tOp (rIx K) (tOp rCat (tOp (rIx K) (tVar 0) (tC (.int 1))) (tLst (tCons (tC (.int 0)) (tNil)))) (tOp (rI (fun _ j => 0 < j) fun i j => .int (i % j)) (tOp (rIx K) (tVar 0) (tC (.int 2))) (tCB rMax2 (tCons (tC (.int 1)) (tCons (tCB (rLen K) (tCons (tOp (rIx K) (tVar 0) (tC (.int 1))) (tNil))) (tNil)))))) (gName 2)) (tSeq (tIfS (tTest (tOp (rI0 fun i j => .bl (decide (j ≤ i))) (tVar 2) (tOp (rI CPow fun i j => .int (i ^ j.toNat)) (tC (.int 10)) (tC (.int 18))))) (tSeq (tAsg (tOp (rI CDivW fun i j => .int (i / j)) (tVar 2) (tVar 1)) (gSub (tOp (rIx K) (tVar 0) (tC (.int 1))) (tOp (rI (fun _ j => 0 < j) fun i j => .int (i % j)) (tOp (rIx K) (tVar 0) (tC (.int 2))) (tCB (rLen K) (tCons (tOp (rIx K) (tVar 0) (tC (.int 1))) (tNil)))) rSetL)) (tRet (tOp (rI (fun _ j => 0 < j) fun i j => .int (i % j)) (tVar 2) (tVar 1)))) (tNext)) (tSeq (tAsg (tOp (rI (fun _ j => 0 < j) fun i j => .int (i % j)) (tOp (rI0 fun i j => .int (i + j)) (tOp (rI0 fun i j => .int (i + j)) (tOp (rI CMul fun i j => .int (i * j)) (tOp (rIx K) (tVar 0) (tC (.int 0))) (tC (.int 48271))) (tOp (rI CMul fun i j => .int (i * j)) (tVar 2) (tC (.int 69621)))) (tC (.int 11))) (tC (.int 2147483647))) (gSub (tVar 0) (tC (.int 0)) rSetL)) (tSeq (tAsg (tOp (rI0 fun i j => .int (i + j)) (tOp (rIx K) (tVar 0) (tC (.int 2))) (tC (.int 1))) (gSub (tVar 0) (tC (.int 2)) rSetL)) (tRet (tOp (rI (fun _ j => 0 < j) fun i j => .int (i % j)) (tOp (rI CDivW fun i j => .int (i / j)) (tOp (rIx K) (tVar 0) (tC (.int 0))) (tC (.int 7))) (tVar 1))))))
/-- the state of the draws: a number mixed, an index, the cells -/
structure DS where
  m : Int
  ix : Int
  cs : List Int
abbrev dh (a c : Addr) (d : DS) : Addr × HO := (a, .lst [.int d.m, .ref c, .int d.ix])
abbrev dc (c : Addr) (d : DS) : Addr × HO := (c, .lst (d.cs.map V.int))
structure DS.Ok (d : DS) : Prop where
  ix : 0 ≤ d.ix
  len : d.cs.length ≤ 63
def sp_law_next (K : PySem.W.Frag) (A : Ads) : Sp := fun vs H Q E => ∃ (a c : Addr) (d : DS) (lim : Int) (G : Hp) (mu : Mu), vs = [.ref a, .int lim] ∧ Hold G (dh a c d :: dc c d :: mu) H ∧ d.Ok ∧ 0 < lim ∧ lim < 2 ^ 64 ∧
  ∀ (n : Int) (d' : DS) (H' : Hp), 0 ≤ n → n < lim → d'.Ok → Hold G (dh a c d' :: dc c d' :: mu) H' → Q (.int n) H'
def sp_law_mix (K : PySem.W.Frag) (A : Ads) : Sp := fun vs H Q _ => ∃ (s : Addr) (seed : Int) (xs : List Int), vs = [.ref s, .int seed] ∧ SqL K H s (xs.map V.int) ∧ xs.length ≤ 63 ∧
  ∀ (a c : Addr) (d : DS) (H' : Hp), d.Ok → Hold H [dh a c d, dc c d] H' → Q (.ref a) H'
def sp_law_changes (K : PySem.W.Frag) (A : Ads) : Sp := fun vs H Q _ => ∃ (a c : Addr) (most : Int) (d : DS) (G : Hp) (mu : Mu), vs = [.ref a, .int most] ∧ Hold G (dh a c d :: dc c d :: mu) H ∧ d.Ok ∧ 1 ≤ most ∧ most ≤ 24 ∧
  ∀ (t : Addr) (ch : List Int) (d' : DS) (G' H' : Hp), Ex G G' → G' t = some (.tup (ch.map V.int)) → WOk ch → (ch.length : Int) ≤ most → d'.Ok → Hold G' (dh a c d' :: dc c d' :: mu) H' → Q (.ref t) H'
structure SetOk (g lo hi st : Int) : Prop where
  g1 : 1 ≤ g
  g2 : g ≤ 200
  lh : lo ≤ hi
  w : hi ≤ lo + 10 ^ 11
  l1 : -(10 ^ 11) ≤ lo
  l2 : lo ≤ 10 ^ 11
  s1 : lo - 10 ^ 11 ≤ st
  s2 : st ≤ lo + 2 * 10 ^ 11
def sp_law_setting (K : PySem.W.Frag) (A : Ads) : Sp := fun vs H Q _ => ∃ (a c : Addr) (d : DS) (G : Hp) (mu : Mu), vs = [.ref a] ∧ Hold G (dh a c d :: dc c d :: mu) H ∧ d.Ok ∧
  ∀ (t : Addr) (g lo hi st : Int) (on : Bool) (d' : DS) (G' H' : Hp), Ex G G' → G' t = some (.tup [.int g, .int lo, .int hi, .int st, .bl on]) → SetOk g lo hi st → d'.Ok → Hold G' (dh a c d' :: dc c d' :: mu) H' → Q (.ref t) H'
def sp_law_weather (K : PySem.W.Frag) (A : Ads) : Sp := fun vs H Q _ => ∃ (t : Addr) (ch : List Int) (G : Hp) (mu : Mu), vs = [.ref t] ∧ WeatherC K A.cWeather ∧ Hold G mu H ∧ G t = some (.tup (ch.map V.int)) ∧ WOk ch ∧ ch.length ≤ 6 ∧
  ∀ (w wt : Addr) (G' H' : Hp), Ex G G' → IsWeather K A G' w wt ch → Hold G' mu H' → Q (.ref w) H'
def sp_law_room (K : PySem.W.Frag) (A : Ads) : Sp := fun vs H Q _ => ∃ (t s : Addr) (P : Par) (G : Hp) (mu : Mu), vs = [.ref t, .ref s] ∧ WeatherC K A.cWeather ∧ HeaterC K A.cHeater ∧ RoomC K A.cRoom ∧ HistoryC K A.cHistory ∧ RunC K A.cRun ∧ Hold G mu H ∧
  G t = some (.tup (P.ch.map V.int)) ∧ G s = some (.tup [.int P.gain, .int P.lo, .int P.hi, .int P.start, .bl P.was]) ∧ WOk P.ch ∧ P.ch.length ≤ 6 ∧ HtOk P.gain P.lo P.hi ∧ -(10 ^ 12) ≤ P.start ∧ P.start ≤ 10 ^ 12 ∧
  ∀ (p : Addr) (R : RoomD) (G' H' : Hp), Ex G G' → IsRoom K A G' p R → R.P = P → Hold G' mu H' → Q (.ref p) H'
def sp_law_divisor (K : PySem.W.Frag) (A : Ads) : Sp := fun vs H Q _ => ∃ a b : Nat, vs = [.int (a : Int), .int (b : Int)] ∧ Q (.int (Nat.gcd a b : Nat)) H
def t_law_mix (K : PySem.W.Frag) (A : Ads) : TS := tSeq (tAsg (tVar 1) (gName 2)) (tSeq (tFor (iList K (tVar 0)) (gName 3) (tAsg (tOp (rI (fun _ j => 0 < j) fun i j => .int (i % j)) (tOp (rI0 fun i j => .int (i + j)) (tOp (rI0 fun i j => .int (i + j)) (tOp (rI CMul fun i j => .int (i * j)) (tVar 2) (tC (.int 48271))) (tOp (rI (fun _ j => 0 < j) fun i j => .int (i % j)) (tVar 3) (tC (.int 2147483629)))) (tC (.int 1))) (tC (.int 2147483647))) (gName 2))) (tRet (tLst (tCons (tVar 2) (tCons (tCB (rListOf K) (tCons (tVar 0) (tNil))) (tCons (tC (.int 0)) (tNil)))))))
def t_law_changes (K : PySem.W.Frag) (A : Ads) : TS := tSeq (tPar 2 3 (tCons (tOp (rIx K) (tLst (tCons (tC (.int 3)) (tCons (tC (.int 9)) (tCons (tC (.int 100)) (tNil))))) (tCal (sp_law_next K A) E0 (tCons (tVar 0) (tCons (tC (.int 3)) (tNil))))) (tCons (tLst (tNil)) (tNil)))) (tSeq (tAsg (tOp (rI0 fun i j => .int (i - j)) (tOp (rI0 fun i j => .int (i - j)) (tCal (sp_law_next K A) E0 (tCons (tVar 0) (tCons (tOp (rI0 fun i j => .int (i + j)) (tOp (rI CMul fun i j => .int (i * j)) (tC (.int 2)) (tVar 2)) (tC (.int 1))) (tNil)))) (tVar 2)) (tOp (rI CDivW fun i j => .int (i / j)) (tVar 2) (tC (.int 2)))) (gName 4)) (tSeq (tFor (iRng1 (tCons (tOp (rI0 fun i j => .int (i + j)) (tC (.int 1)) (tCal (sp_law_next K A) E0 (tCons (tVar 0) (tCons (tVar 1) (tNil))))) (tNil))) (gName 5) (tDrop (tBM K "list" rAppend (tVar 3) (tCons (tOp (rI CMul fun i j => .int (i * j)) (tCB rMax2 (tCons (tUn (rU fun i => .int (-i)) (tC (.int 100))) (tCons (tCB rMin2 (tCons (tC (.int 100)) (tCons (tOp (rI0 fun i j => .int (i + j)) (tVar 4) (tCal (sp_law_next K A) E0 (tCons (tVar 0) (tCons (tOp (rI0 fun i j => .int (i + j)) (tVar 2) (tC (.int 1))) (tNil))))) (tNil)))) (tNil)))) (tCB rInt (tCons (tOp (rI0 fun i j => .bl (decide (j < i))) (tCal (sp_law_next K A) E0 (tCons (tVar 0) (tCons (tC (.int 5)) (tNil)))) (tC (.int 0))) (tNil)))) (tNil))))) (tRet (tCB (rTupOf K) (tCons (tVar 3) (tNil))))))
def t_law_weather (K : PySem.W.Frag) (A : Ads) : TS := tSeq (tAsg (tOp rCat (tCB (rListOf K) (tCons (tVar 0) (tNil))) (tOp rRep (tLst (tCons (tC (.int 0)) (tNil))) (tC (.int 6)))) (gName 1)) (tSeq (tIfS (tTest (tOp (rI0 fun i j => .bl (decide (i < j))) (tCB (rLen K) (tCons (tVar 0) (tNil))) (tC (.int 3)))) (tRet (tIf (tTest (tOp rEq (tCB (rLen K) (tCons (tVar 0) (tNil))) (tC (.int 1)))) (tMak A.cWeather (sp_Weather_init K A) E0 (tCons (tOp (rIx K) (tVar 1) (tC (.int 0))) (tNil))) (tMak A.cWeather (sp_Weather_init K A) E0 (tCons (tOp (rIx K) (tVar 1) (tC (.int 0))) (tCons (tOp (rIx K) (tVar 1) (tC (.int 1))) (tNil)))))) (tNext)) (tSeq (tIfS (tTest (tOp (rI0 fun i j => .bl (decide (i < j))) (tCB (rLen K) (tCons (tVar 0) (tNil))) (tC (.int 5)))) (tRet (tIf (tTest (tOp rEq (tCB (rLen K) (tCons (tVar 0) (tNil))) (tC (.int 3)))) (tMak A.cWeather (sp_Weather_init K A) E0 (tCons (tOp (rIx K) (tVar 1) (tC (.int 0))) (tCons (tOp (rIx K) (tVar 1) (tC (.int 1))) (tCons (tOp (rIx K) (tVar 1) (tC (.int 2))) (tNil))))) (tMak A.cWeather (sp_Weather_init K A) E0 (tCons (tOp (rIx K) (tVar 1) (tC (.int 0))) (tCons (tOp (rIx K) (tVar 1) (tC (.int 1))) (tCons (tOp (rIx K) (tVar 1) (tC (.int 2))) (tCons (tOp (rIx K) (tVar 1) (tC (.int 3))) (tNil)))))))) (tNext)) (tSeq (tIfS (tTest (tOp rEq (tCB (rLen K) (tCons (tVar 0) (tNil))) (tC (.int 5)))) (tRet (tMak A.cWeather (sp_Weather_init K A) E0 (tCons (tOp (rIx K) (tVar 1) (tC (.int 0))) (tCons (tOp (rIx K) (tVar 1) (tC (.int 1))) (tCons (tOp (rIx K) (tVar 1) (tC (.int 2))) (tCons (tOp (rIx K) (tVar 1) (tC (.int 3))) (tCons (tOp (rIx K) (tVar 1) (tC (.int 4))) (tNil)))))))) (tNext)) (tRet (tMak A.cWeather (sp_Weather_init K A) E0 (tCons (tOp (rIx K) (tVar 1) (tC (.int 0))) (tCons (tOp (rIx K) (tVar 1) (tC (.int 1))) (tCons (tOp (rIx K) (tVar 1) (tC (.int 2))) (tCons (tOp (rIx K) (tVar 1) (tC (.int 3))) (tCons (tOp (rIx K) (tVar 1) (tC (.int 4))) (tCons (tOp (rIx K) (tVar 1) (tC (.int 5))) (tNil))))))))))))
def t_law_setting (K : PySem.W.Frag) (A : Ads) : TS := tSeq (tAsg (tOp (rIx K) (tLst (tCons (tC (.int 5)) (tCons (tC (.int 60)) (tCons (tOp (rI CPow fun i j => .int (i ^ j.toNat)) (tC (.int 10)) (tC (.int 11))) (tNil))))) (tCal (sp_law_next K A) E0 (tCons (tVar 0) (tCons (tC (.int 3)) (tNil))))) (gName 1)) (tSeq (tAsg (tOp (rI0 fun i j => .int (i - j)) (tCal (sp_law_next K A) E0 (tCons (tVar 0) (tCons (tVar 1) (tNil)))) (tOp (rI CDivW fun i j => .int (i / j)) (tVar 1) (tC (.int 2)))) (gName 2)) (tSeq (tAsg (tOp (rI0 fun i j => .int (i + j)) (tVar 2) (tCal (sp_law_next K A) E0 (tCons (tVar 0) (tCons (tOp (rIx K) (tLst (tCons (tC (.int 4)) (tCons (tVar 1) (tNil)))) (tCal (sp_law_next K A) E0 (tCons (tVar 0) (tCons (tC (.int 2)) (tNil))))) (tNil))))) (gName 3)) (tSeq (tAsg (tOp (rI0 fun i j => .int (i - j)) (tOp (rI0 fun i j => .int (i + j)) (tVar 2) (tCal (sp_law_next K A) E0 (tCons (tVar 0) (tCons (tOp (rI CMul fun i j => .int (i * j)) (tC (.int 2)) (tVar 1)) (tNil))))) (tOp (rI CDivW fun i j => .int (i / j)) (tVar 1) (tC (.int 2)))) (gName 4)) (tSeq (tAsg (tOp (rIx K) (tLst (tCons (tVar 4) (tCons (tVar 2) (tCons (tVar 3) (tCons (tOp (rI0 fun i j => .int (i - j)) (tVar 2) (tC (.int 1))) (tCons (tOp (rI0 fun i j => .int (i + j)) (tVar 3) (tC (.int 1))) (tNil))))))) (tCB rMax2 (tCons (tC (.int 0)) (tCons (tOp (rI0 fun i j => .int (i - j)) (tCal (sp_law_next K A) E0 (tCons (tVar 0) (tCons (tC (.int 8)) (tNil)))) (tC (.int 3))) (tNil))))) (gName 4)) (tRet (tTup (tCons (tOp (rI0 fun i j => .int (i + j)) (tC (.int 1)) (tCal (sp_law_next K A) E0 (tCons (tVar 0) (tCons (tOp (rIx K) (tLst (tCons (tC (.int 6)) (tCons (tC (.int 200)) (tNil)))) (tCal (sp_law_next K A) E0 (tCons (tVar 0) (tCons (tC (.int 2)) (tNil))))) (tNil))))) (tCons (tVar 2) (tCons (tVar 3) (tCons (tVar 4) (tCons (tOp rEq (tCal (sp_law_next K A) E0 (tCons (tVar 0) (tCons (tC (.int 2)) (tNil)))) (tC (.int 0))) (tNil))))))))))))
def t_law_room (K : PySem.W.Frag) (A : Ads) : TS := tSeq (tAsg (tVar 1) (gTup K 5 (gCons (gName 2) (gCons (gName 3) (gCons (gName 4) (gCons (gName 5) (gCons (gName 6) (gNil)))))))) (tRet (tMakKw A.cRoom 3 1 (sp_Room_init K A) E0 (tCons (tCal (sp_law_weather K A) E0 (tCons (tVar 0) (tNil))) (tCons (tMak A.cHeater (sp_Heater_init K A) E0 (tCons (tVar 2) (tCons (tVar 3) (tCons (tVar 4) (tNil))))) (tCons (tVar 5) (tNil)))) (tCons (tVar 6) (tNil))))
def t_law_divisor (K : PySem.W.Frag) (A : Ads) : TS := tSeq (tWhile (tTest (tOp rNe (tVar 1) (tC (.int 0)))) (tPar 0 1 (tCons (tVar 1) (tCons (tOp (rI (fun _ j => 0 < j) fun i j => .int (i % j)) (tVar 0) (tVar 1)) (tNil))))) (tRet (tVar 0))
section
variable {K : PySem.W.Frag} {A : Ads}
theorem weather_m {G : Hp} {mu : Mu} {H : Hp} {Q : VK} {E : XK} {ch : List Int} (hh : Hold G mu H) (WC : WeatherC K A.cWeather) (ok : WOk ch) (k : ∀ w wt G' H', Ex G G' → IsWeather K A G' w wt ch → Hold G' mu H' → Q (.ref w) H') :
    rMak A.cWeather (sp_Weather_init K A) E (ch.map V.int) H Q :=
  make_m hh fun x dx H1 hh1 => ⟨[.ref x], ch.map V.int, rfl, rfl, sz (by rw [List.length_map]; have := ok.2.1; omega), fun p hp => ⟨x, dx, p, ch, upd G p (.tup (ch.map V.int)), mu, rfl, WC, ok, hh1.new hp, upd_same,
    fun G' H' ex iw hh' => ⟨rfl, k x p G' H' ((Ex.new (hh1.g_none hp)).trans ex) iw hh'⟩⟩⟩
end
end Wm
end

section
/-! ## Joining: the text's defs and what the top has made of them -/
namespace Wm
open PySem PySem.Spec PyProof.Rows L2 StX
section
variable {P : Program} {w : World} {K : PySem.W.Frag} {mg : Str → Option Value} {base : Heap} {CX : CXT}
theorem okD {x qual : Str} {st : Stmt} {dvs : List V} {kws : List (Str × V)} {f : Addr} {fd : FuncData} {N ps : List Str} {k : Nat} {sp : Sp} (F : FunD K x qual (defArgs st) (defBody st) (defScope st) dvs kws f fd) (S : FnScope N ps (defScope st)) (len : ∀ vs H Q E, sp vs H Q E → vs.length = ps.length)
    (hbody : ∀ (cdv : Value) (A : Around) (outer : List Env) (s : Shared) (H : Hp) (vs : List V) (Q : VK) (E : XK), Room k (A.deeper (envOfC qual (defScope st) s.heap.objs.size f cdv)) → sp vs H Q E →
      ∃ t, PSs (cxOf CX P w K mg base N qual (defScope st) f cdv A outer s H E).nox (defBody st) t ∧ t { nx := fun _ H' => Q .non H', rt := Q } (start N vs) H) : FnOk P w K mg base CX (k + 1) f fd ps sp :=
  F.ok S len fun cdv A outer s H vs Q E hr h => by
    obtain ⟨t, p, q⟩ := hbody cdv A outer s H vs Q E hr h
    exact ⟨t, p.nox, q⟩
/-- def f(a, *v) -/
theorem okStar {x qual p1 pv : Str} {st : Stmt} {kws : List (Str × V)} {f : Addr} {fd : FuncData} {N : List Str} {k : Nat} {sp : Sp} (F : FunD K x qual (defArgs st) (defBody st) (defScope st) [] kws f fd) (S : FnScope N ([p1] ++ [pv]) (defScope st)) (hup : CXUp CX)
    (hb : ∀ (kV doc pm : Value) (an : Option Addr) (cdv ct : Value) (us rest : List Value), us.length = [p1].length → bindArgs (PySem.W.fnOf x qual (defArgs st) (defBody st) (defScope st) .none kV doc pm an cdv ct) ⟨us ++ rest, []⟩ = (newTuple rest >>= fun t => pure ([p1].zip us ++ [(pv, t)])))
    (hbody : ∀ (cdv : Value) (A : Around) (outer : List Env) (s : Shared) (H : Hp) (vs : List V) (Q : VK) (E : XK), Room k (A.deeper (envOfC qual (defScope st) s.heap.objs.size f cdv)) → sp vs H Q E →
      ∃ t, PSs (cxOf CX P w K mg base N qual (defScope st) f cdv A outer s H E).nox (defBody st) t ∧ t { nx := fun _ H' => Q .non H', rt := Q } (start N vs) H) :
    FnR P w K mg base CX (k + 1) f (fun vs H Q E => ∃ ws rest, vs = ws ++ rest ∧ ws.length = [p1].length ∧ rest.length ≤ sizeLine ∧ ∀ p, H p = Option.none → sp (ws ++ [V.ref p]) (upd H p (.tup rest)) Q E) := by
  obtain ⟨oc, od, dV, kV, doc, pm, an, cdv, ct, osl, rfl, lk, hcd, hD, _⟩ := F.ex
  rcases hD with ⟨_, rfl⟩ | ⟨e, _⟩
  case inr => exact absurd rfl e
  exact fn_star lk hcd S hup (hb kV doc pm an cdv ct) fun A outer s H vs Q E hr h => by
    obtain ⟨t, p, q⟩ := hbody cdv A outer s H vs Q E hr h
    exact ⟨t, p.nox, q⟩
/-- C(e, .., k = v, ..) -/
structure MakKR (P : Program) (w : World) (K : PySem.W.Frag) (mg : Str → Option Value) (base : Heap) (CX : CXT) (k : Nat) (x : Str) (C : Addr) (n : Nat) (ks : List Str) (sp : Sp) : Prop where
  ex : ∃ (f : Addr) (fd : FuncData) (ps : List Str) (g : List Value → List Value → List Value), FnOk P w K mg base CX k f fd ps sp ∧ Mk K C f ∧ mg x = some (.ref C) ∧ KBn K fd ps (n + 1) ks g (fun us ws => us ++ ws)
end
section
variable {X : Cx} {CX : CXT} {k j n : Nat} {C : Addr} {sp : Sp} {E : XK} {x : Str} {ks : List Str} {p pos : Pos} {e : Expr} {es : List Expr} {kws : List Keyword} {t tk : TA}
theorem pe_mkKwR (c : MakKR X.prog X.w X.K X.mg X.base CX k x C n ks sp) (hr : Room j X.A) (hk : k + 1 ≤ j) (hx : Passes CX X E) (hg : Gl X x) (ha : PA X (e :: es) t) (hkw : PK X kws tk)
    (hall : (backToKw pos (keywordEach kws X.env)).all (·.1.isSome) = true := by rfl) (hks : (backToKw pos (keywordEach kws X.env)).filterMap (·.1) = ks := by rfl) (hdb : (x == ("__debug__" : Str)) = false := by decide)
    (he : starEach (e :: es) X.env = (false, eval e X.env) :: starEach es X.env := by rfl) (hpl : ((backTo pos (starEach (e :: es) X.env)).any (·.1) || (backToKw pos (keywordEach kws X.env)).any (·.1.isNone)) = false := by rfl) :
    PE X (.Call (.Name x p) (e :: es) kws pos) (tMakKw C n ks.length sp E t tk) := by
  obtain ⟨f, fd, ps, g, F, M, hm, hb⟩ := c.ex
  exact pe_makeK M F (hr.mono hk) hg hm hb hx ha hkw hall hks hdb he hpl
end
/-! ### properties -/
def pAd (K : PySem.W.Frag) (x f : Str) : Addr := He.ma K (He.ga K x) f
def gAd (K : PySem.W.Frag) (x f : Str) : Addr := match PySem.W.recIn K (pAd K x f) "property" with
  | some (.ref g :: _) => g
  | _ => 0
structure PrpD where
  cls : Str
  name : Str
  qual : Str
  params : Arguments
  body : List Stmt
  scope : Scope
def PrpD.val (d : PrpD) : He.FnW := some (d.name, d.qual, d.params, .stmts d.body, d.scope, mainGlobals, [], builtinsNs)
def fnA (K : PySem.W.Frag) (a : Addr) : He.FnW := match K.lookup a with
  | some ⟨_, _, .func fd, _⟩ => some (fd.name, fd.qualname, fd.params, fd.body, fd.scope, fd.globals, fd.closure, fd.builtins)
  | _ => none
def isRec (K : PySem.W.Frag) (p : Addr) : Bool := match PySem.W.recIn K p "property" with
  | some (.ref _ :: _) => true
  | _ => false
def codeB (K : PySem.W.Frag) (a : Addr) (q : Str) : Bool := match K.lookup a with
  | some ⟨_, _, .func fd, _⟩ => PySem.W.codeIn K fd.code q && He.dflB K fd.defaults []
  | _ => false
def PrpD.ok (K : PySem.W.Frag) (d : PrpD) : Bool := He.eqO (PySem.W.findIn K (.ref (He.ga K d.cls)) d.name) (some (some (.ref (pAd K d.cls d.name)))) && (He.eqO (PySem.W.specialIn K (.ref (pAd K d.cls d.name)) "__get__") (some (some (.builtin "property.__get__"))) &&
  (decide (PySem.W.takesIn K (.ref (pAd K d.cls d.name)) = some true) && (isRec K (pAd K d.cls d.name) && (PySem.W.keepIn K (.ref (gAd K d.cls d.name)) && codeB K (gAd K d.cls d.name) d.qual))))
def SaysP (ps : List PrpD) (K : PySem.W.Frag) : Prop := (ps.all fun d => d.ok K) = true ∧ ps.map (fun d => fnA K (gAd K d.cls d.name)) = ps.map PrpD.val
theorem SaysP.get {ps : List PrpD} {K : PySem.W.Frag} (c : SaysP ps K) (i : Nat) {d : PrpD} (h : ps[i]? = some d := by rfl) :
    PropOf K (He.ga K d.cls) d.name (pAd K d.cls d.name) (gAd K d.cls d.name) ∧ ∃ fd, FunD K d.name d.qual d.params d.body d.scope [] [] (gAd K d.cls d.name) fd := by
  have c1 : d.ok K = true := List.all_eq_true.mp c.1 d (List.mem_of_getElem? h)
  have c2 : fnA K (gAd K d.cls d.name) = d.val := by
    have e := congrArg (fun l => l[i]?) c.2
    simp only [List.getElem?_map, h, Option.map_some] at e
    exact Option.some.inj e
  unfold PrpD.ok at c1
  obtain ⟨h1, c1⟩ := He.ba c1
  obtain ⟨h2, c1⟩ := He.ba c1
  obtain ⟨h3, c1⟩ := He.ba c1
  obtain ⟨h4, c1⟩ := He.ba c1
  obtain ⟨h5, h6⟩ := He.ba c1
  refine ⟨⟨He.eqO_ok h1, He.eqO_ok h2, of_decide_eq_true h3, ?_⟩, ?_⟩
  · unfold isRec at h4
    unfold gAd
    split at h4
    · rename_i g rest hq
      rw [hq]
      exact ⟨rest, rfl⟩
    · cases h4
  · unfold fnA at c2
    unfold codeB at h6
    cases q : K.lookup (gAd K d.cls d.name) with
    | none =>
      rw [q] at h6
      cases h6
    | some o =>
      obtain ⟨oc, od, dt, osl⟩ := o
      rw [q] at h6 c2
      cases dt with
      | func fd =>
        obtain ⟨n1, n2, n3, n4, n5, n6, n7, n8, n9, n10, n11, n12, n13, n14, n15⟩ := fd
        have e2 : (some (n1, n2, n3, n4, n5, n6, n7, n15) : He.FnW) = some (d.name, d.qual, d.params, .stmts d.body, d.scope, mainGlobals, [], builtinsNs) := c2
        simp only [Option.some.injEq, Prod.mk.injEq] at e2
        obtain ⟨k1, k2, k3, k4, k5, k6, k7, k8⟩ := e2
        subst k1 k2 k3 k4 k5 k6 k7 k8
        obtain ⟨k1, k2⟩ := He.ba (show (PySem.W.codeIn K n13 d.qual && He.dflB K n8 []) = true from h6)
        exact ⟨_, ⟨oc, od, n8, n9, n10, n11, n12, n13, n14, osl, rfl, q, k1, He.dflB_ok k2, .inl rfl⟩, h5⟩
      | _ => cases h6
/-! ### constants of a class -/
structure CVC (K : PySem.W.Frag) (C : Addr) (f : Str) (v : V) : Prop where
  ex : ∃ mc u, ClX.CRead K C mc ∧ ClX.CVal K C mc f v u
theorem pe_cvC {X : Cx} {e : Expr} {C : Addr} {f : Str} {v : V} {pos : Pos} (he : PE X e (tC (.ref C))) (c : CVC X.K C f v) (hb : attributeBase e f X.env (eval e X.env) = eval e X.env := by rfl) : PE X (.Attribute e f pos) (tC v) := by
  obtain ⟨mc, u, r, k⟩ := c.ex
  exact ⟨fun pins s σ H Q I q => (ClX.pe_cval he hb).run pins s σ H Q I ⟨C, mc, v, u, rfl, r, k, q⟩⟩
def cvB (K : PySem.W.Frag) (x f : Str) (v : V) : Bool := PySem.W.readsIn K (He.ga K x) (.type "type") && (He.eqO (PySem.W.specialIn K (.ref (He.ga K x)) "__getattribute__") (some (some (.builtin "type.__getattribute__"))) && (match PySem.W.findCls K (.ref (He.ga K x)) (.type "type") f with
  | some (.val u) => He.relB v u
  | _ => false))
theorem cvB_ok {K : PySem.W.Frag} {x f : Str} {v : V} (h : cvB K x f v = true) : CVC K (He.ga K x) f v := by
  obtain ⟨h1, h⟩ := He.ba h
  obtain ⟨h2, h⟩ := He.ba h
  split at h
  · rename_i u hu
    exact ⟨_, u, ⟨h1, He.eqO_ok h2⟩, hu, He.relB_ok h⟩
  · cases h
theorem hu65_of {k : Nat} {A : Around} (hr : Room k A) : A.units + 65 < cLine := by have := hr.un; omega
end Wm
end

section
namespace PySem
namespace WmX
open PySem.W PySem.Calls PyProof.Rows PySem.HandSPX
section
variable {M : Model} {A : Around} {E : Value → Shared → Prop} {h : Heap} {g : Array GenState} {d : Drawn} {t : Nat} {os : OsState}
variable {nm q x : Str} {v : Value} {C N : Addr} {bs bm bmB : List Value} {hdct : Bool} {sn : List Str} {sub : List Value} {ab : Bool} {col : Option Bool} {dd : Option Addr} {k0 k1 k2 k3 k5 : Option Value} {B newId initId : String}
end
section
variable {prog : Program} {w : World} {A : Around} {E : Value → Shared → Prop} {R : Result → Shared → Prop} {h : Heap} {g : Array GenState} {d : Drawn} {t : Nat} {os : OsState}
variable {nm q x : Str} {v : Value} {C N : Addr} {bs bm bmB : List Value} {hdct : Bool} {sn : List Str} {sub : List Value} {ab : Bool} {col : Option Bool} {dd : Option Addr} {k0 k1 k2 k3 k5 : Option Value} {B newId initId : String}
end
end WmX
end PySem
/-! ## Errors with one keyword: C(x=e) -/
namespace Wm
open PySem PySem.Spec PyProof.Rows L2 StX
/-- C(x=e), C's own __init__ keeping sp -/
def tMkX (C : Addr) (sp : Sp) (te : TE) : L2.St → Hp → XK → Prop := fun σ H Q => te σ H fun y H1 => ∀ a, H1 a = none → sp [.ref a, y] (upd H1 a (exo a C none))
  (fun v H2 => v = .non ∧ ∃ (d : Addr) (fs : List (Str × V)), H2 a = some (exo a C (some d)) ∧ H2 d = some (exd d fs) ∧ H1 d = none ∧ Q (.ref C) (some d) (upd (del H2 a) d (.xd fs))) (fun _ _ _ => False)
section
variable {X : Cx} {e : Expr} {te : TE}
end
end Wm
end

section
/-! ## Caught errors asked for their class, with fields or without; bools counted -/
namespace Wm
open PySem PySem.Spec PyProof.Rows L2 StX
/-- isinstance(e, c): e the caught error, cls its class, d its fields -/
def rIsX (K : PySem.W.Frag) (a : Addr) (cls : Value) (d : Option Addr) : List V → Hp → VK → Prop := fun xs H Q => ∃ (D : Addr) (c : V) (cv : Value) (b : Bool), cls = .ref D ∧ ExcC K D ∧ xs = [.ref a, c] ∧ (∀ u, RelV c u → u = cv) ∧ PySem.W.kitOne K (.ref D) cv = some b ∧
  (d = none ∨ ∃ dd fs, d = some dd ∧ H dd = some (.xd fs)) ∧ Q (.bl b) H
/-- xs.count(b), xs a list of bools -/
def rCntB (K : PySem.W.Frag) : V → List V → Hp → VK → Prop := fun x xs H Q => ∃ (p : Addr) (bs : List Bool) (b : Bool), x = .ref p ∧ xs = [.bl b] ∧ SqL K H p (bs.map V.bl) ∧ Q (.int (bs.count b : Nat)) H
section
variable {X : Cx}
end
end Wm
end

section
/-! ## Joining: defs that may raise -/
namespace Wm
open PySem PySem.Spec PyProof.Rows L2 StX
section
variable {P : Program} {w : World} {K : PySem.W.Frag} {mg : Str → Option Value} {base : Heap}
end
/-! ### raise X("..") and raise X(k = e) -/
def tRz (t : L2.St → Hp → XK → Prop) (E : XK) : TS := fun _ σ H => t σ H E
/-- C(y = e) of an own error class with an own __init__ -/
structure RzK (P : Program) (w : World) (K : PySem.W.Frag) (mg : Str → Option Value) (base : Heap) (CX : CXT) (k : Nat) (x : Str) (C : Addr) (y : Str) (sp : Sp) : Prop where
  ex : ∃ (f : Addr) (fd : FuncData) (ps : List Str), FnOk P w K mg base CX k f fd ps sp ∧ OexC K C ∧ PySem.W.findIn K (.ref C) "__init__" = some (some (.ref f)) ∧ PySem.W.typeIn K (.ref f) = some (.type "function") ∧ mg x = some (.ref C) ∧
    ∀ (s : Shared) (u v : Value), BindsTo s fd ⟨[u], [(y, v)]⟩ (ps.zip [u, v])
/-- C(".."), C an own error class without own __init__ -/
structure RzS (K : PySem.W.Frag) (mg : Str → Option Value) (x : Str) (C : Addr) : Prop where
  ex : PySem.W.excIn K C [.type "ValueError", .type "Exception", .type "BaseException", .type "object"] "ValueError.__new__" = true
  kC : PySem.W.keepIn K (.ref C) = true
  sC : PySem.W.subIn K (.ref C) (.type "BaseException") = some true
  tC : PySem.W.typeIn K (.ref C) = some (.type "type")
  hm : mg x = some (.ref C)
section
variable {X : Cx} {CX : CXT} {k j : Nat} {C : Addr} {sp : Sp} {E : XK} {x y : Str} {p pos pos' : Pos} {kws : List Keyword} {e : Expr} {te : TE}
end
/-! ### what a class of errors says, by one check -/
def oexL (K : PySem.W.Frag) (C : Addr) : Bool := match K.lookup C with
  | some ⟨.type "type", _, .cls ⟨_, _, .ref C' :: bm, _, _, hd, _, _, _, _, del⟩, sl⟩ => (match sl.toList with
    | [_, _, _, _, some (.builtin n), _] => C' == C && n == "ValueError.__new__" && !del && hd && PySem.HandSPX.refsVE bm
    | _ => false)
  | _ => false
def oexB (K : PySem.W.Frag) (C : Addr) : Bool := oexL K C && (decide (PySem.W.findIn K (.ref C) "__setattr__" = some (some (.builtin "object.__setattr__"))) && (decide (PySem.W.subIn K (.ref C) (.type "BaseException") = some true) &&
  (decide (PySem.W.typeIn K (.ref C) = some (.type "type")) && PySem.W.keepIn K (.ref C))))
def excB (K : PySem.W.Frag) (D : Addr) : Bool := decide (PySem.W.findIn K (.ref D) "__getattribute__" = some (some (.builtin "BaseException.__getattribute__"))) && (decide (PySem.W.findIn K (.ref D) "__getattr__" = some none) &&
  (decide (PySem.W.subIn K (.ref D) (.type "BaseException") = some true) && (PySem.W.hasDictIn K D && (decide (PySem.W.findIn K (.ref D) "__class__" = some (some (.builtin "object.__class__"))) &&
  (decide (PySem.W.specialIn K (.builtin "object.__class__") "__get__" = some (some (.builtin "getset_descriptor.__get__"))) && (decide (PySem.W.takesIn K (.builtin "object.__class__") = some true) && decide (PySem.W.mroIn K D (.type "object") = some true)))))))
/-- C(k = e): C's own __init__ is the def at fAd -/
def rzkB (K : PySem.W.Frag) (x : Str) : Bool := oexB K (He.ga K x) && (decide (PySem.W.findIn K (.ref (He.ga K x)) "__init__" = some (some (.ref (He.fAd K (x, some "__init__"))))) && decide (PySem.W.typeIn K (.ref (He.fAd K (x, some "__init__"))) = some (.type "function")))
/-- C("..") of a class without own __init__ -/
def rzsB (K : PySem.W.Frag) (x : Str) : Bool := PySem.W.excIn K (He.ga K x) [.type "ValueError", .type "Exception", .type "BaseException", .type "object"] "ValueError.__new__" && (PySem.W.keepIn K (.ref (He.ga K x)) &&
  (decide (PySem.W.subIn K (.ref (He.ga K x)) (.type "BaseException") = some true) && decide (PySem.W.typeIn K (.ref (He.ga K x)) = some (.type "type"))))
/-- x.__init__(self, ..) -/
structure OwnIni (K : PySem.W.Frag) (mg : Str → Option Value) (x : Str) (C : Addr) : Prop where
  hm : mg x = some (.ref C)
  hr : PySem.W.readsIn K C (.type "type") = true
  hs : PySem.W.specialIn K (.ref C) "__getattribute__" = some (some (.builtin "type.__getattribute__"))
  vV : PySem.W.findCls K (.ref C) (.type "type") "__init__" = some (.val (.builtin "ValueError.__init__"))
def oiB (K : PySem.W.Frag) (x : Str) : Bool := PySem.W.readsIn K (He.ga K x) (.type "type") && (decide (PySem.W.specialIn K (.ref (He.ga K x)) "__getattribute__" = some (some (.builtin "type.__getattribute__"))) &&
  (match PySem.W.findCls K (.ref (He.ga K x)) (.type "type") "__init__" with | some (.val (.builtin n)) => n == "ValueError.__init__" | _ => false))
end Wm
end

section
/-! ## A star parameter behind several others -/
namespace Wm
open PySem PySem.Spec PyProof.Rows L2 StX
section
variable {P : Program} {w : World} {K : PySem.W.Frag} {mg : Str → Option Value} {base : Heap} {CX : CXT}
end
end Wm
end

section
/-! ## super() in a method: the def's promise -/
namespace Wm
open PySem PySem.Spec PyProof.Rows L2 StX PySem.W
section
variable {P : Program} {w : World} {K : Frag} {mg : Str → Option Value} {base : Heap} {CX : CXT} {k : Nat} {x qual : Str} {st : Stmt} {kws : List (Str × V)} {f D cc c : Addr} {fd : FuncData} {N ps : List Str} {sp : Sp}
theorem cells_S {A : Around} {outer : List Env} {s : Shared} {H : Hp} (F : FunS P K x qual st kws f D cc c fd) (e0 : Env0 P w K mg base A outer s H) : NdefX.CellsAt [("__class__", cc)] ["__class__"] [none] s.heap H := by
  obtain ⟨cl, cld, csl, hc⟩ := F.cell
  obtain ⟨h1, h2⟩ := e0.bs _ _ (e0.mod.kin _ _ hc)
  have one : ∀ {y : Str} {z : Addr}, List.lookup y [(("__class__" : Str), cc)] = some z → y = "__class__" ∧ z = cc := fun {y z} q => by
    rw [List.lookup_cons] at q
    cases e : (y == ("__class__" : Str)) with
    | true => rw [e] at q; cases q; exact ⟨by simpa using e, rfl⟩
    | false => rw [e] at q; cases q
  refine ⟨rfl, fun y z q => ?_, fun y1 y2 z q1 q2 => ?_, fun i y q => ?_⟩
  · obtain ⟨_, rfl⟩ := one q
    exact ⟨h2, _, _, h1, rfl⟩
  · rw [(one q1).1, (one q2).1]
  · have : y = "__class__" := by
      cases i with
      | zero => cases q; rfl
      | succ i => cases q
    subst this
    refine ⟨cc, rfl, fun v hv => ?_⟩
    cases i with
    | zero => cases hv
    | succ i => cases hv
theorem startF_eq {N : List Str} {vs : List V} (h : vs.length < N.length) : NdefX.startF N vs [none] = L2.start N vs := by
  unfold NdefX.startF L2.start
  congr 1
  show none :: List.replicate (N.length - vs.length - 1) none = _
  rw [← List.replicate_succ]
  congr 1
  omega
theorem run_bndS {A : Around} {outer : List Env} {s : Shared} {H : Hp} {args : Args} {Q : VK} {E : XK} {G : List V → Hp → Prop} (F : FunS P K x qual st kws f D cc c fd) (S : NdefX.NScope N ps ["__class__"] (defScope st)) (hr : Room (k + 1) A) (e0 : Env0 P w K mg base A outer s H) (hb : Bnd CX P w K mg base fd args ps A outer s H E G)
    (hbody : ∀ (s2 : Shared) (H2 : Hp) (vs : List V), G vs H2 → Room k (A.deeper (NdefX.envF (nfS x qual st cc c) f s2.heap.objs.size)) →
      ∃ t, QSs (NdefX.ncx CX P w K mg base N (nfS x qual st cc c) f A outer s2 H2 E) (defBody st) (defBody st) t ∧ t { nx := fun _ H' => Q .non H', rt := Q } (L2.start N vs) H2) : codeAny (model P w) A (.call (.ref f) args) (CR CX outer P w H s Q E) s := by
  obtain ⟨oc, od, kV, doc, pm, an, ct, osl, rfl, lk, hcd, _⟩ := F.ex
  have KX : K.In s.heap := e0.mod.kin.keeps fun b o e => (e0.bs b o e).1
  refine codeAny_call_function hr.depth (KX _ _ lk) rfl S.co S.gen rfl (codeRec_of KX hcd) ?_
  refine hb _ _ _ fun s2 H2 vs us e2 un ho hx r hl g => ?_
  have lim : s2.heap.NoLimit := e0.mod.nolimit.keeps fun b o e => (e2.bs b o e).1
  refine wpAny_newFunctionEnv (s := s2) S.nocell (fun ⟨n, _⟩ hy => S.par n (List.of_mem_zip hy).1) (fun h₁ hns hsb => ⟨lim.fresh _ hsb, ?_⟩) S.kind
  show codeAny _ _ (.func (defBody st) (NdefX.envF (nfS x qual st cc c) f s2.heap.objs.size)) _ _
  refine ks_codeAny_funcAt ?_
  have kp : ∀ b o, s2.heap.get? b = some o → h₁.get? b = some o := fun b o e => hsb.extBut b o (Nat.ne_of_lt (Heap.lt_size e)) (Heap.get?_push_of_some _ e)
  obtain ⟨t, ht, hq⟩ := hbody s2 H2 vs g (hr.deeper _)
  have hlt : vs.length < N.length := by
    have q := congrArg List.length S.pre
    rw [List.length_take, List.length_append] at q
    have : (["__class__"] : List Str).length = 1 := rfl
    omega
  rw [← startF_eq hlt] at hq
  have I := NdefX.inv_startN (CX := CX) (P := P) (w := w) (E := E) (F := nfS x qual st cc c) (f := f) (ws := [none]) (tk := s2.toks + (ps.zip us).length) S hr.hd e2 hl r (cells_S F e2) hns kp
  refine ks_wpAt_mono (ht.run [] _ _ _ _ I hq) (fun fl s' hs => ?_) fun e s' hs => ?_
  · have fin : ∀ {σ' : L2.St} {H' : Hp} {v' : V} {u' : Value}, Inv (NdefX.ncx CX P w K mg base N (nfS x qual st cc c) f A outer s2 H2 E) [] σ' H' s' → RelV v' u' → Q v' H' → CE outer P w H s Q u' s' :=
      fun {σ' H' v' u'} J rv' q => ⟨v', H', J.os.trans ho, J.bare, un.trans J.base, J.hok, rv', q⟩
    cases fl with
    | ret u' =>
      obtain ⟨v', σ', H', J, rv', q⟩ := hs
      exact fin J rv' q
    | next =>
      obtain ⟨σ', H', J, q⟩ := hs
      exact fin (v' := V.non) (u' := Value.none) J rfl q
    | brk =>
      obtain ⟨_, _, _, q⟩ := hs
      exact False.elim q
    | cont =>
      obtain ⟨_, _, _, q⟩ := hs
      exact False.elim q
  · exact wpAny_mono hs (fun _ s'' z => hx e s'' z) fun e' s'' z => hx e' s'' z
/-- a def with plain parameters (keyword-only ones among them) -/
theorem okS (F : FunS P K x qual st kws f D cc c fd) (S : NdefX.NScope N ps ["__class__"] (defScope st)) (len : ∀ vs H Q E, sp vs H Q E → vs.length = ps.length)
    (hbody : ∀ (A : Around) (outer : List Env) (s : Shared) (H : Hp) (vs : List V) (Q : VK) (E : XK), Room k (A.deeper (NdefX.envF (nfS x qual st cc c) f s.heap.objs.size)) → sp vs H Q E →
      ∃ t, QSs (NdefX.ncx CX P w K mg base N (nfS x qual st cc c) f A outer s H E) (defBody st) (defBody st) t ∧ t { nx := fun _ H' => Q .non H', rt := Q } (L2.start N vs) H) : FnOk P w K mg base CX (k + 1) f fd ps sp := by
  refine ⟨len, fun A outer s H args us vs Q E hr e0 hb r hsp => ?_⟩
  refine run_bndS F S hr e0 (G := fun zs H2 => sp zs H2 Q E) (fun A' Ex Q' h => hb _ _ _ _ (h s H vs us e0 Un.refl rfl (fun _ _ z => z) r (len _ _ _ _ hsp) hsp)) fun s2 H2 zs g hr' => hbody A outer s2 H2 zs Q E hr' g
/-- .. with a star parameter behind others -/
theorem okStarS {pv : Str} (F : FunS P K x qual st kws f D cc c fd) (S : NdefX.NScope N (ps ++ [pv]) ["__class__"] (defScope st)) (hup : CXUp CX)
    (hb : ∀ (kV doc pm : Value) (an : Option Addr) (ct : Value) (us rest : List Value), us.length = ps.length → bindArgs (fnX x qual (defArgs st) (defBody st) (defScope st) [("__class__", cc)] .none kV doc pm an (.ref c) ct) ⟨us ++ rest, []⟩ = (newTuple rest >>= fun t => pure (ps.zip us ++ [(pv, t)])))
    (hbody : ∀ (A : Around) (outer : List Env) (s : Shared) (H : Hp) (vs : List V) (Q : VK) (E : XK), Room k (A.deeper (NdefX.envF (nfS x qual st cc c) f s.heap.objs.size)) → sp vs H Q E →
      ∃ t, QSs (NdefX.ncx CX P w K mg base N (nfS x qual st cc c) f A outer s H E) (defBody st) (defBody st) t ∧ t { nx := fun _ H' => Q .non H', rt := Q } (L2.start N vs) H) :
    FnR P w K mg base CX (k + 1) f (fun vs H Q E => ∃ ws rest, vs = ws ++ rest ∧ ws.length = ps.length ∧ rest.length ≤ sizeLine ∧ ∀ p, H p = Option.none → sp (ws ++ [V.ref p]) (upd H p (.tup rest)) Q E) := by
  intro A outer s H us vs Q E hr e0 r hsp
  obtain ⟨ws, rest, ev, hl, hz, hq⟩ := hsp
  subst ev
  obtain ⟨u1, u2, eu, r1, r2⟩ := vals_split r
  subst eu
  have hn : H s.heap.objs.size = Option.none := e0.hok.fresh (Nat.le_refl _)
  have hl1 : u1.length = ps.length := by rw [← r1.length]; exact hl
  have hl2 : u2.length ≤ sizeLine := by rw [← r2.length]; exact hz
  refine run_bndS F S hr e0 (G := fun xs H2 => ∃ p, H p = Option.none ∧ xs = ws ++ [V.ref p] ∧ H2 = upd H p (.tup rest)) (fun A' Ex Q' h => ?_) fun s2 H2 xs ⟨p, hp, ex, eH⟩ hr' => ?_
  · obtain ⟨oc, od, kV, doc, pm, an, ct, osl, efd, lk, hcd, _⟩ := F.ex
    rw [efd, hb kV doc pm an ct u1 u2 hl1]
    refine wpAny_bind (wpAny_newTuple (wpAny_pure ?_) hl2)
    have new : ObjOk P w (upd H s.heap.objs.size (.tup rest)) (s.heap.push ({ cls := .type "tuple", data := .seq u2.toArray } : Obj)) s.heap.objs.size (.tup rest) := ⟨hz, u2, r2, ⟨_, Heap.get?_push_size _ rfl, rfl, _, rfl⟩⟩
    have un := un_laid (fs := frs outer) (s := s) (o := ({ cls := .type "tuple", data := .seq u2.toArray } : Obj)) (u := .tup rest) hn
    have z := h _ _ (ws ++ [V.ref s.heap.objs.size]) (u1 ++ [Value.ref s.heap.objs.size]) (env0_laid e0 new) un rfl (fun e s' => hup outer s H _ _ E e s' un (fun b o q => Heap.get?_push_of_some _ q) rfl) (r1.append (.cons rfl .nil))
      (by rw [List.length_append, List.length_append, hl] <;> rfl) ⟨_, hn, rfl, rfl⟩
    rw [List.zip_append hl1.symm] at z
    exact z
  · subst ex eH
    exact hbody A outer s2 _ _ Q E hr' (hq p hp)
end
section
variable {X : Cx} {b rest : List Stmt} {t : TS}
theorem QSs.nox (h : QSs X.nox b rest t) : QSs X b rest t := ⟨fun pins s σ H D I hw => ks_wpAt_mono (h.run pins s σ H D (I.wish _) hw) (fun _ _ q => q.unwish) fun _ _ z => False.elim z⟩
end
end Wm
end

section
/-! ## Operators that an own class defines -/
namespace Wm
open PySem PySem.Spec PyProof.Rows L2 StX
/-- the method behind an operator: a promise, and where it stands -/
structure DunR (P : Program) (w : World) (K : PySem.W.Frag) (mg : Str → Option Value) (base : Heap) (CX : CXT) (k : Nat) (C : Addr) (m : Str) (sp : Sp) : Prop where
  ex : ∃ f, FnR P w K mg base CX k f sp ∧ PySem.W.findIn K (.ref C) m = some (some (.ref f)) ∧ PySem.W.isFn K (.ref f) = true ∧ PySem.W.fnIn K f = true
/-- x op y of two instances of one class; what comes back is an object -/
def rOwn2 (C : Addr) (sp : Sp) (E : XK) : R2 := fun x y H Q => ∃ a b dx dy fs gs, x = .ref a ∧ y = .ref b ∧ H a = some (.ins C dx fs) ∧ H b = some (.ins C dy gs) ∧ sp [x, y] H (fun v H' => (∃ p, v = .ref p) ∧ Q v H') E
/-- x op n, n an int -/
def rOwnI (C : Addr) (sp : Sp) (E : XK) : R2 := fun x y H Q => ∃ a dx fs i, x = .ref a ∧ y = .int i ∧ H a = some (.ins C dx fs) ∧ sp [x, y] H (fun v H' => (∃ p, v = .ref p) ∧ Q v H') E
def rOwn1 (C : Addr) (sp : Sp) (E : XK) : V → Hp → VK → Prop := fun x H Q => ∃ a dx fs, x = .ref a ∧ H a = some (.ins C dx fs) ∧ sp [x] H Q E
def rOwnIx (C : Addr) (sp : Sp) (E : XK) : R2 := fun x y H Q => ∃ a dx fs, x = .ref a ∧ H a = some (.ins C dx fs) ∧ sp [x, y] H Q E
def rOwnLen (C : Addr) (sp : Sp) (E : XK) : List V → Hp → VK → Prop := fun xs H Q => ∃ a dx fs, xs = [.ref a] ∧ H a = some (.ins C dx fs) ∧ sp [.ref a] H (fun v H' => ∃ n : Int, v = .int n ∧ 0 ≤ n ∧ n < 2 ^ 63 ∧ Q v H') E
section
variable {X : Cx} {CX : CXT} {k j : Nat} {C : Addr} {m : Str} {sp : Sp} {E : XK} {op : Operator} {T : String}
/-- the call of a promise, at any around of this frame -/
theorem run_at {pins : List (Addr × Obj)} {σ : L2.St} {H : Hp} {s : Shared} {A : Around} {f : Addr} {us : List Value} {vs : List V} {Q : VK} (F : FnR X.prog X.w X.K X.mg X.base CX k f sp) (hr : Room k A) (hf : A.frames = X.A.frames) (hx : Passes CX X E) (I : Inv X pins σ H s) (r : Vals vs us) (h : sp vs H Q E) :
    wpAny (model X.prog X.w) A (call (.ref f) us) (EP X pins σ Q) X.xe s := by
  have e := I.env0
  have e0 : Env0 X.prog X.w X.K X.mg X.base A X.stack s H := ⟨by rw [hf]; exact e.frames, e.mod, e.bs, e.bsz, e.funs, e.frf, e.hok, e.bare⟩
  refine wpAny_call (codeAny_mono (F A X.stack s H us vs Q E hr e0 r h) fun r s' hq => ?_)
  cases r with
  | error e => exact hx pins σ H s e s' I hq
  | ok fl =>
    cases fl with
    | ret u => exact I.after hq
    | next => exact False.elim hq
    | brk => exact False.elim hq
    | cont => exact False.elim hq
theorem op_own2 (c : DunR X.prog X.w X.K X.mg X.base CX k C (PySem.dunder op.info.2) sp) (hs : PySem.W.selfFirst X.K C = true) (hr : Room j X.A) (hk : k ≤ j) (hx : Passes CX X E) : OpR X (binaryOp op) (rOwn2 C sp E) := by
  intro pins s σ H x y v u Q I rx ry h
  obtain ⟨a, b, dx, dy, fs, gs, rfl, rfl, ha, hb, h⟩ := h
  obtain ⟨f, F, h1, h2, _⟩ := c.ex
  cases rx
  cases ry
  obtain ⟨mA, J, _⟩ := ins_get I.hok ha
  obtain ⟨mB, J', _⟩ := ins_get I.hok hb
  obtain ⟨od, J, _⟩ := J.look
  obtain ⟨od', J', _⟩ := J'.look
  obtain ⟨m, hF⟩ := I.fr
  refine PySem.W.binop_K hF I.ok.mod.kin J J'.type hs h1 h2 ?_
  refine wpAny_mono (run_at (vs := [.ref a, .ref b]) F (hr.mono hk) rfl hx I (.cons rfl (.cons rfl .nil)) h) (fun w s' hw => ?_) fun _ _ e => e
  obtain ⟨z, H', I', rz, ⟨p, ez⟩, q⟩ := hw
  subst ez
  cases rz
  exact ⟨.ref p, H', I', rfl, q⟩
theorem op_ownI {fo ro rc : Option Value} (c : DunR X.prog X.w X.K X.mg X.base CX k C (PySem.dunder op.info.2) sp) (hs : PySem.W.selfFirst X.K C = true) (hr0 : PySem.W.findIn X.K (.ref C) (dunderR op.info.2) = some none)
    (h1 : PySem.W.findIn X.K (.type "int") (PySem.dunder op.info.2) = some fo) (h2 : PySem.W.findIn X.K (.type "int") (dunderR op.info.2) = some ro) (hsub : PySem.W.subIn X.K (.type "int") (.ref C) = some false) (hr : Room j X.A) (hk : k ≤ j) (hx : Passes CX X E) : OpR X (binaryOp op) (rOwnI C sp E) := by
  intro pins s σ H x y v u Q I rx ry h
  obtain ⟨a, dx, fs, i, rfl, rfl, ha, h⟩ := h
  obtain ⟨f, F, h3, h4, _⟩ := c.ex
  cases rx
  obtain ⟨t, rfl⟩ := ry
  obtain ⟨mA, J, _⟩ := ins_get I.hok ha
  obtain ⟨od, J, _⟩ := J.look
  obtain ⟨m, hF⟩ := I.fr
  refine PySem.W.ksp_binT (T := "int") hF I.ok.mod.kin J rfl hs h3 h4 hr0 (.inl rfl) h1 h2 hsub ?_
  refine wpAny_mono (run_at (vs := [.ref a, .int i]) F (hr.mono hk) rfl hx I (.cons rfl (.cons ⟨t, rfl⟩ .nil)) h) (fun w s' hw => ?_) fun _ _ e => e
  obtain ⟨z, H', I', rz, ⟨p, ez⟩, q⟩ := hw
  subst ez
  cases rz
  exact ⟨.ref p, H', I', rfl, q⟩
theorem call_lenOwn (c : DunR X.prog X.w X.K X.mg X.base CX k C "__len__" sp) (hr : Room j X.A) (hk : k + 1 ≤ j) (hx : Passes CX X E) : CallR X (.builtin "len") (rOwnLen C sp E) := by
  intro pins s σ H xs us Q I r h
  obtain ⟨a, dx, fs, rfl, ha, h⟩ := h
  obtain ⟨f, F, h3, h4, _⟩ := c.ex
  obtain ⟨u, rfl, rx⟩ := vals1 r
  cases rx
  obtain ⟨mA, J, _⟩ := ins_get I.hok ha
  obtain ⟨od, J, _⟩ := J.look
  obtain ⟨m, hF⟩ := I.fr
  refine PySem.W.len_K hF I.ok.mod.kin J h3 h4 ?_
  refine wpAny_mono (run_at (vs := [.ref a]) F (hr.mono hk).in1 rfl hx I (.cons rfl .nil) h) (fun w s' hw => ?_) fun _ _ e => e
  obtain ⟨z, H', I', rz, n, ez, n0, n1, q⟩ := hw
  subst ez
  obtain ⟨t, rfl⟩ := rz
  exact ⟨⟨n0, n1⟩, .int n, H', I'.tok _, ⟨_, rfl⟩, q⟩
/-- x[y] of an own class -/
theorem pe_ixOwn {ea eb : Expr} {ta tb : TE} {pos : Pos} (c : DunR X.prog X.w X.K X.mg X.base CX k C "__getitem__" sp) (hr : Room j X.A) (hk : k + 1 ≤ j) (hx : Passes CX X E) (ha : PE X ea ta) (hb : PE X eb tb)
    (hs : ∀ (a : Addr) (u : Value), subscripted eb true (.ref a) u = runValue (.builtin "lifetime.subscript" ⟨[.ref a, u], []⟩)) : PE X (.Subscript ea eb pos) (tOp (rOwnIx C sp E) ta tb) := by
  refine ⟨fun pins s σ H Q I h => Subscript_ (binT ha hb I h fun v u s2 x y H2 I2 rx ry q => ?_)⟩
  obtain ⟨a, dx, fs, rfl, h5, q⟩ := q
  obtain ⟨f, F, h3, h4, h6⟩ := c.ex
  cases rx
  obtain ⟨mA, J, _⟩ := ins_get I2.hok h5
  obtain ⟨od, J, _⟩ := J.look
  obtain ⟨m, hF⟩ := I2.fr
  exact PySem.W.sub_K hF I2.ok.mod.kin J h3 h6 h4 (run_at (vs := [.ref a, y]) F (hr.mono hk).in1 rfl hx I2 (.cons rfl (.cons ry .nil)) q) (hs _ _)
/-- x(e, ..), x a name that holds an instance -/
def tCallI (i : Nat) (C : Addr) (sp : Sp) (E : XK) (t : TA) : TE := fun σ H Q => ∃ a, σ[i]? = some (some (.ref a)) ∧ t σ H fun vs H1 => ∃ dx fs, H1 a = some (.ins C dx fs) ∧ sp (.ref a :: vs) H1 Q E
theorem inst_with {M : Model} {A : Around} {ZE : Value → Shared → Prop} {s : Shared} {pos : Pos} {x : Addr} {args : List (Bool × Sem Value)} {Z : Value → Shared → Prop} (hp : (args.any (·.1) || ([] : List (Option Str × Sem Value)).any (·.1.isNone)) = false)
    (h : wpAny M A (evalArgs (.ref x) true args []) (fun a t => (∃ dx od, PySem.W.InstAt t.heap x (PySem.W.instObj C dx) C od) ∧ wpAny M A (call (.ref x) (([] : List Value) ++ a.pos) a.kw) Z ZE t) ZE s) : wpAny M A (callWith pos (.ref x) [] args []) Z ZE s := by
  unfold callWith
  refine wpAny_bind (wpAny_holding (wpAny_mono h (fun a t ht => wpAny_bind (wpAny_standAt ?_)) fun _ _ e => e))
  obtain ⟨⟨dx, od, J⟩, ht⟩ := ht
  have keeps := PySem.W.kco_keeper (M := M) J rfl
  simp only [hp]
  refine wpAny_bind (keeps.here (wpAny_bind (wpAny_mono (wpAny_operateT ht) (fun r t2 hr => ?_) fun _ _ e => e)))
  exact wpAny_bind (wpAny_holding (wpAny_point (wpAny_pure hr)))
theorem pe_callI {i : Nat} {x : Str} {p pos : Pos} {e : Expr} {es : List Expr} {t : TA} (c : DunR X.prog X.w X.K X.mg X.base CX k C "__call__" sp) (hr : Room j X.A) (hk : k ≤ j) (hx : Passes CX X E) (hN : X.N[i]? = some x) (hv : Vis X.env.scope x) (ha : PA X (e :: es) t)
    (hdb : (x == ("__debug__" : Str)) = false := by decide) (hcd : (x == ("__classdict__" : Str)) = false := by decide)
    (he : starEach (e :: es) X.env = (false, eval e X.env) :: starEach es X.env := by rfl) (hpl : (backTo pos (starEach es X.env)).any (·.1) = false := by rfl) : PE X (.Call (.Name x p) (e :: es) [] pos) (tCallI i C sp E t) := by
  refine ⟨fun pins s σ H Q I h => ?_⟩
  obtain ⟨a, hs, ht⟩ := h
  obtain ⟨f, F, h3, h4, h6⟩ := c.ex
  refine wpAny_Call_Name_kw (thn ((pe_var (pos := p) hN hv hdb hcd).run pins s σ H (fun v H1 => v = .ref a ∧ H1 = H) I ⟨.ref a, hs, rfl, rfl⟩) fun u s1 ⟨v, H1, I1, r1, q1⟩ => ?_)
  obtain ⟨rfl, rfl⟩ := q1
  cases r1
  rw [he]
  refine inst_with (C := C) (by show ((false || (backTo pos (starEach es X.env)).any (·.1)) || false) = false; rw [hpl]; rfl) (Calls.evalArgs_plain ?_)
  have hh := ha.run pos pins s1 σ _ _ I1 ht
  rw [he] at hh
  refine thn hh fun us s2 ⟨vs, H2, I2, r, dx, fs, h5, q⟩ => ?_
  obtain ⟨mA, J, _⟩ := ins_get I2.hok h5
  obtain ⟨od, J, _⟩ := J.look
  refine ⟨⟨dx, _, J⟩, ?_⟩
  refine wpAny_call (PySem.W.kco_code I2.kIn J rfl h3 h4 h6 ?_)
  refine codeAny_mono (F X.A X.stack s2 H2 (.ref a :: us) (.ref a :: vs) Q E (hr.mono hk) I2.env0 (.cons rfl r) q) fun r s' hq => ?_
  cases r with
  | error e => exact hx pins σ H2 s2 e s' I2 hq
  | ok fl =>
    cases fl with
    | ret u => exact I2.after hq
    | next => exact False.elim hq
    | brk => exact False.elim hq
    | cont => exact False.elim hq
end
end Wm
end

section
/-! ## == and != by a class's own __eq__ -/
namespace Wm
open PySem PySem.Spec PyProof.Rows L2 StX
section
variable {prog : Program} {w : World} {A : Around} {E : Value → Shared → Prop} {s : Shared} {K : PySem.W.Frag} {x y C L f : Addr} {h₀ : Heap} {m : Str → Option Value} {ox oy : Obj} {od od' : Option Obj}
end
/-- what a class must have for the default __ne__ -/
def neB (K : PySem.W.Frag) (C : Addr) : Bool := PySem.W.findIn K (.ref C) "__ne__" == some (some (.builtin "object.__ne__")) && PySem.W.subIn K (.ref C) (.type "object") == some true
/-- x == y, x != y of two instances of one class -/
def rOwnEq (C : Addr) (sp : Sp) (E : XK) : R2 := fun x y H Q => ∃ a b dx dy fs gs, x = .ref a ∧ y = .ref b ∧ H a = some (.ins C dx fs) ∧ H b = some (.ins C dy gs) ∧ sp [x, y] H (fun v H' => ∃ c, v = .bl c ∧ Q (.bl c) H') E
def rOwnNe (C : Addr) (sp : Sp) (E : XK) : R2 := fun x y H Q => ∃ a b dx dy fs gs, x = .ref a ∧ y = .ref b ∧ H a = some (.ins C dx fs) ∧ H b = some (.ins C dy gs) ∧ sp [x, y] H (fun v H' => ∃ c, v = .bl c ∧ Q (.bl (!c)) H') E
section
variable {X : Cx} {CX : CXT} {k j : Nat} {C : Addr} {sp : Sp} {E : XK}
end
end Wm
end

section
/-! ## tuple * int, from 1 on -/
namespace Wm
open PySem PySem.Spec PyProof.Rows L2 StX
def rRepTA (K : PySem.W.Frag) : R2 := fun x y H Q => ∃ l k xs, x = .ref l ∧ y = .int k ∧ SqT K H l xs ∧ xs ≠ [] ∧ 1 ≤ k ∧ k ≤ 1000 ∧ xs.length ≤ 1000 ∧ (k = 1 → Q (.ref l) H) ∧ (2 ≤ k → ∀ p, H p = none → Q (.ref p) (upd H p (.tup (List.replicate k.toNat xs).flatten)))
/-- isinstance(x, C) for an instance of C, an int, a tuple -/
def isiB (K : PySem.W.Frag) (C : Addr) : Bool := PySem.W.findIn K (.ref C) "__class__" == some (some (.builtin "object.__class__")) && (PySem.W.specialIn K (.builtin "object.__class__") "__get__" == some (some (.builtin "getset_descriptor.__get__")) && (PySem.W.takesIn K (.builtin "object.__class__") == some true &&
  (PySem.W.mroIn K C (.type "object") == some true && (PySem.W.kitOne K (.ref C) (.ref C) == some true && (PySem.W.kitOne K (.type "int") (.ref C) == some false && PySem.W.kitOne K (.type "tuple") (.ref C) == some false)))))
structure IsiC (K : PySem.W.Frag) (C : Addr) : Prop where
  cl : Cls K C
  ok : isiB K C = true
def rIsiO (C : Addr) : List V → Hp → VK → Prop := fun xs H Q => ∃ x, xs = [x, .ref C] ∧ ((∃ a dx fs, x = .ref a ∧ H a = some (.ins C dx fs) ∧ Q (.bl true) H) ∨ (∃ i, x = .int i ∧ Q (.bl false) H) ∨ (∃ a ys, x = .ref a ∧ H a = some (.tup ys) ∧ Q (.bl false) H))
/-- times an int: what a class must have -/
def mulB (K : PySem.W.Frag) (C : Addr) : Bool := PySem.W.selfFirst K C && (PySem.W.findIn K (.ref C) (dunderR "mul") == some none && ((PySem.W.findIn K (.type "int") (PySem.dunder "mul")).isSome && ((PySem.W.findIn K (.type "int") (dunderR "mul")).isSome && PySem.W.subIn K (.type "int") (.ref C) == some false)))
theorem op_ownM {X : Cx} {CX : CXT} {k j : Nat} {C : Addr} {sp : Sp} {E : XK} (c : DunR X.prog X.w X.K X.mg X.base CX k C "__mul__" sp) (hm : mulB X.K C = true) (hr : Room j X.A) (hk : k ≤ j) (hx : Passes CX X E) : OpR X (binaryOp .Mult) (rOwnI C sp E) := by
  unfold mulB at hm
  simp only [Bool.and_eq_true, beq_iff_eq] at hm
  obtain ⟨fo, h1⟩ := Option.isSome_iff_exists.mp hm.2.2.1
  obtain ⟨ro, h2⟩ := Option.isSome_iff_exists.mp hm.2.2.2.1
  exact op_ownI (op := .Mult) (rc := none) c hm.1 hm.2.1 h1 h2 hm.2.2.2.2 hr hk hx
end Wm
end

section
/-! ## a list of anything == an empty list -/
namespace Wm
open PySem PySem.Spec PyProof.Rows L2 StX
def rEqE (K : PySem.W.Frag) : R2 := fun x y H Q => ∃ a b xs, x = .ref a ∧ y = .ref b ∧ SqL K H a xs ∧ SqL K H b [] ∧ Q (.bl (decide (xs = []))) H
end Wm
end

section
/-! ## A for in a generator's body -/
namespace Wm
open PySem PySem.Spec PyProof.Rows L2 GenW
def tGFor (wi : TI) (g : TG) (tb : TGn) : TGn := fun D ys σ H => wi σ H fun J H1 => ∃ W : Nat → Nat → List V → L2.St → Hp → Prop, (∃ m, W 0 m ys σ H1) ∧ ∀ i m ys σ H, W i m ys σ H →
  (J.stop i H ∧ D.nx ys σ H) ∨ (J.go i H ∧ ∃ N : List V → L2.St → Hp → Prop, (∀ ys' σ' H', N ys' σ' H' → ∃ m', m' < m ∧ W (i + 1) m' ys' σ' H') ∧
    ∀ x H', J.yld i H x H' → g x σ H' fun σ2 H2 => tb { D with nx := N, ct := N, bk := D.nx } ys σ2 H2)
section
variable {X : Cx} {S : Addr} {ip : List (Addr × Obj)} {A : Around} {c c' : Code} {fs : List Frame} {gd : Bool → Bool} {l kp : List Value} {p : Pos}
/-- what the loop's code does with an exception of its own -/
def ownEnd (env : Env) (x : Value) : Sem PySem.Fin := (do noteFrame x env; theTreesLotGoes x : Sem Unit).wrap (fun _ => .raise x) .raise id id
theorem seg_forTurn {M : Model} {R : GenEnd} {Y : Protocol} {n : Nat} {s₀ s : Shared} {tg : Expr} {it : Value} {body : List Stmt} {env : Env} {cc : Code}
    (h : wpAny M (A.over cc fs) (pyNext it) (fun r s1 => match r with
      | none => Seg M A R Y n s₀ cc (.pure (.again (.block [] env))) fs s1
      | some v => wpAny M (A.over cc fs) (letOwnedTupleGo tg it v) (fun _ s2 => wpAny M (A.over cc fs) (assign tg env v) (fun _ s3 =>
          Seg M A R Y n s₀ cc ((execs body env).wrap (fun f => match f with
            | .next | .cont => .pure (.again (.forLoop tg it body [] env))
            | .brk => .pure (.done .next)
            | .ret v => .pure (.done (.ret v))) (ownEnd env) id id) fs s3)
          (fun x s3 => Seg M A R Y n s₀ cc (ownEnd env x) fs s3) s2) (fun x s2 => Seg M A R Y n s₀ cc (ownEnd env x) fs s2) s1)
      (fun x s1 => Seg M A R Y n s₀ cc (ownEnd env x) fs s1) s) :
    Seg M A R Y n s₀ cc ((forTurn tg it body [] env).onRaise (fun x => do noteFrame x env; theTreesLotGoes x)) fs s := by
  rw [Sem.onRaise_eq_wrap]
  have eJ : (fun e => (do noteFrame e env; theTreesLotGoes e : Sem Unit).bind fun _ => (Sem.raise e : Sem PySem.Fin)) = ownEnd env := by
    funext e
    unfold ownEnd
    rw [Sem.bind_eq_wrap]
  rw [eJ]
  unfold forTurn
  refine seg_bind_wrap (wpAny_standAt ?_)
  refine seg_bind_wrap (wpAny_onRaise (wpAny_mono h (fun r s1 h1 => ?_) fun x s1 h1 => wpAny_standAt h1))
  cases r with
  | none => exact h1
  | some v =>
    refine seg_bind_wrap (wpAny_mono h1 (fun _ s2 h2 => ?_) fun x s2 h2 => h2)
    refine seg_bind_wrap (wpAny_mono h2 (fun _ s3 h3 => ?_) fun x s3 h3 => h3)
    rw [Sem.bind_eq_wrap', Sem.wrap_wrap]
    rw [Sem.wrap_congr (execs body env) _ _ (K' := fun f => match f with
            | .next | .cont => .pure (.again (.forLoop tg it body [] env))
            | .brk => .pure (.done .next)
            | .ret v => .pure (.done (.ret v))) (H' := ownEnd env) (fun f => by cases f <;> rfl) (fun e => by rfl)]
    exact h3
end
end Wm
end

section
/-! ## Generators that sleep keep sleeping: whoever runs without knowing of them does not touch them -/
namespace Wm
open PySem
/-- the same generator, as nobody can wake it -/
def dull : GenState → GenState
  | .suspended _ l c p fs cl => .suspended (fun _ => .unsupported "dull") l c p fs cl
  | x => x
theorem dull_seen (x : GenState) : (dull x).seen = x.seen := by cases x <;> rfl
theorem dull_bare (x : GenState) : (dull x).bare = x.bare := by cases x <;> rfl
/-- the frames of one that sleeps hold no generator -/
def calmG : GenState → Prop
  | .suspended _ _ _ _ fs _ => splitAtGen fs = none
  | _ => True
def isSusp : GenState → Prop
  | .suspended .. => True
  | _ => False
/-- the same state, but the sleepers of D are dull -/
structure Rel (D : Nat → Prop) (s t : Shared) : Prop where
  heap : s.heap = t.heap
  drawn : s.drawn = t.drawn
  toks : s.toks = t.toks
  os : s.os = t.os
  size : s.gens.size = t.gens.size
  dulls : ∀ (i : Nat), D i → ∃ y, t.gens[i]? = some y ∧ s.gens[i]? = some (dull y) ∧ isSusp y
  same : ∀ (i : Nat), ¬ D i → s.gens[i]? = t.gens[i]? ∧ ∀ y, t.gens[i]? = some y → calmG y
theorem Rel.setGen {D : Nat → Prop} {s t : Shared} (r : Rel D s t) {g : Nat} (hg : ¬ D g) {x : GenState} (hx : calmG x) : Rel D (s.setGen g x) (t.setGen g x) := by
  refine ⟨r.heap, r.drawn, r.toks, r.os, ?_, fun i di => ?_, fun i di => ?_⟩
  · show (s.gens.setIfInBounds g x).size = (t.gens.setIfInBounds g x).size
    rw [Array.size_setIfInBounds, Array.size_setIfInBounds, r.size]
  · obtain ⟨y, h1, h2, h3⟩ := r.dulls i di
    have ne : g ≠ i := fun z => hg (z ▸ di)
    refine ⟨y, ?_, ?_, h3⟩
    · show (t.gens.setIfInBounds g x)[i]? = _
      rw [Array.getElem?_setIfInBounds_ne ne]; exact h1
    · show (s.gens.setIfInBounds g x)[i]? = _
      rw [Array.getElem?_setIfInBounds_ne ne]; exact h2
  · obtain ⟨h1, h2⟩ := r.same i di
    show (s.gens.setIfInBounds g x)[i]? = (t.gens.setIfInBounds g x)[i]? ∧ ∀ y, (t.gens.setIfInBounds g x)[i]? = some y → calmG y
    by_cases e : g = i
    · subst e
      rw [Array.getElem?_setIfInBounds, Array.getElem?_setIfInBounds, r.size]
      rw [if_pos rfl, if_pos rfl]
      refine ⟨rfl, fun y hy => ?_⟩
      split at hy
      · cases hy; exact hx
      · cases hy
    · rw [Array.getElem?_setIfInBounds_ne e, Array.getElem?_setIfInBounds_ne e]
      exact ⟨h1, h2⟩
theorem Rel.push {D : Nat → Prop} {s t : Shared} (r : Rel D s t) (c : Code) : Rel D { s with gens := s.gens.push (.fresh c) } { t with gens := t.gens.push (.fresh c) } := by
  have lt : ∀ {a : Array GenState} {i : Nat} {y : GenState}, a[i]? = some y → (a.push (.fresh c))[i]? = some y := fun {a i y} h => by
    have hi := (Array.getElem?_eq_some_iff.mp h).1
    rw [Array.getElem?_push, if_neg (Nat.ne_of_lt hi)]
    exact h
  refine ⟨r.heap, r.drawn, r.toks, r.os, by simp [r.size], fun i di => ?_, fun i di => ?_⟩
  · obtain ⟨y, h1, h2, h3⟩ := r.dulls i di
    exact ⟨y, lt h1, lt h2, h3⟩
  · obtain ⟨h1, h2⟩ := r.same i di
    show (s.gens.push (.fresh c))[i]? = (t.gens.push (.fresh c))[i]? ∧ ∀ y, (t.gens.push (.fresh c))[i]? = some y → calmG y
    rw [Array.getElem?_push, Array.getElem?_push, r.size]
    by_cases e : i = t.gens.size
    · rw [if_pos e, if_pos e]
      refine ⟨rfl, fun y hy => ?_⟩
      cases hy
      exact True.intro
    · rw [if_neg e, if_neg e]
      exact ⟨h1, h2⟩
def calmE : End → Prop
  | .susp _ _ _ _ _ _ fs => splitAtGen fs = none
  | .ret _ => True
theorem calm_gen {e : End} (h : calmE e) : calmG e.genState := by
  cases e with
  | ret r => exact True.intro
  | susp v g l k c p fs => exact h
theorem no_unsup {M : Model} {Γ : Ctx} {p : Pos} {w : String} {fs : List Frame} {s s' : Shared} {e : End} (h : Runs M Γ p (.unsupported w) fs s e s') : False := by
  generalize ht : (Sem.unsupported w : Sem PySem.Fin) = t at h
  induction h with
  | segRet _ _ ih _ => exact ih ht
  | segGen _ _ ih _ => exact ih ht
  | segSuspOut _ _ ih => exact ih ht
  | segSuspGen _ _ _ _ ih _ => exact ih ht
  | _ => cases ht
theorem split_tail {F : Frame} {fs : List Frame} (h : splitAtGen (F :: fs) = none) : splitAtGen fs = none := by
  cases F with
  | gen g k l c p => cases h
  | ret k hh g l c p kp =>
    rw [splitAtGen_ret] at h
    cases e : splitAtGen fs with
    | none => rfl
    | some x => rw [e] at h; cases h
theorem split_app {a b : List Frame} (h : splitAtGen a = none) (h2 : splitAtGen b = none) : splitAtGen (a ++ b) = none := by
  rw [splitAtGen_append_none b h, h2]
  rfl
section
variable {M : Model} {D : Nat → Prop}
/-- which of t stay as they were in t' -/
def Kept (D : Nat → Prop) (t t' : Shared) : Prop := ∀ i, D i → t'.gens[i]? = t.gens[i]?
theorem Rel.num {s t : Shared} (r : Rel D s t) {g : Nat} {x : GenState} (h : s.gens[g]? = some x) (hx : ¬ isSusp x) : ¬ D g ∧ t.gens[g]? = some x := by
  by_cases d : D g
  · obtain ⟨y, h1, h2, h3⟩ := r.dulls g d
    rw [h] at h2
    cases h2
    refine absurd ?_ hx
    cases y with
    | suspended => exact True.intro
    | _ => exact h3
  · exact ⟨d, by rw [← (r.same g d).1]; exact h⟩
theorem kept_set {t t1 : Shared} {g : Nat} {x : GenState} (hg : ¬ D g) (h : Kept D t t1) : Kept D t (t1.setGen g x) := fun i di => by
  show (t1.gens.setIfInBounds g x)[i]? = _
  rw [Array.getElem?_setIfInBounds_ne (show g ≠ i from fun z => hg (z ▸ di))]
  exact h i di
theorem kept_set0 {t t1 : Shared} {g : Nat} {x : GenState} (hg : ¬ D g) (h : Kept D (t.setGen g x) t1) : Kept D t t1 := fun i di => by
  have := h i di
  rw [show (t.setGen g x).gens[i]? = t.gens[i]? from Array.getElem?_setIfInBounds_ne (show g ≠ i from fun z => hg (z ▸ di))] at this
  exact this
theorem Rel.upd {s u : Shared} (r : Rel D s u) {a : Addr} {f : Obj → Obj} : Rel D { s with heap := s.heap.update a f } { u with heap := u.heap.update a f } := ⟨by show s.heap.update a f = u.heap.update a f; rw [r.heap], r.drawn, r.toks, r.os, r.size, r.dulls, r.same⟩
theorem Rel.alloc {s u : Shared} (r : Rel D s u) {o : Obj} : Rel D { s with heap := s.heap.push o } { u with heap := u.heap.push o } := ⟨by show s.heap.push o = u.heap.push o; rw [r.heap], r.drawn, r.toks, r.os, r.size, r.dulls, r.same⟩
theorem Rel.tok {s u : Shared} (r : Rel D s u) : Rel D { s with toks := s.toks + 1 } { u with toks := u.toks + 1 } := ⟨r.heap, r.drawn, by show s.toks + 1 = u.toks + 1; rw [r.toks], r.os, r.size, r.dulls, r.same⟩
theorem Rel.bump {s u : Shared} (r : Rel D s u) {src : Source} : Rel D { s with drawn := s.drawn.bump src } { u with drawn := u.drawn.bump src } := ⟨r.heap, by show s.drawn.bump src = u.drawn.bump src; rw [r.drawn], r.toks, r.os, r.size, r.dulls, r.same⟩
theorem Rel.osq {s u : Shared} (r : Rel D s u) {q : OsRequest} : Rel D { s with os := (Os.step s.os q).1 } { u with os := (Os.step u.os q).1 } := ⟨r.heap, r.drawn, r.toks, by show (Os.step s.os q).1 = (Os.step u.os q).1; rw [r.os], r.size, r.dulls, r.same⟩
theorem Rel.seen {s u : Shared} (r : Rel D s u) {g : Nat} {st : GenState} (q : s.gens[g]? = some st) : ∃ y, u.gens[g]? = some y ∧ y.seen = st.seen := by
  by_cases hd : D g
  · obtain ⟨y, h1, h2, h3⟩ := r.dulls g hd
    rw [q] at h2
    cases h2
    exact ⟨y, h1, (dull_seen y).symm⟩
  · exact ⟨st, by rw [← (r.same g hd).1]; exact q, rfl⟩
theorem Rel.susp {s u : Shared} (r : Rel D s u) {g : Nat} {k : Resume → Sem PySem.Fin} {l : List Value} {c : Code} {p : Pos} {fs : List Frame} {cl : Bool} (q : s.gens[g]? = some (.suspended k l c p fs cl)) :
    (k = fun _ => .unsupported "dull") ∨ (¬ D g ∧ u.gens[g]? = some (.suspended k l c p fs cl) ∧ splitAtGen fs = none) := by
  by_cases hd : D g
  · obtain ⟨y, h1, h2, h3⟩ := r.dulls g hd
    rw [q] at h2
    cases y with
    | suspended k l c p fs' cl' => cases h2; exact .inl rfl
    | _ => exact h3.elim
  · obtain ⟨e1, e2⟩ := r.same g hd
    have q2 : u.gens[g]? = some (.suspended k l c p fs cl) := by rw [← e1]; exact q
    exact .inr ⟨hd, q2, e2 _ q2⟩
theorem runs_dull {Γ : Ctx} {p : Pos} {t : Sem PySem.Fin} {fs : List Frame} {s s' : Shared} {e : End} (h : Runs M Γ p t fs s e s') : ∀ u : Shared, Rel D s u → splitAtGen fs = none → ∃ u', Runs M Γ p t fs u e u' ∧ Rel D s' u' ∧ calmE e ∧ Kept D u u' := by
  induction h with
  | done => exact fun u r _ => ⟨u, .done, r, True.intro, fun _ _ => rfl⟩
  | raise => exact fun u r _ => ⟨u, .raise, r, True.intro, fun _ _ => rfl⟩
  | again q _ ih => intro u r f; obtain ⟨u', a, b, c, d⟩ := ih u r f; exact ⟨u', .again q a, b, c, d⟩
  | rule _ ih => intro u r f; obtain ⟨u', a, b, c, d⟩ := ih u r f; exact ⟨u', .rule a, b, c, d⟩
  | «at» _ ih => intro u r f; obtain ⟨u', a, b, c, d⟩ := ih u r f; exact ⟨u', .at a, b, c, d⟩
  | load q _ ih => intro u r f; obtain ⟨u', a, b, c, d⟩ := ih u r f; exact ⟨u', .load (by rw [← r.heap]; exact q) a, b, c, d⟩
  | update q _ ih =>
    intro u r fr
    obtain ⟨u', h1, b, c, d⟩ := ih _ r.upd fr
    exact ⟨u', .update (by rw [← r.heap]; exact q) h1, b, c, d⟩
  | loadIfAlive _ ih =>
    intro u r f
    obtain ⟨u', a, b, c, d⟩ := ih u r f
    rw [r.heap] at a
    exact ⟨u', .loadIfAlive a, b, c, d⟩
  | point _ ih => intro u r f; obtain ⟨u', a, b, c, d⟩ := ih u r f; exact ⟨u', .point a, b, c, d⟩
  | alloc _ ih =>
    intro u r fr
    obtain ⟨u', a, b, c, d⟩ := ih _ r.alloc fr
    rw [r.heap] at a
    exact ⟨u', .alloc a, b, c, d⟩
  | fresh _ ih =>
    intro u r fr
    obtain ⟨u', a, b, c, d⟩ := ih _ r.tok fr
    rw [r.toks] at a
    exact ⟨u', .fresh a, b, c, d⟩
  | ask _ ih => intro u r f; obtain ⟨u', a, b, c, d⟩ := ih u r f; exact ⟨u', .ask a, b, c, d⟩
  | choose q _ ih =>
    intro u r fr
    obtain ⟨u', a, b, c, d⟩ := ih _ r.bump fr
    rw [r.drawn] at a
    exact ⟨u', .choose q a, b, c, d⟩
  | os _ ih =>
    intro u r fr
    obtain ⟨u', a, b, c, d⟩ := ih _ r.osq fr
    rw [r.os] at a
    exact ⟨u', .os a, b, c, d⟩
  | handled _ ih => intro u r f; obtain ⟨u', a, b, c, d⟩ := ih u r f; exact ⟨u', .handled a, b, c, d⟩
  | genState q _ ih =>
    intro u r f
    obtain ⟨u', a, b, c, d⟩ := ih u r f
    obtain ⟨y, h1, h2⟩ := r.seen q
    rw [← h2] at a
    exact ⟨u', .genState h1 a, b, c, d⟩
  | stack _ ih => intro u r f; obtain ⟨u', a, b, c, d⟩ := ih u r f; exact ⟨u', .stack a, b, c, d⟩
  | thread _ ih => intro u r f; obtain ⟨u', a, b, c, d⟩ := ih u r f; exact ⟨u', .thread a, b, c, d⟩
  | newGen _ ih =>
    intro u r fr
    obtain ⟨u', a, b, c, d⟩ := ih _ (r.push _) fr
    rw [r.size] at a
    refine ⟨u', .newGen a, b, c, fun i di => ?_⟩
    obtain ⟨y, h1, h2, h3⟩ := r.dulls i di
    have := d i di
    rw [this]
    show (u.gens.push _)[i]? = _
    rw [Array.getElem?_push, if_neg (Nat.ne_of_lt (Array.getElem?_eq_some_iff.mp h1).1)]
  | call _ _ ih1 ih2 =>
    intro u r f
    obtain ⟨u1, a1, b1, _, d1⟩ := ih1 u r rfl
    obtain ⟨u2, a2, b2, c2, d2⟩ := ih2 u1 b1 rfl
    exact ⟨u2, .call a1 a2, b2, c2, fun i di => (d2 i di).trans (d1 i di)⟩
  | callSusp _ ih =>
    intro u r f
    obtain ⟨u1, a1, b1, c1, d1⟩ := ih u r rfl
    exact ⟨u1, .callSusp a1, b1, split_app c1 rfl, d1⟩
  | yield => exact fun u r _ => ⟨u, .yield, r, rfl, fun _ _ => rfl⟩
  | resumeFresh q _ qe _ ih1 ih2 =>
    intro u r f
    obtain ⟨hg, q2⟩ := r.num q (fun z => z)
    obtain ⟨u1, a1, b1, c1, d1⟩ := ih1 _ (r.setGen hg (x := .running) True.intro) rfl
    obtain ⟨u2, a2, b2, c2, d2⟩ := ih2 _ (b1.setGen hg (calm_gen c1)) rfl
    exact ⟨u2, .resumeFresh q2 a1 qe a2, b2, c2, fun i di => (d2 i di).trans (kept_set hg (kept_set0 hg d1) i di)⟩
  | resumeSuspended q h0 qe _ ih1 ih2 =>
    intro u r f
    rcases r.susp q with h | ⟨hd, q2, fr⟩
    · subst h
      exact (no_unsup h0).elim
    · obtain ⟨u1, a1, b1, c1, d1⟩ := ih1 _ (r.setGen hd (x := .running) True.intro) fr
      obtain ⟨u2, a2, b2, c2, d2⟩ := ih2 _ (b1.setGen hd (calm_gen c1)) rfl
      exact ⟨u2, .resumeSuspended q2 a1 qe a2, b2, c2, fun i di => (d2 i di).trans (kept_set hd (kept_set0 hd d1) i di)⟩
  | resumeJustStarted q hv _ ih =>
    intro u r f
    obtain ⟨hg, q2⟩ := r.num q (fun z => z)
    obtain ⟨u', a, b, c, d⟩ := ih u r f
    exact ⟨u', .resumeJustStarted q2 hv a, b, c, d⟩
  | resumeThrowFresh q _ ih =>
    intro u r f
    obtain ⟨hg, q2⟩ := r.num q (fun z => z)
    obtain ⟨u', a, b, c, d⟩ := ih _ (r.setGen hg (x := .finished) True.intro) f
    exact ⟨u', .resumeThrowFresh q2 a, b, c, kept_set0 hg d⟩
  | resumeRunning q _ ih =>
    intro u r f
    obtain ⟨hg, q2⟩ := r.num q (fun z => z)
    obtain ⟨u', a, b, c, d⟩ := ih u r f
    exact ⟨u', .resumeRunning q2 a, b, c, d⟩
  | resumeFinished q _ ih =>
    intro u r f
    obtain ⟨hg, q2⟩ := r.num q (fun z => z)
    obtain ⟨u', a, b, c, d⟩ := ih u r f
    exact ⟨u', .resumeFinished q2 a, b, c, d⟩
  | segRet _ _ ih1 ih2 =>
    intro u r f
    obtain ⟨u1, a1, b1, _, d1⟩ := ih1 u r rfl
    obtain ⟨u2, a2, b2, c2, d2⟩ := ih2 u1 b1 (split_tail f)
    exact ⟨u2, .segRet a1 a2, b2, c2, fun i di => (d2 i di).trans (d1 i di)⟩
  | segGen _ _ _ _ => intro u r f; cases f
  | segSuspOut q _ ih =>
    intro u r f
    obtain ⟨u1, a1, b1, c1, d1⟩ := ih u r rfl
    exact ⟨u1, .segSuspOut q a1, b1, split_app c1 q, d1⟩
  | segSuspGen q _ _ _ _ _ => intro u r f; rw [f] at q; cases q
theorem wakes_dull {Γ : Ctx} {p : Pos} {g : Nat} {r : Resume} {s s' : Shared} {res : GenResult} (h : Wakes M Γ p g r s res s') (u : Shared) (q : Rel D s u) : ∃ u', Wakes M Γ p g r u res u' ∧ Rel D s' u' ∧ Kept D u u' := by
  unfold Wakes at h
  split at h
  · exact h.elim
  · rename_i c hc
    obtain ⟨hg, q2⟩ := q.num hc (fun z => z)
    split at h
    · obtain ⟨e₁, s₁, hr, qe, rfl, rfl⟩ := h
      obtain ⟨u1, a1, b1, c1, d1⟩ := runs_dull hr _ (q.setGen hg (x := .running) True.intro) rfl
      refine ⟨_, ?_, b1.setGen hg (calm_gen c1), kept_set hg (kept_set0 hg d1)⟩
      unfold Wakes
      rw [q2]
      exact ⟨e₁, u1, a1, qe, rfl, rfl⟩
    · rename_i v hv
      obtain ⟨rfl, rfl⟩ := h
      refine ⟨u, ?_, q, fun _ _ => rfl⟩
      unfold Wakes
      rw [q2]
      cases v <;> first | exact ⟨rfl, rfl⟩ | exact absurd rfl hv
    · obtain ⟨rfl, rfl⟩ := h
      refine ⟨_, ?_, q.setGen hg (x := .finished) True.intro, kept_set hg (fun _ _ => rfl)⟩
      unfold Wakes
      rw [q2]
      exact ⟨rfl, rfl⟩
  · rename_i k l c p₀ fs cl hc
    obtain ⟨e₁, s₁, hr, qe, rfl, rfl⟩ := h
    rcases q.susp hc with hk | ⟨hd, q2, fr⟩
    · subst hk
      exact (no_unsup hr).elim
    · obtain ⟨u1, a1, b1, c1, d1⟩ := runs_dull hr _ (q.setGen hd (x := .running) True.intro) fr
      refine ⟨_, ?_, b1.setGen hd (calm_gen c1), kept_set hd (kept_set0 hd d1)⟩
      unfold Wakes
      rw [q2]
      exact ⟨e₁, u1, a1, qe, rfl, rfl⟩
  · rename_i hc
    obtain ⟨hg, q2⟩ := q.num hc (fun z => z)
    obtain ⟨rfl, rfl⟩ := h
    refine ⟨u, ?_, q, fun _ _ => rfl⟩
    unfold Wakes
    rw [q2]
    exact ⟨rfl, rfl⟩
  · rename_i hc
    obtain ⟨hg, q2⟩ := q.num hc (fun z => z)
    obtain ⟨rfl, rfl⟩ := h
    refine ⟨u, ?_, q, fun _ _ => rfl⟩
    unfold Wakes
    rw [q2]
    exact ⟨rfl, rfl⟩
open Sem (wp)
theorem wp_dull {α : Type} (Γ : Ctx) (t : Sem α) : ∀ (Q : α → Pos → Shared → Prop) (E : Value → Pos → Shared → Prop) (p : Pos) (s u : Shared), Rel D s u → wp M Γ t Q E p s →
    wp M Γ t (fun a p' u' => ∃ s', Rel D s' u' ∧ Kept D u u' ∧ Q a p' s') (fun e p' u' => ∃ s', Rel D s' u' ∧ Kept D u u' ∧ E e p' s') p u := by
  have go : ∀ {β : Type} {t : Sem β} {Q : β → Pos → Shared → Prop} {E : Value → Pos → Shared → Prop} {p : Pos} {u u1 v : Shared}, Kept D u u1 → wp M Γ t (fun a p' u' => ∃ s', Rel D s' u' ∧ Kept D u1 u' ∧ Q a p' s') (fun e p' u' => ∃ s', Rel D s' u' ∧ Kept D u1 u' ∧ E e p' s') p v →
      wp M Γ t (fun a p' u' => ∃ s', Rel D s' u' ∧ Kept D u u' ∧ Q a p' s') (fun e p' u' => ∃ s', Rel D s' u' ∧ Kept D u u' ∧ E e p' s') p v := fun {β t Q E p u u1 v} k h =>
    Sem.wp_mono M Γ t (fun a p' u' ⟨s', x, y, z⟩ => ⟨s', x, fun i di => (y i di).trans (k i di), z⟩) (fun a p' u' ⟨s', x, y, z⟩ => ⟨s', x, fun i di => (y i di).trans (k i di), z⟩) p v h
  induction t with
  | pure a => intro Q E p s u r h; exact ⟨s, r, fun _ _ => rfl, h⟩
  | raise e => intro Q E p s u r h; exact ⟨s, r, fun _ _ => rfl, h⟩
  | unsupported _ => intro Q E p s u _ h; exact h
  | finish _ => intro Q E p s u _ h; exact h
  | rule _ k ih => intro Q E p s u r h; exact ih () Q E p s u r h
  | «at» p' k ih => intro Q E p s u r h; exact ih () Q E p' s u r h
  | load a _ k ih => intro Q E p s u r h; obtain ⟨o, ho, h⟩ := h; exact ⟨o, by rw [← r.heap]; exact ho, ih o Q E p s u r h⟩
  | update a _ f k ih => intro Q E p s u r h; exact ⟨by rw [← r.heap]; exact h.1, ih () Q E p _ _ r.upd h.2⟩
  | loadIfAlive a k ih => intro Q E p s u r h; show wp M Γ (k (u.heap.get? a)) _ _ p u; rw [← r.heap]; exact ih _ Q E p s u r h
  | point _ k ih => intro Q E p s u r h; exact ih () Q E p s u r h
  | register _ _ => intro Q E p s u _ h; exact h
  | alloc o k ih =>
    intro Q E p s u r h
    have h : wp M Γ (k s.heap.objs.size) Q E p { s with heap := s.heap.push o } := h
    rw [r.heap] at h
    have h := ih _ Q E p _ _ r.alloc (by rw [r.heap]; exact h)
    exact h
  | fresh k ih =>
    intro Q E p s u r h
    have h : wp M Γ (k s.toks) Q E p { s with toks := s.toks + 1 } := h
    have h := ih _ Q E p _ _ r.tok h
    rw [r.toks] at h
    exact h
  | ask k ih => intro Q E p s u r h; exact ih _ Q E p s u r h
  | choose src m k ih =>
    intro Q E p s u r h
    have h2 := ih _ Q E p _ _ r.bump h.2
    rw [r.drawn] at h2
    exact ⟨h.1, h2⟩
  | os q _ k ih =>
    intro Q E p s u r h
    have h : wp M Γ (k (Os.step s.os q).2) Q E p { s with os := (Os.step s.os q).1 } := h
    have h := ih _ Q E p _ _ r.osq h
    rw [r.os] at h
    exact h
  | call c hd _ _ k ih =>
    intro Q E p s u r h
    obtain ⟨x, s', hr, h⟩ := h
    obtain ⟨u1, a1, b1, _, d1⟩ := runs_dull hr u r rfl
    exact ⟨x, u1, a1, go d1 (ih x Q E p s' u1 b1 h)⟩
  | handled own k ih => intro Q E p s u r h; exact ih _ Q E p s u r h
  | genState g k ih =>
    intro Q E p s u r h
    obtain ⟨st, hs, h⟩ := h
    obtain ⟨y, h1, h2⟩ := r.seen hs
    rw [← h2] at h
    exact ⟨y, h1, ih _ Q E p s u r h⟩
  | newGen c k ih =>
    intro Q E p s u r h
    have h : wp M Γ (k s.gens.size) Q E p { s with gens := s.gens.push (.fresh c) } := h
    have h := ih _ Q E p _ _ (r.push c) h
    rw [r.size] at h
    refine go (u1 := { u with gens := u.gens.push (.fresh c) }) (fun i di => ?_) h
    obtain ⟨y, h1, h2, h3⟩ := r.dulls i di
    show (u.gens.push _)[i]? = _
    rw [Array.getElem?_push, if_neg (Nat.ne_of_lt (Array.getElem?_eq_some_iff.mp h1).1)]
  | resume g x _ k ih =>
    intro Q E p s u r h
    obtain ⟨res, s', hw, h⟩ := h
    obtain ⟨u', a, b, d⟩ := wakes_dull hw u r
    exact ⟨res, u', a, go d (ih res Q E p s' u' b h)⟩
  | yield _ _ _ _ => intro Q E p s u _ h; exact h
  | stack k ih => intro Q E p s u r h; exact ih _ Q E p s u r h
  | fork _ _ => intro Q E p s u _ h; exact h
  | thread k ih => intro Q E p s u r h; exact ih _ Q E p s u r h
  | await _ _ _ _ _ => intro Q E p s u _ h; exact h
theorem wpAny_dull {α : Type} {A : Around} {t : Sem α} {Q : α → Shared → Prop} {E : Value → Shared → Prop} {s u : Shared} (r : Rel D s u) (h : wpAny M A t Q E s) :
    wpAny M A t (fun a u' => ∃ s', Rel D s' u' ∧ Kept D u u' ∧ Q a s') (fun e u' => ∃ s', Rel D s' u' ∧ Kept D u u' ∧ E e s') u :=
  fun Γ p hΓ => wp_dull Γ t _ _ p s u r (h Γ p hΓ)
/-- all that sleep are made dull -/
def dullAll (u : Shared) : Shared := { u with gens := u.gens.map dull }
def Sleeps (u : Shared) (i : Nat) : Prop := ∃ y, u.gens[i]? = some y ∧ isSusp y
theorem rel_all (u : Shared) : Rel (Sleeps u) (dullAll u) u := by
  refine ⟨rfl, rfl, rfl, rfl, by simp [dullAll], fun i ⟨y, h1, h2⟩ => ⟨y, h1, ?_, h2⟩, fun i hi => ?_⟩
  · show (u.gens.map dull)[i]? = _
    rw [Array.getElem?_map, h1]
    rfl
  · have ns : ∀ y, u.gens[i]? = some y → ¬ isSusp y := fun y hy z => hi ⟨y, hy, z⟩
    refine ⟨?_, fun y hy => ?_⟩
    · show (u.gens.map dull)[i]? = _
      rw [Array.getElem?_map]
      cases e : u.gens[i]? with
      | none => rfl
      | some y =>
        have := ns y e
        cases y with
        | suspended => exact absurd True.intro this
        | _ => rfl
    · have := ns y hy
      cases y with
      | suspended => exact absurd True.intro this
      | _ => exact True.intro
end
end Wm
end

section
/-! ## Joining: generator defs -/
namespace Wm
open PySem PySem.Spec PyProof.Rows L2 StX
section
variable {P : Program} {w : World} {K : PySem.W.Frag} {mg : Str → Option Value} {base : Heap}
/-- a generator method -/
structure MetG (P : Program) (w : World) (K : PySem.W.Frag) (mg : Str → Option Value) (base : Heap) (k : Nat) (C : Addr) (m : Str) (sp : SpG) : Prop where
  ex : ∃ (f : Addr) (fd : FuncData) (ps : List Str), GFn P w K mg base k f fd ps sp ∧ Cls K C ∧ Meth K C m f ∧ Binds K fd ps []
end
section
variable {X : Cx} {k j : Nat} {C : Addr} {m x : Str} {sp : SpG} {p pos pos' apos : Pos} {e o : Expr} {es : List Expr} {ta : TE} {t : TA}
end
/-- what a raising generator may let out -/
def ENS (K : PySem.W.Frag) (E : XK) : XK := fun cls d H => E cls d H ∧ PySem.W.subIn K cls (.type "StopIteration") = some false
section
variable {X : Cx} {k j : Nat} {C : Addr} {m x : Str} {sp : SpG} {p pos pos' apos : Pos} {e o : Expr} {es : List Expr} {ta : TE} {t : TA} {E : XK}
end
def spGOr (a b : SpG) : SpG := fun vs H Q E => a vs H Q E ∨ b vs H Q E
/-! ### rules for the readings -/
section
variable {ys : List V} {σ : L2.St} {H : Hp} {D : GEnds} {t u : TGn} {tp : TS} {te : TE} {g : TG} {tr : TA} {Q : VK}
end
def tGNever : TGn := fun _ _ _ _ => False
end Wm
end

section
/-! ## Generators that a loop walks: a generator's frame, seen from one waking to the next -/
namespace Wm
open PySem PySem.Spec PyProof.Rows L2 GenW
/-- the first N objects alone -/
def trunc (N : Nat) (h : Heap) : Heap := ⟨h.objs.extract 0 N, h.life⟩
theorem trunc_size {N : Nat} {h : Heap} (hN : N ≤ h.objs.size) : (trunc N h).objs.size = N := by
  show (h.objs.extract 0 N).size = N
  simp [Nat.min_eq_left hN]
theorem trunc_get {N : Nat} {h : Heap} {b : Nat} (hb : b < N) : (trunc N h).get? b = h.get? b := by
  unfold Heap.get? trunc
  rw [show (h.objs.extract 0 N)[b]? = h.objs[b]? from by
    rw [Array.getElem?_extract]
    by_cases c : b < h.objs.size
    · rw [if_pos (by show b < min N h.objs.size - 0; omega), Nat.zero_add]
    · rw [if_neg (by show ¬ b < min N h.objs.size - 0; omega), Array.getElem?_eq_none (Nat.le_of_not_lt c)]]
theorem trunc_lt {N : Nat} {h : Heap} {b : Addr} {o : Obj} (hN : N ≤ h.objs.size) (e : (trunc N h).get? b = some o) : b < N := by
  have := Heap.lt_size e
  rw [trunc_size hN] at this
  exact this
theorem trunc_to {N : Nat} {h : Heap} {b : Addr} {o : Obj} (hN : N ≤ h.objs.size) (e : (trunc N h).get? b = some o) : h.get? b = some o := by
  rw [← trunc_get (trunc_lt hN e)]
  exact e
theorem inv_gens {X : Cx} {pins : List (Addr × Obj)} {σ : L2.St} {H : Hp} {s : Shared} {g : Array GenState} (I : Inv X pins σ H s) (h : AllBare g) : Inv X pins σ H { s with gens := g } :=
  ⟨I.ok, I.os, h, I.base, I.loc, I.cell, I.free, I.freeC, I.pin, I.hok, I.len⟩
theorem bare_rel {D : Nat → Prop} {s t : Shared} (r : Rel D s t) (h : AllBare s.gens) : AllBare t.gens := fun y hy => by
  obtain ⟨i, hi, e⟩ := Array.mem_iff_getElem.mp hy
  have hi' : t.gens[i]? = some y := by rw [Array.getElem?_eq_getElem hi, e]
  by_cases d : D i
  · obtain ⟨z, h1, h2, _⟩ := r.dulls i d
    rw [hi'] at h1
    cases h1
    rw [← dull_bare]
    exact h _ (Array.mem_of_getElem? h2)
  · exact h y (Array.mem_of_getElem? (by rw [(r.same i d).1]; exact hi'))
theorem bare_dull {u : Shared} (h : AllBare u.gens) : AllBare (dullAll u).gens := fun y hy => by
  have hy : y ∈ u.gens.map dull := hy
  obtain ⟨z, hz, rfl⟩ := Array.mem_map.mp hy
  rw [dull_bare]
  exact h z hz
theorem inv_rel {D : Nat → Prop} {X : Cx} {pins : List (Addr × Obj)} {σ : L2.St} {H : Hp} {s t : Shared} (I : Inv X pins σ H s) (r : Rel D s t) : Inv X pins σ H t := by
  obtain ⟨h1, g1, d1, t1, o1⟩ := s
  obtain ⟨h2, g2, d2, t2, o2⟩ := t
  obtain ⟨rh, rd, rt, ro, _, _, _⟩ := id r
  dsimp only at rh rd rt ro
  subst rh rd rt ro
  exact ⟨I.ok, I.os, bare_rel r I.bare, I.base, I.loc, I.cell, I.free, I.freeC, I.pin, I.hok, I.len⟩
theorem inv_dull {X : Cx} {pins : List (Addr × Obj)} {σ : L2.St} {H : Hp} {u : Shared} (I : Inv X pins σ H u) : Inv X pins σ H (dullAll u) := inv_gens I (bare_dull I.bare)
/-- who knows nothing of the sleepers leaves them as they are -/
theorem asleep {X : Cx} {α : Type} {t : Sem α} {Q : α → Shared → Prop} {u : Shared} (hE : ∀ D e s' u', Rel D s' u' → X.xe e s' → X.xe e u') (h : wpAny (model X.prog X.w) X.A t Q X.xe (dullAll u)) :
    wpAny (model X.prog X.w) X.A t (fun a u' => ∃ s', Rel (Sleeps u) s' u' ∧ Kept (Sleeps u) u u' ∧ Q a s') X.xe u :=
  wpAny_mono (wpAny_dull (rel_all u) h) (fun _ _ q => q) fun e u' ⟨s', r, _, q⟩ => hE _ e s' u' r q
/-! ### a generator's frame, from a waking on -/
section
variable (P : Program) (w : World) (K : PySem.W.Frag) (mg : Str → Option Value) (base : Heap) (N : List Str) (qual : Str) (scope : Scope) (f : Addr) (cd : Value) (A : Around) (outer : List Env) (N0 : Nat) (pn : List (Addr × Obj))
def gcx (s : Shared) (H : Hp) : Cx :=
  { cxOf (CX P w) P w K mg base N qual scope f cd A outer s H (fun _ _ _ => False) with
    A := A.deeper (envOfC qual scope N0 f cd)
    env := envOfC qual scope N0 f cd
    stack := envOfC qual scope N0 f cd :: outer
    pn := pn
    xe := fun e s' => wpAny (model P w) (A.deeper (envOfC qual scope N0 f cd)) (leaving (envOfC qual scope N0 f cd) e) (fun _ _ => False) (fun _ _ => False) s' }
end
section
variable {P : Program} {w : World} {K : PySem.W.Frag} {mg : Str → Option Value} {base : Heap} {N : List Str} {qual : Str} {scope : Scope} {f : Addr} {cd : Value} {A : Around} {outer : List Env} {N0 : Nat} {pn : List (Addr × Obj)}
/-- seen anew from a later state: what is the generator's own has not changed -/
theorem rebase {s0 s s' : Shared} {H0 H H' : Hp} {pins ip cp : List (Addr × Obj)} {σ : L2.St} (hc : ∀ x c, (envOfC qual scope N0 f cd).cells.lookup x = some c → False) (hs0 : s0.heap.objs.size = N0)
    (I : Inv (gcx P w K mg base N qual scope f cd A outer N0 pn s0 H0) (pins ++ ip) σ H s) (e : Env0 P w K mg base A outer s' H') (hN : N0 ≤ s'.heap.objs.size)
    (hL : ∃ o, s.heap.get? N0 = some o ∧ s'.heap.get? N0 = some o ∧ H' N0 = none)
    (hp : ∀ p ∈ pn ++ ip, s'.heap.get? p.1 = some p.2 ∧ H' p.1 = none)
    (hcp : ∀ p ∈ cp, s'.heap.get? p.1 = some p.2 ∧ H' p.1 = none ∧ p.1 ≠ N0 ∧ p.1 ∉ frs outer ∧ ∀ v, p.2.data ≠ .cell v) :
    Inv (gcx P w K mg base N qual scope f cd A outer N0 pn { s' with heap := trunc N0 s'.heap } H') (cp ++ ip) σ H' s' := by
  have ok := I.ok
  have bl : ∀ b o, base.get? b = some o → b < N0 := fun b o q => by
    exact Nat.lt_of_lt_of_le (Heap.lt_size q) (Nat.le_trans ok.bsz (Nat.le_of_eq hs0))
  have fl : ∀ b ∈ frs outer, b < N0 := fun b hb => by
    obtain ⟨_, o, q, _⟩ := (show s0.heap.FunFrames base outer from ok.funs).mem hb
    exact Nat.lt_of_lt_of_le (Heap.lt_size q) (Nat.le_of_eq hs0)
  refine ⟨⟨ok.mod, ok.kind, ok.glob, ok.blt, ?_, ok.inj, ok.has, fun x c _ h => absurd h (fun z => hc x c z), ok.hd, ok.frames, ok.stk, ok.exf, fun b o q => ?_, ?_, ok.noex, ok.exfs, ?_, e.frf⟩, rfl, e.bare, ?_, ?_, fun x c h => (hc x c h).elim, ?_, fun x c h => (hc x c h).elim, ?_, e.hok, I.len⟩
  · show (trunc N0 s'.heap).objs.size ≤ N0
    rw [trunc_size hN]
    exact Nat.le_refl _
  · refine ⟨?_, (e.bs b o q).2⟩
    show (trunc N0 s'.heap).get? b = some o
    rw [trunc_get (bl b o q)]
    exact (e.bs b o q).1
  · show base.objs.size ≤ (trunc N0 s'.heap).objs.size
    rw [trunc_size hN]
    exact Nat.le_trans ok.bsz (Nat.le_of_eq hs0)
  · show (trunc N0 s'.heap).FunFrames base outer
    have := e.funs
    have : ∀ l : List Env, (∀ b ∈ frs l, b < N0) → s'.heap.FunFrames base l → (trunc N0 s'.heap).FunFrames base l := fun l => by
      induction l with
      | nil => exact fun _ _ => True.intro
      | cons env rest ih =>
        rintro hl ⟨hk, ⟨L, o, hf, hn, ho, hd⟩, hr⟩
        have hL : L < N0 := hl L (by show L ∈ (env :: rest).filterMap (·.frame); rw [List.filterMap_cons, hf]; exact List.mem_cons_self)
        refine ⟨hk, ⟨L, o, hf, hn, by rw [trunc_get hL]; exact ho, hd⟩, ih (fun b hb => hl b ?_) hr⟩
        show b ∈ (env :: rest).filterMap (·.frame)
        rw [List.filterMap_cons, hf]
        exact List.mem_cons_of_mem _ hb
    exact this outer fl e.funs
  · exact ⟨fun b o q _ _ _ => trunc_to hN q, fun b o q _ _ _ => ⟨o.slots, trunc_to hN q⟩, fun b o _ n _ => n, fun b o q _ => ⟨o, trunc_to hN q⟩, fun _ _ q => q, fun _ _ _ q => q, fun b ps q => ⟨#[], by show H' b = _; rw [show H' b = some (.tbl ps) from q]; simp⟩⟩
  · obtain ⟨m, hns, hlk⟩ := I.loc
    obtain ⟨o, h1, h2, _⟩ := hL
    refine ⟨m, hns.at' (fun o' e' => ?_), fun i x v h1 h2 h3 => ?_⟩
    · rw [show s.heap.get? N0 = some o' from e'] at h1
      cases h1
      exact h2
    · obtain ⟨u, ru, lk⟩ := hlk i x v h1 h2 h3
      refine ⟨u, ru, ?_⟩
      rcases lk with q | ⟨_, c, q, _⟩
      · exact .inl q
      · exact (hc x c q).elim
  · obtain ⟨_, _, _, h3⟩ := hL
    exact h3
  · intro p hp'
    rcases List.mem_append.mp hp' with z | z
    · obtain ⟨_, _, a3, a4, a5⟩ := I.pin p (List.mem_append_left _ z)
      obtain ⟨b1, b2⟩ := hp p (List.mem_append_left _ z)
      exact ⟨b1, b2, a3, a4, a5⟩
    · rcases List.mem_append.mp z with z | z
      · exact hcp p z
      · obtain ⟨_, _, a3, a4, a5⟩ := I.pin p (List.mem_append_right _ (List.mem_append_right _ z))
        obtain ⟨b1, b2⟩ := hp p (List.mem_append_right _ z)
        exact ⟨b1, b2, a3, a4, a5⟩
end
/-! ### what a generator knows -/
def simpleO : HO → Bool
  | .dT _ => false
  | .frz _ _ => false
  | .own _ => false
  | _ => true
/-- the simple objects of G, and the dicts of its instances -/
noncomputable def core (G : Hp) : Hp := fun b => match (G b).filter simpleO with
  | some o => some o
  | none => open Classical in if h : ∃ a C fs, G a = some (.ins C b fs) then some (.own h.choose) else none
theorem core_of {G : Hp} {b : Addr} {o : HO} (q : G b = some o) (hs : simpleO o = true) : core G b = some o := by
  unfold core
  have : (G b).filter simpleO = some o := by
    rw [q]
    show (if simpleO o = true then some o else none) = some o
    rw [if_pos hs]
  rw [this]
theorem core_to {P : Program} {w : World} {G H : Hp} {h : Heap} {b : Addr} {o : HO} (e : Ex G H) (ok : HOk P w H h) (q : core G b = some o) : H b = some o ∧ ((∃ a C fs, G a = some (.ins C b fs) ∧ o = .own a) ∨ (G b = some o ∧ simpleO o = true)) := by
  unfold core at q
  split at q
  · rename_i o' ho'
    cases q
    cases hg : G b with
    | none => rw [hg] at ho'; cases ho'
    | some u =>
      rw [hg] at ho'
      have ho' : (if simpleO u = true then some u else none) = some o := ho'
      split at ho'
      · rename_i hs
        cases ho'
        exact ⟨e _ _ hg, .inr ⟨rfl, hs⟩⟩
      · cases ho'
  · split at q
    · rename_i hx
      cases q
      obtain ⟨C, fs, q⟩ := hx.choose_spec
      exact ⟨(ok _ _ (e _ _ q)).1, .inl ⟨_, C, fs, q, rfl⟩⟩
    · cases q
theorem core_own {P : Program} {w : World} {G H : Hp} {h : Heap} {a b C : Addr} {fs : List (Str × V)} (e : Ex G H) (ok : HOk P w H h) (q : G a = some (.ins C b fs)) : core G b = some (.own a) := by
  have hx : ∃ a C fs, G a = some (.ins C b fs) := ⟨a, C, fs, q⟩
  obtain ⟨d, _⟩ := ok _ _ (e _ _ q)
  have hf : (G b).filter simpleO = none := by
    cases hg : G b with
    | none => rfl
    | some u =>
      have := e _ _ hg
      rw [d] at this
      cases this
      rfl
  unfold core
  rw [hf]
  dsimp only
  rw [dif_pos hx]
  obtain ⟨C2, fs2, q3⟩ := hx.choose_spec
  obtain ⟨d3, _⟩ := ok _ _ (e _ _ q3)
  rw [d] at d3
  cases d3
  rfl
/-- nothing but simple objects -/
def SimpleG (G : Hp) : Prop := ∀ b o, G b = some o → simpleO o = true
/-- whose dict is known is known -/
theorem core_back {P : Program} {w : World} {G H : Hp} {h : Heap} {a b : Addr} (e : Ex G H) (ok : HOk P w H h) (q : core G b = some (.own a)) : ∃ o, core G a = some o := by
  rcases (core_to e ok q).2 with ⟨a', C, fs, z, e'⟩ | ⟨_, z⟩
  · cases e'
    exact ⟨_, core_of z rfl⟩
  · cases z
theorem core_ok {P : Program} {w : World} {G H : Hp} {h : Heap} (e : Ex G H) (ok : HOk P w H h) : HOk P w (core G) h := fun b o q => by
  obtain ⟨q1, q2⟩ := core_to e ok q
  have x := ok b o q1
  rcases q2 with ⟨a, C, fs, z, rfl⟩ | ⟨q2, hs⟩
  · exact x
  · cases o with
    | ins C dx fs =>
      obtain ⟨d, r⟩ := x
      exact ⟨core_own e ok q2, r⟩
    | dT kvs => cases hs
    | frz ob u => cases hs
    | own y => cases hs
    | _ => exact x
/-! ### between a loop and its generator -/
structure GP where
  P : Program
  w : World
  K : PySem.W.Frag
  mg : Str → Option Value
  base : Heap
  N : List Str
  qual : Str
  scope : Scope
  f : Addr
  cd : Value
  A : Around
  outer : List Env
  N0 : Nat
  pn : List (Addr × Obj)
def GP.X (g : GP) (s : Shared) (H : Hp) : Cx := gcx g.P g.w g.K g.mg g.base g.N g.qual g.scope g.f g.cd g.A g.outer g.N0 g.pn s H
def GP.at_ (g : GP) (s : Shared) : Shared := { s with heap := trunc g.N0 s.heap }
/-- cells, and what a generator may turn: iterators of ranges -/
def soft (o : Obj) : Bool := match o.data with
  | .cell _ => true
  | .fields _ => o.cls == .type "range_iterator"
  | _ => false
theorem soft_no {o : Obj} (h : soft o = false) : ∀ v, o.data ≠ .cell v := fun v e => by
  unfold soft at h
  rw [e] at h
  cases h
theorem soft_of {o : Obj} (h : ∀ v, o.data ≠ .cell v) (h2 : ∀ v, o.data ≠ .fields v) : soft o = false := by
  unfold soft
  split
  · rename_i v e; exact absurd e (h v)
  · rename_i v e; exact absurd e (h2 v)
  · rfl
/-- what is not the generator's, unknown to it and younger than its call -/
noncomputable def GP.cp (g : GP) (G0 : Hp) (s : Shared) : List (Addr × Obj) :=
  open Classical in (List.range s.heap.objs.size).filterMap fun b => if g.N0 < b ∧ G0 b = none ∧ ∀ p ∈ g.pn, p.1 ≠ b then (match s.heap.get? b with
    | some o => if soft o = false then some (b, o) else none
    | none => none) else none
theorem GP.cp_mem {g : GP} {G0 : Hp} {s : Shared} {p : Addr × Obj} : p ∈ g.cp G0 s ↔ g.N0 < p.1 ∧ G0 p.1 = none ∧ (∀ q ∈ g.pn, q.1 ≠ p.1) ∧ s.heap.get? p.1 = some p.2 ∧ soft p.2 = false := by
  unfold GP.cp
  rw [List.mem_filterMap]
  constructor
  · rintro ⟨b, hb, h⟩
    split at h
    · rename_i hc
      split at h
      · rename_i o ho
        split at h
        · rename_i hcell
          cases h
          exact ⟨hc.1, hc.2.1, hc.2.2, ho, hcell⟩
        · cases h
      · cases h
    · cases h
  · rintro ⟨h1, h2, h3, h4, h5⟩
    refine ⟨p.1, List.mem_range.mpr (Heap.lt_size h4), ?_⟩
    rw [if_pos ⟨h1, h2, h3⟩, h4]
    show (if soft p.2 = false then some (p.1, p.2) else none) = some p
    rw [if_pos h5]
/-- the loop X is the one that the generator is called by -/
structure Holds (g : GP) (X : Cx) : Prop where
  P : X.prog = g.P
  w : X.w = g.w
  K : X.K = g.K
  mg : X.mg = g.mg
  base : X.base = g.base
  stack : X.stack = g.outer
  fr : g.A.frames = some g.outer
  cells : ∀ x c, (envOfC g.qual g.scope g.N0 g.f g.cd).cells.lookup x = some c → False
theorem to_gen {g : GP} {X : Cx} (hX : Holds g X) {pins pins0 ip : List (Addr × Obj)} {oL : Obj} {σc σ : L2.St} {H' H H0 G : Hp} {s s0 s1 : Shared}
    (Ic : Inv X (pins ++ ((g.N0, oL) :: (g.pn ++ ip))) σc H' s) (hs0 : s0.heap.objs.size = g.N0) (Ig : Inv (g.X s0 H0) (pins0 ++ ip) σ H s1) (hL : s1.heap.get? g.N0 = some oL) (e : Ex G H') :
    Inv (g.X (g.at_ s) (core G)) (g.cp (core G) s ++ ip) σ (core G) s := by
  have okc : HOk g.P g.w H' s.heap := by rw [← hX.P, ← hX.w]; exact Ic.hok
  have nn : ∀ b, H' b = none → core G b = none := fun b hb => by
    cases q : core G b with
    | none => rfl
    | some o => have := (core_to e okc q).1; rw [hb] at this; cases this
  have e0 := Ic.env0
  have pL := Ic.pin (g.N0, oL) (List.mem_append_right _ (List.mem_append_right _ List.mem_cons_self))
  have pp : ∀ p ∈ g.pn ++ ip, s.heap.get? p.1 = some p.2 ∧ H' p.1 = none := fun p hp => by
    have := Ic.pin p (List.mem_append_right _ (List.mem_append_right _ (List.mem_cons_of_mem _ hp)))
    exact ⟨this.1, this.2.1⟩
  refine rebase hX.cells hs0 Ig ⟨hX.fr, by rw [← hX.K, ← hX.mg, ← hX.base]; exact e0.mod, fun b o q => ?_, by rw [← hX.base]; exact e0.bsz, by rw [← hX.base, ← hX.stack]; exact e0.funs, fun b hb => ?_, core_ok e okc, e0.bare⟩ (Nat.le_of_lt (Heap.lt_size pL.1)) ⟨oL, hL, pL.1, nn _ pL.2.1⟩ (fun p hp => ⟨(pp p hp).1, nn _ (pp p hp).2⟩) fun p hp => ?_
  · rw [← hX.base] at q
    exact ⟨(e0.bs b o q).1, nn _ (e0.bs b o q).2⟩
  · rw [← hX.stack] at hb
    exact nn _ (e0.frf b hb)
  · obtain ⟨h1, h2, h3, h4, h5⟩ := GP.cp_mem.mp hp
    refine ⟨h4, h2, Nat.ne_of_gt h1, fun hb => ?_, soft_no h5⟩
    obtain ⟨_, o, q, _⟩ := (show s0.heap.FunFrames g.base g.outer from Ig.ok.funs).mem hb
    have := Heap.lt_size q
    rw [hs0] at this
    exact absurd (Nat.lt_trans this h1) (Nat.lt_irrefl _)
/-- what the loop knows behind a turn of the generator: as before, and of the new objects what the generator tells -/
def merge (N0 : Nat) (h : Heap) (H H1 : Hp) : Hp := fun b => match H b with
  | some o => some o
  | none => if b < N0 ∧ (h.get? b).isSome = true then none else H1 b
theorem merge_ex {N0 : Nat} {h : Heap} {H H1 : Hp} : Ex H (merge N0 h H H1) := fun b o q => by
  unfold merge
  rw [q]
theorem ok_there {P : Program} {w : World} {H : Hp} {h : Heap} {b : Addr} {o : HO} (x : ObjOk P w H h b o) : ∃ u, h.get? b = some u := by
  cases o with
  | lst xs => obtain ⟨_, _, _, _, e⟩ := x; exact ⟨_, e⟩
  | tup xs => obtain ⟨_, _, _, o, e, _⟩ := x; exact ⟨_, e⟩
  | dK kvs => obtain ⟨_, _, _, _, o, _, _, e, _⟩ := x; exact ⟨_, e⟩
  | dT kvs => obtain ⟨_, _, _, _, o, _, _, e, _⟩ := x; exact ⟨_, e⟩
  | set S n => obtain ⟨o, _, _, _, e, _⟩ := x; exact ⟨_, e⟩
  | ins C dx fs => obtain ⟨_, _, _, e, _⟩ := x; exact ⟨_, e⟩
  | own y => obtain ⟨_, e⟩ := x; exact ⟨_, e⟩
  | xd fs => obtain ⟨_, ⟨_, _, _, e, _⟩, _⟩ := x; exact ⟨_, e⟩
  | rng lo hi => obtain ⟨_, _, _, e⟩ := x; exact ⟨_, e⟩
  | frz ob u => obtain ⟨e, _⟩ := x; exact ⟨_, e⟩
  | tbl ps => exact ⟨_, (show h.get? b = some _ from x)⟩
  | met f y => exact ⟨_, (show h.get? b = some _ from x)⟩
  | ext φ => obtain ⟨_, ⟨_, e⟩, _⟩ := x; exact ⟨_, e⟩
/-- nothing that the loop knows of and that is younger than the generator is a cell -/
def NoSoft (N0 : Nat) (H : Hp) (h : Heap) : Prop := ∀ b o ob, N0 ≤ b → H b = some o → h.get? b = some ob → soft ob = false
theorem back {g : GP} {X : Cx} (hX : Holds g X) {pins ip ip' : List (Addr × Obj)} {oL : Obj} {σc σ : L2.St} {H' H1 G : Hp} {s s1 : Shared} (e : Ex G H') (hfs : ∀ b ∈ X.fs, b < g.N0) (hcc : ∀ x c, X.env.cells.lookup x = some c → c < g.N0) (hex : ∀ b, g.N0 ≤ b → H' b = none → b ∈ X.ex ∨ X.s_0.heap.objs.size ≤ b)
    (Ic : Inv X (pins ++ ((g.N0, oL) :: (g.pn ++ ip))) σc H' s) (hpins : ∀ q ∈ X.pn ++ pins, q.1 < g.N0) (hip : ∀ p ∈ g.pn ++ ip, g.N0 < p.1)
    (nc : NoSoft g.N0 H' s.heap) (Ig : Inv (g.X (g.at_ s) (core G)) (g.cp (core G) s ++ ip') σ H1 s1) (ex : Ex (core G) H1) (dis' : ∀ p ∈ ip', ∀ q ∈ g.cp (core G) s, q.1 ≠ p.1) (hip' : ∀ p ∈ ip', g.N0 < p.1) :
    ∃ oL', s1.heap.get? g.N0 = some oL' ∧ Inv X (pins ++ ((g.N0, oL') :: (g.pn ++ ip'))) σc (merge g.N0 s.heap H' H1) s1 ∧ Ex H1 (merge g.N0 s.heap H' H1) := by
  have okc : HOk g.P g.w H' s.heap := by rw [← hX.P, ← hX.w]; exact Ic.hok
  have ok1 : HOk g.P g.w H1 s1.heap := Ig.hok
  have un : Un (frs g.outer) [] (core G) H1 (trunc g.N0 s.heap) s1.heap := Ig.base
  have no : ∀ b : Addr, b ∉ ([] : List Addr) := fun b z => by cases z
  have nn : ∀ b, H' b = none → core G b = none := fun b hb => by
    cases q : core G b with
    | none => rfl
    | some o => have := (core_to e okc q).1; rw [hb] at this; cases this
  have pL := Ic.pin (g.N0, oL) (List.mem_append_right _ (List.mem_append_right _ List.mem_cons_self))
  have pp : ∀ p ∈ g.pn ++ ip, s.heap.get? p.1 = some p.2 ∧ H' p.1 = none := fun p hp => by
    have := Ic.pin p (List.mem_append_right _ (List.mem_append_right _ (List.mem_cons_of_mem _ hp)))
    exact ⟨this.1, this.2.1⟩
  have fl : ∀ b ∈ frs X.stack, b < g.N0 := fun b hb => by
    rw [hX.stack] at hb
    obtain ⟨_, o, q, _⟩ := (show (trunc g.N0 s.heap).FunFrames g.base g.outer from Ig.ok.funs).mem hb
    exact trunc_lt (Nat.le_of_lt (Heap.lt_size pL.1)) q
  have locN : H1 g.N0 = none := Ig.free
  -- what is unknown to the generator, not its own and no cell, stays
  have stays : ∀ b o, s.heap.get? b = some o → core G b = none → b ∉ frs X.stack → b ≠ g.N0 → (∀ p ∈ g.pn, p.1 ≠ b) → soft o = false ∨ b < g.N0 → s1.heap.get? b = some o ∧ H1 b = none := fun b o q c1 c2 c3 c4 c5 => by
    by_cases lt : b < g.N0
    · exact ⟨un.keep b o (by rw [trunc_get lt]; exact q) c1 (by rw [← hX.stack]; exact c2) (no b), un.free b o (by rw [trunc_get lt]; exact q) c1 (no b)⟩
    · have gt : g.N0 < b := Nat.lt_of_le_of_ne (Nat.le_of_not_lt lt) (Ne.symm c3)
      have cc : soft o = false := c5.resolve_right lt
      have := Ig.pin (b, o) (List.mem_append_right _ (List.mem_append_left _ (GP.cp_mem.mpr ⟨gt, c1, c4, q, cc⟩)))
      exact ⟨this.1, this.2.1⟩
  let ch : List Addr := g.N0 :: (g.pn.map (·.1) ++ (List.range s.heap.objs.size).filter fun b => decide (g.N0 ≤ b) && (match s.heap.get? b with | some o => soft o | none => false))
  have chN : ∀ b ∈ ch, g.N0 ≤ b := fun b hb => by
    rcases List.mem_cons.mp hb with z | z
    · rw [z]; exact Nat.le_refl _
    · rcases List.mem_append.mp z with z | z
      · obtain ⟨p, hp, rfl⟩ := List.mem_map.mp z
        exact Nat.le_of_lt (hip p (List.mem_append_left _ hp))
      · have := (List.mem_filter.mp z).2
        rw [Bool.and_eq_true] at this
        exact of_decide_eq_true this.1
  have chH : ∀ b ∈ ch, H' b = none := fun b hb => by
    rcases List.mem_cons.mp hb with z | z
    · rw [z]; exact pL.2.1
    · rcases List.mem_append.mp z with z | z
      · obtain ⟨p, hp, rfl⟩ := List.mem_map.mp z
        exact (pp p (List.mem_append_left _ hp)).2
      · have z2 := (List.mem_filter.mp z).2
        rw [Bool.and_eq_true] at z2
        cases q : H' b with
        | none => rfl
        | some u =>
          obtain ⟨ob, hob⟩ := ok_there (okc b u q)
          have := nc b u ob (of_decide_eq_true z2.1) q hob
          rw [hob] at z2
          exact absurd z2.2 (by show ¬ (soft ob = true); rw [this]; decide)
  have nch : ∀ b o, b ∉ ch → s.heap.get? b = some o → b ≠ g.N0 ∧ (∀ p ∈ g.pn, p.1 ≠ b) ∧ (soft o = false ∨ b < g.N0) := fun b o hb q => by
    refine ⟨fun z => hb (by rw [z]; exact List.mem_cons_self), fun p hp z => hb (List.mem_cons_of_mem _ (List.mem_append_left _ (List.mem_map.mpr ⟨p, hp, z⟩))), ?_⟩
    by_cases lt : b < g.N0
    · exact .inr lt
    · refine .inl ?_
      cases hc : soft o with
      | false => rfl
      | true =>
        refine absurd (List.mem_cons_of_mem _ (List.mem_append_right _ (List.mem_filter.mpr ⟨List.mem_range.mpr (Heap.lt_size q), ?_⟩))) hb
        rw [q]
        show (decide (g.N0 ≤ b) && soft o) = true
        rw [hc, decide_eq_true (Nat.le_of_not_lt lt)]
        rfl
  -- what the loop knows is no frame's, not the generator's frame, no pin
  have kn : ∀ b o, H' b = some o → ∃ ob, s.heap.get? b = some ob ∧ b ∉ frs X.stack ∧ b ≠ g.N0 ∧ (∀ p ∈ g.pn, p.1 ≠ b) ∧ (soft ob = false ∨ b < g.N0) := fun b o q => by
    obtain ⟨ob, hob⟩ := ok_there (okc b o q)
    refine ⟨ob, hob, fun z => ?_, fun z => ?_, fun p hp z => ?_, ?_⟩
    · have := Ic.env0.frf b z
      rw [q] at this; cases this
    · rw [z, pL.2.1] at q; cases q
    · rw [← z, (pp p (List.mem_append_left _ hp)).2] at q; cases q
    · by_cases lt : b < g.N0
      · exact .inr lt
      · exact .inl (nc b o ob (Nat.le_of_not_lt lt) q hob)
  have known : ∀ b o, H' b = some o → (core G b = some o ∧ H1 b = some o) ∨ (core G b = none ∧ H1 b = none ∧ ∃ ob, s.heap.get? b = some ob ∧ s1.heap.get? b = some ob) := fun b o q => by
    cases hc : core G b with
    | some u =>
      have := (core_to e okc hc).1
      rw [q] at this
      cases this
      exact .inl ⟨rfl, ex b _ hc⟩
    | none =>
      obtain ⟨ob, h1, h2, h3, h4, h5⟩ := kn b o q
      obtain ⟨k1, k2⟩ := stays b ob h1 hc h2 h3 h4 h5
      exact .inr ⟨rfl, k2, ob, h1, k1⟩
  have exM : Ex H1 (merge g.N0 s.heap H' H1) := fun b o q => by
    unfold merge
    cases hb : H' b with
    | some u =>
      rcases known b u hb with ⟨_, z⟩ | ⟨_, z, _⟩
      · rw [q] at z; exact z.symm
      · rw [q] at z; cases z
    | none =>
      dsimp only
      split
      · rename_i lt
        obtain ⟨ob, hob⟩ := Option.isSome_iff_exists.mp lt.2
        have := un.free b ob (by rw [trunc_get lt.1]; exact hob) (nn b hb) (no b)
        rw [q] at this; cases this
      · exact q
  have okM : HOk g.P g.w (merge g.N0 s.heap H' H1) s1.heap := fun b o q => by
    have fromG : H1 b = some o → ObjOk g.P g.w (merge g.N0 s.heap H' H1) s1.heap b o := fun z => (ok1 b o z).stay (fun _ _ _ y => y) (fun c y => exM c _ y) fun c xs y => exM c _ y
    cases hb : H' b with
    | none =>
      refine fromG ?_
      unfold merge at q
      rw [hb] at q
      dsimp only at q
      split at q
      · cases q
      · exact q
    | some u =>
      have : merge g.N0 s.heap H' H1 b = some u := merge_ex b u hb
      rw [q] at this
      cases this
      rcases known b o hb with ⟨_, z⟩ | ⟨hc, _, ob, h1, h2⟩
      · exact fromG z
      · refine (okc b o hb).stay (fun c v hv y => ?_) (fun c y => merge_ex c _ y) fun c xs y => merge_ex c _ y
        rcases hv with rfl | hv
        · rw [h1] at y
          cases y
          exact h2
        · rcases known c _ hv with ⟨z, _⟩ | ⟨_, _, oc, h3, h4⟩
          · obtain ⟨o2, z2⟩ := core_back e okc z
            rw [hc] at z2; cases z2
          · rw [h3] at y
            cases y
            exact h4
  have nfs : ∀ b, g.N0 ≤ b → b ∉ X.fs := fun b hb z => absurd (Nat.lt_of_lt_of_le (hfs b z) hb) (Nat.lt_irrefl _)
  have locP : ∀ p ∈ (g.N0, oL) :: (g.pn ++ ip), p.1 ≠ X.env.locals := fun p hp => (Ic.pin p (List.mem_append_right _ (List.mem_append_right _ hp))).2.2.1
  have mN : ∀ b, H' b = none → H1 b = none → merge g.N0 s.heap H' H1 b = none := fun b h1 h2 => by
    unfold merge
    rw [h1]
    dsimp only
    split
    · rfl
    · exact h2
  have I2 : Inv X pins σc (merge g.N0 s.heap H' H1) s1 := by
    refine Inv.call' (ch := ch) (Inv.unpinned Ic) ?_ ⟨fun b o q n f c => ?_, fun b o q n f c => ?_, fun b o q n c => ?_, fun b o q c => ?_, fun b xs q => ?_, fun b o u q => ?_, fun b ps q => ?_⟩ ?_ Ig.bare fun b hb => ?_
    · exact Ig.os
    · obtain ⟨a1, a2, a3⟩ := nch b o c q
      exact (stays b o q (nn b n) f a1 a2 a3).1
    · have lt := fl b f
      have := un.slot b o (by rw [trunc_get lt]; exact q) (nn b n) (by rw [← hX.stack]; exact f) (no b)
      exact this
    · by_cases f : b ∈ frs X.stack
      · have lt := fl b f
        unfold merge
        rw [n]
        dsimp only
        rw [if_pos ⟨lt, by rw [q]; rfl⟩]
      · obtain ⟨a1, a2, a3⟩ := nch b o c q
        exact mN b n (stays b o q (nn b n) f a1 a2 a3).2
    · by_cases f : b ∈ frs X.stack
      · have lt := fl b f
        obtain ⟨o', q'⟩ := un.there b o (by rw [trunc_get lt]; exact q) (no b)
        exact ⟨o', q'⟩
      · obtain ⟨a1, a2, a3⟩ := nch b o c q
        cases hc : core G b with
        | none => exact ⟨o, (stays b o q hc f a1 a2 a3).1⟩
        | some u => exact ok_there (ok1 b u (ex b u hc))
    · exact merge_ex b _ q
    · exact merge_ex b _ q
    · exact ⟨#[], by rw [merge_ex b _ q]; simp⟩
    · rw [hX.P, hX.w]
      exact okM
    · have gb := chN b hb
      refine ⟨hex b gb (chH b hb), fun z => ?_, fun x c hx z => ?_, fun p hp z => ?_⟩
      · rcases List.mem_cons.mp hb with y | y
        · exact locP (g.N0, oL) List.mem_cons_self (y.symm.trans z)
        · rcases List.mem_append.mp y with y | y
          · obtain ⟨q, hq, hq2⟩ := List.mem_map.mp y
            exact locP q (List.mem_cons_of_mem _ (List.mem_append_left _ hq)) (hq2.trans z)
          · have := (List.mem_filter.mp y).2
            obtain ⟨m, ⟨ol, _, _, h1, h2, _⟩, _⟩ := Ic.loc
            rw [z, h1, Bool.and_eq_true] at this
            have t2 : soft ol = true := this.2
            unfold soft at t2
            rw [h2] at t2
            cases t2
      · rw [← z] at gb
        exact absurd (Nat.lt_of_lt_of_le (hcc x c hx) gb) (Nat.lt_irrefl _)
      · rw [← z] at gb
        exact absurd (Nat.lt_of_lt_of_le (hpins p hp) gb) (Nat.lt_irrefl _)
  obtain ⟨m, ⟨oL', es, ep, hL1, hL2⟩, _⟩ := Ig.loc
  refine ⟨oL', hL1, ?_, exM⟩
  refine L2.Inv.pins_of I2 fun p hp => ?_
  rcases List.mem_append.mp hp with z | z
  · exact I2.pin p (List.mem_append_right _ z)
  · rcases List.mem_cons.mp z with z | z
    · rw [z]
      refine ⟨hL1, mN _ pL.2.1 locN, locP (g.N0, oL) List.mem_cons_self, nfs _ (Nat.le_refl _), fun v q => ?_⟩
      have q : oL'.data = .cell v := q
      rw [hL2.1] at q
      cases q
    · have ipp : p ∈ (g.X (g.at_ s) (core G)).pn ++ (g.cp (core G) s ++ ip') := by
        rcases List.mem_append.mp z with y | y
        · exact List.mem_append_left _ y
        · exact List.mem_append_right _ (List.mem_append_right _ y)
      obtain ⟨a1, a2, a3, a4, a5⟩ := Ig.pin p ipp
      have gt : g.N0 < p.1 := by
        rcases List.mem_append.mp z with y | y
        · exact hip p (List.mem_append_left _ y)
        · exact hip' p y
      refine ⟨a1, mN _ ?_ a2, ?_, nfs _ (Nat.le_of_lt gt), a5⟩
      rcases List.mem_append.mp z with y | y
      · exact (pp p (List.mem_append_left _ y)).2
      · cases hq : H' p.1 with
        | none => rfl
        | some u =>
          rcases known _ _ hq with ⟨_, k⟩ | ⟨hc, _, ob, h1, h2⟩
          · rw [a2] at k; cases k
          · obtain ⟨ob', h1', _, _, h4, h5⟩ := kn _ _ hq
            rw [h1] at h1'
            cases h1'
            exact absurd rfl (dis' p y (p.1, ob) (GP.cp_mem.mpr ⟨gt, hc, h4, h1, h5.resolve_right (Nat.not_lt_of_gt gt)⟩))
      · intro zl
        rcases List.mem_append.mp z with y | y
        · exact locP p (List.mem_cons_of_mem _ (List.mem_append_left _ y)) zl
        · obtain ⟨m, ⟨ol, _, _, h1, h2, _⟩, _⟩ := Ic.loc
          have nc : soft ol = false := soft_of (fun v q => by rw [h2] at q; cases q) fun v q => by rw [h2] at q; cases q
          refine absurd zl.symm (dis' p y (X.env.locals, ol) (GP.cp_mem.mpr ⟨by rw [← zl]; exact gt, nn _ Ic.free, fun q hq e => locP q (List.mem_cons_of_mem _ (List.mem_append_left _ hq)) e, h1, nc⟩))
/-! ### what the loop keeps in mind while its generator runs -/
open Classical in
/-- of the objects younger than the generator those that are surely no cells -/
noncomputable def cut (N0 : Nat) (h : Heap) (H : Hp) : Hp := fun b => match H b with
  | some o => if b < N0 ∨ ∀ ob, h.get? b = some ob → soft ob = false then some o else none
  | none => none
theorem cut_ex {N0 : Nat} {h : Heap} {H : Hp} : Ex (cut N0 h H) H := fun b o q => by
  unfold cut at q
  split at q
  · rename_i u hu
    split at q
    · rw [hu]; exact q
    · cases q
  · cases q
theorem cut_at {N0 : Nat} {h : Heap} {H : Hp} {b : Addr} {o : HO} (q : H b = some o) (c : b < N0 ∨ ∀ ob, h.get? b = some ob → soft ob = false) : cut N0 h H b = some o := by
  unfold cut
  rw [q]
  show (if b < N0 ∨ ∀ ob, h.get? b = some ob → soft ob = false then some o else none) = some o
  rw [if_pos c]
theorem cut_no {N0 : Nat} {h : Heap} {H : Hp} : NoSoft N0 (cut N0 h H) h := fun b o ob hb q e => by
  unfold cut at q
  split at q
  · split at q
    · rename_i c
      rcases c with c | c
      · exact absurd (Nat.lt_of_lt_of_le c hb) (Nat.lt_irrefl _)
      · exact c ob e
    · cases q
  · cases q
/-- kinds of objects that are no cells -/
def plainK : HO → Bool
  | .ext _ => false
  | .own _ => false
  | .frz _ _ => false
  | _ => true
theorem tup_cell {h : Heap} {b : Addr} {its : Array Value} (x : IsTup h b its) : ∀ ob, h.get? b = some ob → soft ob = false := fun ob e => by
  obtain ⟨o, ho, _, _, hd⟩ := x
  rw [e] at ho
  cases ho
  exact soft_of (fun v q => by rw [hd] at q; cases q) fun v q => by rw [hd] at q; cases q
theorem plain_cell {P : Program} {w : World} {H : Hp} {h : Heap} {b : Addr} {o : HO} (x : ObjOk P w H h b o) (k : plainK o = true) : ∀ ob, h.get? b = some ob → soft ob = false := fun ob e => by
  cases o with
  | lst xs => obtain ⟨_, _, _, _, e'⟩ := x; rw [e] at e'; cases e'; rfl
  | tup xs => obtain ⟨_, _, _, p⟩ := x; exact tup_cell p ob e
  | dK kvs => obtain ⟨_, _, _, _, o, _, _, e', _, hd, _⟩ := x; rw [e] at e'; cases e'; exact soft_of (fun v q => by rw [hd] at q; cases q) fun v q => by rw [hd] at q; cases q
  | dT kvs => obtain ⟨_, _, _, _, o, _, _, e', _, hd, _⟩ := x; rw [e] at e'; cases e'; exact soft_of (fun v q => by rw [hd] at q; cases q) fun v q => by rw [hd] at q; cases q
  | set S n => obtain ⟨o, es, ep, t, e', _, hd, _⟩ := x; rw [e] at e'; cases e'; exact soft_of (fun v q => by rw [hd] at q; cases q) fun v q => by rw [hd] at q; cases q
  | ins C dx fs => obtain ⟨_, _, _, e', _⟩ := x; rw [e] at e'; cases e'; rfl
  | own y => cases k
  | xd fs => obtain ⟨_, ⟨o, _, _, e', hd, _⟩, _⟩ := x; rw [e] at e'; cases e'; exact soft_of (fun v q => by rw [hd] at q; cases q) fun v q => by rw [hd] at q; cases q
  | rng lo hi => obtain ⟨_, _, _, e'⟩ := x; rw [e] at e'; cases e'; rfl
  | frz ob u => cases k
  | tbl ps => rw [(show h.get? b = some _ from x)] at e; cases e; rfl
  | met f y => rw [(show h.get? b = some _ from x)] at e; cases e; rfl
  | ext φ => cases k
theorem cut_obj {P : Program} {w : World} {N0 : Nat} {H : Hp} {h : Heap} {b : Addr} {o : HO} (ok : HOk P w H h) (x : ObjOk P w H h b o) : ObjOk P w (cut N0 h H) h b o := by
  induction o with
  | ins C dx fs =>
    obtain ⟨d, z, ne, e, mA, ⟨od, es, ep, e2, hd, c⟩, r⟩ := x
    refine ⟨cut_at d (.inr fun ob q => ?_), z, ne, e, mA, ⟨od, es, ep, e2, hd, c⟩, r⟩
    rw [e2] at q
    cases q
    exact soft_of (fun v q => by rw [hd] at q; cases q) fun v q => by rw [hd] at q; cases q
  | dT kvs =>
    obtain ⟨z, y, xs, r, c⟩ := x
    refine ⟨z, y, xs, Paired.mapP r fun p q z => ⟨z.1, cut_at z.2.1 (.inr (plain_cell (ok _ _ z.2.1) rfl)), z.2.2⟩, c⟩
  | frz ob u ih => obtain ⟨e, q⟩ := x; exact ⟨e, ih q⟩
  | _ => exact x
theorem cut_ok {P : Program} {w : World} {N0 : Nat} {H : Hp} {h : Heap} (ok : HOk P w H h) : HOk P w (cut N0 h H) h := fun b o q => cut_obj ok (ok b o (cut_ex b o q))
theorem inv_cut {X : Cx} {pins : List (Addr × Obj)} {σ : L2.St} {H : Hp} {s : Shared} {N0 : Nat} (I : Inv X pins σ H s) (hfz : ∀ b o u, X.H_0 b = some (.frz o u) → b < N0) : Inv X pins σ (cut N0 s.heap H) s := by
  have cn : ∀ b, H b = none → cut N0 s.heap H b = none := fun b h => by
    unfold cut; rw [h]
  refine ⟨I.ok, I.os, I.bare, ⟨I.base.keep, I.base.slot, fun b o q n c => cn b (I.base.free b o q n c), I.base.there, fun b xs q => ?_, fun b o u q => ?_, fun b ps q => ?_⟩, I.loc, I.cell, cn _ I.free, fun x c h => cn _ (I.freeC x c h), fun p hp => ?_, cut_ok I.hok, I.len⟩
  · have := I.base.tups b xs q
    exact cut_at this (.inr (plain_cell (I.hok _ _ this) rfl))
  · exact cut_at (I.base.frzs b o u q) (.inl (hfz b o u q))
  · obtain ⟨more, this⟩ := I.base.tbls b ps q
    exact ⟨more, cut_at this (.inr (plain_cell (I.hok _ _ this) rfl))⟩
  · obtain ⟨a1, a2, a3⟩ := I.pin p hp
    exact ⟨a1, cn _ a2, a3⟩
end Wm
end

section
/-! ## Generators that a loop walks: the generator's statements -/
namespace Wm
open PySem PySem.Spec PyProof.Rows L2 GenW
def GP.env (g : GP) : Env := envOfC g.qual g.scope g.N0 g.f g.cd
/-- the generator's context since it woke at s₀ -/
noncomputable def GP.C (g : GP) (G : Hp) (s₀ : Shared) : Cx := g.X (g.at_ s₀) (core G)
/-- it runs: ip: its iterators -/
structure GRun (g : GP) (G : Hp) (s₀ : Shared) (ip : List (Addr × Obj)) (σ : L2.St) (H : Hp) (s : Shared) : Prop where
  inv : Inv (g.C G s₀) (g.cp (core G) s₀ ++ ip) σ H s
  dis : ∀ p ∈ ip, ∀ q ∈ g.cp (core G) s₀, q.1 ≠ p.1
  old : ∀ p ∈ ip, g.N0 < p.1
  sf : ∀ p ∈ ip, soft p.2 = true
  sz : g.N0 ≤ s₀.heap.objs.size
/-- a loop has woken it -/
def Woken (g : GP) (G : Hp) (ip : List (Addr × Obj)) (oL : Obj) (s : Shared) : Prop := ∃ X pins σc H', Holds g X ∧ Inv X (pins ++ ((g.N0, oL) :: (g.pn ++ ip))) σc H' s ∧ Ex G H'
theorem woken_run {g : GP} {G H : Hp} {s₀ s1 s : Shared} {ip : List (Addr × Obj)} {oL : Obj} {σ : L2.St} (r : GRun g G s₀ ip σ H s1) (hL : s1.heap.get? g.N0 = some oL) (w : Woken g G ip oL s) : GRun g G s ip σ (core G) s := by
  obtain ⟨X, pins, σc, H', hX, Ic, e⟩ := w
  refine ⟨to_gen hX Ic (trunc_size r.sz) r.inv hL e, fun p hp q hq z => ?_, r.old, r.sf, ?_⟩
  · obtain ⟨_, _, _, h4, h5⟩ := GP.cp_mem.mp hq
    have := (Ic.pin p (List.mem_append_right _ (List.mem_append_right _ (List.mem_cons_of_mem _ (List.mem_append_right _ hp))))).1
    rw [z, this] at h4
    rw [← Option.some.inj h4, r.sf p hp] at h5
    cases h5
  · exact Nat.le_of_lt (Heap.lt_size (Ic.pin (g.N0, oL) (List.mem_append_right _ (List.mem_append_right _ List.mem_cons_self))).1)
/-- what is wanted behind a statement of a generator; the number: of the items that are out -/
structure GE2 where
  nx : Nat → L2.St → Hp → Prop
  rt : Nat → VK
  bk : Nat → L2.St → Hp → Prop := fun _ _ _ => False
  ct : Nat → L2.St → Hp → Prop := fun _ _ _ => False
abbrev TG2 := GE2 → Nat → L2.St → Hp → Prop
def GE2.at (D : GE2) (i : Nat) : Ends := { nx := D.nx i, rt := D.rt i, bk := D.bk i, ct := D.ct i }
/-- an item is handed out -/
def GY2 (g : GP) (G : Hp) (P : Nat → V → Hp → Prop) : Protocol := fun n s₀ v s kap =>
  ∃ i x ip σ H oL, n + 1 + i = sizeLine ∧ RelV x v ∧ P i x H ∧ Ex (core G) H ∧ GRun g G s₀ ip σ H s ∧ s.heap.get? g.N0 = some oL ∧ ∀ s', Woken g G ip oL s' → kap (.send .none) s'
def GSP2 (g : GP) (G : Hp) (s₀ : Shared) (ip : List (Addr × Obj)) (D : GE2) (i : Nat) (f : Flow) (s : Shared) : Prop :=
  match f with
  | .next => ∃ σ H, GRun g G s₀ ip σ H s ∧ D.nx i σ H
  | .brk => ∃ σ H, GRun g G s₀ ip σ H s ∧ D.bk i σ H
  | .cont => ∃ σ H, GRun g G s₀ ip σ H s ∧ D.ct i σ H
  | .ret u => ∃ v σ H, GRun g G s₀ ip σ H s ∧ RelV v u ∧ D.rt i v H
structure GC2 (g : GP) (A : Around) (c : Code) (fs : List Frame) (gd : Bool → Bool) : Prop where
  over : A.over c fs = g.A.deeper g.env
  split : splitAtGen fs = none
  guard : fs.any Frame.guarded = false
  gd : gd false = false
/-- an exception in the generator's frame: there is none -/
def GP.xe (g : GP) (e : Value) (s : Shared) : Prop := wpAny (model g.P g.w) (g.A.deeper g.env) (leaving g.env e) (fun _ _ => False) (fun _ _ => False) s
structure GK2 (g : GP) (G : Hp) (P : Nat → V → Hp → Prop) (ip : List (Addr × Obj)) (A : Around) (R : GenEnd) (c : Code) (fs : List Frame) (K : Flow → Sem PySem.Fin) (J : Value → Sem PySem.Fin) (D : GE2) : Prop where
  ok : ∀ (n i : Nat) (s₀ s : Shared) (f : Flow), n + i = sizeLine → GSP2 g G s₀ ip D i f s → Seg (model g.P g.w) A R (GY2 g G P) n s₀ c (K f) fs s
  exc : ∀ (n : Nat) (s₀ : Shared) (e : Value) (s : Shared), g.xe e s → Seg (model g.P g.w) A R (GY2 g G P) n s₀ c (J e) fs s
structure GS2 (g : GP) (G : Hp) (P : Nat → V → Hp → Prop) (st : Stmt) (t : TG2) : Prop where
  run : ∀ (A : Around) (ip : List (Addr × Obj)) (R : GenEnd) (n i : Nat) (s₀ : Shared) (c : Code) (fs : List Frame) (K : Flow → Sem PySem.Fin) (J : Value → Sem PySem.Fin) (gd : Bool → Bool) (lv : List Value → List Value) (s : Shared) (σ : L2.St) (H : Hp) (D : GE2),
    GC2 g A c fs gd → n + i = sizeLine → GK2 g G P ip A R c fs K J D → GRun g G s₀ ip σ H s → t D i σ H →
    Seg (model g.P g.w) A R (GY2 g G P) n s₀ c ((exec st g.env).wrap K J gd lv) fs s
structure GSs2 (g : GP) (G : Hp) (P : Nat → V → Hp → Prop) (st : List Stmt) (t : TG2) : Prop where
  run : ∀ (A : Around) (ip : List (Addr × Obj)) (R : GenEnd) (n i : Nat) (s₀ : Shared) (c : Code) (fs : List Frame) (K : Flow → Sem PySem.Fin) (J : Value → Sem PySem.Fin) (gd : Bool → Bool) (lv : List Value → List Value) (s : Shared) (σ : L2.St) (H : Hp) (D : GE2),
    GC2 g A c fs gd → n + i = sizeLine → GK2 g G P ip A R c fs K J D → GRun g G s₀ ip σ H s → t D i σ H →
    Seg (model g.P g.w) A R (GY2 g G P) n s₀ c ((execs st g.env).wrap K J gd lv) fs s
section
variable {g : GP} {G : Hp} {P : Nat → V → Hp → Prop} {st : Stmt} {rest : List Stmt}
theorem GRun.of {s₀ s s' : Shared} {ip : List (Addr × Obj)} {σ σ' : L2.St} {H H' : Hp} (r : GRun g G s₀ ip σ H s) (I : Inv (g.C G s₀) (g.cp (core G) s₀ ++ ip) σ' H' s') : GRun g G s₀ ip σ' H' s' := ⟨I, r.dis, r.old, r.sf, r.sz⟩
def tP2 (t : TS) : TG2 := fun D i σ H => t (D.at i) σ H
theorem sp_gsp2 {s₀ s s' : Shared} {ip : List (Addr × Obj)} {σ : L2.St} {H : Hp} {D : GE2} {i : Nat} {f : Flow} (r : GRun g G s₀ ip σ H s) (h : SP (g.C G s₀) (g.cp (core G) s₀ ++ ip) (D.at i) f s') : GSP2 g G s₀ ip D i f s' := by
  cases f with
  | next => obtain ⟨σ, H, I, q⟩ := h; exact ⟨σ, H, r.of I, q⟩
  | brk => obtain ⟨σ, H, I, q⟩ := h; exact ⟨σ, H, r.of I, q⟩
  | cont => obtain ⟨σ, H, I, q⟩ := h; exact ⟨σ, H, r.of I, q⟩
  | ret u => obtain ⟨v, σ, H, I, r1, q⟩ := h; exact ⟨v, σ, H, r.of I, r1, q⟩
theorem gs2_ps {t : TS} (h : ∀ s₀, PS (g.C G s₀) st t) : GS2 g G P st (tP2 t) := by
  refine ⟨fun A ip R n i s₀ c fs K J gd lv s σ H D gc hn k r ht => ?_⟩
  refine seg_wrap ?_
  rw [gc.over]
  exact wpAny_mono ((h s₀).run _ s σ H (D.at i) r.inv ht) (fun f s' hs => k.ok n i s₀ s' f hn (sp_gsp2 r hs)) fun x s' hx => k.exc n s₀ x s' hx
def tG20 : TG2 := fun D i σ H => D.nx i σ H
theorem gss2_nil : GSs2 g G P [] tG20 := by
  refine ⟨fun A ip R n i s₀ c fs K J gd lv s σ H D gc hn k r ht => ?_⟩
  exact seg_execs_nil (k.ok n i s₀ s .next hn ⟨σ, H, r, ht⟩)
def tG2Then (t u : TG2) : TG2 := fun D i σ H => t { D with nx := fun i' σ' H' => u D i' σ' H' } i σ H
theorem gss2_cons {t u : TG2} (a : GS2 g G P st t) (b : GSs2 g G P rest u) : GSs2 g G P (st :: rest) (tG2Then t u) := by
  refine ⟨fun A ip R n i s₀ c fs K J gd lv s σ H D gc hn k r ht => ?_⟩
  refine seg_execs_cons ?_
  refine a.run A ip R n i s₀ c fs _ J gd lv s σ H { D with nx := fun i' σ' H' => u D i' σ' H' } gc hn ⟨fun n' i' s₀' s' f hn' hs => ?_, k.exc⟩ r ht
  cases f with
  | next =>
    obtain ⟨σ', H', I', q⟩ := hs
    exact b.run A ip R n' i' s₀' c fs K J gd lv s' σ' H' D gc hn' k I' q
  | brk => exact k.ok n' i' s₀' s' .brk hn' hs
  | cont => exact k.ok n' i' s₀' s' .cont hn' hs
  | ret u => exact k.ok n' i' s₀' s' (.ret u) hn' hs
/-- yield e -/
def tY2 (G : Hp) (P : Nat → V → Hp → Prop) (te : TE) : TG2 := fun D i σ H => i < sizeLine ∧ te σ H fun x H1 => Ex (core G) H1 ∧ P i x H1 ∧ D.nx (i + 1) σ (core G)
theorem gs2_yield {e : Expr} {yp pos : Pos} {te : TE} (he : ∀ s₀, PE (g.C G s₀) e te) (hco : g.env.scope.isCoroutine = false := by rfl) (hi : interactive g.env = false := by rfl) : GS2 g G P (.Expr (.Yield (some e) yp) pos) (tY2 G P te) := by
  refine ⟨fun A ip R n i s₀ c fs K J gd lv s σ H D gc hn k r ht => ?_⟩
  obtain ⟨hlt, ht⟩ := ht
  obtain ⟨n, rfl⟩ : ∃ m, n = m + 1 := ⟨n - 1, by omega⟩
  refine seg_Expr_Yield gc.split gc.gd gc.guard ?_ hco hi
  rw [gc.over]
  refine wpAny_mono ((he s₀).run _ s σ H _ r.inv ht) (fun v s' hv => ?_) fun x s' hx => k.exc _ s₀ x s' hx
  obtain ⟨x, H1, I1, rv, q1, q2, q3⟩ := hv
  intro kap hk
  have r1 := r.of I1
  obtain ⟨m, ⟨oL, _, _, hL, _⟩, _⟩ := I1.loc
  have hL : s'.heap.get? g.N0 = some oL := hL
  refine ⟨i, x, ip, σ, H1, oL, hn, rv, q2, q1, r1, hL, fun s'' w => hk .none s'' ?_⟩
  exact k.ok n (i + 1) s'' s'' .next (by omega) ⟨σ, core G, woken_run r1 hL w, q3⟩
/-! ### for over a range -/
/-- an iterator has come that a generator may turn -/
def PIE2 (X : Cx) (pins : List (Addr × Obj)) (σ : L2.St) (tg : Expr) (R : It → Hp → Prop) (itv : Value) (s2 : Shared) : Prop :=
  ∃ (it : Addr) (fp : List Addr) (tn : Nat → Heap → Prop) (J : It) (H' : Hp), itv = .ref it ∧ Inv X pins σ H' s2 ∧ Turn X.prog X.w X.K tg J fp it tn ∧ tn 0 s2.heap ∧ (∀ b ∈ fp, FpOk X pins H' b) ∧ (∀ b ∈ fp, X.env.locals < b) ∧ (∀ i h, tn i h → ∀ b ∈ fp, ∀ o, h.get? b = some o → soft o = true) ∧ R J H'
structure PI2 (X : Cx) (tg iter : Expr) (wi : TI) : Prop where
  run : ∀ (pins : List (Addr × Obj)) (s : Shared) (σ : L2.St) (H : Hp) (R : It → Hp → Prop), Inv X pins σ H s → wi σ H R →
    wpAny (model X.prog X.w) X.A (eval iter X.env) (fun v s1 => wpAny (model X.prog X.w) X.A (pyIter v) (PIE2 X pins σ tg R) X.xe s1) X.xe s
theorem range_it2 {X : Cx} {tg : Expr} {pins : List (Addr × Obj)} {σ : L2.St} {H : Hp} {s : Shared} {R : It → Hp → Prop} {E : Value → Shared → Prop} {lo hi : Int} {t u v : Tok} {tk : Nat} (I : Inv X pins σ H s) (h1 : -(2 ^ 62) ≤ lo) (h2 : lo < 2 ^ 62) (h3 : -(2 ^ 62) ≤ hi) (h4 : hi < 2 ^ 62)
    (q : R (Itr lo (hi - lo).toNat) H) : wpAny (model X.prog X.w) X.A (pyIter (.ref s.heap.objs.size)) (PIE2 X pins σ tg R) E { s with heap := s.heap.push { cls := .type "range", data := .fields #[.int lo t, .int hi u, .int 1 v] }, toks := tk } := by
  refine wpAny_pyIter_range (IsRange.new ..) (small_one h1 h2 h3 h4) ?_
  have I1 : Inv X pins σ H { s with heap := s.heap.push { cls := .type "range", data := .fields #[.int lo t, .int hi u, .int 1 v] }, toks := tk } := I.kept fun b o e => Heap.get?_push_of_some _ e
  refine ⟨(s.heap.push { cls := .type "range", data := .fields #[.int lo t, .int hi u, .int 1 v] }).objs.size, [(s.heap.push { cls := .type "range", data := .fields #[.int lo t, .int hi u, .int 1 v] }).objs.size], _, _, H, rfl,
    I1.kept (t' := tk) fun b o e => Heap.get?_push_of_some _ e, turn_range _ lo (hi - lo).toNat, ?_, fun b hb => ?_, fun b hb => ?_, fun i h st b hb o e => ?_, q⟩
  · have e1 : lo + ((0 : Nat) : Int) * 1 = lo := by simp
    have e2 : (((hi - lo).toNat : Nat) : Int) - ((0 : Nat) : Int) = Builtin.Range.rangeSize lo hi 1 := by rw [rangeSize_one]; split <;> omega
    show IsRangeIter _ _ (lo + ((0 : Nat) : Int) * 1) ((((hi - lo).toNat : Nat) : Int) - ((0 : Nat) : Int)) 1
    rw [e1, e2]
    exact Heap.get?_push_size _ rfl
  · have e : b = (s.heap.push { cls := .type "range", data := .fields #[.int lo t, .int hi u, .int 1 v] }).objs.size := by simpa using hb
    subst e
    exact I1.fpOk (Nat.le_refl _) (I1.hok.fresh (Nat.le_refl _))
  · have e : b = (s.heap.push { cls := .type "range", data := .fields #[.int lo t, .int hi u, .int 1 v] }).objs.size := by simpa using hb
    subst e
    exact I1.lt
  · have eb : b = (s.heap.push { cls := .type "range", data := .fields #[.int lo t, .int hi u, .int 1 v] }).objs.size := by simpa using hb
    subst eb
    have st : h.get? _ = some _ := st
    rw [e] at st
    cases st
    rfl
theorem pi2_range1 {X : Cx} {tg a : Expr} {ta : TA} {p pos : Pos} (hg : Gl X "range") (hm : X.mg "range" = none) (ha : PA X [a] ta) (hs : starEach [a] X.env = [(false, eval a X.env)] := by rfl) : PI2 X tg (.Call (.Name "range" p) [a] [] pos) (iRng1 ta) := by
  refine ⟨fun pins s σ H R I h => ?_⟩
  refine Call_ (ld_blt I hg hm boot_range (PyProof.Rows.callWith_type1 (thn (ha.run pos pins s σ H _ I h) fun us s1 ⟨vs, H1, I1, r1, q1⟩ => ?_) hs rfl))
  obtain ⟨j, e, q1, q2, q⟩ := q1
  subst e
  cases r1 with
  | cons r rr =>
    cases rr
    obtain ⟨t, rfl⟩ := r
    exact call_range_1 (range_it2 I1 (by omega) (by omega) q1 q2 (by simpa using q))
theorem pi2_range2 {X : Cx} {tg a b : Expr} {ta : TA} {p pos : Pos} (hg : Gl X "range") (hm : X.mg "range" = none) (ha : PA X [a, b] ta) (hs : starEach [a, b] X.env = [(false, eval a X.env), (false, eval b X.env)] := by rfl) (hs2 : starEach [b] X.env = [(false, eval b X.env)] := by rfl) :
    PI2 X tg (.Call (.Name "range" p) [a, b] [] pos) (iRng2 ta) := by
  refine ⟨fun pins s σ H R I h => ?_⟩
  refine Call_ (ld_blt I hg hm boot_range (PyProof.Rows.callWith_type1 (thn (ha.run pos pins s σ H _ I h) fun us s1 ⟨vs, H1, I1, r1, q1⟩ => ?_) (by rw [hs, hs2]) (by rw [hs2]; rfl)))
  obtain ⟨i, j, e, ⟨q1, q2, q3, q4⟩, q⟩ := q1
  subst e
  cases r1 with
  | cons r rr =>
    cases rr with
    | cons r' rr =>
      cases rr
      obtain ⟨t, rfl⟩ := r
      obtain ⟨t', rfl⟩ := r'
      exact call_range_2 (range_it2 I1 q1 q2 q3 q4 q)
def tG2For (wi : TI) (tgr : TG) (tb : TG2) : TG2 := fun D k σ H => wi σ H fun J H1 => ∃ W : Nat → Nat → Nat → L2.St → Hp → Prop, (∃ m, W 0 m k σ H1) ∧ ∀ i m k σ H, W i m k σ H →
  (J.stop i H ∧ D.nx k σ H) ∨ (J.go i H ∧ ∃ N : Nat → L2.St → Hp → Prop, (∀ k' σ' H', N k' σ' H' → ∃ m', m' < m ∧ W (i + 1) m' k' σ' H') ∧
    ∀ x H', J.yld i H x H' → tgr x σ H' fun σ2 H2 => tb { D with nx := N, ct := N, bk := D.nx } k σ2 H2)
theorem gc2_loop {A : Around} {c c' : Code} {fs : List Frame} {gd : Bool → Bool} {k : Result → Sem PySem.Fin} {l kp : List Value} {p : Pos} (gc : GC2 g A c fs gd) (hw : c'.weight = 0) (hu : c'.cUnits = 0) :
    GC2 g A c' (.ret k none (gd false) l c p kp :: fs) id where
  over := (over_loop hw hu).trans gc.over
  split := by
    show (splitAtGen fs).map _ = none
    rw [gc.split]; rfl
  guard := by
    show (gd false || fs.any Frame.guarded) = false
    rw [gc.gd, gc.guard]; rfl
  gd := rfl
theorem seg_cameBack2 {ip : List (Addr × Obj)} {A : Around} {R : GenEnd} {c : Code} {fs : List Frame} {K : Flow → Sem PySem.Fin} {J : Value → Sem PySem.Fin} {gd : Bool → Bool} {lv : List Value → List Value} {D : GE2} {n : Nat} {s₀ s : Shared} {e : Value}
    (gc : GC2 g A c fs gd) (k : GK2 g G P ip A R c fs K J D) (h : cameBackBy (model g.P g.w) (g.A.deeper g.env) g.env g.xe e s) :
    Seg (model g.P g.w) A R (GY2 g G P) n s₀ c (((Sem.raise e : Sem Flow).onRaise (cameBack g.env)).wrap K J gd lv) fs s := by
  show Seg _ _ _ _ _ _ _ (((cameBack g.env e).bind fun _ => (Sem.raise e : Sem Flow)).wrap K J gd lv) _ _
  rw [Sem.bind_eq_wrap, Sem.wrap_wrap]
  refine seg_wrap ?_
  rw [gc.over]
  exact wpAny_mono h (fun _ s' hx => k.exc n s₀ e s' hx) fun x s' hx => k.exc n s₀ x s' hx
theorem passes_g (s₀ : Shared) : PassesOwn (model g.P g.w) (g.A.deeper g.env) g.env g.xe :=
  passes_of (X := g.C (fun _ => none) s₀) (K := fun _ _ => False) (E₁ := fun _ _ => False) rfl
theorem gs2_for {tg iter : Expr} {body : List Stmt} {wi : TI} {tgr : TG} {tb : TG2} {pos : Pos} (hi : ∀ s₀, PI2 (g.C G s₀) tg iter wi) (hg : ∀ s₀, PG (g.C G s₀) tg tgr) (hb : GSs2 g G P body tb)
    (hs : ∀ x, foldedSetIterable iter g.env x = pure x := by intro _; rfl) : GS2 g G P (.For tg iter body [] pos) (tG2For wi tgr tb) := by
  refine ⟨fun A ip R n k0 s₀ c fs K J gd lv s σ H D gc hn k r0 ht => ?_⟩
  have hp := passes_g (g := g) s₀
  rw [PySem.exec_For]
  refine seg_bind_wrap (wpAny_standAt ?_)
  refine seg_bind_wrap ?_
  rw [gc.over]
  refine wpAny_mono ((hi s₀).run _ s σ H _ r0.inv ht) (fun v s1 h1 => ?_) fun x s' hx => k.exc n s₀ x s' hx
  refine seg_bind_wrap (wpAny_of_eq (hs v) ?_)
  refine seg_bind_wrap (wpAny_standAt ?_)
  refine seg_bind_wrap (wpAny_holding ?_)
  rw [gc.over]
  refine wpAny_mono h1 (fun itv s2 h2 => ?_) fun x s' hx => k.exc n s₀ x s' hx
  obtain ⟨it, fp, tn, Jt, H2, e, I2, T, st2, f2, fl2, fs2, W, ⟨m0, w0⟩, turn⟩ := h2
  subst e
  refine seg_call fun p => ?_
  have gl := fun (kk : Result → Sem PySem.Fin) => gc2_loop (k := kk) (c' := .forLoop tg (.ref it) body [] g.env) (l := lv []) (kp := []) (p := p) gc rfl rfl
  have fn : ∀ b ∈ fp, b ∉ frs g.outer ∧ ∀ p ∈ g.pn ++ ip, p.1 ≠ b := fun b hb => by
    obtain ⟨_, _, q2, _, _, q5⟩ := f2 b hb
    refine ⟨q2, fun p hp => ?_⟩
    rcases List.mem_append.mp hp with z | z
    · exact q5 p (List.mem_append_left _ z)
    · exact q5 p (List.mem_append_right _ (List.mem_append_right _ z))
  have fpo : ∀ {s₀ : Shared} {ip' : List (Addr × Obj)} {σ : L2.St} {H' : Hp} {s : Shared}, GRun g G s₀ ip' σ H' s → (∀ b ∈ fp, H' b = none) → (∀ b ∈ fp, ∀ q ∈ g.cp (core G) s₀, q.1 ≠ b) → ∀ b ∈ fp, FpOk (g.C G s₀) (g.cp (core G) s₀ ++ ip) H' b := fun {s₀ ip' σ H' s} r hn hd b hb => by
    refine ⟨hn b hb, Ne.symm (Nat.ne_of_lt (fl2 b hb)), (fn b hb).1, .inr ?_, (fun x c e => ?_), fun p hp => ?_⟩
    · show (trunc g.N0 s₀.heap).objs.size ≤ b
      rw [trunc_size r.sz]
      exact Nat.le_of_lt (fl2 b hb)
    · obtain ⟨_, _, _, _, q4, _⟩ := f2 b hb
      exact q4 x c e
    · rcases List.mem_append.mp hp with z | z
      · exact (fn b hb).2 p (List.mem_append_left _ z)
      · rcases List.mem_append.mp z with z | z
        · exact hd b hb p z
        · exact (fn b hb).2 p (List.mem_append_right _ z)
  have loop : ∀ (m i n k1 : Nat) (s₀ s : Shared) (σ : L2.St) (H : Hp), n + k1 = sizeLine → W i m k1 σ H → GRun g G s₀ ip σ H s → tn i s.heap → (∀ b ∈ fp, H b = none) → (∀ b ∈ fp, ∀ q ∈ g.cp (core G) s₀, q.1 ≠ b) →
      Seg (model g.P g.w) A R (GY2 g G P) n s₀ (.forLoop tg (.ref it) body [] g.env) ((model g.P g.w).den (.forLoop tg (.ref it) body [] g.env))
        (.ret (fun r => ((match r with | .ok f => (.pure f : Sem Flow) | .error e => .raise e).onRaise (cameBack g.env)).wrap K J gd lv) none (gd false) (lv []) c p [] :: fs) s := by
    intro m
    induction m using Nat.strongRecOn with
    | ind m ih =>
      intro i n k1 s₀ s3 σ3 H3 hn w3 r3 st3 fr3 hd3
      have ee : ∀ (n : Nat) (s₀ : Shared) (x : Value) (s' : Shared), g.xe x s' → Seg (model g.P g.w) A R (GY2 g G P) n s₀ (.forLoop tg (.ref it) body [] g.env) (ownEnd g.env x)
          (.ret (fun r => ((match r with | .ok f => (.pure f : Sem Flow) | .error e => .raise e).onRaise (cameBack g.env)).wrap K J gd lv) none (gd false) (lv []) c p [] :: fs) s' := fun n s₀ x s' hx => by
        unfold ownEnd
        refine seg_wrap ?_
        rw [(gl _).over]
        refine wpAny_bind (wpAny_mono (hp x s' hx) (fun _ s'' hcb => wpAny_theTreesLotGoes ?_) fun y s'' hcb => ?_)
        · exact seg_leaf (.error x) (seg_cameBack2 gc k hcb)
        · exact seg_leaf (.error y) (seg_cameBack2 gc k hcb)
      refine seg_forTurn ?_
      rw [(gl _).over]
      rcases turn i m k1 σ3 H3 w3 with ⟨stop, qn⟩ | ⟨go, N, hN, step⟩
      · refine wpAny_mono (T.done (g.C G s₀) rfl rfl rfl rfl i _ s3 σ3 H3 g.xe r3.inv (fpo r3 fr3 hd3) st3 stop) (fun r' s4 h4 => ?_) fun x s' hx => ee n s₀ x s' hx
        obtain ⟨hr, I4⟩ := h4
        subst hr
        refine seg_again rfl ?_
        exact seg_leaf (.ok .next) (k.ok n k1 s₀ s4 .next hn ⟨σ3, H3, r3.of I4, qn⟩)
      · refine wpAny_mono (T.item (g.C G s₀) rfl rfl rfl rfl i _ s3 σ3 H3 g.xe r3.inv (fpo r3 fr3 hd3) st3 go) (fun r' s4 h4 => ?_) fun x s' hx => ee n s₀ x s' hx
        obtain ⟨u, hr, h4⟩ := h4
        subst hr
        refine wpAny_mono h4 (fun _ s5 h5 => ?_) fun x s' hx => ee n s₀ x s' hx
        obtain ⟨x, H5, I5, r5, y5, st5, fr5⟩ := h5
        have I5' := I5.pinned (fpo (r3.of I5) fr5 hd3) (T.obj _ _ st5)
        refine wpAny_mono ((hg s₀).run _ s5 σ3 H5 x u _ I5' r5 (step x H5 y5)) (fun _ s6 h6 => ?_) fun x s' hx => ee n s₀ x s' hx
        obtain ⟨σ6, H6, I6, q6⟩ := h6
        rw [List.append_assoc] at I6
        have r6 : GRun g G s₀ (ip ++ pinsAt fp s5.heap) σ6 H6 s6 := ⟨I6, fun p hp q hq => by
          rcases List.mem_append.mp hp with z | z
          · exact r3.dis p z q hq
          · exact hd3 p.1 (of_pinsAt z).1 q hq, fun p hp => by
          rcases List.mem_append.mp hp with z | z
          · exact r3.old p z
          · exact fl2 p.1 (of_pinsAt z).1, fun p hp => by
          rcases List.mem_append.mp hp with z | z
          · exact r3.sf p z
          · exact fs2 _ _ st5 p.1 (of_pinsAt z).1 p.2 (of_pinsAt z).2, r3.sz⟩
        have un : ∀ {s₀' : Shared} {σ7 : L2.St} {H7 : Hp} {s7 : Shared}, GRun g G s₀' (ip ++ pinsAt fp s5.heap) σ7 H7 s7 → GRun g G s₀' ip σ7 H7 s7 := fun {s₀' σ7 H7 s7} r7 => by
          have I7 := r7.inv
          rw [← List.append_assoc] at I7
          exact ⟨I7.unpinned, fun p hp => r7.dis p (List.mem_append_left _ hp), fun p hp => r7.old p (List.mem_append_left _ hp), fun p hp => r7.sf p (List.mem_append_left _ hp), r7.sz⟩
        have again : ∀ (n' k' : Nat) (s₀' s7 : Shared), n' + k' = sizeLine → (∃ σ7 H7, GRun g G s₀' (ip ++ pinsAt fp s5.heap) σ7 H7 s7 ∧ N k' σ7 H7) →
            Seg (model g.P g.w) A R (GY2 g G P) n' s₀' (.forLoop tg (.ref it) body [] g.env) (.pure (.again (.forLoop tg (.ref it) body [] g.env)))
              (.ret (fun r => ((match r with | .ok f => (.pure f : Sem Flow) | .error e => .raise e).onRaise (cameBack g.env)).wrap K J gd lv) none (gd false) (lv []) c p [] :: fs) s7 := fun n' k' s₀' s7 hn' h7 => by
          obtain ⟨σ7, H7, r7, n7⟩ := h7
          obtain ⟨m', hm, w7⟩ := hN k' σ7 H7 n7
          have pin7 : ∀ b ∈ fp, ∀ o, s5.heap.get? b = some o → s7.heap.get? b = some o ∧ H7 b = none := fun b hb o e => by
            have := r7.inv.pin (b, o) (List.mem_append_right _ (List.mem_append_right _ (List.mem_append_right _ (mem_pinsAt hb e))))
            exact ⟨this.1, this.2.1⟩
          refine seg_again rfl (ih m' hm (i + 1) n' k' s₀' s7 σ7 H7 hn' w7 (un r7) (T.keep _ _ _ st5 fun b hb o e => (pin7 b hb o e).1) (fun b hb => ?_) fun b hb q hq => ?_)
          · obtain ⟨o, e, d⟩ := T.obj _ _ st5 b hb
            exact (pin7 b hb o e).2
          · obtain ⟨o, e, d⟩ := T.obj _ _ st5 b hb
            exact r7.dis (b, o) (List.mem_append_right _ (mem_pinsAt hb e)) q hq
        refine hb.run A (ip ++ pinsAt fp s5.heap) R n k1 s₀ _ _ _ _ id id s6 σ6 H6 { D with nx := N, ct := N, bk := D.nx } (gl _) hn ⟨fun n' k' s₀' s7 f hn' hs => ?_, fun n' s₀' x s7 hx => ee n' s₀' x s7 hx⟩ r6 q6
        cases f with
        | next => exact again n' k' s₀' s7 hn' hs
        | cont => exact again n' k' s₀' s7 hn' hs
        | brk =>
          obtain ⟨σ7, H7, h7, q7⟩ := hs
          exact seg_leaf (.ok .next) (k.ok n' k' s₀' s7 .next hn' ⟨σ7, H7, un h7, q7⟩)
        | ret v =>
          obtain ⟨x7, σ7, H7, h7, rv, q7⟩ := hs
          exact seg_leaf (.ok (.ret v)) (k.ok n' k' s₀' s7 (.ret v) hn' ⟨x7, σ7, H7, un h7, rv, q7⟩)
  refine loop m0 0 n k0 s₀ s2 σ H2 hn w0 (r0.of I2) st2 (fun b hb => (f2 b hb).1) fun b hb q hq => ?_
  obtain ⟨_, _, _, _, _, q5⟩ := f2 b hb
  exact q5 q (List.mem_append_right _ (List.mem_append_left _ hq))
end
end Wm
end

section
/-! ## Generators that a loop walks: a generator def's promise -/
namespace Wm
open PySem PySem.Spec PyProof.Rows L2 GenW
/-- the end of a run: N items were handed out -/
def GR2 (g : GP) (G : Hp) (N : Nat) : GenEnd := fun n s₀ r s => (r = .ok (.ret .none) ∨ r = .ok .next) ∧ ∃ ip σ H, n + N = sizeLine ∧ GRun g G s₀ ip σ H s ∧ Ex (core G) H
/-- what a call of a generator def gives: a generator that has not begun -/
def GMade2 (P : Program) (w : World) (K : PySem.W.Frag) (mg : Str → Option Value) (base : Heap) (k : Nat) (outer : List Env) (s : Shared) (G : Hp) (Pi : Nat → V → Hp → Prop) (N : Nat) (u : Value) (s' : Shared) : Prop :=
  ∃ (a : Addr) (gi : Nat) (c : Code) (go oL : Obj), u = .ref a ∧ s.heap.objs.size < a ∧ a < s'.heap.objs.size ∧ s'.heap.get? a = some go ∧ (∀ h : Heap, h.get? a = some go → h.IsGen a gi) ∧ (∀ v, go.data ≠ .cell v) ∧ s'.gens[gi]? = some (.fresh c) ∧ s'.os = s.os ∧ AllBare s'.gens ∧
    (∀ b o, s.heap.get? b = some o → s'.heap.get? b = some o) ∧ s'.heap.get? s.heap.objs.size = some oL ∧ (∀ v, oL.data ≠ .cell v) ∧
    ∀ A : Around, Room k A → A.frames = some outer → ∃ g : GP, g.P = P ∧ g.w = w ∧ g.K = K ∧ g.mg = mg ∧ g.base = base ∧ g.outer = outer ∧ g.A = A ∧ g.N0 = s.heap.objs.size ∧ g.pn = [(a, go)] ∧ (∀ x c, g.env.cells.lookup x = some c → False) ∧
      ∀ s2, Woken g G [] oL s2 → Seg (model P w) A (GR2 g G N) (GY2 g G Pi) sizeLine s2 c ((model P w).den c) [] s2
/-- a generator's promise: the arguments, the simple heap that it knows, its items, how many -/
abbrev SpG2 := List V → Hp → (Nat → V → Hp → Prop) → Nat → Prop
structure GFn2 (P : Program) (w : World) (K : PySem.W.Frag) (mg : Str → Option Value) (base : Heap) (k : Nat) (f : Addr) (fd : FuncData) (ps : List Str) (sp : SpG2) : Prop where
  len : ∀ vs G Pi N, sp vs G Pi N → vs.length = ps.length
  run : ∀ (A : Around) (outer : List Env) (s : Shared) (H : Hp) (args : Args) (us : List Value) (vs : List V) (G : Hp) (Pi : Nat → V → Hp → Prop) (N : Nat), Room k A → Env0 P w K mg base A outer s H → BindsTo s fd args (ps.zip us) → Vals vs us → Ex G H → SimpleG G → sp vs G Pi N →
    codeAny (model P w) A (.call (.ref f) args) (fun r s' => match r with | .ok (.ret u) => GMade2 P w K mg base k outer s G Pi N u s' | _ => False) s
theorem gfn2_of {P : Program} {w : World} {K : PySem.W.Frag} {mg : Str → Option Value} {base : Heap} {k : Nat} {f : Addr} {name qual : Str} {params : Arguments} {body : List Stmt} {scope : Scope} {dV kV doc pm cdv ct oc : Value} {an od : Option Addr}
    {osl : Array (Option Value)} {Nn ps : List Str} {sp : SpG2} (lk : K.lookup f = some ⟨oc, od, .func (PySem.W.fnOf name qual params body scope dV kV doc pm an cdv ct), osl⟩) (hcd : PySem.W.codeIn K cdv qual = true) (S : GScope Nn ps scope)
    (nc : ∀ n x c, (envOfC qual scope n f cdv).cells.lookup x = some c → False)
    (len : ∀ vs G Pi N, sp vs G Pi N → vs.length = ps.length)
    (hbody : ∀ (A : Around) (outer : List Env) (N0 : Nat) (pn : List (Addr × Obj)) (vs : List V) (G : Hp) (Pi : Nat → V → Hp → Prop) (N : Nat), Room k (A.deeper (envOfC qual scope N0 f cdv)) → SimpleG G → sp vs G Pi N →
      ∃ t, GSs2 ⟨P, w, K, mg, base, Nn, qual, scope, f, cdv, A, outer, N0, pn⟩ G Pi body t ∧ t { nx := fun i _ H' => i = N ∧ Ex (core G) H', rt := fun i v H' => v = .non ∧ i = N ∧ Ex (core G) H' } 0 (start Nn vs) (core G)) :
    GFn2 P w K mg base (k + 1) f (PySem.W.fnOf name qual params body scope dV kV doc pm an cdv ct) ps sp := by
  refine ⟨len, fun A outer s H args us vs G Pi N hr e0 hb r eG hS hsp => ?_⟩
  have hl := len _ _ _ _ hsp
  have KX : K.In s.heap := e0.mod.kin.keeps fun b o e => (e0.bs b o e).1
  have lim : s.heap.NoLimit := e0.mod.nolimit.keeps fun b o e => (e0.bs b o e).1
  have hkind : ∀ y ∈ ps.zip us, scope.names.lookup y.1 = some .local ∨ (scope.names.lookup y.1 = some .cell ∧ ((cellsFrom (s.heap.objs.size + 1) scope.names []).lookup y.1).isSome = true) := fun ⟨n, v⟩ hy => by
    rcases S.par n (List.of_mem_zip hy).1 with q | q
    · exact .inl q
    · exact .inr ⟨q, PySem.W.cellsFrom_some _ _ _ (.inl q)⟩
  refine codeAny_call_generator hr.depth (KX _ _ lk) rfl S.co S.gen rfl (PySem.W.codeRec_of KX hcd) (hb _ _ _ _ ?_)
  refine wpAny_newFunctionEnv_cells S.kind hkind fun env he s1 x => ?_
  subst he
  have lim1 : s1.heap.NoLimit := lim.keeps x.toInCall.keep
  refine ⟨lim1, ?_⟩
  obtain ⟨h1, tk, es1, hk1⟩ := x.done
  have os1 : s1.os = s.os := by rw [es1]
  have gen1 : s1.gens = s.gens := by rw [es1]
  have lt1 : s.heap.objs.size < s1.heap.objs.size := x.toInCall.ns.lt
  have sz1 : s.heap.objs.size ≤ s1.heap.objs.size := Nat.le_of_lt lt1
  have kp1 : ∀ b o, s.heap.get? b = some o → s1.heap.get? b = some o := x.toInCall.keep
  have I1 : Inv (gcxOf P w K mg base Nn qual scope f cdv A outer s H (fun _ _ _ => False) []) [] (start Nn vs) H s1 := inv_startG S hr.hd e0 hl r x
  obtain ⟨m1, ⟨oL, es, ep, hoL, hdL, _⟩, _⟩ := id I1.loc
  have hoL : s1.heap.get? s.heap.objs.size = some oL := hoL
  have main : ∀ (go : Obj) (nm qn : Value) (tk2 : Nat), go.cls = .type "generator" → go.data = .fields #[.int s1.gens.size 0, nm, qn] → go.slots = #[] → (∀ h : Heap, (h.push go).get? h.objs.size = some go) →
      GMade2 P w K mg base (k + 1) outer s G Pi N (.ref s1.heap.objs.size) { s1 with gens := s1.gens.push (.fresh (.func body (envOfC qual scope s.heap.objs.size f cdv))), toks := tk2, heap := s1.heap.push go } := by
    intro go nm qn tk2 hgc hgd0 hgs hgp
    have hgen : ∀ h : Heap, h.get? s1.heap.objs.size = some go → h.IsGen s1.heap.objs.size s1.gens.size := fun h e => ⟨go, nm, qn, e, hgc, hgd0, hgs⟩
    have hpushed : (s1.heap.push go).get? s1.heap.objs.size = some go := hgp _
    have hgd : ∀ v, go.data ≠ .cell v := fun v q => by rw [hgd0] at q; cases q
    have kp2 : ∀ b o, s1.heap.get? b = some o → (s1.heap.push go).get? b = some o := fun b o e => Heap.get?_push_of_some _ e
    have bare2 : AllBare (s1.gens.push (.fresh (.func body (envOfC qual scope s.heap.objs.size f cdv)))) := AllBare.push (by rw [gen1]; exact e0.bare) rfl
    refine ⟨s1.heap.objs.size, s1.gens.size, _, go, oL, rfl, lt1, ?_, hpushed, hgen, hgd, Array.getElem?_push_size .., os1, bare2, fun b o e => kp2 b o (kp1 b o e), kp2 _ _ hoL, (fun v q => by rw [hdL] at q; cases q), ?_⟩
    · show _ < (s1.heap.push _).objs.size
      rw [Heap.size_push]; exact Nat.lt_succ_self _
    intro Aw hrw hfr
    have e0w : Env0 P w K mg base Aw outer s H := ⟨hfr, e0.mod, e0.bs, e0.bsz, e0.funs, e0.frf, e0.hok, e0.bare⟩
    refine ⟨⟨P, w, K, mg, base, Nn, qual, scope, f, cdv, Aw, outer, s.heap.objs.size, [(s1.heap.objs.size, go)]⟩, rfl, rfl, rfl, rfl, rfl, rfl, rfl, rfl, rfl, fun x c => nc _ x c, fun s2 hw => ?_⟩
    obtain ⟨t, ht, hq⟩ := hbody Aw outer s.heap.objs.size [(s1.heap.objs.size, go)] vs G Pi N (hrw.deeper _) hS hsp
    have J1 : Inv (gcxOf P w K mg base Nn qual scope f cdv Aw outer s H (fun _ _ _ => False) []) [] (start Nn vs) H s1 := inv_startG S hrw.hd e0w hl r x
    have J2 : Inv (gcxOf P w K mg base Nn qual scope f cdv Aw outer s H (fun _ _ _ => False) []) [] (start Nn vs) H { s1 with gens := s1.gens.push (.fresh (.func body (envOfC qual scope s.heap.objs.size f cdv))), toks := tk2, heap := s1.heap.push go } :=
      J1.call' (ch := []) rfl (Un.kept kp2) (J1.hok.kept kp2) bare2 fun b z => by simp at z
    have yn : H s1.heap.objs.size = none := J1.hok.fresh (Nat.le_refl _)
    have yf : s1.heap.objs.size ∉ frs outer := J1.nofs (Nat.le_refl _)
    let g : GP := ⟨P, w, K, mg, base, Nn, qual, scope, f, cdv, Aw, outer, s.heap.objs.size, [(s1.heap.objs.size, go)]⟩
    have J3 : Inv (g.X s H) ([] ++ []) (start Nn vs) H { s1 with gens := s1.gens.push (.fresh (.func body (envOfC qual scope s.heap.objs.size f cdv))), toks := tk2, heap := s1.heap.push go } :=
      ⟨⟨J2.ok.mod, J2.ok.kind, J2.ok.glob, J2.ok.blt, J2.ok.above, J2.ok.inj, J2.ok.has, J2.ok.cab, J2.ok.hd, J2.ok.frames, J2.ok.stk, J2.ok.exf, J2.ok.bs, J2.ok.bsz, J2.ok.noex, J2.ok.exfs, J2.ok.funs, J2.ok.frf⟩, J2.os, J2.bare, J2.base, J2.loc, J2.cell, J2.free, J2.freeC, fun p hp => (by
        have hp : p ∈ [(s1.heap.objs.size, go)] ++ ([] ++ []) := hp
        rw [List.append_nil] at hp
        rcases List.mem_append.mp hp with hp | hp
        · rw [List.mem_singleton.mp hp]
          exact ⟨hpushed, yn, Nat.ne_of_gt lt1, yf, hgd⟩
        · cases hp), J2.hok, J2.len⟩
    have r2 : GRun g G s2 [] (start Nn vs) (core G) s2 := by
      obtain ⟨X, pins, σc, H', hX, Ic, e⟩ := hw
      refine ⟨to_gen (g := g) (ip := []) hX Ic rfl J3 (kp2 _ _ hoL) e, (fun p hp => by cases hp), (fun p hp => by cases hp), (fun p hp => by cases hp), Nat.le_of_lt (Heap.lt_size (Ic.pin (g.N0, oL) (List.mem_append_right _ (List.mem_append_right _ List.mem_cons_self))).1)⟩
    refine seg_func ?_
    refine ht.run Aw [] _ sizeLine 0 s2 _ [] _ _ id id s2 (start Nn vs) (core G) _ ⟨over_func, rfl, rfl, rfl⟩ (Nat.add_zero _) ⟨fun n i s₀ s' fl hn hs => ?_, fun n s₀ e s' hx => ?_⟩ r2 hq
    · cases fl with
      | next =>
        obtain ⟨σ', H', hI, hN, hE⟩ := hs
        exact seg_end (.ok (.ret .none)) ⟨.inl rfl, [], σ', H', by rw [← hN]; exact hn, hI, hE⟩
      | brk => obtain ⟨_, _, _, q⟩ := hs; exact False.elim q
      | cont => obtain ⟨_, _, _, q⟩ := hs; exact False.elim q
      | ret u =>
        obtain ⟨v, σ', H', hI, rv, ev, hN, hE⟩ := hs
        subst ev
        have eu : u = Value.none := rv
        subst eu
        exact seg_end (.ok (.ret .none)) ⟨.inl rfl, [], σ', H', by rw [← hN]; exact hn, hI, hE⟩
    · refine seg_wrap ?_
      rw [over_func]
      exact wpAny_mono (show wpAny (model P w) (Aw.deeper (envOfC qual scope s.heap.objs.size f cdv)) (leaving (envOfC qual scope s.heap.objs.size f cdv) e) (fun _ _ => False) (fun _ _ => False) s' from hx) (fun _ s'' q => q.elim) fun _ s'' q => q.elim
  exact main _ _ _ _ rfl rfl rfl fun h => Heap.get?_push_size _ rfl
end Wm
end

section
/-! ## Generators that a loop walks: the loop -/
namespace Wm
open PySem PySem.Spec PyProof.Rows L2 GenW
open Sem (wp)
def goOn (M : Model) (B : Around) (Re : GenEnd) (Yp : Protocol) : Nat → GenState → Resume → Shared → Prop
  | 0 => fun _ _ _ => False
  | l + 1 => fun x r u => x.Goes M B Re Yp l r u
/-- waking, told that it sleeps again behind a yield -/
theorem resumeS {M : Model} {B : Around} {Re : GenEnd} {Yp : Protocol} {m j : Nat} {Ee : Value → Shared → Prop} {u : Shared} {x : GenState} {rs : Resume} {ls : List Value} {α : Type} {kk : GenResult → Sem α} {Qa : α → Shared → Prop}
    (hx : u.gens[j]? = some x) (go : x.Goes M B Re Yp m rs (u.setGen j .running))
    (hEnd : ∀ y u1, Re m (u.setGen j .running) y u1 → wpAny M B (kk (End.ret y).result) Qa Ee (u1.setGen j .finished))
    (hOut : ∀ v u1 x', isSusp x' → x'.bare = true → Yp (m - 1) (u.setGen j .running) v u1 (goOn M B Re Yp m x') → wpAny M B (kk (.yielded v)) Qa Ee (u1.setGen j x')) :
    wpAny M B (.resume j rs ls kk) Qa Ee u := by
  intro Γ p hΓ
  rw [Sem.wp_resume]
  have low : ∀ c, (Γ.wake c p).Woken B := fun c => hΓ.wake c p
  have fin : ∀ e1 u1, SegEnd Re Yp m (Seg.next M B Re Yp m) (u.setGen j .running) e1 u1 → e1.quiet = true ∧ wp M Γ (kk e1.result) (fun a _ s' => Qa a s') (fun e _ s' => Ee e s') p (u1.setGen j e1.genState) := by
    intro e1 u1 he
    cases e1 with
    | ret y => exact ⟨rfl, hEnd y u1 he Γ p hΓ⟩
    | susp v g0 l0 k0 c0 p0 fs0 =>
      refine ⟨he.1, hOut v u1 (End.susp v g0 l0 k0 c0 p0 fs0).genState True.intro (End.bare_of_quiet he.1) ?_ Γ p hΓ⟩
      cases m with
      | zero => exact he.2
      | succ l => exact he.2
  cases x with
  | fresh c =>
    obtain ⟨er, hs⟩ := go
    subst er
    obtain ⟨e1, u1, hr, he⟩ := seg_iff.mp hs (Γ.wake c p) p rfl (low c)
    exact ⟨_, _, by unfold Wakes; rw [hx]; exact ⟨e1, u1, hr, (fin e1 u1 he).1, rfl, rfl⟩, (fin e1 u1 he).2⟩
  | suspended k0 l0 c0 p0 fs0 cl =>
    obtain ⟨e1, u1, hr, he⟩ := seg_iff.mp go (Γ.wake c0 p) p0 rfl (low c0)
    exact ⟨_, _, by unfold Wakes; rw [hx]; exact ⟨e1, u1, hr, (fin e1 u1 he).1, rfl, rfl⟩, (fin e1 u1 he).2⟩
  | running => exact go.elim
  | finished => exact go.elim
theorem nextZ {P : Program} {w : World} {B : Around} {Ee : Value → Shared → Prop} {u : Shared} {a : Addr} {j m : Nat} {x : GenState} {F : Nat → Shared → Shared → Prop} {Yp : Protocol} {Qa : Option Value → Shared → Prop} (hh : B.handled = none)
    (hl : u.heap.NoLimit) (hroom : B.depth < recursionLimit) (ha : u.heap.IsGen a j) (hx : u.gens[j]? = some x)
    (go : x.Goes (model P w) B.in1 (fun m u0 r u1 => (r = .ok (.ret .none) ∨ r = .ok .next) ∧ F m u0 u1) Yp m (.send .none) (u.setGen j .running))
    (hOut : ∀ v u1 x', isSusp x' → x'.bare = true → Yp (m - 1) (u.setGen j .running) v u1 (goOn (model P w) B.in1 (fun m u0 r u1 => (r = .ok (.ret .none) ∨ r = .ok .next) ∧ F m u0 u1) Yp m x') → Qa (some v) (u1.setGen j x'))
    (hEnd : ∀ u1, F m (u.setGen j .running) u1 → ∀ h', (∀ b o, u1.heap.get? b = some o → h'.get? b = some o) → Qa none { u1.setGen j .finished with heap := h' }) :
    wpAny (model P w) B (pyNext (.ref a)) Qa Ee u := by
  unfold pyNext
  refine wpAny_bind (wpAny_attempt (wpAny_callSpecial?_slot (name := Str.ofString "__next__") ha.typeIs slot_gen_next (wpAny_call_entry slot_gen_next ha.typeIs entry_gen_next ?_ (args_gen_next _))))
  show wpAny _ B.in1 (Builtin.Generator.genWake (.ref a) (.send .none)) _ _ u
  unfold Builtin.Generator.genWake
  refine wpAny_bind (wpAny_holding (wpAny_genNumber ha (wpAny_bind (wpAny_genState hx ?_))))
  cases x with
  | running => exact go.elim
  | finished => exact go.elim
  | _ =>
    refine wpAny_bind (wpAny_roomToWake hl hroom ?_)
    show wpAny _ B.in1 (.resume j (.send .none) [] _) _ _ u
    refine resumeS hx go (fun y u1 hy => ?_) (fun v u1 x' hs hb hv => ?_)
    · obtain ⟨hr, hp⟩ := hy
      have hres : End.result (.ret y) = .returned .none := by
        rcases hr with hr | hr <;> rw [hr] <;> rfl
      first | rw [hres] | simp only [hres]
      show wpAny _ B.in1 (newExc (.type "StopIteration") [] >>= _) _ _ _
      refine wpAny_bind ?_
      simp only [newExc, newTuple]
      refine wpAny_bind (wpAny_newObj_type ?_ (by size_fits))
      refine wpAny_bind (m := firstArgMember _ _) (wpAny_of_eq (a := Value.none) (by first | rfl | (simp only [firstArgMember]; rfl)) ?_)
      refine wpAny_newObj_type ?_ (by size_fits)
      simp only [raiseNew]
      refine wpAny_bind (wpAny_bind (wpAny_handled ?_))
      first | rw [show B.in1.handled = none from hh] | rw [hh]
      refine wpAny_throw ?_
      refine wpAny_bind (wpAny_isInstance (T := "StopIteration") (b := true) ⟨_, Heap.get?_push_size _ rfl, rfl⟩ isSubtype_stop ?_)
      exact wpAny_pure (hEnd u1 hp _ fun b o hb => Heap.get?_push_of_some _ (Heap.get?_push_of_some _ hb))
    · exact wpAny_pure ⟨v, rfl, wpAny_pure (hOut v u1 x' hs hb hv)⟩
/-- what a loop X has is older than its generator -/
structure Old (g : GP) (Ds : List Addr) (X : Cx) (pins : List (Addr × Obj)) : Prop where
  fs : ∀ b ∈ X.fs, b < g.N0
  cc : ∀ x c, X.env.cells.lookup x = some c → c < g.N0
  ex : ∀ b, g.N0 ≤ b → b ∉ Ds → b ∈ X.ex ∨ X.s_0.heap.objs.size ≤ b
  pins : ∀ q ∈ X.pn ++ pins, q.1 < g.N0
  fz : ∀ b o u, X.H_0 b = some (.frz o u) → b < g.N0
/-- it waits to be woken; i items are out -/
def Slp (g : GP) (G : Hp) (Pi : Nat → V → Hp → Prop) (N gi i : Nat) (ip : List (Addr × Obj)) (oL : Obj) (s : Shared) : Prop :=
  ∃ n gs, s.gens[gi]? = some gs ∧ n + i = sizeLine ∧ (0 < i → isSusp gs) ∧ ∀ s', Woken g G ip oL s' → gs.Goes (model g.P g.w) g.A (GR2 g G N) (GY2 g G Pi) n (.send .none) s'
/-- the generator g at a, seen from the loop X -/
structure GSt (g : GP) (G : Hp) (Pi : Nat → V → Hp → Prop) (N gi : Nat) (a : Addr) (Ds : List Addr) (X : Cx) (pins : List (Addr × Obj)) : Prop where
  hX : Holds g X
  A : g.A = X.A.in1
  old : Old g Ds X pins
  gen : ∀ h : Heap, (∀ p ∈ g.pn, h.get? p.1 = some p.2) → h.IsGen a gi
  lt : ∀ b o, G b = some o → b < g.N0
  dp : X.A.depth < recursionLimit
  pn : ∀ p ∈ g.pn, g.N0 < p.1
structure Lp (g : GP) (G : Hp) (Pi : Nat → V → Hp → Prop) (N gi : Nat) (Ds : List Addr) (X : Cx) (pins : List (Addr × Obj)) (i : Nat) (σ : L2.St) (H : Hp) (s : Shared) : Prop where
  ex : ∃ ip oL, Inv X (pins ++ ((g.N0, oL) :: (g.pn ++ ip))) σ H s ∧ Ex G H ∧ (∀ p ∈ ip, g.N0 < p.1) ∧ Slp g G Pi N gi i ip oL s
  ds : ∀ b ∈ Ds, ∃ xs, H b = some (.lst xs)
/-- what is known still: of old objects all, of young ones those that are no iterators -/
def Kp (N0 : Nat) (H H' : Hp) : Prop := ∀ b o, H b = some o → (b < N0 ∨ plainK o = true) → H' b = some o
theorem allBare_set {s : Shared} {g : Nat} {x : GenState} (h : AllBare s.gens) (hx : x.bare = true) : AllBare (s.setGen g x).gens := allBare_setGen h hx
section
variable {g : GP} {G : Hp} {Pi : Nat → V → Hp → Prop} {N gi i : Nat} {a : Addr} {Ds : List Addr} {X : Cx} {pins : List (Addr × Obj)} {σ : L2.St} {H : Hp} {s : Shared} {E : Value → Shared → Prop}
theorem nextL (st : GSt g G Pi N gi a Ds X pins) (hc : X.calm = true) (L : Lp g G Pi N gi Ds X pins i σ H s) :
    wpAny (model X.prog X.w) X.A (pyNext (.ref a)) (fun r s1 => match r with
      | none => i = N ∧ ∃ H', Inv X pins σ H' s1 ∧ Kp g.N0 H H'
      | some v => ∃ x H1 H', RelV x v ∧ Pi i x H1 ∧ Ex (core G) H1 ∧ Ex H1 H' ∧ Kp g.N0 H H' ∧ Lp g G Pi N gi Ds X pins (i + 1) σ H' s1) E s := by
  obtain ⟨ip, oL, I, eG, hip, n, gs, hgs, hn, _, goes⟩ := L.ex
  have hX := st.hX
  have hgl : gi < s.gens.size := (Array.getElem?_eq_some_iff.mp hgs).1
  have pinG : ∀ p ∈ g.pn, s.heap.get? p.1 = some p.2 := fun p hp => (I.pin p (List.mem_append_right _ (List.mem_append_right _ (List.mem_cons_of_mem _ (List.mem_append_left _ hp))))).1
  -- the woken state
  have I0 : Inv X (pins ++ ((g.N0, oL) :: (g.pn ++ ip))) σ (cut g.N0 s.heap H) (s.setGen gi .running) := inv_gens (inv_cut (N0 := g.N0) I st.old.fz) (allBare_set I.bare rfl)
  have e0 : Ex G (cut g.N0 s.heap H) := fun b o q => cut_at (eG b o q) (.inl (st.lt b o q))
  have nc : NoSoft g.N0 (cut g.N0 s.heap H) (s.setGen gi .running).heap := cut_no
  have kp : ∀ H1 : Hp, Kp g.N0 H (merge g.N0 (s.setGen gi .running).heap (cut g.N0 s.heap H) H1) := fun H1 b o q hk => by
    refine merge_ex b o (cut_at q ?_)
    rcases hk with z | z
    · exact .inl z
    · exact .inr (plain_cell (I.hok b o q) z)
  have back' : ∀ {ip' : List (Addr × Obj)} {σ' : L2.St} {H1 : Hp} {s1 : Shared}, GRun g G (s.setGen gi .running) ip' σ' H1 s1 → Ex (core G) H1 → ∃ oL', s1.heap.get? g.N0 = some oL' ∧ Inv X (pins ++ ((g.N0, oL') :: (g.pn ++ ip'))) σ (merge g.N0 (s.setGen gi .running).heap (cut g.N0 s.heap H) H1) s1 ∧ Ex H1 (merge g.N0 (s.setGen gi .running).heap (cut g.N0 s.heap H) H1) := fun {ip' σ' H1 s1} r ex => by
    refine back hX (ip := ip) e0 st.old.fs st.old.cc (fun b hb hn => st.old.ex b hb fun hm => by obtain ⟨xs, q⟩ := L.ds b hm; rw [cut_at q (.inr (plain_cell (I.hok b _ q) rfl))] at hn; cases hn) I0 st.old.pins (fun p hp => ?_) nc r.inv ex r.dis r.old
    rcases List.mem_append.mp hp with z | z
    · exact st.pn p z
    · exact hip p z
  have go0 : gs.Goes (model X.prog X.w) X.A.in1 (fun n s₀ r s₁ => (r = .ok (.ret .none) ∨ r = .ok .next) ∧ ∃ ip σ H, n + N = sizeLine ∧ GRun g G s₀ ip σ H s₁ ∧ Ex (core G) H) (GY2 g G Pi) n (.send .none) (s.setGen gi .running) := by
    have := goes (s.setGen gi .running) ⟨X, pins, σ, _, hX, I0, e0⟩
    rw [st.A, ← hX.P, ← hX.w] at this
    exact this
  refine wpAny_gsz (n := gi + 1) hgl (nextZ (I.ok.hd hc) I.nolimit st.dp (st.gen _ pinG) hgs go0 (fun v s1 gs' hsu hb hy => ?_) (fun s1 hF h' hk => ?_))
  · intro hsz
    obtain ⟨i', x, ip', σ', H1, oL', hn', rv, hp, ex1, r1, hL1, hk⟩ := hy
    obtain ⟨oL'', hL'', I1, e1⟩ := back' r1 ex1
    rw [hL1] at hL''
    cases hL''
    have wk : ∀ s', Inv X (pins ++ ((g.N0, oL') :: (g.pn ++ ip'))) σ (merge g.N0 (s.setGen gi .running).heap (cut g.N0 s.heap H) H1) s' → Woken g G ip' oL' s' := fun s' I' => ⟨X, pins, σ, _, hX, I', e0.trans merge_ex⟩
    cases n with
    | zero => exact (hk s1 (wk s1 I1)).elim
    | succ m =>
      have ei : i' = i := by omega
      subst ei
      refine ⟨x, H1, _, rv, hp, ex1, e1, kp H1, ⟨ip', oL', inv_gens I1 (allBare_set I1.bare hb), e0.trans merge_ex, r1.old, m, gs', setGen_at ?_, by omega, fun _ => hsu, fun s' w => ?_⟩, fun b hb => by obtain ⟨xs, q⟩ := L.ds b hb; exact ⟨xs, kp H1 b _ q (.inr rfl)⟩⟩
      · have q : (s1.setGen gi gs').gens.size = s1.gens.size := setGen_size _ _ _
        have hsz' : gi + 1 ≤ (s1.setGen gi gs').gens.size := hsz
        omega
      · have := hk s' w
        rw [st.A, ← hX.P, ← hX.w]
        exact this
  · intro hsz
    obtain ⟨ip', σ', H1, hN, r1, ex1⟩ := hF
    obtain ⟨oL'', hL'', I1, e1⟩ := back' r1 ex1
    have I2 : Inv X pins σ (merge g.N0 (s.setGen gi .running).heap (cut g.N0 s.heap H) H1) s1 := I1.unpinned
    have I3 := inv_gens (g := (s1.setGen gi .finished).gens) I2 (allBare_set I2.bare rfl)
    exact ⟨by omega, _, I3.kept (t' := s1.toks) hk, kp H1⟩
end
end Wm
end

section
/-! ## for over a generator -/
namespace Wm
open PySem PySem.Spec PyProof.Rows L2 GenW
/-- an expression whose value is a generator that has not begun: the heap that it knows, its items, how many -/
abbrev TGen2 := L2.St → Hp → (Hp → (Nat → V → Hp → Prop) → Nat → Hp → Prop) → Prop
structure PGen2 (X : Cx) (k : Nat) (e : Expr) (tg : TGen2) : Prop where
  run : ∀ (pins : List (Addr × Obj)) (s : Shared) (σ : L2.St) (H : Hp) (cont : Hp → (Nat → V → Hp → Prop) → Nat → Hp → Prop), Inv X pins σ H s → tg σ H cont → wpAny (model X.prog X.w) X.A (eval e X.env)
    (fun u s' => ∃ H1 sc G Pi N, Inv X pins σ H1 sc ∧ Ex G H1 ∧ GMade2 X.prog X.w X.K X.mg X.base k X.stack sc G Pi N u s' ∧ cont G Pi N H1) X.xe s
section
variable {X : Cx} {k : Nat} {f C : Addr} {fd : FuncData} {ps : List Str} {sp : SpG2} {dvs : List V} {ds : List Value} {x m : Str} {p pos pos' apos : Pos} {o : Expr} {ta : TE}
theorem run_gfn2 {pins : List (Addr × Obj)} {σ : L2.St} {H G : Hp} {s : Shared} {us : List Value} {vs : List V} {Pi : Nat → V → Hp → Prop} {N : Nat} {E1 : Value → Shared → Prop} (F : GFn2 X.prog X.w X.K X.mg X.base k f fd ps sp) (hr : Room k X.A) (hb : Binds X.K fd ps ds) (hd : Vals dvs ds)
    (I : Inv X pins σ H s) (r : Vals vs us) (eG : Ex G H) (hS : SimpleG G) (h : sp (vs ++ dvs) G Pi N) {cont : Hp → (Nat → V → Hp → Prop) → Nat → Hp → Prop} (hc : cont G Pi N H) :
    wpAny (model X.prog X.w) X.A (call (.ref f) us) (fun u s' => ∃ H1 sc G Pi N, Inv X pins σ H1 sc ∧ Ex G H1 ∧ GMade2 X.prog X.w X.K X.mg X.base k X.stack sc G Pi N u s' ∧ cont G Pi N H1) E1 s := by
  have r2 : Vals (vs ++ dvs) (us ++ ds) := r.append hd
  have hl2 : (us ++ ds).length = ps.length := by rw [← r2.length]; exact F.len _ _ _ _ h
  refine wpAny_call (codeAny_mono (F.run X.A X.stack s H ⟨us, []⟩ (us ++ ds) (vs ++ dvs) G Pi N hr I.env0 (hb s us I.kIn hl2) r2 eG hS h) fun r s' hq => ?_)
  cases r with
  | error e => exact False.elim hq
  | ok fl =>
    cases fl with
    | ret u => exact ⟨H, s, G, Pi, N, I, eG, hq, hc⟩
    | next => exact False.elim hq
    | brk => exact False.elim hq
    | cont => exact False.elim hq
/-- what a generator is promised to be, chosen with the simple heap that it knows -/
def rG2 (sp : SpG2) (vs : List V) (H : Hp) (cont : Hp → (Nat → V → Hp → Prop) → Nat → Hp → Prop) : Prop := ∃ G Pi N, Ex G H ∧ SimpleG G ∧ sp vs G Pi N ∧ cont G Pi N H
def tMeth2 (C : Addr) (m : Str) (sp : SpG2) (dvs : List V) (ta : TE) (t : TA) : TGen2 := fun σ H cont => ta σ H fun x H1 => ∃ a dx fs, x = .ref a ∧ H1 a = some (.ins C dx fs) ∧ fs.lookup m = none ∧
  t σ H1 fun vs H2 => rG2 sp (x :: (vs ++ dvs)) H2 cont
/-- o.m(e, ..) of a generator method -/
theorem pgen2_meth {pl : Sem Bool} {e : Expr} {es : List Expr} {t : TA} (he : PE X o ta) (c : Cls X.K C) (hm : Meth X.K C m f) (F : GFn2 X.prog X.w X.K X.mg X.base k f fd ps sp) (hr : Room k X.A) (hb : Binds X.K fd ps ds) (hd : Vals dvs ds) (ha : PA X (e :: es) t)
    (hst : starEach (e :: es) X.env = (false, eval e X.env) :: starEach es X.env := by rfl) (hpl : (backTo pos' (starEach es X.env)).any (·.1) = false := by rfl)
    (ht : eval (.Call (.Attribute o m apos) (e :: es) [] pos') X.env = (do
      let ov ← eval o X.env
      standAt apos.atName
      let (f, first) ← holding [ov] (getMethod ov m pl)
      callWith pos' f first (backTo pos' (starEach (e :: es) X.env)) (backToKw pos' (keywordEach [] X.env))) := by rfl) :
    PGen2 X k (.Call (.Attribute o m apos) (e :: es) [] pos') (tMeth2 C m sp dvs ta t) := by
  refine ⟨fun pins s σ H cont I h => ?_⟩
  refine PySem.W.methodCall_KW (pl := pl) (thn (he.run pins s σ H _ I h) fun u s1 ⟨x, H1, I1, rx, a, dx, fs, ex, ea, l, q⟩ => ?_) ht
  subst ex
  obtain rfl : u = Value.ref a := rx
  refine getmeth_ok I1 ea c hm l ?_
  refine PySem.W.callWith_K (first := [.ref a]) (h₀ := X.base) I.ok.mod.kin hm.kp (thn (ha.run pos' pins s1 σ H1 _ I1 q) fun us s2 ⟨vs, H2, I2, r, G, Pi, N, eG, hS, q2, hc⟩ => ⟨I2.kIn, ?_⟩) hst hpl
  exact run_gfn2 (us := .ref a :: us) (vs := .ref a :: vs) F hr hb hd I2 (.cons rfl r) eG hS q2 hc
def tCall2 (sp : SpG2) (dvs : List V) (t : TA) : TGen2 := fun σ H cont => t σ H fun vs H1 => rG2 sp (vs ++ dvs) H1 cont
/-- f(e, ..) of a generator def -/
theorem pgen2_call {e : Expr} {es : List Expr} {t : TA} (F : GFn2 X.prog X.w X.K X.mg X.base k f fd ps sp) (hr : Room k X.A) (hg : Gl X x) (hm : X.mg x = some (.ref f)) (hk : PySem.W.keepIn X.K (.ref f) = true) (hb : Binds X.K fd ps ds) (hd : Vals dvs ds)
    (ha : PA X (e :: es) t) (hdb : (x == ("__debug__" : Str)) = false := by decide) (he : starEach (e :: es) X.env = (false, eval e X.env) :: starEach es X.env := by rfl) (hpl : (backTo pos' (starEach es X.env)).any (·.1) = false := by rfl) :
    PGen2 X k (.Call (.Name x p) (e :: es) [] pos') (tCall2 sp dvs t) := by
  refine ⟨fun pins s σ H cont I h => ?_⟩
  refine wpAny_Call_Name_kw (ld_glob I hg hm ?_ hdb)
  refine PySem.W.callWith_K (h₀ := X.base) I.ok.mod.kin hk (thn (ha.run pos' pins s σ H _ I h) fun us s1 ⟨vs, H1, I1, r, G, Pi, N, eG, hS, q, hc⟩ => ⟨I1.kIn, ?_⟩) he hpl
  exact run_gfn2 F hr hb hd I1 r eG hS q hc
end
/-- a generator has been made -/
structure Made (g : GP) (G : Hp) (Pi : Nat → V → Hp → Prop) (N gi : Nat) (a : Addr) (go oL : Obj) (X : Cx) (sc s' : Shared) : Prop where
  hX : Holds g X
  A : g.A = X.A.in1
  n0 : g.N0 = sc.heap.objs.size
  pn : g.pn = [(a, go)]
  lt1 : g.N0 < a
  lt2 : a < s'.heap.objs.size
  ga : s'.heap.get? a = some go
  gL : s'.heap.get? g.N0 = some oL
  nca : ∀ v, go.data ≠ .cell v
  ncL : ∀ v, oL.data ≠ .cell v
  gen : ∀ h : Heap, h.get? a = some go → h.IsGen a gi
  slp : ∀ s2 : Shared, s2.gens = s'.gens → Slp g G Pi N gi 0 [] oL s2
  os : s'.os = sc.os
  bare : AllBare s'.gens
  keep : ∀ b o, sc.heap.get? b = some o → s'.heap.get? b = some o
section
variable {X : Cx} {k : Nat} {pins : List (Addr × Obj)} {σ : L2.St} {H G : Hp} {sc s' : Shared} {Pi : Nat → V → Hp → Prop} {N : Nat} {u : Value}
theorem made_of (I : Inv X pins σ H sc) (hr : Room (k + 1) X.A) (m : GMade2 X.prog X.w X.K X.mg X.base k X.stack sc G Pi N u s') : ∃ a gi g go oL, u = .ref a ∧ Made g G Pi N gi a go oL X sc s' := by
  obtain ⟨a, gi, c, go, oL, eu, l1, l2, ga, gen, nca, hgs, os, bare, kp, gL, ncL, wake⟩ := m
  obtain ⟨g, e1, e2, e3, e4, e5, e6, e7, e8, e9, cells, seg⟩ := wake X.A.in1 hr.in1 I.ok.frames
  refine ⟨a, gi, g, go, oL, eu, ⟨⟨e1.symm, e2.symm, e3.symm, e4.symm, e5.symm, e6.symm, by rw [e7, e6]; exact I.ok.frames, cells⟩, e7, e8, e9, by rw [e8]; exact l1, l2, ga, by rw [e8]; exact gL, nca, ncL, gen, fun s2 hs2 => ?_, os, bare, kp⟩⟩
  refine ⟨sizeLine, .fresh c, by rw [hs2]; exact hgs, rfl, fun z => absurd z (Nat.lt_irrefl _), fun s3 w => ⟨rfl, ?_⟩⟩
  have := seg s3 w
  rw [e1, e2, e7]
  exact this
theorem lt_of_ok {P : Program} {w : World} {H : Hp} {h : Heap} (ok : HOk P w H h) {b : Addr} {o : HO} (q : H b = some o) : b < h.objs.size := by
  obtain ⟨u, e⟩ := ok_there (ok b o q)
  exact Heap.lt_size e
/-- in the def that called it -/
theorem start_loop {g : GP} {gi : Nat} {a : Addr} {go oL : Obj} (I : Inv X pins σ H sc) (hr : Room (k + 1) X.A) (m : Made g G Pi N gi a go oL X sc s') (eG : Ex G H) : GSt g G Pi N gi a [] X pins ∧ Lp g G Pi N gi [] X pins 0 σ H s' := by
  have l1 : g.N0 < a := m.lt1
  have n0 := m.n0
  have fl : ∀ b ∈ X.fs, b < g.N0 := fun b hb => by
    obtain ⟨_, o, ho, _⟩ := I.funs.mem hb
    rw [n0]; exact Heap.lt_size ho
  have pl : ∀ q ∈ X.pn ++ pins, q.1 < g.N0 := fun q hq => by
    rw [n0]; exact Heap.lt_size (I.pin q hq).1
  have cl : ∀ x c, X.env.cells.lookup x = some c → c < g.N0 := fun x c e => by
    obtain ⟨v, z⟩ := I.cell x c e
    rw [n0]; exact z.lt
  refine ⟨⟨m.hX, m.A, ⟨fl, cl, fun b hb _ => .inr (Nat.le_trans I.sz (by rw [n0] at hb; exact hb)), pl, fun b o u q => ?_⟩, fun h hp => m.gen h (hp (a, go) (by rw [m.pn]; exact List.mem_singleton.mpr rfl)), fun b o q => ?_, hr.depth, fun p hp => ?_⟩, ⟨⟨[], oL, ?_, eG, fun p hp => (by cases hp), m.slp s' rfl⟩, fun b hb => (by cases hb)⟩⟩
  · rw [n0]; exact lt_of_ok I.hok (I.base.frzs b o u q)
  · rw [n0]; exact lt_of_ok I.hok (eG b o q)
  · rw [m.pn] at hp
    rw [List.mem_singleton.mp hp]; exact l1
  · have I1 : Inv X pins σ H s' := I.call' (ch := []) m.os (Un.kept m.keep) (I.hok.kept m.keep) m.bare fun b z => (by cases z)
    have pin : ∀ (b : Addr) (o : Obj), g.N0 ≤ b → s'.heap.get? b = some o → (∀ v, o.data ≠ .cell v) → s'.heap.get? (b, o).1 = some (b, o).2 ∧ H (b, o).1 = none ∧ (b, o).1 ≠ X.env.locals ∧ (b, o).1 ∉ X.fs ∧ ∀ v, (b, o).2.data ≠ .cell v := fun b o hb e nc =>
      ⟨e, I.hok.fresh (by rw [n0] at hb; exact hb), Nat.ne_of_gt (Nat.lt_of_lt_of_le I.lt (by rw [n0] at hb; exact hb)), fun z => absurd (Nat.lt_of_lt_of_le (fl b z) hb) (Nat.lt_irrefl _), nc⟩
    refine I1.pins_of fun p hp => ?_
    rcases List.mem_append.mp hp with z | z
    · exact I1.pin p (List.mem_append_right _ z)
    · rcases List.mem_cons.mp z with z | z
      · rw [z]; exact pin g.N0 oL (Nat.le_refl _) m.gL m.ncL
      · rw [m.pn, List.append_nil] at z
        rw [List.mem_singleton.mp z]; exact pin a go (Nat.le_of_lt l1) m.ga m.nca
end
/-- what is known still of what was known: of what was known at the loop's begin all, of later things those that are no iterators -/
def KpH (H0 H H' : Hp) : Prop := ∀ b o, H b = some o → ((∃ u, H0 b = some u) ∨ plainK o = true) → H' b = some o
/-- for target in g: body; W by the items that are out -/
def tForG (tg : TGen2) (gt : TG) (tb : TS) : TS := fun D σ H => tg σ H fun G Pi N H1 => ∃ W : Nat → L2.St → Hp → Prop, W 0 σ H1 ∧ (∀ i σ H, W i σ H → Ex G H) ∧ (∀ σ H H', W N σ H → KpH H1 H H' → D.nx σ H') ∧
  ∀ i σ H x Hg H', W i σ H → Pi i x Hg → Ex (core G) Hg → Ex Hg H' → KpH H1 H H' → gt x σ H' fun σ2 H2 => tb { D with nx := W (i + 1), ct := W (i + 1), bk := D.nx } σ2 H2
theorem inv_step {X : Cx} {g : GP} {G : Hp} {Pi : Nat → V → Hp → Prop} {N gi i : Nat} {Ds : List Addr} {pins : List (Addr × Obj)} {σ2 : L2.St} {H2 : Hp} {s1 s2 : Shared} {ip : List (Addr × Obj)} {oL : Obj}
    (I2 : Inv X (pins ++ ((g.N0, oL) :: (g.pn ++ ip))) σ2 H2 s2) (eG : Ex G H2) (hip : ∀ p ∈ ip, g.N0 < p.1) (sl : Slp g G Pi N gi i ip oL s1) (hi : 0 < i) (kp : Kept (Sleeps s1) s1 s2) (ds : ∀ b ∈ Ds, ∃ xs, H2 b = some (.lst xs)) : Lp g G Pi N gi Ds X pins i σ2 H2 s2 := by
  refine ⟨⟨ip, oL, I2, eG, hip, ?_⟩, ds⟩
  obtain ⟨n, gs, hgs, hn, hsu, go⟩ := sl
  exact ⟨n, gs, by rw [kp gi ⟨gs, hgs, hsu hi⟩]; exact hgs, hn, hsu, go⟩
theorem gen_go {M : Model} {A : Around} {E : Value → Shared → Prop} {s : Shared} {tg : Expr} {a : Addr} {gi : Nat} {u : Value} {Q : Unit → Shared → Prop} (h : s.heap.IsGen a gi) (hQ : Q () s) : wpAny M A (letOwnedTupleGo tg (.ref a) u) Q E s := by
  obtain ⟨o, nm, qn, ho, hc, hd, _⟩ := h
  exact go_of ho hc hd (by decide) hQ
theorem ps_forG {X : Cx} {k : Nat} {tg iter : Expr} {body : List Stmt} {tgen : TGen2} {gt : TG} {tb : TS} {pos : Pos} (hxe : ∀ e s, X.xe e s → False) (hc : X.calm = true) (hr : Room (k + 1) X.A) (hi : PGen2 X k iter tgen) (hg : PG X tg gt) (hb : PSs X body tb)
    (hs : ∀ x, foldedSetIterable iter X.env x = pure x := by intro _; rfl) : PS X (.For tg iter body [] pos) (tForG tgen gt tb) := by
  refine ⟨fun pins s σ H D I h => ?_⟩
  have noE : ∀ {α : Type} {t : Sem α} {Q Q' : α → Shared → Prop} {E : Value → Shared → Prop} {s : Shared}, wpAny (model X.prog X.w) X.A t Q X.xe s → (∀ a s, Q a s → Q' a s) → wpAny (model X.prog X.w) X.A t Q' E s := fun h hQ => wpAny_mono h hQ fun e s z => (hxe e s z).elim
  refine wpAny_For (thn (hi.run pins s σ H _ I h) fun u s' ⟨H1, sc, G, Pi, N, I1, eG, md, W, w0, wE, wN, step⟩ => ?_) hs
  obtain ⟨a, gi, g, go, oL0, rfl, m⟩ := made_of I1 hr md
  obtain ⟨st, L0⟩ := start_loop I1 hr m eG
  have n0 := m.n0
  refine wpAny_pyIter_gen (m.gen _ m.ga) ?_
  have kph : ∀ {H H' : Hp}, Kp g.N0 H H' → KpH H1 H H' := fun {H H'} kp b o q hk => kp b o q (hk.imp (fun ⟨u, z⟩ => by rw [n0]; exact lt_of_ok I1.hok z) id)
  refine codeAny_forLoop_any (fun n s' => ∃ i σ' H', n + i = sizeLine + 1 ∧ Lp g G Pi N gi [] X pins i σ' H' s' ∧ W i σ' H') ?_ (sizeLine + 1) ⟨0, σ, H1, rfl, L0, w0⟩
  rintro n s3 ⟨i, σ3, H3, hn, L3, w3⟩
  refine wpAny_mono (nextL (E := fun _ _ => False) st hc L3) (fun r s4 h4 => ?_) fun _ _ z => z.elim
  cases r with
  | none =>
    obtain ⟨ei, H', I4, kp⟩ := h4
    subst ei
    exact wpAny_execs_nil ⟨σ3, H', I4, wN _ _ _ w3 (kph kp)⟩
  | some v =>
    obtain ⟨x, Hg, H4, rv, hp, eg, e4, kp, L4⟩ := h4
    obtain ⟨ip, oL, I4, eG4, hip, sl⟩ := L4.ex
    have gn : s4.heap.IsGen a gi := st.gen _ fun p hp => (I4.pin p (List.mem_append_right _ (List.mem_append_right _ (List.mem_cons_of_mem _ (List.mem_append_left _ hp))))).1
    refine gen_go gn ?_
    have J4 : Inv X (pins ++ ((g.N0, oL) :: (g.pn ++ ip))) σ3 H4 (dullAll s4) := inv_dull I4
    have stp := step i σ3 H3 x Hg H4 w3 hp eg e4 (kph kp)
    have r1 := hg.run _ (dullAll s4) σ3 H4 x v _ J4 rv stp
    refine noE (asleep (X := X) (fun D e s' u' _ z => (hxe e s' z).elim) r1) fun _ s5 h5 => ?_
    obtain ⟨s5', rel5, kept5, σ5, H5, I5, q5⟩ := h5
    have r2 := wpAny_dull rel5 (hb.run _ s5' σ5 H5 _ I5 q5)
    refine wpAny_mono r2 (fun f s6 h6 => ?_) fun e s6 ⟨s6', _, _, z⟩ => (hxe e s6' z).elim
    obtain ⟨s6', rel6, kept6, q6⟩ := h6
    have kept : Kept (Sleeps s4) s4 s6 := fun i di => (kept6 i di).trans (kept5 i di)
    have again : ∀ {σ7 : L2.St} {H7 : Hp}, Inv X (pins ++ ((g.N0, oL) :: (g.pn ++ ip))) σ7 H7 s6' → W (i + 1) σ7 H7 → ∃ m, m < n ∧ ∃ i σ' H', m + i = sizeLine + 1 ∧ Lp g G Pi N gi [] X pins i σ' H' s6 ∧ W i σ' H' := fun {σ7 H7} I7 w7 => by
      have hm : i + 1 ≤ sizeLine := by
        obtain ⟨m', _, _, hm, _⟩ := sl
        omega
      exact ⟨sizeLine - i, by omega, i + 1, σ7, H7, by omega, inv_step (inv_rel I7 rel6) (wE _ _ _ w7) hip sl (Nat.succ_pos _) kept (fun b hb => by cases hb), w7⟩
    cases f with
    | next => obtain ⟨σ7, H7, I7, n7⟩ := q6; exact again I7 n7
    | cont => obtain ⟨σ7, H7, I7, n7⟩ := q6; exact again I7 n7
    | brk => obtain ⟨σ7, H7, I7, q7⟩ := q6; exact ⟨σ7, H7, (inv_rel I7 rel6).unpinned, q7⟩
    | ret v => obtain ⟨x7, σ7, H7, I7, r7, q7⟩ := q6; exact ⟨x7, σ7, H7, (inv_rel I7 rel6).unpinned, r7, q7⟩
end Wm
end

section
/-! ## a list comprehension over a generator -/
namespace Wm
open PySem PySem.Spec PyProof.Rows L2 GenW
/-- [elt for target in g if ..]: Dl the new list -/
def tLcG (tgen : TGen2) (gt : TG) (tt : TT) (te : TE) (vs : List Nat) : TE := fun σ H Q => tgen σ H fun G Pi N H1 => ∀ Dl, H1 Dl = none → ∃ W : Nat → Hp → Prop, W 0 (upd H1 Dl (.lst [])) ∧ (∀ i H, W i H → Ex G H ∧ ∃ xs, H Dl = some (.lst xs)) ∧
  (∀ H H', W N H → KpH H1 H H' → Q (.ref Dl) H') ∧
  ∀ i H x Hg H', W i H → Pi i x Hg → Ex (core G) Hg → Ex Hg H' → KpH H1 H H' → gt x (wipe σ vs) H' fun σ2 H2 => wipe σ2 vs = wipe σ vs ∧ tt σ2 H2 fun b H3 =>
    if b = true then te σ2 H3 fun y H4 => ∃ acc, H4 Dl = some (.lst acc) ∧ acc.length < sizeLine ∧ W (i + 1) (upd H4 Dl (.lst (acc ++ [y]))) else W (i + 1) H3
section
variable {X : Cx} {k : Nat}
theorem lcG_core {pins : List (Addr × Obj)} {s : Shared} {σ : L2.St} {H : Hp} {Q : VK} {elt tg iter : Expr} {ifs : List Expr} {scope : Scope} {own : List (Str × Nat)} {pos pos' : Pos} {tgen : TGen2} {gt : TG} {tt : TT} {te : TE} {use : Option (Value → Sem Unit)} {Qf : Value → Shared → Prop}
    (hc : X.calm = true) (hr : Room (k + 1) X.A) (hN : X.N.Nodup) (I : Inv X pins σ H s) (hi : PGen2 X k iter tgen) (ok : BlkOk X.N X.env.scope scope own) (nocell : ∀ y ∈ scope.names, y.2 ≠ .cell)
    (hg : ∀ (s : Shared) (H : Hp) (C : Addr) (cl : List (Str × Addr)) (fp : List Addr), PG (X.blk s H scope (compEnvC scope cl C X.env) fp) tg gt) (ht : ∀ (s : Shared) (H : Hp) (C : Addr) (cl : List (Str × Addr)) (fp : List Addr), PTs (X.blk s H scope (compEnvC scope cl C X.env) fp) ifs tt)
    (he : ∀ (s : Shared) (H : Hp) (C : Addr) (cl : List (Str × Addr)) (fp : List Addr), PE (X.blk s H scope (compEnvC scope cl C X.env) fp) elt te) (hs : ∀ x, foldedSetIterable iter X.env x = pure x)
    (h : tLcG tgen gt tt te (own.map (·.2)) σ H Q)
    (hRR : ∀ D C s' m H', Inv X pins σ H' s' → Q (.ref D) H' → s'.heap.Ns C m → FpOk X pins H' C → compPost (model X.prog X.w) X.A X.xe use Qf (.ref D) C (.ok .next) s') :
    wpAny (model X.prog X.w) X.A (comprehension (.ListComp elt [⟨tg, iter, ifs, 0⟩] scope pos) scope X.env pos' (newList []) false (eval iter X.env) use) Qf X.xe s := by
  have hfree : ∀ y ∈ scope.names, y.2 = .free → ∃ c, X.env.cells.lookup y.1 = some c := fun y hy e => by
    rcases ok.free y hy e with z | z
    · exact I.ok.has _ (.inl z)
    · exact I.ok.has _ (.inr z)
  refine wpAny_comprehension_free (use := use) rfl hs (closure_ok hfree) ok.kind (fun y hy e => by rw [ok.uniq y hy, e])
    (thn (hi.run pins s σ H _ I h) fun xv s2 ⟨H2, sc, G, Pi, N, I1, eG, md, q⟩ => ?_)
  obtain ⟨a, gi, g, go, oL0, rfl, m⟩ := made_of I1 hr md
  refine wpAny_pyIter_gen (m.gen _ m.ga) ?_
  refine wpAny_newObj_type (newEnv_comp ?_) (by show 0 ≤ sizeLine; decide)
  generalize hD : s2.heap.objs.size = Dl
  have n0 := m.n0
  have l1 := m.lt1
  have l2 : a < Dl := by rw [← hD]; exact m.lt2
  have I2 : Inv X pins σ H2 s2 := I1.call' (ch := []) m.os (Un.kept m.keep) (I1.hok.kept m.keep) m.bare fun b z => (by cases z)
  have hDn : H2 Dl = none := I2.hok.fresh (Nat.le_of_eq hD)
  have young : ∀ b, g.N0 ≤ b → H2 b = none := fun b hb => I1.hok.fresh (by rw [n0] at hb; exact hb)
  obtain ⟨W, w0, wE, wN, step⟩ := q Dl hDn
  have fl : ∀ b ∈ X.fs, b < g.N0 := fun b hb => by
    obtain ⟨_, o, ho, _⟩ := I1.funs.mem hb
    rw [n0]; exact Heap.lt_size ho
  have pl : ∀ q ∈ X.pn ++ pins, q.1 < g.N0 := fun q hq => by
    rw [n0]; exact Heap.lt_size (I1.pin q hq).1
  have cl : ∀ x c, X.env.cells.lookup x = some c → c < g.N0 := fun x c e => by
    obtain ⟨v, z⟩ := I1.cell x c e
    rw [n0]; exact z.lt
  have ll : X.env.locals < g.N0 := by rw [n0]; exact I1.lt
  have ne_of : ∀ {b c : Nat}, b < g.N0 → g.N0 ≤ c → b ≠ c := fun h1 h2 => Nat.ne_of_lt (Nat.lt_of_lt_of_le h1 h2)
  -- the new list
  generalize hs3 : ({ s2 with heap := s2.heap.push { cls := .type "list", data := .seq ([] : List Value).toArray } } : Shared) = s3
  have I3 : Inv X pins σ (upd H2 Dl (.lst [])) s3 := by
    rw [← hs3]
    refine I2.laid (t' := s2.toks) (fun b o e => Heap.get?_push_of_some _ e) (Nat.le_of_eq hD) ⟨Nat.zero_le _, [], 0, .nil, ?_⟩
    rw [← hD]
    exact Heap.get?_push_size _ rfl
  have h3 : s3.heap = s2.heap.push { cls := .type "list", data := .seq ([] : List Value).toArray } := by rw [← hs3]
  have g3 : s3.gens = s2.gens := by rw [← hs3]
  have sz3 : s3.heap.objs.size = Dl + 1 := by rw [h3, Heap.size_push, hD]
  -- all that is younger than the call may turn
  let fp : List Addr := (List.range s3.heap.objs.size).filter fun b => decide (g.N0 ≤ b) && decide (b ≠ Dl)
  have fpm : ∀ b, b ∈ fp ↔ b < s3.heap.objs.size ∧ g.N0 ≤ b ∧ b ≠ Dl := fun b => by
    show b ∈ (List.range s3.heap.objs.size).filter _ ↔ _
    rw [List.mem_filter, List.mem_range, Bool.and_eq_true, decide_eq_true_iff, decide_eq_true_iff]
  have f3 : ∀ b ∈ fp, FpOk X pins (upd H2 Dl (.lst [])) b ∧ b < s3.heap.objs.size := fun b hb => by
    obtain ⟨z1, z2, z3⟩ := (fpm b).mp hb
    refine ⟨⟨by rw [upd_ne z3]; exact young b z2, (ne_of ll z2).symm, fun z => absurd (Nat.lt_of_lt_of_le (fl b z) z2) (Nat.lt_irrefl _), .inr (Nat.le_trans I1.sz (by rw [n0] at z2; exact z2)), fun x c e z => ne_of (cl x c e) z2 z, fun p hp z => ne_of (pl p hp) z2 z⟩, z1⟩
  have I4 := block_start I3 ok hN f3
  have pg := hg s3 (upd H2 Dl (.lst [])) s3.heap.objs.size (cellsFrom (s3.heap.objs.size + 1) scope.names (cloFrom X.env.cells scope.names [])) fp
  have pt := ht s3 (upd H2 Dl (.lst [])) s3.heap.objs.size (cellsFrom (s3.heap.objs.size + 1) scope.names (cloFrom X.env.cells scope.names [])) fp
  have pe := he s3 (upd H2 Dl (.lst [])) s3.heap.objs.size (cellsFrom (s3.heap.objs.size + 1) scope.names (cloFrom X.env.cells scope.names [])) fp
  show codeAny _ _ (.compStart (.ListComp elt [⟨tg, iter, ifs, 0⟩] scope pos) 0 (.ref a) (.ref Dl) (compEnvC scope (cellsFrom (s3.heap.objs.size + 1) scope.names (cloFrom X.env.cells scope.names [])) s3.heap.objs.size X.env)) (compPost (model X.prog X.w) X.A X.xe use Qf (.ref Dl) s3.heap.objs.size) { s3 with heap := pushCells (s3.heap.push { cls := .type "dict", data := .dict #[] }) scope.names }
  have ccl : ∀ x c, (cellsFrom (s3.heap.objs.size + 1) scope.names (cloFrom X.env.cells scope.names [])).lookup x = some c → c < g.N0 := fun x c e => by
    rw [← Heap.size_push s3.heap { cls := .type "dict", data := .dict #[] }] at e
    rcases cells_mem (PySem.mem_of_lookup e) with z | ⟨z, _, _⟩
    · rcases cloFrom_mem z with z | ⟨z1, z2⟩
      · cases z
      · obtain ⟨c', hc'⟩ := hfree _ z1 rfl
        rw [hc'] at z2
        rw [z2]; exact cl _ _ hc'
    · exact absurd rfl (nocell _ z)
  generalize hce : compEnvC scope (cellsFrom (s3.heap.objs.size + 1) scope.names (cloFrom X.env.cells scope.names [])) s3.heap.objs.size X.env = ce at I4 pg pt pe ⊢
  have cL : ce.locals = s3.heap.objs.size := by subst hce; rfl
  have cC : ∀ x c, ce.cells.lookup x = some c → c < g.N0 := by subst hce; exact ccl
  generalize hH3 : upd H2 Dl (.lst []) = H3 at I3 I4 pg pt pe w0 f3
  have H3n : ∀ b, g.N0 ≤ b → b ≠ Dl → H3 b = none := fun b hb hd => by rw [← hH3, upd_ne hd]; exact young b hb
  have H3D : H3 Dl = some (.lst []) := by rw [← hH3]; exact upd_same
  have eG3 : Ex G H3 := (wE _ _ w0).1
  generalize hs4 : ({ s3 with heap := pushCells (s3.heap.push { cls := .type "dict", data := .dict #[] }) scope.names } : Shared) = s4 at I4 ⊢
  have g4 : s4.gens = s2.gens := by rw [← hs4]; exact g3
  have k4 : ∀ b o, s2.heap.get? b = some o → s4.heap.get? b = some o := fun b o e => by
    rw [← hs4]
    refine pushCells_keeps _ _ _ _ (Heap.get?_push_of_some _ ?_)
    rw [h3]; exact Heap.get?_push_of_some _ e
  let Y : Cx := X.blk s3 H3 scope ce fp
  have aD : a ≠ Dl := Nat.ne_of_lt l2
  have ND : g.N0 ≠ Dl := Nat.ne_of_lt (Nat.lt_trans l1 l2)
  have fsY : ∀ b ∈ Y.fs, b < g.N0 := fun b hb => by
    rcases List.mem_cons.mp (I1.stkSub b hb) with z | z
    · rw [z]; exact ll
    · exact fl b z
  have st : GSt g G Pi N gi a [Dl] Y [] := by
    refine ⟨⟨m.hX.P, m.hX.w, m.hX.K, m.hX.mg, m.hX.base, m.hX.stack, m.hX.fr, m.hX.cells⟩, m.A, ⟨fsY, cC, fun b hb hn => ?_, fun q hq => (by cases hq), fun b o u q => ?_⟩, fun h hp => m.gen h (hp (a, go) (by rw [m.pn]; exact List.mem_singleton.mpr rfl)), fun b o q => ?_, hr.depth, fun p hp => ?_⟩
    · by_cases z : b < s3.heap.objs.size
      · exact .inl ((fpm b).mpr ⟨z, hb, fun z => hn (List.mem_singleton.mpr z)⟩)
      · exact .inr (Nat.le_of_not_lt z)
    · have q : H3 b = some (.frz o u) := q
      rcases Nat.lt_or_ge b g.N0 with z | z
      · exact z
      · by_cases hd : b = Dl
        · rw [hd, H3D] at q; cases q
        · rw [H3n b z hd] at q; cases q
    · rcases Nat.lt_or_ge b g.N0 with z | z
      · exact z
      · by_cases hd : b = Dl
        · rw [hd] at q
          have := I1.hok.fresh (a := Dl) (by rw [n0] at l1; exact Nat.le_of_lt (Nat.lt_trans l1 l2))
          have eG1 : Ex G H2 := eG
          rw [eG1 _ _ q] at this; cases this
        · have := eG3 _ _ q
          rw [H3n b z hd] at this; cases this
    · rw [m.pn] at hp
      rw [List.mem_singleton.mp hp]; exact l1
  have L0 : Lp g G Pi N gi [Dl] Y [] 0 (wipe σ (own.map (·.2))) H3 s4 := by
    refine ⟨⟨[], oL0, ?_, eG3, fun p hp => (by cases hp), m.slp s4 g4⟩, fun b hb => by rw [List.mem_singleton.mp hb]; exact ⟨[], H3D⟩⟩
    have pin : ∀ (b : Addr) (o : Obj), g.N0 ≤ b → b ≠ Dl → b < Dl → s4.heap.get? b = some o → (∀ v, o.data ≠ .cell v) → s4.heap.get? (b, o).1 = some (b, o).2 ∧ H3 (b, o).1 = none ∧ (b, o).1 ≠ Y.env.locals ∧ (b, o).1 ∉ Y.fs ∧ ∀ v, (b, o).2.data ≠ .cell v := fun b o hb hd hl e nc =>
      ⟨e, H3n b hb hd, by show b ≠ ce.locals; rw [cL, sz3]; exact Nat.ne_of_lt (Nat.lt_succ_of_lt hl), fun z => absurd (Nat.lt_of_lt_of_le (fsY b z) hb) (Nat.lt_irrefl _), nc⟩
    refine I4.pins_of fun p hp => ?_
    have hp : p ∈ (g.N0, oL0) :: (g.pn ++ []) := hp
    rcases List.mem_cons.mp hp with z | z
    · rw [z]; exact pin g.N0 oL0 (Nat.le_refl _) ND (Nat.lt_trans l1 l2) (k4 _ _ m.gL) m.ncL
    · rw [m.pn, List.append_nil] at z
      rw [List.mem_singleton.mp z]; exact pin a go (Nat.le_of_lt l1) aD l2 (k4 _ _ m.ga) m.nca
  have kph : ∀ {H H' : Hp}, Kp g.N0 H H' → KpH H2 H H' := fun {H H'} kp b o q hk => kp b o q (hk.imp (fun ⟨u, z⟩ => by
    rcases Nat.lt_or_ge b g.N0 with y | y
    · exact y
    · rw [young b y] at z; cases z) id)
  have loop : codeAny (model X.prog X.w) X.A (.compLoop (.ListComp elt [⟨tg, iter, ifs, 0⟩] scope pos) 0 (.ref a) (.ref Dl) ce) (compPost (model X.prog X.w) X.A X.xe use Qf (.ref Dl) s3.heap.objs.size) s4 := by
    refine compLoop_any (fun n s' => ∃ i H', n + i = sizeLine + 1 ∧ Lp g G Pi N gi [Dl] Y [] i (wipe σ (own.map (·.2))) H' s' ∧ W i H') ?_ (sizeLine + 1) ⟨0, H3, rfl, L0, w0⟩
    rintro n s5 ⟨i, H5, hn, L5, w5⟩
    refine wpAny_mono (nextL (X := Y) (E := fun _ _ => False) st hc L5) (fun r s6 h6 => ?_) fun _ _ z => z.elim
    cases r with
    | none =>
      obtain ⟨ei, H6, I6, kp⟩ := h6
      subst ei
      have I7 : Inv X pins σ H6 s6 := I3.call' (ch := fp) I6.os I6.base I6.hok I6.bare fun b hb => ⟨(f3 b hb).1.2.2.2.1, (f3 b hb).1.2.1, (f3 b hb).1.2.2.2.2.1, (f3 b hb).1.2.2.2.2.2⟩
      have nC : H6 s3.heap.objs.size = none := by
        have z : H6 ce.locals = none := I6.free
        rw [cL] at z
        exact z
      obtain ⟨mm, hnn, _⟩ := I6.loc
      have hnn : s6.heap.Ns ce.locals mm := hnn
      rw [cL] at hnn
      exact hRR Dl s3.heap.objs.size s6 mm H6 I7 (wN _ _ w5 (kph kp)) hnn (I3.fpOk (Nat.le_refl _) nC)
    | some v =>
      obtain ⟨x, Hg, H6, rv, hp, eg, e6, kp, L6⟩ := h6
      obtain ⟨ip, oL, I6, eG6, hip, sl⟩ := L6.ex
      have gn : s6.heap.IsGen a gi := st.gen _ fun p hp => (I6.pin p (List.mem_append_right _ (List.mem_append_right _ (List.mem_cons_of_mem _ (List.mem_append_left _ hp))))).1
      refine gen_go gn ?_
      have J6 : Inv Y ([] ++ ((g.N0, oL) :: (g.pn ++ ip))) (wipe σ (own.map (·.2))) H6 (dullAll s6) := inv_dull I6
      have stp := step i H5 x Hg H6 w5 hp eg e6 (kph kp)
      have r1 := pg.run _ (dullAll s6) _ H6 x v _ J6 rv stp
      refine thnF (asleep (X := Y) (fun D e s' u' _ z => z) r1) fun _ s7 h7 => ?_
      obtain ⟨s7', rel7, kept7, σ7, H7, I7, hw7, q7⟩ := h7
      refine wpAny_mono (wpAny_dull rel7 (pt.run _ s7' σ7 H7 _ I7 q7)) (fun b s8 h8 => ?_) fun e s ⟨s', _, _, z⟩ => z.elim
      obtain ⟨s8', rel8, kept8, H8, I8, q8⟩ := h8
      have fin : ∀ {s9 s9' : Shared} {H9 : Hp}, Rel (Sleeps s6) s9' s9 → Kept (Sleeps s6) s6 s9 → Inv Y ([] ++ ((g.N0, oL) :: (g.pn ++ ip))) σ7 H9 s9' → W (i + 1) H9 → ∃ m, m < n ∧ ∃ i H', m + i = sizeLine + 1 ∧ Lp g G Pi N gi [Dl] Y [] i (wipe σ (own.map (·.2))) H' s9 ∧ W i H' := fun {s9 s9' H9} rel kept I9 w9 => by
        have hm : i + 1 ≤ sizeLine := by
          obtain ⟨m', _, _, hm, _⟩ := sl
          omega
        have hl : (wipe σ (own.map (·.2))).length = σ7.length := by rw [← hw7, wipe_length]
        have I9' : Inv Y ([] ++ ((g.N0, oL) :: (g.pn ++ ip))) (wipe σ (own.map (·.2))) H9 s9' := I9.weak hl fun j v e => by
          rw [← hw7] at e
          exact (wipe_some e).1
        exact ⟨sizeLine - i, by omega, i + 1, H9, by omega, inv_step (inv_rel I9' rel) (wE _ _ w9).1 hip sl (Nat.succ_pos _) kept (fun b hb => by rw [List.mem_singleton.mp hb]; exact (wE _ _ w9).2), w9⟩
      have kept68 : Kept (Sleeps s6) s6 s8 := fun i di => (kept8 i di).trans (kept7 i di)
      cases b with
      | false =>
        simp only [Bool.false_eq_true, if_false] at q8 ⊢
        exact fin rel8 kept68 I8 q8
      | true =>
        simp only [if_true] at q8 ⊢
        refine wpAny_mono (wpAny_dull rel8 (pe.run _ s8' σ7 H8 _ I8 q8)) (fun z s9 h9 => ?_) fun e s ⟨s', _, _, z⟩ => z.elim
        obtain ⟨s9', rel9, kept9, yv, H9, I9, r9, acc, hD9, hz9, w9⟩ := h9
        have ap : wpAny (model X.prog X.w) X.A (call (.builtin "list.append") [.ref Dl, z]) (fun _ s' => Inv Y ([] ++ ((g.N0, oL) :: (g.pn ++ ip))) σ7 (upd H9 Dl (.lst (acc ++ [yv]))) s') (fun _ _ => False) s9' := app_ok (X := Y) I9 hD9 hz9 r9 fun s11 I11 => I11
        refine wpAny_mono (wpAny_dull rel9 ap) (fun _ s10 h10 => ?_) fun e s ⟨s', _, _, z⟩ => z.elim
        obtain ⟨s10', rel10, kept10, I10⟩ := h10
        exact fin rel10 (fun i di => (kept10 i di).trans ((kept9 i di).trans (kept68 i di))) I10 w9
  exact codeAny_compStart_list loop (wpAny_pyIter_gen (m.gen _ (k4 _ _ m.ga)) loop)
/-- as a value -/
theorem pe_lcG {elt tg iter : Expr} {ifs : List Expr} {scope : Scope} {own : List (Str × Nat)} {pos : Pos} {tgen : TGen2} {gt : TG} {tt : TT} {te : TE} (hc : X.calm = true) (hr : Room (k + 1) X.A) (hN : X.N.Nodup) (hi : PGen2 X k iter tgen) (ok : BlkOk X.N X.env.scope scope own) (nocell : ∀ y ∈ scope.names, y.2 ≠ .cell)
    (hg : ∀ (s : Shared) (H : Hp) (C : Addr) (cl : List (Str × Addr)) (fp : List Addr), PG (X.blk s H scope (compEnvC scope cl C X.env) fp) tg gt) (ht : ∀ (s : Shared) (H : Hp) (C : Addr) (cl : List (Str × Addr)) (fp : List Addr), PTs (X.blk s H scope (compEnvC scope cl C X.env) fp) ifs tt)
    (he : ∀ (s : Shared) (H : Hp) (C : Addr) (cl : List (Str × Addr)) (fp : List Addr), PE (X.blk s H scope (compEnvC scope cl C X.env) fp) elt te) (hs : ∀ x, foldedSetIterable iter X.env x = pure x := by intro _; rfl) :
    PE X (.ListComp elt [⟨tg, iter, ifs, 0⟩] scope pos) (tLcG tgen gt tt te (own.map (·.2))) := by
  refine ⟨fun pins s σ H Q I h => ?_⟩
  rw [eval_ListComp]
  refine lcG_core hc hr hN I hi ok nocell hg ht he hs h fun L C s1 m H1 I1 q hn f => ⟨m, hn, fun h2 sb => ?_⟩
  obtain ⟨f0, f1, f2, f3, f4, f5⟩ := f
  exact ⟨.ref L, H1, I1.turned (t' := s1.toks) (fun b o hb e => (sb.2 b hb).trans e) f0 f1 f3 f4 f5, rfl, q⟩
/-- name = [..] on one line -/
theorem ps_setLcG {i : Nat} {y : Str} {py : Pos} {elt tg iter : Expr} {ifs : List Expr} {scope : Scope} {own : List (Str × Nat)} {pos spos : Pos} {tgen : TGen2} {gt : TG} {tt : TT} {te : TE} (hc : X.calm = true) (hr : Room (k + 1) X.A) (hN : X.N.Nodup) (hy : X.N[i]? = some y) (hyl : X.env.scope.names.lookup y = some .local)
    (hsw : swapsWith (.ListComp elt [⟨tg, iter, ifs, 0⟩] scope pos) (some (.Name y py)) spos.line X.env = pure true) (hi : PGen2 X k iter tgen) (ok : BlkOk X.N X.env.scope scope own) (nocell : ∀ y ∈ scope.names, y.2 ≠ .cell)
    (hg : ∀ (s : Shared) (H : Hp) (C : Addr) (cl : List (Str × Addr)) (fp : List Addr), PG (X.blk s H scope (compEnvC scope cl C X.env) fp) tg gt) (ht : ∀ (s : Shared) (H : Hp) (C : Addr) (cl : List (Str × Addr)) (fp : List Addr), PTs (X.blk s H scope (compEnvC scope cl C X.env) fp) ifs tt)
    (he : ∀ (s : Shared) (H : Hp) (C : Addr) (cl : List (Str × Addr)) (fp : List Addr), PE (X.blk s H scope (compEnvC scope cl C X.env) fp) elt te) (hs : ∀ x, foldedSetIterable iter X.env x = pure x := by intro _; rfl) :
    PS X (.Assign [.Name y py] (.ListComp elt [⟨tg, iter, ifs, 0⟩] scope pos) spos) (tAsg (tLcG tgen gt tt te (own.map (·.2))) (gName i)) := by
  refine ⟨fun pins s σ H D I h => ?_⟩
  rw [exec_Assign_Name_used _ _ _ _ hsw]
  refine wpAny_bind (wpAny_standAt (wpAny_bind ?_))
  show wpAny _ X.A (do let _ ← comprehension (.ListComp elt [⟨tg, iter, ifs, 0⟩] scope pos) scope X.env (firstIterPos [⟨tg, iter, ifs, 0⟩] pos) (newList []) false (eval iter X.env) (some (assign (.Name y py) X.env))) _ _ s
  have h : tLcG tgen gt tt te (own.map (·.2)) σ H (fun x H1 => gName i x σ H1 D.nx) := h
  refine wpAny_bind (thn (lcG_core (Qf := fun _ s1 => SP X pins D .next s1) hc hr hN I hi ok nocell hg ht he hs h fun L C s1 m H1 I1 q hn f => ?_) fun _ s1 hq => wpAny_pure (wpAny_pure hq))
  show wpAny _ _ (assign (.Name y py) X.env (.ref L)) _ _ _
  refine wpAny_assign_Name (store_ok2 (v := V.ref L) I1 hN hy (.inl hyl) rfl (fun s2 I2 ⟨a, sb, ha⟩ => ?_) (.inr hyl))
  obtain ⟨f0, f1, f2, f3, f4, f5⟩ := f
  have haC : C ≠ a := by
    rcases ha with z | z
    · rw [z]; exact f1
    · exact fun e => f4 y a z e.symm
  refine ⟨m, hn.sameBut sb haC, fun h3 sb3 => ?_⟩
  exact ⟨_, H1, I2.turned (t' := s2.toks) (fun b o hb e => (sb3.2 b hb).trans e) f0 f1 f3 f4 f5, q⟩
end
end Wm
end

section
/-! ## rules for the settings -/
namespace Wm
open PySem PySem.Spec PyProof.Rows L2 StX
/-- a tuple == an empty tuple -/
def rEqT0 (K : PySem.W.Frag) : R2 := fun x y H Q => ∃ a b xs, x = .ref a ∧ y = .ref b ∧ SqT K H a xs ∧ SqT K H b [] ∧ Q (.bl (decide (xs = []))) H
theorem op_eqT0 {X : Cx} (hu0 : X.A.units + 64 < cLine) : OpR X (compareOp .Eq) (rEqT0 X.K) := by
  intro pins s σ H x y v u Q I rx ry h
  have hu : X.A.units < cLine := by omega
  obtain ⟨a, b, xs, rfl, rfl, h1, h2, q⟩ := h
  cases rx
  cases ry
  obtain ⟨i1, r1, l1, z1⟩ := I.tuple h1
  obtain ⟨i2, r2, l2, z2⟩ := I.tuple h2
  have e2 : i2 = [] := List.length_eq_zero_iff.mp r2.length.symm
  subst e2
  have e1 := r1.length
  show wpAny _ _ (richCompare .Eq _ _) _ _ s
  refine SeqAt.RcAt.tuples (e := fun _ => true) l1 l2 hu (fun j h1 h2 => absurd h2 (Nat.not_lt_zero j)) _ _ _ _ ?_
  have eb : ((List.range (min i1.toArray.size ([] : List Value).toArray.size)).all (fun _ => true) && i1.toArray.size == ([] : List Value).toArray.size) = decide (xs = []) := by
    cases xs with
    | nil =>
      have e1 : i1 = [] := List.length_eq_zero_iff.mp e1.symm
      subst e1
      rfl
    | cons x r =>
      cases i1 with
      | nil => cases e1
      | cons y t => simp
  rw [eb]
  exact ⟨V.bl _, H, I, rfl, q⟩
theorem eqT0 {K : PySem.W.Frag} {H : Hp} {p q : Addr} {xs : List V} {Q : VK} (h1 : SqT K H p xs) (h2 : SqT K H q []) (k : Q (.bl (decide (xs = []))) H) : rEqT0 K (.ref p) (.ref q) H Q := ⟨p, q, xs, rfl, rfl, h1, h2, k⟩
/-! ### methods that differ from class to class -/
def tMtd3 (C1 : Addr) (s1 : Sp) (C2 : Addr) (s2 : Sp) (C3 : Addr) (s3 : Sp) (m : Str) (E : XK) (ta : TE) (t : TA) : TE := fun σ H Q => ta σ H fun x H1 => rMtd C1 m s1 E t σ x H1 Q ∨ rMtd C2 m s2 E t σ x H1 Q ∨ rMtd C3 m s3 E t σ x H1 Q
section
variable {X : Cx} {CX : CXT} {k1 k2 k3 j : Nat} {C C1 C2 C3 : Addr} {sp s1 s2 s3 : Sp} {E : XK} {x m : Str} {p pos apos : Pos} {e o : Expr} {es : List Expr} {ta : TE} {t : TA}
theorem pe_mtR3 {pl : Sem Bool} (c1 : MetR X.prog X.w X.K X.mg X.base CX k1 C1 m s1) (c2 : MetR X.prog X.w X.K X.mg X.base CX k2 C2 m s2) (c3 : MetR X.prog X.w X.K X.mg X.base CX k3 C3 m s3) (hr : Room j X.A) (h1 : k1 ≤ j) (h2 : k2 ≤ j) (h3 : k3 ≤ j) (hx : Passes CX X E) (he : PE X o ta) (ha : PA X (e :: es) t)
    (hst : starEach (e :: es) X.env = (false, eval e X.env) :: starEach es X.env := by rfl) (hpl : (backTo pos (starEach es X.env)).any (·.1) = false := by rfl)
    (ht : eval (.Call (.Attribute o m apos) (e :: es) [] pos) X.env = (do
      let ov ← eval o X.env
      standAt apos.atName
      let (f, first) ← holding [ov] (getMethod ov m pl)
      callWith pos f first (backTo pos (starEach (e :: es) X.env)) (backToKw pos (keywordEach [] X.env))) := by rfl) :
    PE X (.Call (.Attribute o m apos) (e :: es) [] pos) (tMtd3 C1 s1 C2 s2 C3 s3 m E ta t) := by
  have one : ∀ {k : Nat} {C : Addr} {sp : Sp}, MetR X.prog X.w X.K X.mg X.base CX k C m sp → k ≤ j → ∀ {pins : List (Addr × Obj)} {s1 : Shared} {σ : L2.St} {H1 : Hp} {Q : VK} {u : Value} {x : V}, Inv X pins σ H1 s1 → RelV x u → rMtd C m sp E t σ x H1 Q →
      wpAny (model X.prog X.w) X.A (getMethod u m pl) (fun fx s2 => wpAny (model X.prog X.w) X.A (callWith pos fx.1 fx.2 (backTo pos (starEach (e :: es) X.env)) (backToKw pos (keywordEach [] X.env))) (EP X pins σ Q) X.xe s2) X.xe s1 := fun {k C sp} c hk {pins s1 σ H1 Q u x} I1 rx q => by
    obtain ⟨f, F, hc, hm⟩ := c.ex
    obtain ⟨a, dx, fs, ex, ea, l, q⟩ := q
    subst ex
    obtain rfl : u = Value.ref a := rx
    refine getmeth_ok I1 ea hc hm l ?_
    refine PySem.W.callWith_K (first := [.ref a]) (h₀ := X.base) I1.ok.mod.kin hm.kp (thn (ha.run pos pins s1 σ H1 _ I1 q) fun us s2 ⟨vs, H2, I2, r, q2⟩ => ⟨I2.kIn, ?_⟩) hst hpl
    exact wpAny_call (run_fnR (us := .ref a :: us) (vs := .ref a :: vs) F (hr.mono hk) hx I2 (.cons rfl r) q2)
  refine ⟨fun pins s σ H Q I h => ?_⟩
  refine PySem.W.methodCall_KW (pl := pl) (thn (he.run pins s σ H _ I h) fun u s1 ⟨x, H1, I1, rx, q⟩ => ?_) ht
  rcases q with q | q | q
  · exact one c1 h1 I1 rx q
  · exact one c2 h2 I1 rx q
  · exact one c3 h3 I1 rx q
/-- x(e, ..), x a name that holds an instance of one of three classes with one __call__ -/
def tCall3 (i : Nat) (C1 C2 C3 : Addr) (sp : Sp) (E : XK) (t : TA) : TE := fun σ H Q => tCallI i C1 sp E t σ H Q ∨ tCallI i C2 sp E t σ H Q ∨ tCallI i C3 sp E t σ H Q
theorem pe_call3 {i : Nat} {t : TA} (c1 : DunR X.prog X.w X.K X.mg X.base CX k1 C1 "__call__" sp) (c2 : DunR X.prog X.w X.K X.mg X.base CX k2 C2 "__call__" sp) (c3 : DunR X.prog X.w X.K X.mg X.base CX k3 C3 "__call__" sp) (hr : Room j X.A) (h1 : k1 ≤ j) (h2 : k2 ≤ j) (h3 : k3 ≤ j) (hx : Passes CX X E) (hN : X.N[i]? = some x) (hv : Vis X.env.scope x) (ha : PA X (e :: es) t)
    (hdb : (x == ("__debug__" : Str)) = false := by decide) (hcd : (x == ("__classdict__" : Str)) = false := by decide)
    (he : starEach (e :: es) X.env = (false, eval e X.env) :: starEach es X.env := by rfl) (hpl : (backTo pos (starEach es X.env)).any (·.1) = false := by rfl) : PE X (.Call (.Name x p) (e :: es) [] pos) (tCall3 i C1 C2 C3 sp E t) :=
  ⟨fun pins s σ H Q I h => h.elim (fun q => (pe_callI c1 hr h1 hx hN hv ha hdb hcd he hpl).run pins s σ H Q I q) fun h => h.elim (fun q => (pe_callI c2 hr h2 hx hN hv ha hdb hcd he hpl).run pins s σ H Q I q) fun q => (pe_callI c3 hr h3 hx hN hv ha hdb hcd he hpl).run pins s σ H Q I q⟩
end
/-! ### generators that are walked, as callees -/
structure MetW (P : Program) (w : World) (K : PySem.W.Frag) (mg : Str → Option Value) (base : Heap) (k : Nat) (C : Addr) (m : Str) (sp : SpG2) : Prop where
  ex : ∃ (f : Addr) (fd : FuncData) (ps : List Str), GFn2 P w K mg base k f fd ps sp ∧ Cls K C ∧ Meth K C m f ∧ Binds K fd ps []
structure CalW (P : Program) (w : World) (K : PySem.W.Frag) (mg : Str → Option Value) (base : Heap) (k : Nat) (x : Str) (sp : SpG2) : Prop where
  ex : ∃ (f : Addr) (fd : FuncData) (ps : List Str), GFn2 P w K mg base k f fd ps sp ∧ mg x = some (.ref f) ∧ PySem.W.keepIn K (.ref f) = true ∧ Binds K fd ps []
section
variable {X : Cx} {k j : Nat} {C : Addr} {m x : Str} {sp : SpG2} {p pos pos' apos : Pos} {e o : Expr} {es : List Expr} {ta : TE} {t : TA}
theorem pg_mt {pl : Sem Bool} (c : MetW X.prog X.w X.K X.mg X.base k C m sp) (hr : Room j X.A) (hk : k + 1 ≤ j) (he : PE X o ta) (ha : PA X (e :: es) t)
    (hst : starEach (e :: es) X.env = (false, eval e X.env) :: starEach es X.env := by rfl) (hpl : (backTo pos' (starEach es X.env)).any (·.1) = false := by rfl)
    (ht : eval (.Call (.Attribute o m apos) (e :: es) [] pos') X.env = (do
      let ov ← eval o X.env
      standAt apos.atName
      let (f, first) ← holding [ov] (getMethod ov m pl)
      callWith pos' f first (backTo pos' (starEach (e :: es) X.env)) (backToKw pos' (keywordEach [] X.env))) := by rfl) :
    PGen2 X k (.Call (.Attribute o m apos) (e :: es) [] pos') (tMeth2 C m sp [] ta t) := by
  obtain ⟨f, fd, ps, F, cl, hm, hb⟩ := c.ex
  exact pgen2_meth (pl := pl) (ds := []) he cl hm F (hr.mono (by omega)) hb .nil ha hst hpl ht
theorem pg_cl (c : CalW X.prog X.w X.K X.mg X.base k x sp) (hr : Room j X.A) (hk : k + 1 ≤ j) (hg : Gl X x) (ha : PA X (e :: es) t)
    (hdb : (x == ("__debug__" : Str)) = false := by decide) (he : starEach (e :: es) X.env = (false, eval e X.env) :: starEach es X.env := by rfl) (hpl : (backTo pos' (starEach es X.env)).any (·.1) = false := by rfl) :
    PGen2 X k (.Call (.Name x p) (e :: es) [] pos') (tCall2 sp [] t) := by
  obtain ⟨f, fd, ps, F, hm, hk2, hb⟩ := c.ex
  exact pgen2_call (ds := []) F (hr.mono (by omega)) hg hm hk2 hb .nil ha hdb he hpl
end
/-! ### binding of a def that closes over its class -/
section
variable {P : Program} {K : PySem.W.Frag} {x qual : Str} {st : Stmt} {kws : List (Str × V)} {f D cc c : Addr} {fd : FuncData} {ps : List Str}
theorem FunS.bindsN (F : FunS P K x qual st kws f D cc c fd) (h : ∀ (kV doc pm : Value) (an : Option Addr) (ct : Value) (us : List Value), us.length = ps.length → bindArgs (PySem.W.fnX x qual (defArgs st) (defBody st) (defScope st) [("__class__", cc)] .none kV doc pm an (.ref c) ct) ⟨us, []⟩ = pure (ps.zip us)) : Binds K fd ps [] := by
  obtain ⟨oc, od, kV, doc, pm, an, ct, osl, rfl, lk, hcd, _⟩ := F.ex
  exact .all (h kV doc pm an ct)
/-- keyword-only parameters that are all given -/
theorem FunS.kbinds (F : FunS P K x qual st [] f D cc c fd) (n : Nat) (ks : List Str)
    (h : ∀ (kV doc pm : Value) (an : Option Addr) (ct : Value) (us ws : List Value), us.length = n → ws.length = ks.length → bindArgs (PySem.W.fnX x qual (defArgs st) (defBody st) (defScope st) [("__class__", cc)] .none kV doc pm an (.ref c) ct) ⟨us, ks.zip ws⟩ = pure (ps.zip (us ++ ws))) :
    KBn K fd ps n ks (fun us ws => us ++ ws) (fun us ws => us ++ ws) := by
  obtain ⟨oc, od, kV, doc, pm, an, ct, osl, rfl, lk, hcd, _⟩ := F.ex
  exact ⟨fun s us ws X l1 l2 => .of_eq (h kV doc pm an ct us ws l1 l2), fun r1 r2 => r1.append r2⟩
end
/-- super().m, as callee -/
structure SupR (P : Program) (w : World) (K : PySem.W.Frag) (mg : Str → Option Value) (base : Heap) (CX : CXT) (k : Nat) (C : Addr) (m : Str) (sp : Sp) : Prop where
  ex : ∃ g : Addr, FnR P w K mg base CX k g sp ∧ SupC K C C m g
theorem qe_sup {X : Cx} {b : List Stmt} {CX : CXT} {k j : Nat} {x qual m : Str} {st : Stmt} {kws : List (Str × V)} {f cc c C : Addr} {fd : FuncData} {sp : Sp} {E : XK} {e : Expr} {es : List Expr} {p0 p1 apos pos : Pos} {t : TA} {pl : Sem Bool} (hF : FunS X.prog X.K x qual st kws f C cc c fd)
    (cs : SupR X.prog X.w X.K X.mg X.base CX k C m sp) (hr : Room j X.A) (hk : k ≤ j) (hx : Passes CX X E) (ha : PA X (e :: es) t) (hmg : X.mg "super" = none) {ar : Arg} (hp : ((defArgs st).posonlyargs ++ (defArgs st).args).head? = some ar) (hN : X.N[0]? = some ar.arg)
    (hka : X.env.kindOf ar.arg = some .local) (hks : X.env.kindOf "super" = some .globalImplicit) (hkc : X.env.kindOf "__class__" = some .free) (hat : (m == ("__class__" : Str)) = false := by decide)
    (hfu : X.env.func = some f := by rfl) (hco : X.env.code = .ref c := by rfl) (hcl : X.env.cells.lookup ("__class__" : Str) = some cc := by rfl)
    (hst : starEach (e :: es) X.env = (false, eval e X.env) :: starEach es X.env := by rfl) (hpl : (backTo pos (starEach es X.env)).any (·.1) = false := by rfl)
    (ht : eval (.Call (.Attribute (.Call (.Name "super" p0) [] [] p1) m apos) (e :: es) [] pos) X.env = (do
      let ov ← attributeBase (.Call (.Name "super" p0) [] [] p1) m X.env (eval (.Call (.Name "super" p0) [] [] p1) X.env)
      standAt apos.atName
      let (f, first) ← holding [ov] (getMethod ov m pl)
      callWith pos f first (backTo pos (starEach (e :: es) X.env)) []) := by rfl) :
    QE X b (.Call (.Attribute (.Call (.Name "super" p0) [] [] p1) m apos) (e :: es) [] pos) (tSup C sp E t) := by
  obtain ⟨g, F, S⟩ := cs.ex
  exact qe_super (pl := pl) hF S F (hr.mono hk) hx ha hmg hp hN hka hks hkc hat hfu hco hcl hst hpl ht
/-! ### a walked generator's def -/
theorem nocells {scope : Scope} (h : (scope.names.all fun y => !decide (y.2 = .cell)) = true) : ∀ y ∈ scope.names, y.2 ≠ .cell := fun y hy e => by
  have := List.all_eq_true.mp h y hy
  rw [e] at this
  exact absurd this (by decide)
theorem cellsFrom_nil {names : List (Str × NameKind)} (h : ∀ y ∈ names, y.2 ≠ .cell) : ∀ {n : Nat} {acc : List (Str × Addr)}, cellsFrom n names acc = acc := by
  induction names with
  | nil => intro n acc; rfl
  | cons y r ih =>
    intro n acc
    obtain ⟨a, k⟩ := y
    unfold cellsFrom
    have : ¬ (k == NameKind.cell) = true := fun z => h (a, k) List.mem_cons_self (by simpa using z)
    rw [if_neg this]
    exact ih (fun y hy => h y (List.mem_cons_of_mem _ hy))
section
variable {P : Program} {w : World} {K : PySem.W.Frag} {mg : Str → Option Value} {base : Heap}
theorem okW {x qual : Str} {st : Stmt} {dvs : List V} {kws : List (Str × V)} {f : Addr} {fd : FuncData} {N ps : List Str} {k : Nat} {sp : SpG2} (F : FunD K x qual (defArgs st) (defBody st) (defScope st) dvs kws f fd) (S : GScope N ps (defScope st)) (nc : ((defScope st).names.all fun y => !decide (y.2 = .cell)) = true) (len : ∀ vs G Pi N, sp vs G Pi N → vs.length = ps.length)
    (hbody : ∀ (cdv : Value) (A : Around) (outer : List Env) (N0 : Nat) (pn : List (Addr × Obj)) (vs : List V) (G : Hp) (Pi : Nat → V → Hp → Prop) (n : Nat), Room k (A.deeper (envOfC qual (defScope st) N0 f cdv)) → SimpleG G → sp vs G Pi n →
      ∃ t, GSs2 ⟨P, w, K, mg, base, N, qual, defScope st, f, cdv, A, outer, N0, pn⟩ G Pi (defBody st) t ∧ t { nx := fun i _ H' => i = n ∧ Ex (core G) H', rt := fun i v H' => v = .non ∧ i = n ∧ Ex (core G) H' } 0 (L2.start N vs) (core G)) : GFn2 P w K mg base (k + 1) f fd ps sp := by
  obtain ⟨oc, od, dV, kV, doc, pm, an, cdv, ct, osl, rfl, lk, hcd, _, _⟩ := F.ex
  refine gfn2_of lk hcd S (fun n x c z => ?_) len fun A outer N0 pn vs G Pi n hr hS h => hbody cdv A outer N0 pn vs G Pi n hr hS h
  have z : (cellsFrom (n + 1) (defScope st).names []).lookup x = some c := z
  rw [cellsFrom_nil (nocells nc)] at z
  cases z
end
/-! ### what the top has made: defs that close over their class -/
structure SuqD where
  cls : Str
  name : Str
  qual : Str
  params : Arguments
  body : List Stmt
  scope : Scope
def ccOf (K : PySem.W.Frag) (a : Addr) : Addr := match K.lookup a with
  | some ⟨_, _, .func fd, _⟩ => (match fd.closure with
    | [(_, c)] => c
    | _ => 0)
  | _ => 0
def cdOf (K : PySem.W.Frag) (a : Addr) : Addr := match K.lookup a with
  | some ⟨_, _, .func fd, _⟩ => (match fd.code with
    | .ref c => c
    | _ => 0)
  | _ => 0
def sAd (K : PySem.W.Frag) (C m : Str) : Addr := He.ma K (He.ga K C) m
def SuqD.val (K : PySem.W.Frag) (d : SuqD) : He.FnW := some (d.name, d.qual, d.params, .stmts d.body, d.scope, mainGlobals, [("__class__", ccOf K (sAd K d.cls d.name))], builtinsNs)
def codeS (P : Program) (K : PySem.W.Frag) (a : Addr) (q : Str) : Bool := match K.lookup a with
  | some ⟨_, _, .func fd, _⟩ => decide (fd.code = .ref (cdOf K a)) && (decide (fd.defaults = .none) && (PySem.W.codeIn K (.ref (cdOf K a)) q && (match K.lookup (cdOf K a) with
    | some ⟨_, _, .fields vs, _⟩ => (match (vs[2]? : Option Value) with
      | some (.str file _) => (P.main.file : Str) == file
      | _ => false)
    | _ => false)))
  | _ => false
def cellS (K : PySem.W.Frag) (cc D : Addr) : Bool := match K.lookup cc with
  | some ⟨_, _, .cell (some (.ref x)), _⟩ => decide (x = D)
  | _ => false
def SuqD.ok (P : Program) (K : PySem.W.Frag) (d : SuqD) : Bool := PySem.W.keepIn K (.ref (sAd K d.cls d.name)) && (codeS P K (sAd K d.cls d.name) d.qual && (cellS K (ccOf K (sAd K d.cls d.name)) (He.ga K d.cls) && !(P.main.scope.names.lookup ("super" : Str)).isSome))
def SaysU (ds : List SuqD) (P : Program) (K : PySem.W.Frag) : Prop := (ds.all fun d => d.ok P K) = true ∧ ds.map (fun d => fnA K (sAd K d.cls d.name)) = ds.map (SuqD.val K)
theorem SaysU.get {ds : List SuqD} {P : Program} {K : PySem.W.Frag} {st : Stmt} {C m q : Str} (c : SaysU ds P K) (i : Nat) (h : ds[i]? = some ⟨C, m, q, defArgs st, defBody st, defScope st⟩ := by rfl) :
    ∃ fd, FunS P K m q st [] (sAd K C m) (He.ga K C) (ccOf K (sAd K C m)) (cdOf K (sAd K C m)) fd := by
  have c1 : (⟨C, m, q, defArgs st, defBody st, defScope st⟩ : SuqD).ok P K = true := List.all_eq_true.mp c.1 _ (List.mem_of_getElem? h)
  have c2 : fnA K (sAd K C m) = SuqD.val K ⟨C, m, q, defArgs st, defBody st, defScope st⟩ := by
    have e := congrArg (fun l => l[i]?) c.2
    simp only [List.getElem?_map, h, Option.map_some] at e
    exact Option.some.inj e
  unfold SuqD.ok at c1
  dsimp only at c1
  obtain ⟨h1, c1⟩ := He.ba c1
  obtain ⟨h2, c1⟩ := He.ba c1
  obtain ⟨h3, h4⟩ := He.ba c1
  have hcell : ∃ (cl : Value) (cld : Option Addr) (csl : Array (Option Value)), K.lookup (ccOf K (sAd K C m)) = some ⟨cl, cld, .cell (some (.ref (He.ga K C))), csl⟩ := by
    unfold cellS at h3
    split at h3
    · rename_i a b x d e
      have := of_decide_eq_true h3
      subst this
      exact ⟨_, _, _, e⟩
    · cases h3
  unfold fnA at c2
  unfold codeS at h2
  cases qk : K.lookup (sAd K C m) with
  | none =>
    rw [qk] at h2
    cases h2
  | some o =>
    obtain ⟨oc, od, dt, osl⟩ := o
    rw [qk] at h2 c2
    cases dt with
    | func fd =>
      obtain ⟨n1, n2, n3, n4, n5, n6, n7, n8, n9, n10, n11, n12, n13, n14, n15⟩ := fd
      have e2 : (some (n1, n2, n3, n4, n5, n6, n7, n15) : He.FnW) = (some (m, q, defArgs st, .stmts (defBody st), defScope st, mainGlobals, [(("__class__" : Str), ccOf K (sAd K C m))], builtinsNs) : He.FnW) := c2
      simp only [Option.some.injEq, Prod.mk.injEq] at e2
      obtain ⟨k1, k2, k3, k4, k5, k6, k7, k8⟩ := e2
      subst k1 k2 k3 k4 k5 k6 k8
      have h2 : (decide (n13 = Value.ref (cdOf K (sAd K C n1))) && (decide (n8 = Value.none) && (PySem.W.codeIn K (.ref (cdOf K (sAd K C n1))) n2 && (match K.lookup (cdOf K (sAd K C n1)) with
        | some ⟨_, _, .fields vs, _⟩ => (match (vs[2]? : Option Value) with
          | some (.str file _) => (P.main.file : Str) == file
          | _ => false)
        | _ => false)))) = true := h2
      obtain ⟨a1, h2⟩ := He.ba h2
      obtain ⟨a2, h2⟩ := He.ba h2
      obtain ⟨a3, a4⟩ := He.ba h2
      have a1 := of_decide_eq_true a1
      have a2 := of_decide_eq_true a2
      subst a2
      have hfile : ∃ (ccl : Value) (cdd : Option Addr) (vs : Array Value) (ccs : Array (Option Value)) (file : Str) (tf : Tok), K.lookup (cdOf K (sAd K C n1)) = some ⟨ccl, cdd, .fields vs, ccs⟩ ∧ vs[2]? = some (.str file tf) ∧ ((P.main.file : Str) == file) = true := by
        split at a4
        · rename_i x1 x2 vs x3 e
          split at a4
          · rename_i file tf ev
            exact ⟨_, _, _, _, _, _, e, ev, a4⟩
          · cases a4
        · cases a4
      refine ⟨_, ⟨oc, od, n9, n10, n11, n12, n14, osl, ?_, qk, a3, .inl rfl⟩, h1, hcell, hfile, by simpa using h4⟩
      rw [k7, a1]
    | _ => cases h2
def supB (K : PySem.W.Frag) (C B m : Str) : Bool := (PySem.W.clsIn K (He.ga K C)).isSome && (decide (PySem.W.mroIn K (He.ga K C) (.ref (He.ga K C)) = some true) && (He.eqO (PySem.W.ks_superIn K (He.ga K C) (He.ga K C) m) (some (some (.ref (sAd K B m)))) && (decide (PySem.W.typeIn K (.ref (sAd K B m)) = some (.type "function")) && (PySem.W.fnIn K (sAd K B m) && He.eqO (PySem.W.nsIn K cStatics "thirdparty.any") (some none)))))
theorem supB_ok {K : PySem.W.Frag} {C B m : Str} (h : supB K C B m = true) : SupC K (He.ga K C) (He.ga K C) m (sAd K B m) := by
  obtain ⟨h1, h⟩ := He.ba h
  obtain ⟨h2, h⟩ := He.ba h
  obtain ⟨h3, h⟩ := He.ba h
  obtain ⟨h4, h⟩ := He.ba h
  obtain ⟨h5, h6⟩ := He.ba h
  exact ⟨Option.isSome_iff_exists.mp h1, of_decide_eq_true h2, He.eqO_ok h3, of_decide_eq_true h4, h5, He.eqO_ok h6⟩
end Wm
end

section
/-! ## The share and the repetition -/
namespace Wm
open PySem
/-- from its first tick on the repetition repeats the heater's states -/
structure RepV (P : Par) (rs : List RunD) (loop : Option Int) (f c : Int) : Prop where
  f0 : 0 ≤ f
  c0 : 0 < c
  big : f + c ≤ 9604 * 10 ^ 14
  ph : c % P.ch.length = 0
  per : ∀ u, f ≤ u → dAt P (u + c) = dAt P u ∧ oAt P (u + c) = oAt P u
end Wm
end

section
/-! ## Switchings -/
namespace Wm
open PySem
def prevO (P : Par) (t : Int) : Bool := if t ≤ 0 then P.was else oAt P (t - 1)
def swI (P : Par) (t : Int) : Int := if (oAt P t != prevO P t) = true then 1 else 0
def swN (P : Par) : Nat → Int
  | 0 => 0
  | t + 1 => swN P t + swI P t
@[irreducible] def swAt (P : Par) (t : Int) : Int := swN P t.toNat
theorem sw_zero (P : Par) : swAt P 0 = 0 := by unfold swAt; rfl
theorem sw_succ (P : Par) {t : Int} (h : 0 ≤ t) : swAt P (t + 1) = swAt P t + swI P t := by
  unfold swAt
  rw [show (t + 1).toNat = t.toNat + 1 by omega]
  show swN P t.toNat + swI P ((t.toNat : Nat) : Int) = _
  rw [Int.toNat_of_nonneg h]
theorem swI_b (P : Par) (t : Int) : 0 ≤ swI P t ∧ swI P t ≤ 1 := by unfold swI; split <;> omega
theorem sw_le (P : Par) {a : Int} (h0 : 0 ≤ a) : ∀ n : Nat, swAt P a ≤ swAt P (a + n) ∧ swAt P (a + n) ≤ swAt P a + n
  | 0 => by rw [show a + ((0 : Nat) : Int) = a by omega]; omega
  | n + 1 => by
    have := sw_le P h0 n
    have := swI_b P (a + n)
    rw [show a + ((n + 1 : Nat) : Int) = a + n + 1 by omega, sw_succ P (by omega)]
    omega
theorem sw_mono (P : Par) {a b : Int} (h0 : 0 ≤ a) (hab : a ≤ b) : swAt P a ≤ swAt P b ∧ swAt P b ≤ swAt P a + (b - a) := by
  have := sw_le P h0 (b - a).toNat
  rw [show a + (((b - a).toNat : Nat) : Int) = b by omega] at this
  omega
theorem sw_nonneg (P : Par) {a : Int} (h0 : 0 ≤ a) : 0 ≤ swAt P a := by
  have := sw_mono P (Int.le_refl 0) h0
  rw [sw_zero] at this
  omega
/-- nothing switches while the heater's state is one -/
theorem sw_run (P : Par) {a : Int} (h0 : 0 ≤ a) {c : Bool} : ∀ n : Nat, (∀ u, a ≤ u → u ≤ a + n → oAt P u = c) → swAt P (a + n + 1) = swAt P (a + 1)
  | 0, _ => by rw [show a + ((0 : Nat) : Int) + 1 = a + 1 by omega]
  | n + 1, h => by
    have ih := sw_run P h0 n (fun u h1 h2 => h u h1 (by omega))
    have e : swI P (a + n + 1) = 0 := by
      unfold swI prevO
      rw [if_neg (show ¬ (a + n + 1 ≤ 0) by omega), h (a + n + 1) (by omega) (by omega), show a + n + 1 - 1 = a + n by omega, h (a + n) (by omega) (by omega)]
      cases c <;> rfl
    rw [show a + ((n + 1 : Nat) : Int) + 1 = a + n + 1 + 1 by omega, sw_succ P (by omega), ih, e, Int.add_zero]
theorem sw_const (P : Par) {a b : Int} (h0 : 0 ≤ a) (hab : a < b) {c : Bool} (h : ∀ u, a ≤ u → u < b → oAt P u = c) : swAt P b = swAt P a + swI P a := by
  have := sw_run P h0 (c := c) (b - a - 1).toNat (fun u h1 h2 => h u h1 (by omega))
  rw [show a + (((b - a - 1).toNat : Nat) : Int) + 1 = b by omega] at this
  rw [this, sw_succ P h0]
def same0 (P : Par) (rs : List RunD) : Int := match rs[0]? with | some r => if (r.on == P.was) = true then 1 else 0 | none => 0
theorem same0_b (P : Par) (rs : List RunD) : 0 ≤ same0 P rs ∧ same0 P rs ≤ 1 := by
  unfold same0
  split
  · split <;> omega
  · omega
def before (rs : List RunD) (t : Int) : List RunD := rs.filter fun r => decide (r.beg < t)
theorem HistV.mono {P : Par} {rs : List RunD} {loop : Option Int} (h : HistV P rs loop) : ∀ (n i : Nat) (a b : RunD), rs[i]? = some a → rs[i + n + 1]? = some b → a.beg < b.beg
  | 0, i, a, b, ha, hb => by
    have hf := (h.next i a b ha hb).1
    exact ((h.each a (List.mem_of_getElem? ha)).fin _ hf).1
  | n + 1, i, a, b, ha, hb => by
    have hl := (List.getElem?_eq_some_iff.mp hb).1
    obtain ⟨c, hc⟩ := get_some (l := rs) (i := i + n + 1) (by omega)
    have h1 := h.mono n i a c ha hc
    have hf := (h.next (i + n + 1) c b hc (by rw [show i + n + 1 + 1 = i + (n + 1) + 1 by omega]; exact hb)).1
    have h2 := ((h.each c (List.mem_of_getElem? hc)).fin _ hf).1
    omega
theorem HistV.swI_beg {P : Par} {rs : List RunD} {loop : Option Int} (h : HistV P rs loop) {i : Nat} {r : RunD} (hr : rs[i]? = some r) : swI P r.beg = if i = 0 then 1 - same0 P rs else 1 := by
  have v := h.each r (List.mem_of_getElem? hr)
  have b0 := v.b0
  have s0 := v.sim r.beg (Int.le_refl _) (fun e he => (v.fin e he).1)
  cases i with
  | zero =>
    obtain ⟨r0, h0, hb, _⟩ := h.first
    rw [hr] at h0
    cases h0
    rw [if_pos rfl]
    have hp : prevO P r.beg = P.was := by unfold prevO; rw [if_pos (by omega)]
    unfold swI same0
    rw [hr, hp, s0.2]
    show (if (r.on != P.was) = true then (1 : Int) else 0) = 1 - if (r.on == P.was) = true then 1 else 0
    generalize r.on = x
    generalize P.was = y
    cases x <;> cases y <;> rfl
  | succ i =>
    have hl := (List.getElem?_eq_some_iff.mp hr).1
    obtain ⟨m, hm⟩ := get_some (l := rs) (i := i) (by omega)
    obtain ⟨hf, ho, _⟩ := h.next i m r hm hr
    have vm := h.each m (List.mem_of_getElem? hm)
    have mf := (vm.fin _ hf).1
    have m0 := vm.b0
    have sm := (vm.sim (r.beg - 1) (by omega) (fun e he => by rw [hf] at he; cases he; omega)).2
    rw [if_neg (by omega)]
    have hp : prevO P r.beg = m.on := by unfold prevO; rw [if_neg (by omega), sm]
    unfold swI
    rw [hp, s0.2, ho]
    cases m.on <;> rfl
theorem sw_step {P : Par} {rs : List RunD} {loop : Option Int} (h : HistV P rs loop) {t : Int} (t0 : 0 ≤ t) (hl : loop = none ∨ t ≤ finLast rs) {i : Nat} {r : RunD} (hr : rs[i]? = some r) :
    swAt P (upTo rs t (i + 1)) = swAt P (upTo rs t i) + if r.beg < t then (if i = 0 then 1 - same0 P rs else 1) else 0 := by
  have v := h.each r (List.mem_of_getElem? hr)
  have b0 := v.b0
  have e1 : upTo rs t i = if r.beg < t then r.beg else t := by unfold upTo; rw [hr]
  have hil := (List.getElem?_eq_some_iff.mp hr).1
  have e2 : upTo rs t (i + 1) = (match r.fin with | none => t | some e => if e < t then e else t) := by
    by_cases hn : i + 1 < rs.length
    · obtain ⟨r2, hr2⟩ := get_some hn
      have := (h.next i r r2 hr hr2).1
      unfold upTo
      rw [hr2, this]
    · have en : i = rs.length - 1 := by omega
      have : rs[i + 1]? = none := List.getElem?_eq_none (by omega)
      unfold upTo
      rw [this]
      cases hf : r.fin with
      | none => rfl
      | some e =>
        rw [en] at hr
        have fl := finLast_of hr hf
        rcases hl with hl | hl
        · subst hl
          obtain ⟨x, hx, hxf⟩ := h.open_ rfl
          rw [hr] at hx
          cases hx
          rw [hf] at hxf
          cases hxf
        · show t = if e < t then e else t
          rw [if_neg (by omega)]
  rw [e1, e2]
  by_cases hb : r.beg < t
  · rw [if_pos hb, if_pos hb, ← h.swI_beg hr]
    have key : ∀ m, r.beg < m → m ≤ t → (∀ e, r.fin = some e → m ≤ e) → swAt P m = swAt P r.beg + swI P r.beg := fun m m0 m1 m2 =>
      sw_const P b0 m0 fun u u0 u1 => (v.sim u u0 fun e he => by have := m2 e he; omega).2
    cases hf : r.fin with
    | none => exact key t hb (Int.le_refl _) (fun e he => by rw [hf] at he; cases he)
    | some e =>
      have fe := (v.fin e hf).1
      simp only
      by_cases het : e < t
      · rw [if_pos het]
        exact key e fe (by omega) (fun e' he => by rw [hf] at he; cases he; omega)
      · rw [if_neg het]
        exact key t hb (Int.le_refl _) (fun e' he => by rw [hf] at he; cases he; omega)
  · rw [if_neg hb, if_neg hb]
    cases hf : r.fin with
    | none => exact (Int.add_zero _).symm
    | some e =>
      have fe := (v.fin e hf).1
      simp only
      rw [if_neg (by omega)]
      exact (Int.add_zero _).symm
theorem HistV.sw_take {P : Par} {rs : List RunD} {loop : Option Int} (h : HistV P rs loop) {t : Int} (t0 : 0 < t) (hl : loop = none ∨ t ≤ finLast rs) : ∀ i : Nat, i ≤ rs.length → swAt P (upTo rs t i) = ((before (rs.take i) t).length : Int) - if 0 < i then same0 P rs else 0
  | 0, _ => by
    obtain ⟨r, hr, hb, _⟩ := h.first
    have : upTo rs t 0 = 0 := by unfold upTo; rw [hr]; simp only; rw [hb, if_pos t0]
    rw [this, sw_zero]
    rfl
  | i + 1, hi => by
    obtain ⟨r, hr⟩ := get_some (l := rs) (i := i) (by omega)
    have ih := h.sw_take t0 hl i (by omega)
    rw [sw_step h (Int.le_of_lt t0) hl hr, ih, if_pos (Nat.succ_pos i)]
    have e : (before (rs.take (i + 1)) t).length = (before (rs.take i) t).length + if r.beg < t then 1 else 0 := by
      unfold before
      rw [take_one hr, List.filter_append, List.length_append]
      by_cases hb : r.beg < t
      · rw [List.filter_cons_of_pos (by exact decide_eq_true hb), if_pos hb] <;> rfl
      · rw [List.filter_cons_of_neg (by rw [decide_eq_false hb]; exact Bool.false_ne_true), if_neg hb] <;> rfl
    rw [e]
    cases i with
    | zero =>
      obtain ⟨r0, h0, hb, _⟩ := h.first
      rw [hr] at h0
      cases h0
      have hbt : r.beg < t := by omega
      simp only [hbt, if_true, Nat.lt_irrefl, if_false]
      omega
    | succ i =>
      rw [if_neg (show ¬ (i + 1 = 0) by omega), if_pos (Nat.succ_pos i)]
      split <;> omega
/-- what switched_before tells -/
theorem HistV.sw_before {P : Par} {rs : List RunD} {loop : Option Int} (h : HistV P rs loop) {t : Int} (t0 : 0 < t) (hl : loop = none ∨ t ≤ finLast rs) : swAt P t = ((before rs t).length : Int) - same0 P rs := by
  have := h.sw_take t0 hl rs.length (Nat.le_refl _)
  rw [List.take_length, if_pos h.ne, heat_last] at this
  exact this
theorem HistV.before_zero {P : Par} {rs : List RunD} {loop : Option Int} (h : HistV P rs loop) : before rs 0 = [] := by
  unfold before
  rw [List.filter_eq_nil_iff]
  intro r hr
  have := (h.each r hr).b0
  simp only [decide_eq_true_eq]
  omega
theorem HistV.before_beg {P : Par} {rs : List RunD} {loop : Option Int} (h : HistV P rs loop) {i : Nat} {r : RunD} (hr : rs[i]? = some r) {t : Int} (h1 : r.beg < t) (h2 : ∀ r2, rs[i + 1]? = some r2 → t ≤ r2.beg) : (before rs t).length = i + 1 := by
  have hil := (List.getElem?_eq_some_iff.mp hr).1
  unfold before
  rw [← List.take_append_drop (i + 1) rs, List.filter_append, List.length_append]
  have e1 : (rs.take (i + 1)).filter (fun r => decide (r.beg < t)) = rs.take (i + 1) := by
    rw [List.filter_eq_self]
    intro x hx
    obtain ⟨k, hk⟩ := List.mem_iff_getElem?.mp hx
    have hkl := (List.getElem?_eq_some_iff.mp hk).1
    rw [List.length_take] at hkl
    rw [List.getElem?_take_of_lt (by omega)] at hk
    by_cases hki : k = i
    · subst hki
      rw [hr] at hk
      cases hk
      exact decide_eq_true h1
    · have := h.mono (i - k - 1) k x r hk (by rw [show k + (i - k - 1) + 1 = i by omega]; exact hr)
      exact decide_eq_true (by omega)
  have e2 : (rs.drop (i + 1)).filter (fun r => decide (r.beg < t)) = [] := by
    rw [List.filter_eq_nil_iff]
    intro x hx
    obtain ⟨k, hk⟩ := List.mem_iff_getElem?.mp hx
    rw [List.getElem?_drop] at hk
    have hkl := (List.getElem?_eq_some_iff.mp hk).1
    obtain ⟨r2, hr2⟩ := get_some (l := rs) (i := i + 1) (by omega)
    have := h2 r2 hr2
    simp only [decide_eq_true_eq]
    cases k with
    | zero =>
      rw [Nat.add_zero, hr2] at hk
      cases hk
      omega
    | succ k =>
      have := h.mono k (i + 1) r2 x hr2 (by rw [show i + 1 + k + 1 = i + 1 + (k + 1) by omega]; exact hk)
      omega
  rw [e1, e2, List.length_take, List.length_nil]
  omega
/-- the switchings ahead of a tick of the round, with a place for the beginning -/
def swF (P : Par) (rs : List RunD) (t : Int) : Int := if t = 0 then -same0 P rs else swAt P t
theorem HistV.swF_before {P : Par} {rs : List RunD} {loop : Option Int} (h : HistV P rs loop) {t : Int} (t0 : 0 ≤ t) (hl : loop = none ∨ t ≤ finLast rs) : swF P rs t = ((before rs t).length : Int) - same0 P rs := by
  unfold swF
  by_cases hz : t = 0
  · subst hz
    rw [if_pos rfl, h.before_zero]
    show _ = (0 : Int) - _
    omega
  · rw [if_neg hz]
    exact h.sw_before (by omega) hl
theorem HistV.sw_per1 {P : Par} {rs : List RunD} {j : Int} (h : HistV P rs (some j)) : ∀ n : Nat, swAt P (begAt rs j + n + circ rs j) = swF P rs (begAt rs j + n) + (rs.length - j)
  | 0 => by
    have s := h.shut_
    obtain ⟨j0, r, l, e, hj, hl, he, hlt, hm, hd, ho, hon⟩ := h.shut j rfl
    have b := begAt_of hj
    have fl := finLast_of hl he
    have b0 := s.b0
    have lt := s.lt
    have hjl := (List.getElem?_eq_some_iff.mp hj).1
    have hne := h.ne
    rw [show begAt rs j + ((0 : Nat) : Int) = begAt rs j by omega, show begAt rs j + circ rs j = finLast rs by unfold circ; omega]
    have e1 := h.sw_before (t := finLast rs) (by omega) (.inr (Int.le_refl _))
    have e2 : (before rs (finLast rs)).length = rs.length := by
      have := h.before_beg hl (t := finLast rs) (by
        have := ((h.each l (List.mem_of_getElem? hl)).fin e he).1
        omega) (fun r2 hr2 => by
        have := (List.getElem?_eq_some_iff.mp hr2).1
        omega)
      omega
    have e3 := h.swF_before b0 (.inr (Int.le_of_lt lt))
    have e4 : ((before rs (begAt rs j)).length : Int) = j := by
      by_cases hjz : j = 0
      · obtain ⟨r0, h0, hb, _⟩ := h.first
        have hj0 := hj
        rw [hjz] at hj0
        have : r = r0 := Option.some.inj (hj0.symm.trans h0)
        have bz : begAt rs j = 0 := by rw [b, this, hb]
        rw [bz, h.before_zero, hjz]
        rfl
      · obtain ⟨m, hm2⟩ := get_some (l := rs) (i := (j - 1).toNat) (by omega)
        have hmn := h.next (j - 1).toNat m r hm2 (by rw [show (j - 1).toNat + 1 = j.toNat by omega]; exact hj)
        have mf := ((h.each m (List.mem_of_getElem? hm2)).fin _ hmn.1).1
        have := h.before_beg hm2 (t := begAt rs j) (by omega) (fun r2 hr2 => by
          rw [show (j - 1).toNat + 1 = j.toNat by omega, hj] at hr2
          cases hr2
          omega)
        omega
    omega
  | n + 1 => by
    have ih := h.sw_per1 n
    have s := h.shut_
    obtain ⟨j0, r, l, e, hj, hl, he, hlt, hm, hd, ho, hon⟩ := h.shut j rfl
    have b := begAt_of hj
    have fl := finLast_of hl he
    have b0 := s.b0
    have lt := s.lt
    have c0 := s.c0
    have hc : circ rs j = finLast rs - begAt rs j := rfl
    have hF : swF P rs (begAt rs j + ((n + 1 : Nat) : Int)) = swAt P (begAt rs j + ((n + 1 : Nat) : Int)) := by unfold swF; rw [if_neg (by omega)]
    rw [hF, show begAt rs j + ((n + 1 : Nat) : Int) + circ rs j = begAt rs j + n + circ rs j + 1 by omega, sw_succ P (by omega), ih]
    cases n with
    | zero =>
      -- at the loop's beginning, come again
      have hjl := (List.getElem?_eq_some_iff.mp hj).1
      have vl := h.each l (List.mem_of_getElem? hl)
      have lf := (vl.fin e he).1
      have l0 := vl.b0
      have p1 : swI P (finLast rs) = 1 := by
        have hp : prevO P (finLast rs) = l.on := by
          unfold prevO
          rw [if_neg (by omega)]
          exact (vl.sim (finLast rs - 1) (by omega) fun e' he' => by rw [he] at he'; cases he'; omega).2
        unfold swI
        rw [hp, fl, ho, hon]
        cases l.on <;> rfl
      have bb := h.before_beg hj (t := begAt rs j + 1) (by omega) (fun r2 hr2 => by
        have := h.mono 0 j.toNat r r2 hj hr2
        omega)
      have e1 := h.sw_before (t := begAt rs j + 1) (by omega) (.inr (by omega))
      have e0 := h.sw_per1 0
      have f0 := h.swF_before b0 (.inr (Int.le_of_lt lt))
      rw [show begAt rs j + ((0 : Nat) : Int) = begAt rs j by omega, show begAt rs j + circ rs j = finLast rs by omega] at *
      rw [p1, show begAt rs j + ((0 + 1 : Nat) : Int) = begAt rs j + 1 by omega]
      have e2 := h.sw_before (t := finLast rs) (by omega) (.inr (Int.le_refl _))
      have e3 : (before rs (finLast rs)).length = rs.length := by
        have := h.before_beg hl (t := finLast rs) (by omega) (fun r2 hr2 => by
          have := (List.getElem?_eq_some_iff.mp hr2).1
          omega)
        have := h.ne
        omega
      omega
    | succ n =>
      have hF2 : swF P rs (begAt rs j + ((n + 1 : Nat) : Int)) = swAt P (begAt rs j + ((n + 1 : Nat) : Int)) := by unfold swF; rw [if_neg (by omega)]
      have p1 := (s.per1 (t := begAt rs j + ((n + 1 : Nat) : Int)) (by omega)).2
      have p2 := (s.per1 (t := begAt rs j + (n : Int)) (by omega)).2
      have e1 : swI P (begAt rs j + ((n + 1 : Nat) : Int) + circ rs j) = swI P (begAt rs j + ((n + 1 : Nat) : Int)) := by
        have hp1 : prevO P (begAt rs j + ((n + 1 : Nat) : Int) + circ rs j) = oAt P (begAt rs j + n + circ rs j) := by
          unfold prevO
          rw [if_neg (show ¬ (begAt rs j + ((n + 1 : Nat) : Int) + circ rs j ≤ 0) by omega), show begAt rs j + ((n + 1 : Nat) : Int) + circ rs j - 1 = begAt rs j + n + circ rs j by omega]
        have hp2 : prevO P (begAt rs j + ((n + 1 : Nat) : Int)) = oAt P (begAt rs j + n) := by
          unfold prevO
          rw [if_neg (show ¬ (begAt rs j + ((n + 1 : Nat) : Int) ≤ 0) by omega), show begAt rs j + ((n + 1 : Nat) : Int) - 1 = begAt rs j + n by omega]
        unfold swI
        rw [hp1, hp2, p1, p2]
      have e2 := sw_succ P (show 0 ≤ begAt rs j + ((n + 1 : Nat) : Int) by omega)
      rw [hF2, e1, show begAt rs j + ((n + 1 + 1 : Nat) : Int) = begAt rs j + ((n + 1 : Nat) : Int) + 1 by omega, e2]
      omega
theorem HistV.sw_per {P : Par} {rs : List RunD} {j : Int} (h : HistV P rs (some j)) {t : Int} (ht : begAt rs j ≤ t) : ∀ k : Nat, 0 < k → swAt P (t + k * circ rs j) = swF P rs t + k * (rs.length - j)
  | 0, hk => absurd hk (Nat.lt_irrefl 0)
  | 1, _ => by
    have := h.sw_per1 (t - begAt rs j).toNat
    rw [show begAt rs j + (((t - begAt rs j).toNat : Nat) : Int) = t by omega] at this
    rw [show ((1 : Nat) : Int) * circ rs j = circ rs j by simp, this]
    simp
  | k + 2, _ => by
    have ih := h.sw_per ht (k + 1) (Nat.succ_pos k)
    have s := h.shut_
    have c0 := s.c0
    have b0 := s.b0
    have kc : 0 ≤ (k : Int) * circ rs j := Int.mul_nonneg (by omega) (by omega)
    have ek : ((k + 1 : Nat) : Int) * circ rs j = k * circ rs j + circ rs j := by rw [Int.natCast_add, Int.add_mul]; omega
    have := h.sw_per1 (t + ((k + 1 : Nat) : Int) * circ rs j - begAt rs j).toNat
    rw [show begAt rs j + (((t + ((k + 1 : Nat) : Int) * circ rs j - begAt rs j).toNat : Nat) : Int) = t + ((k + 1 : Nat) : Int) * circ rs j by omega] at this
    have hF : swF P rs (t + ((k + 1 : Nat) : Int) * circ rs j) = swAt P (t + ((k + 1 : Nat) : Int) * circ rs j) := by unfold swF; rw [if_neg (by omega)]
    rw [hF, ih] at this
    rw [show t + ((k + 2 : Nat) : Int) * circ rs j = t + ((k + 1 : Nat) : Int) * circ rs j + circ rs j by rw [show ((k + 2 : Nat) : Int) = ((k + 1 : Nat) : Int) + 1 by omega, Int.add_mul]; omega, this,
      show ((k + 2 : Nat) : Int) = ((k + 1 : Nat) : Int) + 1 by omega, Int.add_mul]
    omega
/-- what switchings tells -/
theorem HistV.sw_wrap {P : Par} {rs : List RunD} {loop : Option Int} (h : HistV P rs loop) {t : Int} (t0 : 0 ≤ t) :
    (¬ 0 < wrapT rs loop t → swAt P t = if ((before rs (wrapP rs loop t)).length : Int) - same0 P rs > 0 then ((before rs (wrapP rs loop t)).length : Int) - same0 P rs else 0) ∧
    (∀ j, loop = some j → 0 < wrapT rs loop t → swAt P t = ((before rs (wrapP rs loop t)).length : Int) - same0 P rs + wrapT rs loop t * (rs.length - j)) := by
  have w := h.wrap t0
  have hle : loop = none ∨ wrapP rs loop t ≤ finLast rs := by
    rcases w.pl with z | z
    · exact .inl z
    · exact .inr (Int.le_of_lt z)
  have hF := h.swF_before w.p0 hle
  refine ⟨fun z => ?_, fun j hj hp => ?_⟩
  · have hz : wrapT rs loop t = 0 := by have := w.t0; omega
    rw [← hF]
    have hp := w.zero hz
    rw [hp]
    unfold swF
    have sb := same0_b P rs
    have sn := sw_nonneg P t0
    by_cases ht : t = 0
    · rw [if_pos ht, if_neg (by omega), ht, sw_zero]
    · rw [if_neg ht]
      split <;> omega
  · subst hj
    obtain ⟨e, hb⟩ := w.eq j rfl
    have := h.sw_per (t := wrapP rs (some j) t) (hb hp) (wrapT rs (some j) t).toNat (by omega)
    rw [Int.toNat_of_nonneg w.t0, ← e, hF] at this
    exact this
end Wm
end

section
namespace Wm
open PySem
def NthV (P : Par) (n : Int) : Option Int → Prop
  | none => ∀ u, 0 ≤ u → swAt P u < n
  | some w => 0 ≤ w ∧ swAt P w = n - 1 ∧ swAt P (w + 1) = n
end Wm
end

section
namespace Wm
open PySem PySem.Spec PyProof.Rows L2 StX
/-! ## Switchings -/
def sp_Room_switched_before (K : PySem.W.Frag) (A : Ads) : Sp := fun vs H Q _ => ∃ (p : Addr) (R : RoomD) (t : Int), vs = [.ref p, .int t] ∧ IsRoom K A H p R ∧ ∀ H', Ex H H' → Q (.int (((before R.rs t).length : Int) - same0 R.P R.rs)) H'
def sp_Room_switchings (K : PySem.W.Frag) (A : Ads) : Sp := fun vs H Q _ => ∃ (p : Addr) (R : RoomD) (t : Int), vs = [.ref p, .int t] ∧ IsRoom K A H p R ∧ 0 ≤ t ∧ t ≤ 10 ^ 18 ∧ ∀ H', Ex H H' → Q (.int (swAt R.P t)) H'
def sp_Room_nth_switching (K : PySem.W.Frag) (A : Ads) : Sp := fun vs H Q _ => ∃ (p : Addr) (R : RoomD) (n : Int), vs = [.ref p, .int n] ∧ IsRoom K A H p R ∧ 1 ≤ n ∧ n ≤ 10 ^ 18 ∧ ∀ o H', NthV R.P n o → Ex H H' → Q (optI o) H'
def t_Room_switched_before (K : PySem.W.Frag) (A : Ads) : TS := tSeq (tAsg (tLc (iList K (tFld K (tFld K (tVar 0) "past") "runs")) (gName 3) (tTest (tOp (rI0 fun i j => .bl (decide (i < j))) (tFld K (tVar 3) "begin") (tVar 1))) (tFld K (tVar 3) "begin") [3]) (gName 2)) (tSeq (tAsg (tOp rEq (tFld K (tOp (rIx K) (tFld K (tFld K (tVar 0) "past") "runs") (tC (.int 0))) "is_heating") (tFld K (tFld K (tVar 0) "past") "was_heating")) (gName 4)) (tRet (tOp (rI0 fun i j => .int (i - j)) (tCB (rLen K) (tCons (tVar 2) (tNil))) (tCB rInt (tCons (tVar 4) (tNil))))))
def t_Room_switchings (K : PySem.W.Frag) (A : Ads) : TS := tSeq (tDrop (tCal (sp_validate_number K A) E0 (tCons (tVar 1) (tCons (tC (.int 0)) (tCons (tC (.int 1000000000000000000)) (tNil)))))) (tSeq (tAsg (tMtd A.cHistory "wrapped" (sp_History_wrapped K A) E0 (tFld K (tVar 0) "past") (tCons (tVar 1) (tNil))) (gTup K 2 (gCons (gName 2) (gCons (gName 3) (gNil))))) (tSeq (tAsg (tMtd A.cRoom "switched_before" (sp_Room_switched_before K A) E0 (tVar 0) (tCons (tVar 3) (tNil))) (gName 4)) (tRet (tIf (tTest (tOp (rI0 fun i j => .bl (decide (j < i))) (tVar 2) (tC (.int 0)))) (tOp (rI0 fun i j => .int (i + j)) (tVar 4) (tOp (rI CMul fun i j => .int (i * j)) (tVar 2) (tOp (rI0 fun i j => .int (i - j)) (tCB (rLen K) (tCons (tFld K (tFld K (tVar 0) "past") "runs") (tNil))) (tFld K (tFld K (tVar 0) "past") "loop")))) (tCB rMax2 (tCons (tC (.int 0)) (tCons (tVar 4) (tNil))))))))
def t_Room_nth_switching (K : PySem.W.Frag) (A : Ads) : TS := tSeq (tDrop (tCal (sp_validate_number K A) E0 (tCons (tVar 1) (tCons (tC (.int 1)) (tCons (tC (.int 1000000000000000000)) (tNil)))))) (tSeq (tAsg (tOp rEq (tFld K (tOp (rIx K) (tFld K (tFld K (tVar 0) "past") "runs") (tC (.int 0))) "is_heating") (tFld K (tFld K (tVar 0) "past") "was_heating")) (gName 2)) (tSeq (tAsg (tOp (rI0 fun i j => .int (i + j)) (tOp (rI0 fun i j => .int (i - j)) (tVar 1) (tC (.int 1))) (tCB rInt (tCons (tVar 2) (tNil)))) (gName 3)) (tSeq (tIfS (tTest (tOp (rI0 fun i j => .bl (decide (i < j))) (tVar 3) (tCB (rLen K) (tCons (tFld K (tFld K (tVar 0) "past") "runs") (tNil))))) (tRet (tFld K (tOp (rIx K) (tFld K (tFld K (tVar 0) "past") "runs") (tVar 3)) "begin")) (tNext)) (tSeq (tIfS (tTest (tOp rIsN (tFld K (tFld K (tVar 0) "past") "loop") (tC .non))) (tRet (tC .non)) (tNext)) (tSeq (tAsg (tOp (rI0 fun i j => .int (i - j)) (tCB (rLen K) (tCons (tFld K (tFld K (tVar 0) "past") "runs") (tNil))) (tFld K (tFld K (tVar 0) "past") "loop")) (gName 4)) (tSeq (tPar 5 6 (tCons (tOp (rI CDivW fun i j => .int (i / j)) (tOp (rI0 fun i j => .int (i - j)) (tVar 3) (tFld K (tFld K (tVar 0) "past") "loop")) (tVar 4)) (tCons (tOp (rI (fun _ j => 0 < j) fun i j => .int (i % j)) (tCB rInt (tCons (tOp (rI0 fun i j => .int (i - j)) (tVar 3) (tFld K (tFld K (tVar 0) "past") "loop")) (tNil))) (tVar 4)) (tNil)))) (tRet (tOp (rI0 fun i j => .int (i + j)) (tFld K (tOp (rIx K) (tFld K (tFld K (tVar 0) "past") "runs") (tOp (rI0 fun i j => .int (i + j)) (tFld K (tFld K (tVar 0) "past") "loop") (tVar 6))) "begin") (tOp (rI CMul fun i j => .int (i * j)) (tVar 5) (tMtd A.cHistory "circle" (sp_History_circle K A) E0 (tFld K (tVar 0) "past") tNil))))))))))
section
variable {K : PySem.W.Frag} {A : Ads}
theorem RunsAt.first {H : Hp} {ras : List Addr} {P : Par} {rs : List RunD} {loop : Option Int} (h : RunsAt K A H ras rs) (hv : HistV P rs loop) : ∃ a r dx s, atI (ras.map V.ref) 0 = some (V.ref a) ∧ rs[0]? = some r ∧ H a = some (.ins A.cRun dx (runF r s)) ∧ same0 P rs = if (r.on == P.was) = true then 1 else 0 := by
  obtain ⟨r, hr, _⟩ := hv.first
  obtain ⟨a, dx, s, h1, _, h3⟩ := h.get hr
  exact ⟨a, r, dx, s, atI_of (Int.le_refl 0) (refs_at h1), hr, h3, by unfold same0; rw [hr]⟩
theorem pure_Room_switched_before (vs : List V) (H : Hp) (Q : VK) (E : XK) (h : sp_Room_switched_before K A vs H Q E) : t_Room_switched_before K A { nx := fun _ H' => Q .non H', rt := Q } (start ["self", "tick", "begins", "run", "same"] vs) H := by
  obtain ⟨p, R, t, rfl, ir, k⟩ := h
  obtain ⟨cl, iw, ih, ip, dx, vr, vs, vc, vw, o1, o2, h1, _⟩ := id ir
  obtain ⟨TH, TR, hok, dx1, sh, ru, ras, g1, g2, g3, g4⟩ := id ip
  have hv := hok.v
  have hle := hv.le
  show t_Room_switched_before K A _ [some (.ref p), some (.int t), none, none, none] H
  unfold t_Room_switched_before
  walk_at "s"
  have hlen : (ras.map V.ref).length = R.rs.length := by rw [List.length_map, g4.len]
  refine lcL_by (Hold.start H) (SqL.of g3) (fun i acc G' mu' => mu' = [] ∧ acc = ((before (R.rs.take i) t).map RunD.beg).map V.int) ⟨rfl, rfl⟩ ?_ ?_
  · rintro i x D acc G' mu' H2 hx hal exx hhx ⟨rfl, rfl⟩
    obtain ⟨a, ha, rfl⟩ := refs_of hx
    have hil : i < R.rs.length := by rw [← hlen]; exact (List.getElem?_eq_some_iff.mp hx).1
    obtain ⟨r, hr⟩ := get_some hil
    obtain ⟨_, _, dxr, sr, hor, _⟩ := (g4.at_ _ a r ha hr).up (exx.trans hhx.ex)
    walk_at "s"
    refine ⟨rfl, ?_⟩
    walk_at "s"
    refine r_ite (fun c => ?_) (fun c => ?_)
    · walk_at "s"
      refine lcY hhx exx hal (by omega) ⟨rfl, ?_⟩
      unfold before
      rw [take_one hr, List.filter_append, List.filter_cons_of_pos (by exact c), List.filter_nil, List.map_append, List.map_append]
      rfl
    · refine lcN hhx exx hal ⟨rfl, ?_⟩
      unfold before
      rw [take_one hr, List.filter_append, List.filter_cons_of_neg (by rw [c]; exact Bool.false_ne_true), List.filter_nil, List.append_nil]
  rintro D acc G' mu' H2 hal exx hhx ⟨rfl, rfl⟩
  have exH := exx.trans hhx.ex
  have h12 := exH _ _ h1
  have g12 := exH _ _ g1
  have g32 := exH _ _ g3
  obtain ⟨a, r, dxr, sr, i1, hr0, o1', es⟩ := (g4.up exH).first hv
  walk_at "s"
  refine rix_h g32 i1 ?_
  walk_at "s"
  rw [hlen, List.take_length, List.length_map, List.length_map]
  rw [es] at k
  exact k H2 exH
theorem pure_Room_switchings (vs : List V) (H : Hp) (Q : VK) (E : XK) (h : sp_Room_switchings K A vs H Q E) : t_Room_switchings K A { nx := fun _ H' => Q .non H', rt := Q } (start ["self", "count", "turns", "tick", "total"] vs) H := by
  obtain ⟨p, R, t, rfl, ir, t0, t1, k⟩ := h
  obtain ⟨cl, iw, ih, ip, dx, vr, vs, vc, vw, o1, o2, h1, _⟩ := id ir
  obtain ⟨TH, TR, hok, dx1, sh, ru, ras, g1, g2, g3, g4⟩ := id ip
  have hv := hok.v
  have hle := hv.le
  have wr := hv.wrap t0
  obtain ⟨z1, z2⟩ := hv.sw_wrap t0
  show t_Room_switchings K A _ [some (.ref p), some (.int t), none, none, none] H
  unfold t_Room_switchings
  walk_at "s"
  refine ⟨t, 0, _, rfl, t0, by omega, ?_⟩
  walk_at "s"
  refine ⟨R.pa, t, R.P, R.rs, R.loop, rfl, ip, fun q H1 ex1 hq hq1 => ?_⟩
  have h11 := ex1 _ _ h1
  refine gtup_h hq1 rfl ?_
  walk_at "s"
  refine ⟨p, R, _, rfl, ir.up ex1, fun H2 ex2 => ?_⟩
  have exH := ex1.trans ex2
  have h12 := exH _ _ h1
  have g12 := exH _ _ g1
  have g32 := exH _ _ g3
  walk_at "s"
  refine r_ite (fun c => ?_) (fun c => ?_)
  · have c : 0 < wrapT R.rs R.loop t := of_decide_eq_true c
    have hj : ∃ j, R.loop = some j := by
      cases hl : R.loop with
      | none => rw [hl] at c; exact absurd c (by show ¬ (0 : Int) < 0; decide)
      | some j => exact ⟨j, rfl⟩
    obtain ⟨j, hj⟩ := hj
    have hv2 := hv
    rw [hj] at hv2
    have sc := hv2.shut_
    have j0 := sc.j0
    have jl := sc.jl
    walk_at "s"
    refine ⟨((ras.map V.ref).length : Nat), j, rfl, by rw [hj] <;> rfl, ?_⟩
    walk_at "s"
    have hlen : (ras.map V.ref).length = R.rs.length := by rw [List.length_map, g4.len]
    rw [hlen]
    refine r_I (cmulR (by omega)) ?_
    walk_at "s"
    rw [← z2 j hj c]
    exact k H2 exH
  · have c : ¬ 0 < wrapT R.rs R.loop t := of_decide_eq_false c
    walk_at "s"
    rw [← z1 c]
    exact k H2 exH
end
end Wm
end

section
/-! ## How soon all of it has happened -/
namespace Wm
open PySem
/-- all temperatures from which a run begins are at most W from the threshold that ends it -/
structure Near (P : Par) (W : Int) : Prop where
  a : P.hi - P.lo + 300 ≤ W
  b : P.hi - P.start ≤ W
  c : P.start - P.lo ≤ W
end Wm
end

section
/-! ## No sooner, and not after fewer ticks -/
namespace Wm
open PySem
end Wm
end

section
/-! ## States of a room compared, ranges with a step -/
namespace Wm
open PySem PySem.Spec PyProof.Rows L2 StX
abbrev StV := Int × Bool
def StAt (H : Hp) (v : V) (s : StV) : Prop := ∃ q, v = .ref q ∧ H q = some (.tup [.int s.1, .bl s.2])
def stD (s : StV) : PyData := .tuple [.int s.1, .bool s.2]
section
variable {K : PySem.W.Frag} {H : Hp} {Q : VK}
/-- a list of states -/
structure StsAt (H : Hp) (vs : List V) (ss : List StV) : Prop where
  len : vs.length = ss.length
  at_ : ∀ (i : Nat) (v : V) (s : StV), vs[i]? = some v → ss[i]? = some s → StAt H v s
end
/-! ### range(a, b, c), c > 0 -/
def ForR3 (g : TG) (tb : TS) (D : Ends) (σ : L2.St) (vs : List V) (H1 : Hp) : Prop := ∃ (i j c : Int) (n : Nat), vs = [.int i, .int j, .int c] ∧ RgC i j c n ∧ TurnsW (Itc i c n) g tb D σ H1
section
variable {H : Hp} {σ : L2.St} {D : Ends} {tr : TA} {g : TG} {tb : TS}
end
end Wm
end

section
namespace Wm
open PySem PySem.Spec PyProof.Rows L2 StX
/-! ## _law_alike, where the answer is yes -/
def ADn (H : Hp) : Nat → V → V → Prop
  | 0, x, y => (x = .non ∧ y = .non) ∨ (∃ i : Int, x = .int i ∧ y = .int i) ∨ (∃ b : Bool, x = .bl b ∧ y = .bl b) ∨ (∃ s : Str, x = .str s ∧ y = .str s)
  | n + 1, x, y => ((x = .non ∧ y = .non) ∨ (∃ i : Int, x = .int i ∧ y = .int i) ∨ (∃ b : Bool, x = .bl b ∧ y = .bl b) ∨ (∃ s : Str, x = .str s ∧ y = .str s)) ∨
    ∃ (p q : Addr) (xs ys : List V), x = .ref p ∧ y = .ref q ∧ ((H p = some (.tup xs) ∧ H q = some (.tup ys)) ∨ (H p = some (.lst xs) ∧ H q = some (.lst ys))) ∧ xs.length = ys.length ∧ xs.length ≤ 100000 ∧ ∀ (i : Nat) (x' y' : V), xs[i]? = some x' → ys[i]? = some y' → ADn H n x' y'
def sp_alikeN (n : Nat) : Sp := fun vs H Q _ => ∃ x y, vs = [x, y] ∧ ADn H n x y ∧ ∀ H', Ex H H' → Q (.bl true) H'
def sp_law_alike (K : PySem.W.Frag) (A : Ads) : Sp := sp_alikeN 4
def spNone : Sp := fun _ _ _ _ => False
def spPrev : Nat → Sp
  | 0 => spNone
  | n + 1 => sp_alikeN n
section
variable {K : PySem.W.Frag} {H : Hp} {Q : VK} {x : V} {n : String}
end
def t_alikeN (sp : Sp) (K : PySem.W.Frag) (A : Ads) : TS := tSeq (tIfS (tB (tCB (rIsi K) (tCons (tVar 1) (tCons (tC (.ty "dict")) (tNil))))) (tNever) (tNext)) (tSeq (tIfS (tB (tCB (rIsiT K) (tCons (tVar 1) (tCons (tTup (tCons (tC (.ty "tuple")) (tCons (tC (.ty "list")) (tNil)))) (tNil))))) (tSeq (tIfS (tOr (tNot (tB (tCB (rIsiT K) (tCons (tVar 0) (tCons (tTup (tCons (tC (.ty "tuple")) (tCons (tC (.ty "list")) (tNil)))) (tNil)))))) (tTest (tOp rNe (tCB (rIsi K) (tCons (tVar 0) (tCons (tC (.ty "list")) (tNil)))) (tCB (rIsi K) (tCons (tVar 1) (tCons (tC (.ty "list")) (tNil))))))) (tRet (tC (.bl false))) (tNext)) (tSeq (tIfS (tTest (tOp rNe (tCB (rLen K) (tCons (tVar 0) (tNil))) (tCB (rLen K) (tCons (tVar 1) (tNil))))) (tRet (tC (.bl false))) (tNext)) (tRet (tOp (rEqD K) (tLc (iRng1 (tCons (tCB (rLen K) (tCons (tVar 1) (tNil))) (tNil))) (gName 2) (tNot (tB (tCal sp E0 (tCons (tOp (rIx K) (tVar 0) (tVar 2)) (tCons (tOp (rIx K) (tVar 1) (tVar 2)) (tNil)))))) (tVar 2) [2]) (tLst (tNil)))))) (tNext)) (tSeq (tIfS (tOr (tTest (tOp rIsN (tVar 1) (tC .non))) (tB (tCB (rIsi K) (tCons (tVar 1) (tCons (tC (.ty "str")) (tNil)))))) (tRet (tAndV (tOp rEq (tVar 0) (tVar 1)) (tOp rEq (tCB (rIsi K) (tCons (tVar 0) (tCons (tC (.ty "str")) (tNil)))) (tCB (rIsi K) (tCons (tVar 1) (tCons (tC (.ty "str")) (tNil))))))) (tNext)) (tRet (tAndV (tCB (rIsi K) (tCons (tVar 0) (tCons (tC (.ty "int")) (tNil)))) (tAndV (tOp rEq (tCB (rIsi K) (tCons (tVar 0) (tCons (tC (.ty "bool")) (tNil)))) (tCB (rIsi K) (tCons (tVar 1) (tCons (tC (.ty "bool")) (tNil))))) (tOp rEq (tVar 0) (tVar 1)))))))
section
variable {K : PySem.W.Frag} {A : Ads}
end
end Wm
end

section
namespace Wm
open PySem PySem.Spec PyProof.Rows L2 StX
/-! ## _law_told: the simulation tick by tick -/
def bls (P : Par) (n : Nat) : List V := (List.range n).map fun u : Nat => V.bl (oAt P u)
def dgs (P : Par) (n : Nat) : List V := ((List.range n).map fun u : Nat => dAt P u).map V.int
def sp_law_told (K : PySem.W.Frag) (A : Ads) : Sp := fun vs H Q _ => ∃ (t s : Addr) (cnt : Int) (P : Par) (G : Hp) (mu : Mu), vs = [.ref t, .ref s, .int cnt] ∧ Hold G mu H ∧ G t = some (.tup (P.ch.map V.int)) ∧ G s = some (.tup [.int P.gain, .int P.lo, .int P.hi, .int P.start, .bl P.was]) ∧ ParOk P ∧ 0 ≤ cnt ∧ cnt ≤ 100000 ∧
  ∀ (q l1 l2 : Addr) (G' H' : Hp), Ex G G' → G' q = some (.tup [.ref l1, .ref l2]) → G' l1 = some (.lst (dgs P cnt.toNat)) → G' l2 = some (.lst (bls P cnt.toNat)) → Hold G' mu H' → Q (.ref q) H'
def t_law_told (K : PySem.W.Frag) (A : Ads) : TS := tSeq (tAsg (tVar 1) (gTup K 5 (gCons (gName 3) (gCons (gName 4) (gCons (gName 5) (gCons (gName 6) (gCons (gName 7) (gNil)))))))) (tSeq (tPar 8 9 (tCons (tLst (tNil)) (tCons (tLst (tNil)) (tNil)))) (tSeq (tFor (iRng1 (tCons (tVar 2) (tNil))) (gName 10) (tSeq (tIfS (tTest (tOp (rI0 fun i j => .bl (decide (i < j))) (tVar 6) (tVar 4))) (tAsg (tC (.bl true)) (gName 7)) (tIfS (tTest (tOp (rI0 fun i j => .bl (decide (j < i))) (tVar 6) (tVar 5))) (tAsg (tC (.bl false)) (gName 7)) (tNext))) (tSeq (tDrop (tBM K "list" rAppend (tVar 8) (tCons (tVar 6) (tNil)))) (tSeq (tDrop (tBM K "list" rAppend (tVar 9) (tCons (tVar 7) (tNil)))) (tSeq (tAsg (tOp (rIx K) (tVar 0) (tOp (rI (fun _ j => 0 < j) fun i j => .int (i % j)) (tVar 10) (tCB (rLen K) (tCons (tVar 0) (tNil))))) (gName 11)) (tAsg (tOp (rI0 fun i j => .int (i + j)) (tOp (rI0 fun i j => .int (i + j)) (tVar 6) (tVar 11)) (tOp (rI CMul fun i j => .int (i * j)) (tVar 3) (tCB rInt (tCons (tVar 7) (tNil))))) (gName 6))))))) (tRet (tTup (tCons (tVar 8) (tCons (tVar 9) (tNil)))))))
section
variable {K : PySem.W.Frag} {A : Ads}
end
end Wm
end

section
/-! ## Rooms that rise or fall for ever; repetition within a window -/
namespace Wm
open PySem
/-- the last run of a room that does not repeat -/
structure EndV (P : Par) (b sl : Int) : Prop where
  b0 : 0 ≤ b
  ne : sl ≠ 0
  step : ∀ u, b ≤ u → dAt P (u + P.ch.length) = dAt P u + sl
  sw : ∀ u v, b < u → b < v → swAt P u = swAt P v
end Wm
end

section
/-! ## Extremes: within the first round; rising for ever -/
namespace Wm
open PySem
end Wm
end

section
/-! ## sum(t) of a tuple of ints -/
namespace PySem
section
variable {prog : Program} {w : World} {A : Around} {E : Value → Shared → Prop} {s : Shared} {l : Addr} {xs : Array (Int × Tok)}
end
end PySem
namespace Wm
open PySem PySem.Spec PyProof.Rows L2 StX
def rSumT (K : PySem.W.Frag) : List V → Hp → VK → Prop := fun vs H Q => ∃ (a : Addr) (ns : List Int), vs = [V.ref a] ∧ SqT K H a (ns.map V.int) ∧ Q (.int ns.sum) H
end Wm
end

section
namespace Wm
open PySem PySem.Spec PyProof.Rows L2 StX
/-! ## Facts that are found by their address -/
def Lst (G : Hp) (p : Addr) (xs : List V) : Prop := G p = some (.lst xs)
def Tup (G : Hp) (p : Addr) (xs : List V) : Prop := G p = some (.tup xs)
theorem Lst.at_ {G H : Hp} {p : Addr} {xs : List V} (h : Lst G p xs) (e : Ex G H) : H p = some (.lst xs) := e _ _ h
theorem Tup.at_ {G H : Hp} {p : Addr} {xs : List V} (h : Tup G p xs) (e : Ex G H) : H p = some (.tup xs) := e _ _ h
theorem Lst.up {G H : Hp} {p : Addr} {xs : List V} (h : Lst G p xs) (e : Ex G H) : Lst H p xs := e _ _ h
theorem Tup.up {G H : Hp} {p : Addr} {xs : List V} (h : Tup G p xs) (e : Ex G H) : Tup H p xs := e _ _ h
section
variable {K : PySem.W.Frag} {A : Ads} {G H : Hp} {mu : Mu} {σ : L2.St} {Q : VK} {E : XK} {p q : Addr} {R : RoomD} {t : Int} {xs ys : List V} {v : V} {m : Str} {sp : Sp} {tr : TA}
theorem tup_N (hP : xs.length ≤ sizeLine) (hh : Hold G mu H) (k : ∀ p G' H', Ex G G' → Tup G' p xs → Hold G' mu H' → Q (.ref p) H') : rTup xs H Q := tup_G hP hh k
theorem lst_N (hP : xs.length ≤ sizeLine) (hh : Hold G mu H) (k : ∀ p G' H', Ex G G' → Lst G' p xs → Hold G' mu H' → Q (.ref p) H') : rLst xs H Q := lst_G hP hh k
theorem cat_N (hh : Hold G mu H) (h1 : H p = some (.lst xs)) (h2 : H q = some (.lst ys)) (hz : xs.length + ys.length ≤ 1000000) (k : ∀ q G' H', Ex G G' → Lst G' q (xs ++ ys) → Hold G' mu H' → Q (.ref q) H') : rCat (.ref p) (.ref q) H Q := cat_G hh h1 h2 (sz hz) k
theorem slT_N {lo hi : Option Int} (hh : Hold G mu H) (h : Tup G p xs) (k : ∀ r G' H', Ex G G' → Tup G' r (cutV xs lo hi) → Hold G' mu H' → Q (.ref r) H') : rSlA K (.ref p) lo hi H Q := by
  refine ⟨p, xs, rfl, hh.tup (SqT.of_ h), fun e => ?_, fun _ p hp => k p _ _ (Ex.new (hh.g_none hp)) upd_same (hh.new hp)⟩
  refine k p G H (Ex.refl G) ?_ hh
  have : cutV xs lo hi = xs := by
    unfold cutV
    rw [e.1, e.2]
    simp
  rw [this]
  exact h
theorem r_mod {i j : Int} (h : 0 < j) (k : Q (.int (i % j)) H) : rI (fun _ j => 0 < j) (fun i j => .int (i % j)) (.int i) (.int j) H Q := ⟨i, j, rfl, rfl, h, k⟩
theorem r_p18 (k : Q (.int (10 ^ 18)) H) : rI CPow (fun i j => .int (i ^ j.toNat)) (.int 10) (.int 18) H Q := ⟨10, 18, rfl, rfl, ⟨by decide, by decide, by decide⟩, k⟩
theorem r_p11 (k : Q (.int (10 ^ 11)) H) : rI CPow (fun i j => .int (i ^ j.toNat)) (.int 10) (.int 11) H Q := ⟨10, 11, rfl, rfl, ⟨by decide, by decide, by decide⟩, k⟩
theorem r_wp {σ' : L2.St} {vs : List Nat} {Z : Prop} (h : wipe σ vs = wipe σ' vs) (k : Z) : wipe σ vs = wipe σ' vs ∧ Z := ⟨h, k⟩
/-- methods and properties of a room -/
theorem ap_mtd (ir : IsRoom K A H p R) (hl : ∀ a b c : Addr, ∀ s : Int, ∀ v1 v2 v3 v4 : V, (roomF a b c s v1 v2 v3 v4).lookup m = none) (k : tr σ H fun vs H2 => sp (.ref p :: vs) H2 Q E) : rMtd A.cRoom m sp E tr σ (.ref p) H Q := by
  obtain ⟨dx, vr, vs, vc, vw, o1, o2, h1, _⟩ := ir.ob
  exact ⟨p, dx, _, rfl, h1, hl _ _ _ _ _ _ _ _, k⟩
theorem ap_temp (hh : Hold G mu H) (ir : IsRoom K A H p R) (t0 : 0 ≤ t) (t1 : t ≤ 10 ^ 18) (k : ∀ H1, Hold G mu H1 → Q (.int (dAt R.P t)) H1) : sp_Room_temperature K A [.ref p, .int t] H Q E :=
  ⟨p, R, t, rfl, ir, t0, t1, fun H1 e => k H1 (hh.grow e)⟩
theorem ap_on (hh : Hold G mu H) (ir : IsRoom K A H p R) (t0 : 0 ≤ t) (t1 : t ≤ 10 ^ 18) (k : ∀ H1, Hold G mu H1 → Q (.bl (oAt R.P t)) H1) : sp_Room_is_on K A [.ref p, .int t] H Q E :=
  ⟨p, R, t, rfl, ir, t0, t1, fun H1 e => k H1 (hh.grow e)⟩
theorem ap_heats (hh : Hold G mu H) (ir : IsRoom K A H p R) (t0 : 0 ≤ t) (t1 : t ≤ 10 ^ 18) (k : ∀ H1, Hold G mu H1 → Q (.int (hAt R.P t)) H1) : sp_Room_heating_ticks K A [.ref p, .int t] H Q E :=
  ⟨p, R, t, rfl, ir, t0, t1, fun H1 e => k H1 (hh.grow e)⟩
theorem ap_sws (hh : Hold G mu H) (ir : IsRoom K A H p R) (t0 : 0 ≤ t) (t1 : t ≤ 10 ^ 18) (k : ∀ H1, Hold G mu H1 → Q (.int (swAt R.P t)) H1) : sp_Room_switchings K A [.ref p, .int t] H Q E :=
  ⟨p, R, t, rfl, ir, t0, t1, fun H1 e => k H1 (hh.grow e)⟩
theorem _root_.Wm.Hold.weak {G G' H : Hp} {mu : Mu} (h : Hold G' mu H) (e : Ex G G') : Hold G mu H := by
  refine ⟨e.trans h.ex, h.at_, fun q hq => ?_, h.nd⟩
  cases z : G q.1 with
  | none => rfl
  | some o => have := h.out q hq; rw [e _ _ z] at this; cases this
end
/-! ## Alike data, place by place -/
inductive ADs (H : Hp) (n : Nat) : List V → List V → Prop
  | nil : ADs H n [] []
  | cons {x y : V} {xs ys : List V} : ADn H n x y → ADs H n xs ys → ADs H n (x :: xs) (y :: ys)
/-! ## What the room laws have in common -/
structure RoomCs (K : PySem.W.Frag) (A : Ads) : Prop where
  w : WeatherC K A.cWeather
  h : HeaterC K A.cHeater
  r : RoomC K A.cRoom
  p : HistoryC K A.cHistory
  u : RunC K A.cRun
section
variable {K : PySem.W.Frag} {A : Ads} {G H : Hp} {mu : Mu} {Q : VK} {E : XK} {a c t se p : Addr} {d : DS} {R : RoomD} {most : Int}
end
/-! ## Comprehensions: the items' list, told by a filter and a map -/
section
variable {K : PySem.W.Frag} {G H : Hp} {mu : Mu} {σ : L2.St} {Q : VK} {g : TG} {tt : TT} {te : TE} {vs : List Nat} {a : Addr} {α : Type}
theorem Hold.frzL {D : Addr} {acc : List V} (h : Hold G ((D, .lst acc) :: mu) H) : ∃ G', Ex G G' ∧ Lst G' D acc ∧ Hold G' mu H := ⟨_, h.frz_ex, upd_same, h.frz⟩
/-- one turn: LY, LN are what the turn's ends want -/
def LcX (G : Hp) (mu : Mu) (keep : α → Bool) (f : α → V) (e : α → V) (g : TG) (tt : TT) (te : TE) (vs : List Nat) (σ : L2.St) (z : α) : Prop :=
  ∀ (D : Addr) (acc : List V) (G' H' : Hp) (LY : V → Hp → Prop) (LN : Hp → Prop), Ex G G' → Hold G' ((D, .lst acc) :: mu) H' →
    (∀ y H4 G4, keep z = true → y = f z → Ex G' G4 → Hold G4 ((D, .lst acc) :: mu) H4 → LY y H4) → (∀ H4 G4, keep z = false → Ex G' G4 → Hold G4 ((D, .lst acc) :: mu) H4 → LN H4) →
    g (e z) (wipe σ vs) H' fun σ2 H2 => wipe σ2 vs = wipe σ vs ∧ tt σ2 H2 fun b H3 => if b = true then te σ2 H3 LY else LN H3
theorem take_flt {keep : α → Bool} {f : α → V} {l : List α} {i : Nat} {z : α} (h : l[i]? = some z) :
    (keep z = true → ((l.take i).filter keep).map f ++ [f z] = ((l.take (i + 1)).filter keep).map f) ∧ (keep z = false → ((l.take i).filter keep).map f = ((l.take (i + 1)).filter keep).map f) := by
  rw [take_one h, List.filter_append, List.map_append]
  exact ⟨fun k => by rw [List.filter_cons_of_pos k] <;> rfl, fun k => by rw [List.filter_cons_of_neg (by rw [k]; exact Bool.false_ne_true)] <;> simp⟩
theorem lc_fil {J : It} (l : List α) (e : α → V) (keep : α → Bool) (f : α → V) (hl : l.length ≤ 1000000) (hh : Hold G mu H)
    (hstop : ∀ H', Ex G H' → J.stop l.length H') (hgo : ∀ i H', i < l.length → Ex G H' → J.go i H') (hy : ∀ i H' x H'', i < l.length → Ex G H' → J.yld i H' x H'' → H'' = H' ∧ ∃ z, l[i]? = some z ∧ x = e z)
    (hs : ∀ z ∈ l, LcX G mu keep f e g tt te vs σ z)
    (hd : ∀ D G' H', Ex G G' → Lst G' D ((l.filter keep).map f) → Hold G' mu H' → Q (.ref D) H') : LcW J g tt te vs σ H Q := by
  refine lc_go (n := l.length) hh (fun i x => ∃ z, l[i]? = some z ∧ x = e z) (fun i acc G' mu' => mu' = mu ∧ acc = ((l.take i).filter keep).map f) ⟨rfl, rfl⟩ hstop hgo hy ?_ ?_
  · rintro i x D acc G' mu' H' hi ⟨z, hz, rfl⟩ hal ex hh' ⟨rfl, rfl⟩
    refine hs z (List.mem_of_getElem? hz) D _ G' H' _ _ ex hh' (fun y H4 G4 hk hy ex4 hh4 => ?_) (fun H4 G4 hk ex4 hh4 => ?_)
    · subst hy
      exact lcY hh4 (ex.trans ex4) hal (by omega) ⟨rfl, (take_flt hz).1 hk⟩
    · exact lcN hh4 (ex.trans ex4) hal ⟨rfl, (take_flt hz).2 hk⟩
  · rintro D acc G' mu' H' hal ex hh' ⟨rfl, rfl⟩
    obtain ⟨G2, ex2, h2, hh2⟩ := hh'.frzL
    rw [List.take_length] at h2
    exact hd D G2 H' (ex.trans ex2) h2 hh2
def rngI (n : Nat) : List Int := (List.range n).map fun i : Nat => (i : Int)
theorem rngI_len (n : Nat) : (rngI n).length = n := by simp [rngI]
theorem rngI_get {n i : Nat} (h : i < n) : (rngI n)[i]? = some (i : Int) := by
  unfold rngI
  rw [List.getElem?_map, List.getElem?_range h]
  rfl
theorem rngI_mem {n : Nat} {z : Int} (h : z ∈ rngI n) : 0 ≤ z ∧ z < n := by
  obtain ⟨i, hi, rfl⟩ := List.mem_map.mp h
  have := List.mem_range.mp hi
  omega
/-- over range(n) -/
theorem lcR1_fil {n : Int} (keep : Int → Bool) (f : Int → V) (hh : Hold G mu H) (hn : n ≤ 1000000) (hn0 : -(2 ^ 62) ≤ n) (hs : ∀ z, 0 ≤ z → z < n → LcX G mu keep f V.int g tt te vs σ z)
    (hd : ∀ D G' H', Ex G G' → Lst G' D (((rngI n.toNat).filter keep).map f) → Hold G' mu H' → Q (.ref D) H') : LcR1 g tt te vs σ Q [.int n] H := by
  refine ⟨n, rfl, hn0, by omega, lc_fil (rngI n.toNat) V.int keep f (by rw [rngI_len]; omega) hh ?_ ?_ ?_ (fun z hz => ?_) hd⟩
  · intro H' _
    rw [rngI_len]
    exact Nat.le_refl _
  · intro i H' hi _
    rw [rngI_len] at hi
    exact hi
  · intro i H' x H'' hi _ y
    rw [rngI_len] at hi
    exact ⟨y.1, (i : Int), rngI_get hi, by have := y.2; rw [Int.zero_add] at this; exact this⟩
  · have := rngI_mem hz
    exact hs z (by omega) (by omega)
/-- over range(lo, n) -/
theorem lcR2_fil {lo n : Int} (keep : Int → Bool) (f : Int → V) (hh : Hold G mu H) (h1 : -(2 ^ 62) ≤ lo) (h2 : lo < 2 ^ 62) (h3 : -(2 ^ 62) ≤ n) (h4 : n < 2 ^ 62) (h5 : n - lo ≤ 1000000) (hs : ∀ z, lo ≤ z → z < n → LcX G mu keep f V.int g tt te vs σ z)
    (hd : ∀ D G' H', Ex G G' → Lst G' D ((((rngI (n - lo).toNat).map (lo + ·)).filter keep).map f) → Hold G' mu H' → Q (.ref D) H') : LcR2 g tt te vs σ Q [.int lo, .int n] H := by
  have len : ((rngI (n - lo).toNat).map (lo + ·)).length = (n - lo).toNat := by rw [List.length_map, rngI_len]
  refine ⟨lo, n, rfl, ⟨h1, h2, h3, h4⟩, lc_fil ((rngI (n - lo).toNat).map (lo + ·)) V.int keep f (by rw [len]; omega) hh ?_ ?_ ?_ (fun z hz => ?_) hd⟩
  · intro H' _
    rw [len]
    exact Nat.le_refl _
  · intro i H' hi _
    rw [len] at hi
    exact hi
  · intro i H' x H'' hi _ y
    rw [len] at hi
    exact ⟨y.1, lo + (i : Int), by rw [List.getElem?_map, rngI_get hi] <;> rfl, y.2⟩
  · obtain ⟨w, hw, rfl⟩ := List.mem_map.mp hz
    have := rngI_mem hw
    exact hs _ (by omega) (by omega)
/-- over a list -/
theorem lcL_fil (l : List α) (e : α → V) (keep : α → Bool) (f : α → V) (hh : Hold G mu H) (hl : l.length ≤ 1000000) (h : Lst G a (l.map e)) (hs : ∀ z ∈ l, LcX G mu keep f e g tt te vs σ z)
    (hd : ∀ D G' H', Ex G G' → Lst G' D ((l.filter keep).map f) → Hold G' mu H' → Q (.ref D) H') : LcL K g tt te vs σ Q (.ref a) H := by
  have at_ : ∀ {i : Nat} {x : V}, (l.map e)[i]? = some x → ∃ z, l[i]? = some z ∧ x = e z := fun {i x} hx => by
    rw [List.getElem?_map] at hx
    cases hz : l[i]? with
    | none => rw [hz] at hx; cases hx
    | some z => rw [hz] at hx; exact ⟨z, rfl, (Option.some.inj hx).symm⟩
  refine ⟨a, rfl, ⟨_, SqL.of (hh.rd h)⟩, lc_fil l e keep f hl hh (fun H' ex => ⟨_, SqL.of (h.at_ ex), by rw [List.length_map]; exact Nat.le_refl _⟩) (fun i H' hi ex => ⟨_, e l[i], SqL.of (h.at_ ex), by rw [List.getElem?_map, List.getElem?_eq_getElem hi] <;> rfl⟩) (fun i H' x H'' hi ex y => ⟨y.1, at_ (y.2 _ (SqL.of (h.at_ ex)))⟩) hs hd⟩
/-- over a tuple -/
theorem lcT_fil (l : List α) (e : α → V) (keep : α → Bool) (f : α → V) (hh : Hold G mu H) (hl : l.length ≤ 1000000) (h : Tup G a (l.map e)) (hs : ∀ z ∈ l, LcX G mu keep f e g tt te vs σ z)
    (hd : ∀ D G' H', Ex G G' → Lst G' D ((l.filter keep).map f) → Hold G' mu H' → Q (.ref D) H') : LcT K g tt te vs σ Q (.ref a) H := by
  have at_ : ∀ {i : Nat} {x : V}, (l.map e)[i]? = some x → ∃ z, l[i]? = some z ∧ x = e z := fun {i x} hx => by
    rw [List.getElem?_map] at hx
    cases hz : l[i]? with
    | none => rw [hz] at hx; cases hx
    | some z => rw [hz] at hx; exact ⟨z, rfl, (Option.some.inj hx).symm⟩
  refine ⟨a, rfl, ⟨_, SqT.of (hh.rd h)⟩, lc_fil l e keep f hl hh (fun H' ex => ⟨_, SqT.of (h.at_ ex), by rw [List.length_map]; exact Nat.le_refl _⟩) (fun i H' hi ex => ⟨_, e l[i], SqT.of (h.at_ ex), by rw [List.getElem?_map, List.getElem?_eq_getElem hi] <;> rfl⟩) (fun i H' x H'' hi ex y => ⟨y.1, at_ (y.2 _ (SqT.of (h.at_ ex)))⟩) hs hd⟩
/-- no item is kept -/
theorem flt_none {l : List α} {keep : α → Bool} {f : α → V} (h : ∀ z ∈ l, keep z = false) : (l.filter keep).map f = [] := by
  rw [List.filter_eq_nil_iff.mpr fun z hz => by rw [h z hz]; exact Bool.false_ne_true]
  rfl
theorem flt_all {l : List α} {f : α → V} : (l.filter fun _ => true).map f = l.map f := by
  rw [List.filter_eq_self.mpr fun _ _ => rfl]
/-- items that are drawn: what all bear -/
def LcS (G : Hp) (St : Mu → Prop) (Pe : V → Prop) (x : V) (g : TG) (tt : TT) (te : TE) (vs : List Nat) (σ : L2.St) : Prop :=
  ∀ (D : Addr) (acc : List V) (G' H' : Hp) (mu' : Mu) (LY : V → Hp → Prop) (LN : Hp → Prop), Ex G G' → St mu' → Hold G' ((D, .lst acc) :: mu') H' →
    (∀ y H4 G4 mu4, Pe y → St mu4 → Ex G' G4 → Hold G4 ((D, .lst acc) :: mu4) H4 → LY y H4) → (∀ H4 G4 mu4, St mu4 → Ex G' G4 → Hold G4 ((D, .lst acc) :: mu4) H4 → LN H4) →
    g x (wipe σ vs) H' fun σ2 H2 => wipe σ2 vs = wipe σ vs ∧ tt σ2 H2 fun b H3 => if b = true then te σ2 H3 LY else LN H3
/-- a list of whole numbers, if each item is one -/
theorem allI {P : Int → Prop} : ∀ {acc : List V}, (∀ y ∈ acc, ∃ z, y = V.int z ∧ P z) → ∃ xs : List Int, acc = xs.map V.int ∧ ∀ z ∈ xs, P z
  | [], _ => ⟨[], rfl, fun z h => by cases h⟩
  | y :: r, h => by
    obtain ⟨z, rfl, hz⟩ := h y List.mem_cons_self
    obtain ⟨xs, rfl, hx⟩ := allI fun y hy => h y (List.mem_cons_of_mem _ hy)
    refine ⟨z :: xs, rfl, fun w hw => ?_⟩
    rcases List.mem_cons.mp hw with rfl | hw
    · exact hz
    · exact hx w hw
end
/-! ## Loops by an invariant that does not count -/
section
variable {K : PySem.W.Frag} {σ : L2.St} {H : Hp} {D : Ends} {g : TG} {tb : TS} {a : Addr} {xs : List V}
theorem forR1_I {n : Int} (hb : n < 2 ^ 62) (hb' : -(2 ^ 62) ≤ n) (I : L2.St → Hp → Prop) (h0 : I σ H)
    (hs : ∀ (i : Int) σ H, 0 ≤ i → i < n → I σ H → g (.int i) σ H fun σ2 H2 => tb { D with nx := I, ct := I, bk := D.nx } σ2 H2) (hd : ∀ σ H, I σ H → D.nx σ H) : ForR1 g tb D σ [.int n] H :=
  forR1_by hb hb' (fun _ => I) h0 (fun i σ H hi p => hs (i : Int) σ H (by omega) hi p) hd
theorem forL_I (I : L2.St → Hp → Prop) (e : ∀ σ H, I σ H → H a = some (.lst xs)) (h0 : I σ H)
    (hs : ∀ x σ H, x ∈ xs → I σ H → g x σ H fun σ2 H2 => tb { D with nx := I, ct := I, bk := D.nx } σ2 H2) (hd : ∀ σ H, I σ H → D.nx σ H) : ForL K g tb D σ (.ref a) H :=
  forL_by (SqL.of_ (e _ _ h0)) (fun _ => I) h0 (fun _ σ H _ p => SqL.of_ (e σ H p)) (fun i x σ H hx p => hs x σ H (List.mem_of_getElem? hx) p) hd
end
end Wm
end

section
/-! ## How soon all happens, sharper: long runs end in few ways -/
namespace Wm
open PySem
def endK (P : Par) (r : RunD) : Int × Int × Bool := match r.fin with | some e => (e % P.ch.length, r.at_ e, !r.on) | none => (0, 0, true)
/-- the runs of one kind that take a round at least -/
def isLong (P : Par) (on : Bool) (r : RunD) : Bool := (r.on == on) && decide (P.ch.length ≤ lenR r)
end Wm
namespace Wm
open PySem
end Wm
end

section
/-! ## A room that is another's, later and moved -/
namespace Wm
open PySem
/-- P' is P from tick k on, with all temperatures higher by b -/
structure Later (P P' : Par) (k b : Int) : Prop where
  k0 : 0 ≤ k
  n : P'.ch.length = P.ch.length
  sim : ∀ t, 0 ≤ t → dAt P' t = dAt P (t + k) + b ∧ oAt P' t = oAt P (t + k)
section
variable {P P' : Par} {rs rs' : List RunD} {loop loop' : Option Int} {k b : Int}
end
end Wm
end

section
/-! ## Partings of rooms -/
namespace Wm
open PySem PySem.Spec PyProof.Rows L2 StX
/-- the weather is the same in each tick -/
def SameW (P1 P2 : Par) : Prop := ∀ t, 0 ≤ t → chAt P1 t = chAt P2 t
/-- the first parting -/
def PartV (P1 P2 : Par) : Option Int → Prop
  | none => ∀ t, 0 ≤ t → dAt P1 t = dAt P2 t
  | some k => 0 ≤ k ∧ (∀ t, 0 ≤ t → t < k → dAt P1 t = dAt P2 t) ∧ dAt P1 k ≠ dAt P2 k
/-- how long the heater stays as it is -/
structure RestV (P : Par) (loop : Option Int) (t : Int) (n : Option Int) : Prop where
  none_ : n = none → ∀ u, t ≤ u → oAt P u = oAt P t
  some_ : ∀ k, n = some k → 1 ≤ k ∧ ∀ u, t ≤ u → u < t + k → oAt P u = oAt P t
  small : loop = none → ∀ k, n = some k → t + k ≤ 9603 * 10 ^ 14
/-- alike up to a tick -/
structure PInv (P1 P2 : Par) (t : Int) : Prop where
  t0 : 0 ≤ t
  d : ∀ u, 0 ≤ u → u ≤ t → dAt P1 u = dAt P2 u
  h : ∀ u, 0 ≤ u → u < t → P1.heat (oAt P1 u) = P2.heat (oAt P2 u)
/-! ### weather that is written in two ways -/
/-- what == of weathers asks -/
def eqW (a b : List Int) : Bool := decide ((List.replicate b.length a).flatten = (List.replicate a.length b).flatten)
def cyc (a : List Int) (t : Int) : Int := a.getD (t % a.length).toNat 0
end Wm
end

section
namespace Wm
open PySem PySem.Spec PyProof.Rows L2 StX
/-! ## Settings -/
section
variable {X : Cx} {a b c d : Expr} {ta tb tc td : TE} {op op' op'' : CmpOp} {r r' r'' : R2} {pos : Pos}
theorem pe_chain3 (ho : OpR X (compareOp op) r) (ho' : OpR X (compareOp op') r') (ho'' : OpR X (compareOp op'') r'') (ha : PE X a ta) (hb : PE X b tb) (hc : PE X c tc) (hd : PE X d td)
    (hm : lastMarks [op, op', op''] [b, c, d] = false := by with_unfolding_all rfl) : PE X (.Compare a [op, op', op''] [b, c, d] pos) (tChain3 r r' r'' ta tb tc td) := by
  refine ⟨fun pins s σ H Q I h => ?_⟩
  refine Compare_chain (thn (ha.run pins s σ H _ I h) fun v s1 ⟨x, H1, I1, r1, q1⟩ => chain_link (thn (hb.run pins s1 σ H1 _ I1 q1) fun u s2 ⟨y, H2, I2, r2, q2⟩ =>
    thn (ho pins s2 σ H2 x y v u _ I2 r1 r2 q2) fun dd s3 ⟨z, H3, I3, r3, k, e, q3⟩ => ?_)) hm
  subst e
  cases r3
  refine wpAny_truthy_bool ?_
  cases k with
  | false => exact ite_ff ⟨.bl false, H3, I3, rfl, q3⟩
  | true =>
    refine ite_tt (chain_link (thn (hc.run pins s3 σ H3 _ I3 q3) fun w' s4 ⟨z', H4, I4, r4, q4⟩ => thn (ho' pins s4 σ H4 y z' u w' _ I4 r2 r4 q4) fun d' s5 ⟨z2, H5, I5, r5, k2, e2, q5⟩ => ?_))
    subst e2
    cases r5
    refine wpAny_truthy_bool ?_
    cases k2 with
    | false => exact ite_ff ⟨.bl false, H5, I5, rfl, q5⟩
    | true => exact ite_tt (chain_last (thn (hd.run pins s5 σ H5 _ I5 q5) fun v' s6 ⟨z3, H6, I6, r6, q6⟩ => ho'' pins s6 σ H6 z' z3 w' v' Q I6 r4 r6 q6))
end
/-! ### what settings do -/
structure SetD where
  kind : Nat
  lo : Int
  hi : Int
  len : Int
  parts : List (Int × Int × Int)
  rest : Int
def hourStep (len t : Int) (acc : Int × Int) (p : Int × Int × Int) : Int × Int := if p.1 ≤ t % len then (p.2.1, p.2.2) else acc
def hourThr (len : Int) (ps : List (Int × Int × Int)) (d : Int × Int) (t : Int) : Int × Int := ps.foldl (hourStep len t) d
def SetD.thr (S : SetD) (t : Int) : Int × Int := if S.kind = 1 then hourThr S.len S.parts (S.lo, S.hi) t else (S.lo, S.hi)
def mayOf (r : Int) : Option Int → Bool
  | none => true
  | some n => decide (r < n)
def SetD.may (S : SetD) (since : Option Int) : Bool := if S.kind = 2 then mayOf S.rest since else true
def SetD.wants (S : SetD) (t w : Int) (on : Bool) : Bool := decide (w < (S.thr t).1) || (on && decide (w ≤ (S.thr t).2))
def SetD.next (S : SetD) (t w : Int) (on : Bool) (since : Option Int) : Bool := if (S.wants t w on != on && !S.may since) = true then on else S.wants t w on
/-- the state ahead of a tick -/
structure WS where
  w : Int
  on : Bool
  since : Option Int
def sinceOf (on on1 : Bool) (s : Option Int) : Option Int := if (on1 != on) = true then some 0 else s
def wstep (S : SetD) (ch : List Int) (gain : Int) (t : Int) (s : WS) : WS :=
  ⟨s.w + (cyc ch t + (if S.next t s.w s.on s.since = true then gain else 0)), S.next t s.w s.on s.since, (sinceOf s.on (S.next t s.w s.on s.since) s.since).map (· + 1)⟩
def wst (S : SetD) (ch : List Int) (gain st : Int) : Nat → WS
  | 0 => ⟨st, false, none⟩
  | i + 1 => wstep S ch gain i (wst S ch gain st i)
def wWarm (S : SetD) (ch : List Int) (gain st : Int) (i : Nat) : Int := (wst S ch gain st i).w
def wOn (S : SetD) (ch : List Int) (gain st : Int) (i : Nat) : Bool := (wst S ch gain st (i + 1)).on
def wTot (S : SetD) (ch : List Int) (gain st : Int) : Nat → Int × Int × Option Int × Bool
  | 0 => (0, 0, none, false)
  | i + 1 => ((wTot S ch gain st i).1 + (if wOn S ch gain st i = true then 1 else 0), (wTot S ch gain st i).2.1 + (if (wOn S ch gain st i != (wTot S ch gain st i).2.2.2) = true then 1 else 0),
    (match (wTot S ch gain st i).2.2.1 with
      | none => some (wWarm S ch gain st i)
      | some c => some (if wWarm S ch gain st i < c then wWarm S ch gain st i else c)), wOn S ch gain st i)
/-! ### where they stand -/
structure PartsAt (G : Hp) (as : List Addr) (ps : List (Int × Int × Int)) : Prop where
  len : as.length = ps.length
  at_ : ∀ (i : Nat) (a : Addr) (p : Int × Int × Int), as[i]? = some a → ps[i]? = some p → G a = some (.tup [.int p.1, .int p.2.1, .int p.2.2])
def IsSet (K : PySem.W.Frag) (A : Ads) (G : Hp) (p : Addr) (S : SetD) : Prop :=
  (S.kind = 0 ∧ SettingC K A.cSetting ∧ ∃ dx, G p = some (.ins A.cSetting dx [("least", .int S.lo), ("most", .int S.hi)])) ∨
  (S.kind = 1 ∧ HourSettingC K A.cHourSetting ∧ 0 < S.len ∧ ∃ dx q as, G p = some (.ins A.cHourSetting dx [("least", .int S.lo), ("most", .int S.hi), ("length", .int S.len), ("hours", .ref q)]) ∧ G q = some (.tup (as.map V.ref)) ∧ PartsAt G as S.parts) ∨
  (S.kind = 2 ∧ RestSettingC K A.cRestSetting ∧ ∃ dx, G p = some (.ins A.cRestSetting dx [("least", .int S.lo), ("most", .int S.hi), ("rest", .int S.rest)]))
/-- simple facts go over -/
def ExS (G G' : Hp) : Prop := ∀ b o, G b = some o → simpleO o = true → G' b = some o
theorem exs_of {G G' : Hp} (e : Ex G G') : ExS G G' := fun b o q _ => e b o q
theorem PartsAt.sup {G G' : Hp} {as : List Addr} {ps : List (Int × Int × Int)} (e : ExS G G') (h : PartsAt G as ps) : PartsAt G' as ps := ⟨h.len, fun i a p h1 h2 => e _ _ (h.at_ i a p h1 h2) rfl⟩
theorem IsSet.sup {K : PySem.W.Frag} {A : Ads} {G G' : Hp} {p : Addr} {S : SetD} (e : ExS G G') (h : IsSet K A G p S) : IsSet K A G' p S := by
  rcases h with ⟨a, b, dx, h⟩ | ⟨a, b, c, dx, q, as, h1, h2, h3⟩ | ⟨a, b, dx, h⟩
  · exact .inl ⟨a, b, dx, e _ _ h rfl⟩
  · exact .inr (.inl ⟨a, b, c, dx, q, as, e _ _ h1 rfl, e _ _ h2 rfl, h3.sup e⟩)
  · exact .inr (.inr ⟨a, b, dx, e _ _ h rfl⟩)
theorem IsSet.up {K : PySem.W.Frag} {A : Ads} {G G' : Hp} {p : Addr} {S : SetD} (e : Ex G G') (h : IsSet K A G p S) : IsSet K A G' p S := h.sup (exs_of e)
theorem _root_.Wm.IsWeather.sup {K : PySem.W.Frag} {A : Ads} {G H : Hp} {p t : Addr} {ch : List Int} (e : ExS G H) (h : IsWeather K A G p t ch) : IsWeather K A H p t ch := by
  obtain ⟨a, b, dx, h1, h2⟩ := h
  exact ⟨a, b, dx, e _ _ h1 rfl, e _ _ h2 rfl⟩
/-! ### a walked generator's caller -/
def smp (G : Hp) : Hp := fun b => (G b).filter simpleO
theorem smp_ex (G : Hp) : Ex (smp G) G := fun b o q => by
  unfold smp at q
  cases hg : G b with
  | none => rw [hg] at q; cases q
  | some u =>
    rw [hg] at q
    have q : (if simpleO u = true then some u else none) = some o := q
    split at q
    · exact q
    · cases q
theorem smp_simple (G : Hp) : SimpleG (smp G) := fun b o q => by
  unfold smp at q
  cases hg : G b with
  | none => rw [hg] at q; cases q
  | some u =>
    rw [hg] at q
    have q : (if simpleO u = true then some u else none) = some o := q
    split at q
    · rename_i h
      cases q
      exact h
    · cases q
theorem exs_smp (G : Hp) : ExS G (core (smp G)) := fun b o q h => core_of (by unfold smp; rw [q]; show (if simpleO o = true then some o else none) = some o; rw [if_pos h]) h
theorem rg2_I {sp : SpG2} {vs : List V} {G H : Hp} {mu : Mu} {cont : Hp → (Nat → V → Hp → Prop) → Nat → Hp → Prop} {Pi : Nat → V → Hp → Prop} {N : Nat} (hh : Hold G mu H) (h : ExS G (core (smp G)) → sp vs (smp G) Pi N) (k : Ex (smp G) H → cont (smp G) Pi N H) : rG2 sp vs H cont :=
  ⟨smp G, Pi, N, (smp_ex G).trans hh.ex, smp_simple G, h (exs_smp G), k ((smp_ex G).trans hh.ex)⟩
/-! ### rules for the readings -/
section
variable {σ : L2.St} {H : Hp} {D : GE2} {i : Nat} {t u : TG2} {tp : TS} {te : TE} {tr : TA} {gt : TG} {G : Hp} {Pi : Nat → V → Hp → Prop}
theorem g2_then (k : t { D with nx := fun i' σ' H' => u D i' σ' H' } i σ H) : tG2Then t u D i σ H := k
theorem g2_0 (k : D.nx i σ H) : tG20 D i σ H := k
theorem g2_p (k : tp { nx := D.nx i, rt := D.rt i, bk := D.bk i, ct := D.ct i } σ H) : tP2 tp D i σ H := k
theorem g2_y (h : i < 1000000) (k : te σ H fun x H1 => Ex (core G) H1 ∧ Pi i x H1 ∧ D.nx (i + 1) σ (core G)) : tY2 G Pi te D i σ H := ⟨szl h, k⟩
theorem g2_forR1 {n : Int} (hv : ∀ R : List V → Hp → Prop, R [.int n] H → tr σ H R) (h3 : -(2 ^ 62) ≤ n) (h4 : n < 2 ^ 62) (Pv : Nat → Nat → L2.St → Hp → Prop) (h0 : Pv 0 i σ H)
    (hs : ∀ (j k : Nat) σ H, (j : Int) < n → Pv j k σ H → gt (.int (j : Int)) σ H fun σ2 H2 => t { D with nx := Pv (j + 1), ct := Pv (j + 1), bk := D.nx } k σ2 H2) (hd : ∀ k σ H, Pv n.toNat k σ H → D.nx k σ H) : tG2For (iRng1 tr) gt t D i σ H := by
  refine hv _ ⟨n, rfl, h3, h4, fun j m k σ H => m = n.toNat - j ∧ j ≤ n.toNat ∧ Pv j k σ H, ⟨n.toNat, by simp, Nat.zero_le _, h0⟩, ?_⟩
  rintro j m k σ H ⟨rfl, hi, p⟩
  by_cases hlt : j < n.toNat
  · refine .inr ⟨hlt, Pv (j + 1), fun k' σ' H' p' => ⟨n.toNat - (j + 1), by omega, rfl, hlt, p'⟩, fun x H' y => ?_⟩
    obtain ⟨e, ex⟩ := y
    subst e ex
    rw [show (0 : Int) + (j : Int) = (j : Int) from Int.zero_add _]
    exact hs j k σ _ (by omega) p
  · have e : j = n.toNat := by omega
    subst e
    exact .inl ⟨Nat.le_refl _, hd k σ H p⟩
theorem g2_forR2 {lo n : Int} (hv : ∀ R : List V → Hp → Prop, R [.int lo, .int n] H → tr σ H R) (h1 : -(2 ^ 62) ≤ lo) (h2 : lo < 2 ^ 62) (h3 : -(2 ^ 62) ≤ n) (h4 : n < 2 ^ 62) (Pv : Nat → Nat → L2.St → Hp → Prop) (h0 : Pv 0 i σ H)
    (hs : ∀ (j k : Nat) σ H, lo + (j : Int) < n → Pv j k σ H → gt (.int (lo + (j : Int))) σ H fun σ2 H2 => t { D with nx := Pv (j + 1), ct := Pv (j + 1), bk := D.nx } k σ2 H2) (hd : ∀ k σ H, Pv (n - lo).toNat k σ H → D.nx k σ H) : tG2For (iRng2 tr) gt t D i σ H := by
  refine hv _ ⟨lo, n, rfl, ⟨h1, h2, h3, h4⟩, fun j m k σ H => m = (n - lo).toNat - j ∧ j ≤ (n - lo).toNat ∧ Pv j k σ H, ⟨(n - lo).toNat, by simp, Nat.zero_le _, h0⟩, ?_⟩
  rintro j m k σ H ⟨rfl, hi, p⟩
  by_cases hlt : j < (n - lo).toNat
  · refine .inr ⟨hlt, Pv (j + 1), fun k' σ' H' p' => ⟨(n - lo).toNat - (j + 1), by omega, rfl, hlt, p'⟩, fun x H' y => ?_⟩
    obtain ⟨e, ex⟩ := y
    subst e ex
    exact hs j k σ _ (by omega) p
  · have e : j = (n - lo).toNat := by omega
    subst e
    exact .inl ⟨Nat.le_refl _, hd k σ H p⟩
end
section
variable {σ : L2.St} {H : Hp} {D : Ends} {i : Nat} {c : TTw} {t u : TS} {ta : TEw} {tb te : TE} {r : R2} {Q : VK} {QB : Bool → L2.St → Hp → Prop} {QW : V → L2.St → Hp → Prop}
theorem r_ifW (k : c σ H fun b σ1 H1 => if b = true then t D σ1 H1 else u D σ1 H1) : tIfW c t u D σ H := k
theorem r_wCmp (k : ta σ H fun x σ1 H1 => tb σ1 H1 fun y H2 => r x y H2 fun z H3 => ∃ k, z = .bl k ∧ QB k σ1 H3) : wCmp r ta tb σ H QB := k
theorem r_wNm (k : ta σ H fun x σ1 H1 => QW x (σ1.set i (some x)) H1) : wNm ta i σ H QW := k
theorem r_wE (k : te σ H fun x H1 => QW x σ H1) : wE te σ H QW := k
end
section
variable {K : PySem.W.Frag} {A : Ads} {σ : L2.St} {H : Hp} {i : Nat} {a : Addr} {S : SetD} {vs : List V} {sp s1 s2 s3 : Sp} {E : XK} {t : TA} {Q : VK} {m : Str}
theorem ap_call3 (hs : σ[i]? = some (some (.ref a))) (is : IsSet K A H a S) (ht : ∀ R : List V → Hp → Prop, R vs H → t σ H R) (k : sp (.ref a :: vs) H Q E) : tCall3 i A.cSetting A.cHourSetting A.cRestSetting sp E t σ H Q := by
  rcases is with ⟨_, _, dx, h⟩ | ⟨_, _, _, dx, q, as, h, _⟩ | ⟨_, _, dx, h⟩
  · exact .inl ⟨a, hs, ht _ ⟨dx, _, h, k⟩⟩
  · exact .inr (.inl ⟨a, hs, ht _ ⟨dx, _, h, k⟩⟩)
  · exact .inr (.inr ⟨a, hs, ht _ ⟨dx, _, h, k⟩⟩)
theorem ap_mt3 (is : IsSet K A H a S) (hm : m ≠ "least" ∧ m ≠ "most" ∧ m ≠ "length" ∧ m ≠ "hours" ∧ m ≠ "rest") (ht : ∀ R : List V → Hp → Prop, R vs H → t σ H R) (k1 : S.kind = 0 → s1 (.ref a :: vs) H Q E) (k2 : S.kind = 1 → s2 (.ref a :: vs) H Q E) (k3 : S.kind = 2 → s3 (.ref a :: vs) H Q E) :
    rMtd A.cSetting m s1 E t σ (.ref a) H Q ∨ rMtd A.cHourSetting m s2 E t σ (.ref a) H Q ∨ rMtd A.cRestSetting m s3 E t σ (.ref a) H Q := by
  obtain ⟨m1, m2, m3, m4, m5⟩ := hm
  have lk : ∀ {f : Str} {v : V} {r : List (Str × V)}, m ≠ f → ((f, v) :: r).lookup m = r.lookup m := fun {f v r} h => by
    rw [List.lookup_cons]
    have : (m == f) = false := by simpa using h
    rw [this]
  rcases is with ⟨e, _, dx, h⟩ | ⟨e, _, _, dx, q, as, h, _⟩ | ⟨e, _, dx, h⟩
  · exact .inl ⟨a, dx, _, rfl, h, by rw [lk m1, lk m2]; rfl, ht _ (k1 e)⟩
  · exact .inr (.inl ⟨a, dx, _, rfl, h, by rw [lk m1, lk m2, lk m3, lk m4]; rfl, ht _ (k2 e)⟩)
  · exact .inr (.inr ⟨a, dx, _, rfl, h, by rw [lk m1, lk m2, lk m5]; rfl, ht _ (k3 e)⟩)
end
end Wm
end

section
namespace Wm
open PySem PySem.Spec PyProof.Rows L2 StX
/-! ## Raising defs: errors with an index; Weather; _law_weather -/
/-- what an error class with one field must have -/
structure IdxC (K : PySem.W.Frag) (C : Addr) (f : Str) : Prop where
  oex : OexC K C
  noat : PySem.W.findIn K (.ref C) f = some none
def sp_idx (K : PySem.W.Frag) (C : Addr) (f : Str) : Sp := fun vs H Q _ => ∃ p v, vs = [.ref p, v] ∧ IdxC K C f ∧ H p = some (exo p C none) ∧ ∀ dx, H dx = none → dx ≠ p → Q .non (upd (upd H dx (exd dx [(f, v)])) p (exo p C (some dx)))
def sp_InvalidWeather_init (K : PySem.W.Frag) (A : Ads) : Sp := sp_idx K A.cInvalidWeather "index"
/-- what a def lets out: an error of the class C whose field f is v -/
def LetE (G : Hp) (mu : Mu) (C : Addr) (f : Str) (v : V) (E : XK) : Prop := ∀ d H', Hold G mu H' → H' d = some (.xd [(f, v)]) → E (.ref C) (some d) H'
section
variable {K : PySem.W.Frag} {A : Ads}
/-- the first fault of a weather's changes -/
def badAt (ch : List Int) (i : Nat) : Prop := i = 24 ∨ ∃ z, ch[i]? = some z ∧ ¬ (-100 ≤ z ∧ z ≤ 100)
/-- i is the first one -/
def FirstBad (ch : List Int) (i : Nat) : Prop := (ch = [] ∧ i = 0) ∨ (i < ch.length ∧ badAt ch i ∧ ∀ j < i, ¬ badAt ch j)
def sp_Weather_bodyX (K : PySem.W.Frag) (A : Ads) : Sp := fun vs H Q E => ∃ (p dx t : Addr) (ch : List Int) (G : Hp) (mu : Mu), vs = [.ref p, .ref t] ∧ WeatherC K A.cWeather ∧ IdxC K A.cInvalidWeather "index" ∧ ch.length ≤ 10000 ∧ Hold G ((p, .ins A.cWeather dx []) :: mu) H ∧ G t = some (.tup (ch.map V.int)) ∧
  (WOk ch → ∀ G' H', Ex G G' → IsWeather K A G' p t ch → Hold G' mu H' → Q .non H') ∧ (∀ i : Nat, FirstBad ch i → LetE G mu A.cInvalidWeather "index" (.int i) E)
def sp_Weather_initX (K : PySem.W.Frag) (A : Ads) : Sp := fun vs H Q E => ∃ ws rest, vs = ws ++ rest ∧ ws.length = ["self"].length ∧ rest.length ≤ sizeLine ∧ ∀ p, H p = Option.none → sp_Weather_bodyX K A (ws ++ [V.ref p]) (upd H p (.tup rest)) Q E
def sp_law_weatherX (K : PySem.W.Frag) (A : Ads) : Sp := fun vs H Q E => ∃ (t : Addr) (ch : List Int) (G : Hp) (mu : Mu), vs = [.ref t] ∧ WeatherC K A.cWeather ∧ IdxC K A.cInvalidWeather "index" ∧ Hold G mu H ∧ G t = some (.tup (ch.map V.int)) ∧ 0 < ch.length ∧ ch.length ≤ 6 ∧
  (WOk ch → ∀ w wt G' H', Ex G G' → IsWeather K A G' w wt ch → Hold G' mu H' → Q (.ref w) H') ∧ (∀ i : Nat, FirstBad ch i → LetE G mu A.cInvalidWeather "index" (.int i) E)
def t_InvalidWeather_init (K : PySem.W.Frag) (A : Ads) : TS := tSeq (tDrop (tVeI K (tCons (tVar 0) (tCons (tC (.str "invalid weather")) (tNil))))) (tOst K "index" (tVar 0) (tVar 1))
def t_Weather_initX (K : PySem.W.Frag) (A : Ads) (E : XK) : TS := tSeq (tIfS (tTest (tOp (rEqD K) (tVar 1) (tTup (tNil)))) (tRz (tMkX A.cInvalidWeather (sp_InvalidWeather_init K A) (tC (.int 0))) E) (tNext)) (tSeq (tFor (iEnumT K (tCons (tVar 1) (tNil))) (gTup K 2 (gCons (gName 2) (gCons (gName 3) (gNil)))) (tIfS (tOr (tTest (tOp rEq (tVar 2) (tC (.int 24)))) (tNot (tTest (tChain (rI0 fun i j => .bl (decide (i ≤ j))) (rI0 fun i j => .bl (decide (i ≤ j))) (tOp (rI0 fun i j => .int (i - j)) (tC (.int 0)) (tC (.int 100))) (tVar 3) (tC (.int 100)))))) (tRz (tMkX A.cInvalidWeather (sp_InvalidWeather_init K A) (tVar 2)) E) (tNext))) (sFld K (tVar 0) (tVar 1) "pattern"))
def t_law_weatherX (K : PySem.W.Frag) (A : Ads) (E : XK) : TS := tSeq (tAsg (tOp rCat (tCB (rListOf K) (tCons (tVar 0) (tNil))) (tOp rRep (tLst (tCons (tC (.int 0)) (tNil))) (tC (.int 6)))) (gName 1)) (tSeq (tIfS (tTest (tOp (rI0 fun i j => .bl (decide (i < j))) (tCB (rLen K) (tCons (tVar 0) (tNil))) (tC (.int 3)))) (tRet (tIf (tTest (tOp rEq (tCB (rLen K) (tCons (tVar 0) (tNil))) (tC (.int 1)))) (tMak A.cWeather (sp_Weather_initX K A) E (tCons (tOp (rIx K) (tVar 1) (tC (.int 0))) (tNil))) (tMak A.cWeather (sp_Weather_initX K A) E (tCons (tOp (rIx K) (tVar 1) (tC (.int 0))) (tCons (tOp (rIx K) (tVar 1) (tC (.int 1))) (tNil)))))) (tNext)) (tSeq (tIfS (tTest (tOp (rI0 fun i j => .bl (decide (i < j))) (tCB (rLen K) (tCons (tVar 0) (tNil))) (tC (.int 5)))) (tRet (tIf (tTest (tOp rEq (tCB (rLen K) (tCons (tVar 0) (tNil))) (tC (.int 3)))) (tMak A.cWeather (sp_Weather_initX K A) E (tCons (tOp (rIx K) (tVar 1) (tC (.int 0))) (tCons (tOp (rIx K) (tVar 1) (tC (.int 1))) (tCons (tOp (rIx K) (tVar 1) (tC (.int 2))) (tNil))))) (tMak A.cWeather (sp_Weather_initX K A) E (tCons (tOp (rIx K) (tVar 1) (tC (.int 0))) (tCons (tOp (rIx K) (tVar 1) (tC (.int 1))) (tCons (tOp (rIx K) (tVar 1) (tC (.int 2))) (tCons (tOp (rIx K) (tVar 1) (tC (.int 3))) (tNil)))))))) (tNext)) (tSeq (tIfS (tTest (tOp rEq (tCB (rLen K) (tCons (tVar 0) (tNil))) (tC (.int 5)))) (tRet (tMak A.cWeather (sp_Weather_initX K A) E (tCons (tOp (rIx K) (tVar 1) (tC (.int 0))) (tCons (tOp (rIx K) (tVar 1) (tC (.int 1))) (tCons (tOp (rIx K) (tVar 1) (tC (.int 2))) (tCons (tOp (rIx K) (tVar 1) (tC (.int 3))) (tCons (tOp (rIx K) (tVar 1) (tC (.int 4))) (tNil)))))))) (tNext)) (tRet (tMak A.cWeather (sp_Weather_initX K A) E (tCons (tOp (rIx K) (tVar 1) (tC (.int 0))) (tCons (tOp (rIx K) (tVar 1) (tC (.int 1))) (tCons (tOp (rIx K) (tVar 1) (tC (.int 2))) (tCons (tOp (rIx K) (tVar 1) (tC (.int 3))) (tCons (tOp (rIx K) (tVar 1) (tC (.int 4))) (tCons (tOp (rIx K) (tVar 1) (tC (.int 5))) (tNil))))))))))))
end
end Wm
end

section
/-! ## A def that calls what it got, in a try with a named error -/
namespace Wm
open PySem PySem.Spec PyProof.Rows L2 StX LamX
/-- what the def makes of the lambda's reading: ts reads the suite, tret what stands behind the try -/
def TTerr (K : PySem.W.Frag) (CS : Addr) (i : Nat) (Ng : List Str) (ts : Addr → Value → Option Addr → TS) (tret : Ends → Hp → Prop) : (XK → Hp → VK → Prop) → Hp → VK → Prop := fun tl H Q =>
  ∃ Ech : XK, (∀ cls d H', Ech cls d H' → ∀ σ' : L2.St, σ'.length = Ng.length → wAs K (.ref CS) i ts (fun _ _ _ _ => False) { nx := fun _ => tret { nx := fun _ H' => Q .non H', rt := Q }, rt := Q } cls d σ' H') ∧
    tl Ech H fun _ H' => tret { nx := fun _ H' => Q .non H', rt := Q } H'
end Wm
end

section
namespace Wm
open PySem PySem.Spec PyProof.Rows L2 StX
/-! ## _law_error: what its suite answers -/
/-- the class D is the i-th of the laws' list of errors -/
structure ErrC (K : PySem.W.Frag) (A : Ads) (D : Addr) (i : Nat) : Prop where
  ex : ExcC K D
  em : PySem.W.exmOne K (.ref D) (.ref A.cWarmthError) = some true
  k0 : PySem.W.kitOne K (.ref D) (.ref A.cContradiction) = some (i == 0)
  k1 : PySem.W.kitOne K (.ref D) (.ref A.cInvalidHeater) = some (i == 1)
  k2 : PySem.W.kitOne K (.ref D) (.ref A.cInvalidNumber) = some (i == 2)
  k3 : PySem.W.kitOne K (.ref D) (.ref A.cInvalidWeather) = some (i == 3)
  k4 : PySem.W.kitOne K (.ref D) (.ref A.cOtherWeather) = some (i == 4)
  kv : PySem.W.kitOne K (.ref D) (.type "ValueError") = some true
def errNames : List Str := ["contradiction", "heater", "number", "weather", "other weather"]
def t_law_error_sx (K : PySem.W.Frag) (A : Ads) (a : Addr) (cls : Value) (d : Option Addr) : TS := tSeq (tAsg (tLst (tCons (tCB (rIsX K a cls d) (tCons (tVar 1) (tCons (tC (.ref A.cContradiction)) (tNil)))) (tCons (tCB (rIsX K a cls d) (tCons (tVar 1) (tCons (tC (.ref A.cInvalidHeater)) (tNil)))) (tCons (tCB (rIsX K a cls d) (tCons (tVar 1) (tCons (tC (.ref A.cInvalidNumber)) (tNil)))) (tNil))))) (gName 2)) (tSeq (tDrop (tBM K "list" rExtend (tVar 2) (tCons (tLst (tCons (tCB (rIsX K a cls d) (tCons (tVar 1) (tCons (tC (.ref A.cInvalidWeather)) (tNil)))) (tCons (tCB (rIsX K a cls d) (tCons (tVar 1) (tCons (tC (.ref A.cOtherWeather)) (tNil)))) (tNil)))) (tNil)))) (tSeq (tIfS (tOr (tTest (tOp rNe (tBM K "list" (rCntB K) (tVar 2) (tCons (tC (.bl true)) (tNil))) (tC (.int 1)))) (tNot (tB (tCB (rIsX K a cls d) (tCons (tVar 1) (tCons (tC (.ty "ValueError")) (tNil))))))) (tRet (tTup (tCons (tC (.str "other")) (tNil)))) (tNext)) (tSeq (tAsg (tOp (rIx K) (tLst (tCons (tC (.str "contradiction")) (tCons (tC (.str "heater")) (tCons (tC (.str "number")) (tCons (tC (.str "weather")) (tCons (tC (.str "other weather")) (tNil))))))) (tBM K "list" (rIndex K) (tVar 2) (tCons (tC (.bl true)) (tNil)))) (gName 3)) (tRet (tIf (tTest (tOp rEq (tVar 3) (tC (.str "weather")))) (tTup (tCons (tVar 3) (tCons (tXf a cls d A.cInvalidWeather "index" (tVar 1)) (tNil)))) (tTup (tCons (tVar 3) (tNil))))))))
def t_law_error (K : PySem.W.Frag) (A : Ads) : TS := tSeq (tNext) (tRet (tTup (tCons (tC (.str "none")) (tNil))))
section
variable {K : PySem.W.Frag} {A : Ads}
def errKinds (i : Nat) : List Bool := [i == 0, i == 1, i == 2, i == 3, i == 4]
/-- what a law's def lets out and _law_error catches -/
def EchL (K : PySem.W.Frag) (A : Ads) (Q : VK) : XK := fun cls d H => ∃ (D : Addr) (i : Nat), cls = .ref D ∧ ErrC K A D i ∧ i < 5 ∧ (d = none ∨ ∃ dd fs, d = some dd ∧ H dd = some (.xd fs)) ∧
  (i = 3 → D = A.cInvalidWeather ∧ ∃ dd fs v, d = some dd ∧ H dd = some (.xd fs) ∧ fs.lookup ("index" : Str) = some v) ∧
  ∀ p G' H' xs, Ex H G' → G' p = some (.tup xs) → Hold G' [] H' → (i ≠ 3 → xs = [.str (errNames.getD i "")]) → (i = 3 → ∀ dd fs v, d = some dd → H dd = some (.xd fs) → fs.lookup ("index" : Str) = some v → xs = [.str "weather", v]) → Q (.ref p) H'
abbrev errN : List Str := ["_law_call", "e", "_law_kinds", "_law_name"]
def tErrRet : Ends → Hp → Prop := fun D H => tRet (tTup (tCons (tC (.str "none")) tNil)) D [] H
end
end Wm
end

section
/-! ## A name that holds a class, called; a class without arguments; class methods -/
namespace Wm
open PySem PySem.Spec PyProof.Rows L2 StX ClX
def tMakV (i : Nat) (C : Addr) (sp : Sp) (E : XK) (t : TA) : TE := fun σ H Q => σ[i]? = some (some (.ref C)) ∧ tMak C sp E t σ H Q
section
variable {X : Cx} {CX : CXT} {k j : Nat} {C : Addr} {sp : Sp} {E : XK} {x m f : Str} {p pos apos : Pos} {e o : Expr} {es : List Expr} {ta : TE} {t : TA}
/-- a class method -/
structure CmtR (P : Program) (w : World) (K : PySem.W.Frag) (mg : Str → Option Value) (base : Heap) (CX : CXT) (k : Nat) (C : Addr) (m : Str) (sp : Sp) : Prop where
  ex : ∃ (mc : Value) (p g : Addr), FnR P w K mg base CX k g sp ∧ CRead K C mc ∧ CMet K C mc m p g
end
end Wm
end

section
/-! ## Class methods: what the top has made -/
namespace Wm
open PySem PySem.Spec PyProof.Rows L2 StX ClX
/-- the def behind the class method x.f -/
def cmAd (K : PySem.W.Frag) (x f : Str) : Addr := match PySem.W.recIn K (pAd K x f) "classmethod" with
  | some (.ref g :: _) => g
  | _ => 0
def isCm (K : PySem.W.Frag) (p : Addr) : Bool := match PySem.W.recIn K p "classmethod" with
  | some (.ref _ :: _) => true
  | _ => false
def cmFound (K : PySem.W.Frag) (x f : Str) : Bool := match PySem.W.findCls K (.ref (He.ga K x)) (.type "type") f with
  | some (.get (.builtin n) (.ref p) .none (.ref C)) => n == "classmethod.__get__" && p == pAd K x f && C == He.ga K x
  | _ => false
def cmOk (K : PySem.W.Frag) (d : PrpD) : Bool := PySem.W.readsIn K (He.ga K d.cls) (.type "type") && (He.eqO (PySem.W.specialIn K (.ref (He.ga K d.cls)) "__getattribute__") (some (some (.builtin "type.__getattribute__"))) &&
  (cmFound K d.cls d.name && (isCm K (pAd K d.cls d.name) && (PySem.W.fnIn K (cmAd K d.cls d.name) && (PySem.W.keepIn K (.ref (cmAd K d.cls d.name)) && codeB K (cmAd K d.cls d.name) d.qual)))))
def SaysC (ps : List PrpD) (K : PySem.W.Frag) : Prop := (ps.all fun d => cmOk K d) = true ∧ ps.map (fun d => fnA K (cmAd K d.cls d.name)) = ps.map PrpD.val
end Wm
end

section
namespace Wm
open PySem PySem.Spec PyProof.Rows L2 StX
/-! ## Weather.constant that may raise -/
def sp_Weather_constantX (K : PySem.W.Frag) (A : Ads) : Sp := fun vs H Q E => ∃ (c : Int) (G : Hp) (mu : Mu), vs = [.ref A.cWeather, .int c] ∧ WeatherC K A.cWeather ∧ IdxC K A.cInvalidWeather "index" ∧ Hold G mu H ∧
  (-100 ≤ c ∧ c ≤ 100 → ∀ w wt G' H', Ex G G' → IsWeather K A G' w wt [c] → Hold G' mu H' → Q (.ref w) H') ∧ (¬ (-100 ≤ c ∧ c ≤ 100) → LetE G mu A.cInvalidWeather "index" (.int 0) E)
def t_Weather_constantX (K : PySem.W.Frag) (A : Ads) (E : XK) : TS := tRet (tMakV 0 A.cWeather (sp_Weather_initX K A) E (tCons (tVar 1) (tNil)))
section
variable {K : PySem.W.Frag} {A : Ads}
end
end Wm
end

section
namespace Wm
open PySem PySem.Spec PyProof.Rows L2 StX
/-! ## Weather.__add__ that may raise -/
def addN (a b : List Int) : Nat := a.length / Nat.gcd a.length b.length * b.length
def addCh (a b : List Int) : List Int := (List.range (addN a b)).map fun k => a.getD (k % a.length) 0 + b.getD (k % b.length) 0
def sp_Weather___addX (K : PySem.W.Frag) (A : Ads) : Sp := fun vs H Q E => ∃ (p1 t1 p2 t2 : Addr) (c1 c2 : List Int) (G : Hp) (mu : Mu), vs = [.ref p1, .ref p2] ∧ IsWeather K A G p1 t1 c1 ∧ IsWeather K A G p2 t2 c2 ∧ IdxC K A.cInvalidWeather "index" ∧ Hold G mu H ∧
  (WOk (addCh c1 c2) → ∀ w wt G' H', Ex G G' → IsWeather K A G' w wt (addCh c1 c2) → Hold G' mu H' → Q (.ref w) H') ∧ (∀ i : Nat, FirstBad (addCh c1 c2) i → LetE G mu A.cInvalidWeather "index" (.int i) E)
def t_Weather___addX (K : PySem.W.Frag) (A : Ads) (E : XK) : TS := tSeq (tAsg (tTup (tCons (tFld K (tVar 0) "pattern") (tCons (tFld K (tVar 1) "pattern") (tNil)))) (gTup K 2 (gCons (gName 2) (gCons (gName 3) (gNil))))) (tSeq (tAsg (tOp (rI CMul fun i j => .int (i * j)) (tOp (rI CDivW fun i j => .int (i / j)) (tCB (rLen K) (tCons (tVar 2) (tNil))) (tCal (sp_common_divisor K A) E0 (tCons (tCB (rLen K) (tCons (tVar 2) (tNil))) (tCons (tCB (rLen K) (tCons (tVar 3) (tNil))) (tNil))))) (tCB (rLen K) (tCons (tVar 3) (tNil)))) (gName 4)) (tSeq (tAsg (tLc (iRng1 (tCons (tVar 4) (tNil))) (gName 6) (tYes) (tOp (rI0 fun i j => .int (i + j)) (tOp (rIx K) (tVar 2) (tOp (rI (fun _ j => 0 < j) fun i j => .int (i % j)) (tCB rInt (tCons (tVar 6) (tNil))) (tCB (rLen K) (tCons (tVar 2) (tNil))))) (tOp (rIx K) (tVar 3) (tOp (rI (fun _ j => 0 < j) fun i j => .int (i % j)) (tCB rInt (tCons (tVar 6) (tNil))) (tCB (rLen K) (tCons (tVar 3) (tNil)))))) [6]) (gName 5)) (tRet (tMakS K A.cWeather (sp_Weather_initX K A) E (tVar 5)))))
section
variable {K : PySem.W.Frag} {A : Ads}
end
end Wm
end

section
namespace Wm
open PySem PySem.Spec PyProof.Rows L2 StX
/-! ## Later weather, moved heaters -/
def rotW (ch : List Int) (t : Int) : List Int := ch.drop (t % ch.length).toNat ++ ch.take (t % ch.length).toNat
def sp_Weather_later (K : PySem.W.Frag) (A : Ads) : Sp := fun vs H Q _ => ∃ (p wt : Addr) (t : Int) (ch : List Int) (G : Hp) (mu : Mu), vs = [.ref p, .int t] ∧ Hold G mu H ∧ IsWeather K A G p wt ch ∧ 0 ≤ t ∧ t ≤ 10 ^ 18 ∧
  ∀ (q qt : Addr) (G' H' : Hp), Ex G G' → IsWeather K A G' q qt (rotW ch t) → Hold G' mu H' → Q (.ref q) H'
def sp_Heater_moved (K : PySem.W.Frag) (A : Ads) : Sp := fun vs H Q _ => ∃ (p : Addr) (d g lo hi : Int) (G : Hp) (mu : Mu), vs = [.ref p, .int d] ∧ Hold G mu H ∧ IsHeater K A G p g lo hi ∧ HtOk g (lo + d) (hi + d) ∧
  ∀ (q : Addr) (G' H' : Hp), Ex G G' → IsHeater K A G' q g (lo + d) (hi + d) → Hold G' mu H' → Q (.ref q) H'
def t_Weather_later (K : PySem.W.Frag) (A : Ads) : TS := tSeq (tDrop (tCal (sp_validate_number K A) E0 (tCons (tVar 1) (tCons (tC (.int 0)) (tCons (tC (.int 1000000000000000000)) (tNil)))))) (tSeq (tAsg (tOp (rI (fun _ j => 0 < j) fun i j => .int (i % j)) (tCB rInt (tCons (tVar 1) (tNil))) (tCB (rLen K) (tCons (tFld K (tVar 0) "pattern") (tNil)))) (gName 2)) (tSeq (tAsg (tOp (rCatA K) (tSl (rSlA K) (tFld K (tVar 0) "pattern") (tPart (tVar 2)) (tNoPart)) (tSl (rSlA K) (tFld K (tVar 0) "pattern") (tNoPart) (tPart (tVar 2)))) (gName 3)) (tRet (tMakS K A.cWeather (sp_Weather_init K A) E0 (tVar 3)))))
def t_Heater_moved (K : PySem.W.Frag) (A : Ads) : TS := tRet (tMak A.cHeater (sp_Heater_init K A) E0 (tCons (tFld K (tVar 0) "power") (tCons (tOp (rI0 fun i j => .int (i + j)) (tFld K (tVar 0) "below") (tVar 1)) (tCons (tOp (rI0 fun i j => .int (i + j)) (tFld K (tVar 0) "above") (tVar 1)) (tNil)))))
section
variable {K : PySem.W.Frag} {A : Ads} {G H : Hp} {mu : Mu} {Q : VK} {E : XK} {p q w wt h : Addr} {R : RoomD} {t d g lo hi st : Int} {ch : List Int} {on : Bool} {xs : List V}
end
section
variable {K : PySem.W.Frag} {A : Ads}
end
section
variable {K : PySem.W.Frag} {A : Ads} {G H : Hp} {mu : Mu} {Q : VK} {E : XK} {σ : L2.St} {p q w wt h : Addr} {R : RoomD} {t d g lo hi st : Int} {ch : List Int} {on : Bool} {tr : TA}
end
end Wm
end

section
namespace Wm
open PySem PySem.Spec PyProof.Rows L2 StX
/-! ## Weather's operators, where nothing is raised -/
def sp_Weather___add (K : PySem.W.Frag) (A : Ads) : Sp := fun vs H Q _ => ∃ (p1 t1 p2 t2 : Addr) (c1 c2 : List Int) (G : Hp) (mu : Mu), vs = [.ref p1, .ref p2] ∧ IsWeather K A G p1 t1 c1 ∧ IsWeather K A G p2 t2 c2 ∧ WOk (addCh c1 c2) ∧ Hold G mu H ∧
  ∀ w wt G' H', Ex G G' → IsWeather K A G' w wt (addCh c1 c2) → Hold G' mu H' → Q (.ref w) H'
def sp_Weather___mul (K : PySem.W.Frag) (A : Ads) : Sp := fun vs H Q _ => ∃ (p t : Addr) (n : Int) (c : List Int) (G : Hp) (mu : Mu), vs = [.ref p, .int n] ∧ IsWeather K A G p t c ∧ WOk (c.map (· * n)) ∧ Hold G mu H ∧
  ∀ w wt G' H', Ex G G' → IsWeather K A G' w wt (c.map (· * n)) → Hold G' mu H' → Q (.ref w) H'
def sp_Weather___neg (K : PySem.W.Frag) (A : Ads) : Sp := fun vs H Q _ => ∃ (p t : Addr) (c : List Int) (G : Hp) (mu : Mu), vs = [.ref p] ∧ IsWeather K A G p t c ∧ Hold G mu H ∧
  ∀ w wt G' H', Ex G G' → IsWeather K A G' w wt (c.map (0 - ·)) → Hold G' mu H' → Q (.ref w) H'
def sp_Weather___len (K : PySem.W.Frag) (A : Ads) : Sp := fun vs H Q _ => ∃ (p t : Addr) (ch : List Int), vs = [.ref p] ∧ IsWeather K A H p t ch ∧ Q (.int (ch.length : Nat)) H
def sp_Weather___getitem (K : PySem.W.Frag) (A : Ads) : Sp := fun vs H Q _ => ∃ (p t : Addr) (n : Int) (ch : List Int), vs = [.ref p, .int n] ∧ IsWeather K A H p t ch ∧ 0 ≤ n ∧ n ≤ 10 ^ 18 ∧ Q (.int (cyc ch n)) H
/-- the sum of a table's first n values -/
def sumW (ch : List Int) (n : Int) : Int := n / ch.length * ch.sum + (ch.take (n % ch.length).toNat).sum
def sp_Weather___call (K : PySem.W.Frag) (A : Ads) : Sp := fun vs H Q _ => ∃ (p t : Addr) (n : Int) (ch : List Int), vs = [.ref p, .int n] ∧ IsWeather K A H p t ch ∧ 0 ≤ n ∧ n ≤ 10 ^ 18 ∧ ∀ H', Ex H H' → Q (.int (sumW ch n)) H'
def t_Weather___add (K : PySem.W.Frag) (A : Ads) : TS := tSeq (tAsg (tTup (tCons (tFld K (tVar 0) "pattern") (tCons (tFld K (tVar 1) "pattern") (tNil)))) (gTup K 2 (gCons (gName 2) (gCons (gName 3) (gNil))))) (tSeq (tAsg (tOp (rI CMul fun i j => .int (i * j)) (tOp (rI CDivW fun i j => .int (i / j)) (tCB (rLen K) (tCons (tVar 2) (tNil))) (tCal (sp_common_divisor K A) E0 (tCons (tCB (rLen K) (tCons (tVar 2) (tNil))) (tCons (tCB (rLen K) (tCons (tVar 3) (tNil))) (tNil))))) (tCB (rLen K) (tCons (tVar 3) (tNil)))) (gName 4)) (tSeq (tAsg (tLc (iRng1 (tCons (tVar 4) (tNil))) (gName 6) (tYes) (tOp (rI0 fun i j => .int (i + j)) (tOp (rIx K) (tVar 2) (tOp (rI (fun _ j => 0 < j) fun i j => .int (i % j)) (tCB rInt (tCons (tVar 6) (tNil))) (tCB (rLen K) (tCons (tVar 2) (tNil))))) (tOp (rIx K) (tVar 3) (tOp (rI (fun _ j => 0 < j) fun i j => .int (i % j)) (tCB rInt (tCons (tVar 6) (tNil))) (tCB (rLen K) (tCons (tVar 3) (tNil)))))) [6]) (gName 5)) (tRet (tMakS K A.cWeather (sp_Weather_init K A) E0 (tVar 5)))))
def t_Weather___mul (K : PySem.W.Frag) (A : Ads) : TS := tSeq (tAsg (tLc (iTup K (tFld K (tVar 0) "pattern")) (gName 3) (tYes) (tOp (rI CMul fun i j => .int (i * j)) (tVar 3) (tVar 1)) [3]) (gName 2)) (tRet (tMakS K A.cWeather (sp_Weather_init K A) E0 (tVar 2)))
def t_Weather___neg (K : PySem.W.Frag) (A : Ads) : TS := tSeq (tAsg (tLc (iTup K (tFld K (tVar 0) "pattern")) (gName 2) (tYes) (tOp (rI0 fun i j => .int (i - j)) (tC (.int 0)) (tVar 2)) [2]) (gName 1)) (tRet (tMakS K A.cWeather (sp_Weather_init K A) E0 (tVar 1)))
def t_Weather___len (K : PySem.W.Frag) (A : Ads) : TS := tRet (tCB (rLen K) (tCons (tFld K (tVar 0) "pattern") (tNil)))
def t_Weather___getitem (K : PySem.W.Frag) (A : Ads) : TS := tSeq (tDrop (tCal (sp_validate_number K A) E0 (tCons (tVar 1) (tCons (tC (.int 0)) (tCons (tC (.int 1000000000000000000)) (tNil)))))) (tRet (tOp (rIx K) (tFld K (tVar 0) "pattern") (tOp (rI (fun _ j => 0 < j) fun i j => .int (i % j)) (tCB rInt (tCons (tVar 1) (tNil))) (tCB (rLen K) (tCons (tFld K (tVar 0) "pattern") (tNil))))))
def t_Weather___call (K : PySem.W.Frag) (A : Ads) : TS := tSeq (tDrop (tCal (sp_validate_number K A) E0 (tCons (tVar 1) (tCons (tC (.int 0)) (tCons (tC (.int 1000000000000000000)) (tNil)))))) (tSeq (tAsg (tOp (rI (fun _ j => 0 < j) fun i j => .int (i % j)) (tCB rInt (tCons (tVar 1) (tNil))) (tCB (rLen K) (tCons (tFld K (tVar 0) "pattern") (tNil)))) (gName 2)) (tRet (tOp (rI0 fun i j => .int (i + j)) (tOp (rI CMul fun i j => .int (i * j)) (tOp (rI CDivW fun i j => .int (i / j)) (tVar 1) (tCB (rLen K) (tCons (tFld K (tVar 0) "pattern") (tNil)))) (tCB (rSumT K) (tCons (tFld K (tVar 0) "pattern") (tNil)))) (tCB (rSumT K) (tCons (tSl (rSlA K) (tFld K (tVar 0) "pattern") (tNoPart) (tPart (tVar 2))) (tNil))))))
section
variable {K : PySem.W.Frag} {A : Ads}
theorem weatherL {G : Hp} {mu : Mu} {H : Hp} {Q : VK} {E : XK} {ch : List Int} {p : Addr} (hh : Hold G mu H) (WC : WeatherC K A.cWeather) (wok : WOk ch) (ht : Lst G p (ch.map V.int)) (k : ∀ (q qt : Addr) (G' H' : Hp), Ex G G' → IsWeather K A G' q qt ch → Hold G' mu H' → Q (.ref q) H') :
    ∃ a xs, V.ref p = V.ref a ∧ (SqT K H a xs ∨ SqL K H a xs) ∧ ∀ x dx, H x = none → H dx = none → dx ≠ x → sp_Weather_init K A (V.ref x :: xs) (upd (upd H dx (.own x)) x (.ins A.cWeather dx [])) (fun v H2 => v = .non ∧ Q (.ref x) H2) E := by
  refine ⟨p, ch.map V.int, rfl, .inr (hh.lst (SqL.of_ ht)), fun x dx hx hd hne => ?_⟩
  have hh2 : Hold G ((x, .ins A.cWeather dx []) :: mu) (upd (upd H dx (.own x)) x (.ins A.cWeather dx [])) := (hh.newg (o := .own x) hd).newm (by rw [upd_ne (Ne.symm hne)]; exact hx)
  refine ⟨[V.ref x], ch.map V.int, rfl, rfl, sz (by rw [List.length_map]; have := wok.2.1; omega), fun r hr => ?_⟩
  refine ⟨x, dx, r, ch, _, mu, rfl, WC, wok, hh2.new hr, upd_same, fun G' H' ex iw hh' => ⟨rfl, k x r G' H' ?_ iw hh'⟩⟩
  exact (Ex.new (hh2.g_none hr)).trans ex
theorem pure_Weather___len (vs : List V) (H : Hp) (Q : VK) (E : XK) (h : sp_Weather___len K A vs H Q E) : t_Weather___len K A { nx := fun _ H' => Q .non H', rt := Q } (start ["self"] vs) H := by
  obtain ⟨p, t, ch, rfl, ⟨WC, ok, dx, h1, h2⟩, k⟩ := h
  show t_Weather___len K A _ [some (.ref p)] H
  unfold t_Weather___len
  walk_at "w"
  rw [List.length_map]
  exact k
theorem cyc_at {ch : List Int} (hp : 0 < ch.length) (n : Int) : atI (ch.map V.int) (n % (ch.length : Int)) = some (.int (cyc ch n)) := by
  have m0 := Int.emod_nonneg n (show (ch.length : Int) ≠ 0 by omega)
  have m1 := Int.emod_lt_of_pos n (show (0 : Int) < ch.length by omega)
  refine atI_of m0 ?_
  unfold cyc
  rw [List.getElem?_map, List.getD_eq_getElem?_getD, List.getElem?_eq_getElem (by omega)]
  rfl
theorem pure_Weather___getitem (vs : List V) (H : Hp) (Q : VK) (E : XK) (h : sp_Weather___getitem K A vs H Q E) : t_Weather___getitem K A { nx := fun _ H' => Q .non H', rt := Q } (start ["self", "tick"] vs) H := by
  obtain ⟨p, t, n, ch, rfl, ⟨WC, ok, dx, h1, h2⟩, n0, n1, k⟩ := h
  show t_Weather___getitem K A _ [some (.ref p), some (.int n)] H
  unfold t_Weather___getitem
  have hp := ok.1
  walk_at "w"
  refine ⟨n, 0, 1000000000000000000, rfl, n0, by omega, ?_⟩
  walk_at "w"
  rw [List.length_map]
  walk_at "w"
  refine rix_ht h2 (cyc_at hp n) ?_
  exact k
theorem pure_Weather___mul (vs : List V) (H : Hp) (Q : VK) (E : XK) (h : sp_Weather___mul K A vs H Q E) : t_Weather___mul K A { nx := fun _ H' => Q .non H', rt := Q } (start ["self", "times", "multiplied", "change"] vs) H := by
  obtain ⟨p, t, n, ch, G, mu, rfl, iw, ok', hh, k⟩ := h
  obtain ⟨WC, ok, dx, h1, h2⟩ := id iw
  show t_Weather___mul K A _ [some (.ref p), some (.int n), none, none] H
  unfold t_Weather___mul
  walk_at "w"
  refine lcT_fil ch V.int (fun _ => true) (fun z => .int (z * n)) hh (by have := ok.2.1; omega) h2 (fun z hz D acc G4 H4 LY LN ex4 hh4 hY hN => ?_) fun D G4 H4 ex4 hD hh4 => ?_
  · have := ok.2.2 z hz
    walk_at "w"
    exact hY _ _ _ rfl rfl (Ex.refl _) hh4
  · rw [flt_all] at hD
    have hD : Lst G4 D ((ch.map (· * n)).map V.int) := by rw [List.map_map]; exact hD
    walk_at "w"
    refine ⟨_, rfl, ?_⟩
    exact weatherL hh4 WC ok' hD fun q qt G' H' ex iw' hh' => k q qt G' H' (ex4.trans ex) iw' hh'
theorem pure_Weather___add (vs : List V) (H : Hp) (Q : VK) (E : XK) (h : sp_Weather___add K A vs H Q E) : t_Weather___add K A { nx := fun _ H' => Q .non H', rt := Q } (start ["self", "other", "one", "two", "size", "both", "tick"] vs) H := by
  obtain ⟨p1, t1, p2, t2, c1, c2, G, mu, rfl, iw1, iw2, okA, hh, k⟩ := h
  obtain ⟨WC, ok1, d1, h1, g1⟩ := id iw1
  obtain ⟨_, ok2, d2, h2, g2⟩ := id iw2
  have ht1 : Tup G t1 (c1.map V.int) := g1
  have ht2 : Tup G t2 (c2.map V.int) := g2
  have n1 := ok1.1
  have n2 := ok2.1
  show t_Weather___add K A _ [some (.ref p1), some (.ref p2), none, none, none, none, none] H
  unfold t_Weather___add
  walk_at "w"
  rename_i pq G1 H1 ex1 tq hh1
  refine ⟨c1.length, c2.length, by rw [List.length_map, List.length_map], ?_⟩
  rw [List.length_map]
  have gp : 0 < Nat.gcd c1.length c2.length := Nat.gcd_pos_of_pos_left _ n1
  have g24 : Nat.gcd c1.length c2.length ≤ 24 := Nat.le_trans (Nat.gcd_le_left _ n1) ok1.2.1
  show rI CDivW _ _ _ _ _
  refine ⟨_, _, rfl, rfl, cdiv (by omega) (by omega), ?_⟩
  walk_at "w"
  refine ⟨_, _, rfl, rfl, .inr ⟨by omega, by rw [List.length_map]; have := ok2.2.1; omega⟩, ?_⟩
  show gName 4 (.int ((c1.length : Int) / (Nat.gcd c1.length c2.length : Nat) * ((c2.map V.int).length : Nat))) _ _ _
  rw [show ((c1.length : Int) / (Nat.gcd c1.length c2.length : Nat) * ((c2.map V.int).length : Nat)) = ((addN c1 c2 : Nat) : Int) by rw [List.length_map]; unfold addN; rw [Int.natCast_mul, Int.natCast_ediv]]
  walk_at "w"
  have aN : addN c1 c2 ≤ 24 * 24 := Nat.mul_le_mul (Nat.le_trans (Nat.div_le_self _ _) ok1.2.1) ok2.2.1
  refine lcR1_fil (fun _ => true) (fun z => .int (c1.getD (z.toNat % c1.length) 0 + c2.getD (z.toNat % c2.length) 0)) hh1 (by omega) (by omega) (fun z z0 z1 D acc G4 H4 LY LN ex4 hh4 hY hN => ?_) fun D4 G4 H4 ex4 hD4 hh4 => ?_
  · obtain ⟨n, rfl⟩ := Int.eq_ofNat_of_zero_le z0
    have a1 : ∀ l : List Int, 0 < l.length → atI (l.map V.int) ((n : Int) % ((l.map V.int).length : Nat)) = some (.int (l.getD (n % l.length) 0)) := fun l hl => by
      refine atI_of (Int.emod_nonneg _ (by rw [List.length_map]; omega)) ?_
      rw [List.length_map, ← Int.natCast_emod, Int.toNat_natCast, List.getElem?_map]
      have hlt : n % l.length < l.length := Nat.mod_lt _ hl
      have e8 : l[n % l.length]? = some (l.getD (n % l.length) 0) := by rw [List.getD_eq_getElem?_getD, List.getElem?_eq_getElem hlt]; rfl
      rw [e8]
      rfl
    walk_at "w"
    refine ⟨_, _, rfl, rfl, by rw [List.length_map]; omega, ?_⟩
    refine rix_ht (hh4.rd (ex4 _ _ (ex1 _ _ g1))) (a1 c1 n1) ?_
    walk_at "w"
    refine ⟨_, _, rfl, rfl, by rw [List.length_map]; omega, ?_⟩
    refine rix_ht (hh4.rd (ex4 _ _ (ex1 _ _ g2))) (a1 c2 n2) ?_
    walk_at "w"
    exact hY _ _ _ rfl rfl (Ex.refl _) hh4
  · rw [flt_all] at hD4
    walk_at "w"
    have e9 : (rngI ((addN c1 c2 : Nat) : Int).toNat).map (fun z => V.int (c1.getD (z.toNat % c1.length) 0 + c2.getD (z.toNat % c2.length) 0)) = (addCh c1 c2).map V.int := by
      unfold rngI addCh
      rw [Int.toNat_natCast, List.map_map, List.map_map]
      rfl
    rw [e9] at hD4
    refine ⟨_, rfl, ?_⟩
    exact weatherL hh4 WC okA hD4 fun q qt G' H' ex iw' hh' => k q qt G' H' (ex1.trans (ex4.trans ex)) iw' hh'
end
end Wm
end

section
namespace Wm
open PySem PySem.Spec PyProof.Rows L2 StX
/-! ## Room.temperatures -/
def tempsOf (P : Par) (a : Int) (n : Nat) : List V := ((List.range n).map fun i : Nat => dAt P (a + i)).map V.int
def sp_Room_temperatures (K : PySem.W.Frag) (A : Ads) : SpG := fun vs H Q _ => ∃ (p : Addr) (R : RoomD) (a b : Int), vs = [.ref p, .int a, .int b] ∧ IsRoom K A H p R ∧ 0 ≤ a ∧ a ≤ b ∧ b ≤ 10 ^ 18 ∧ b ≤ a + 9999 ∧ ∀ H', Ex H H' → Q (tempsOf R.P a (b - a + 1).toNat) H'
def t_Room_temperatures (K : PySem.W.Frag) (A : Ads) : TGn := tGThen (tPlain (tDrop (tCal (sp_validate_number K A) E0 (tCons (tVar 1) (tCons (tC (.int 0)) (tCons (tC (.int 1000000000000000000)) (tNil))))))) (tGThen (tPlain (tDrop (tCal (sp_validate_number K A) E0 (tCons (tVar 2) (tCons (tVar 1) (tCons (tCB rMin2 (tCons (tC (.int 1000000000000000000)) (tCons (tOp (rI0 fun i j => .int (i - j)) (tOp (rI0 fun i j => .int (i + j)) (tVar 1) (tC (.int 10000))) (tC (.int 1))) (tNil)))) (tNil))))))) (tGThen (tGFor (iRng2 (tCons (tVar 1) (tCons (tOp (rI0 fun i j => .int (i + j)) (tVar 2) (tC (.int 1))) (tNil)))) (gName 3) (tGThen (tGYield (tMtd A.cRoom "temperature" (sp_Room_temperature K A) E0 (tVar 0) (tCons (tVar 3) (tNil)))) (tG0))) (tG0)))
section
variable {K : PySem.W.Frag} {A : Ads}
end
section
variable {K : PySem.W.Frag} {A : Ads} {G H : Hp} {mu : Mu} {Q : VK} {σ : L2.St} {p : Addr} {R : RoomD} {a b : Int} {xs : List V} {ta : TE} {t : TA} {C : Addr} {m : Str} {sp : SpG} {E : XK}
def rLgQ (sp : SpG) (vs : List V) (H : Hp) (Q : VK) (E : XK) : Prop := sp vs H (fun out H3 => ∀ p, H3 p = none → Q (.ref p) (upd H3 p (.lst out))) E
def rMtG (C : Addr) (m : Str) (sp : SpG) (E : XK) (t : TA) (σ : L2.St) (x : V) (H1 : Hp) (Q : VK) : Prop := ∃ a dx fs, x = .ref a ∧ H1 a = some (.ins C dx fs) ∧ fs.lookup m = none ∧ t σ H1 fun vs H2 => rLgQ sp (x :: (vs ++ [])) H2 Q E
end
end Wm
end

section
namespace Wm
open PySem PySem.Spec PyProof.Rows L2 StX
/-! ## The helpers of the later laws: draws, weather -/
structure DT where
  p : Int
  m : Int
  r : Int
abbrev dd (a s : Addr) (d : DT) : Addr × HO := (a, .lst [.ref s, .int d.p, .int d.m, .int d.r])
def sp_law2_drawn (K : PySem.W.Frag) (A : Ads) : Sp := fun vs H Q _ => ∃ (a s : Addr) (d : DT) (lim : Int) (cs : List Int) (G : Hp) (mu : Mu), vs = [.ref a, .int lim] ∧ Hold G (dd a s d :: mu) H ∧ SqL K G s (cs.map V.int) ∧ 0 ≤ d.p ∧ 0 < lim ∧ lim < 2 ^ 64 ∧
  ∀ (n : Int) (d' : DT) (H' : Hp), 0 ≤ n → n < lim → 0 ≤ d'.p → Hold G (dd a s d' :: mu) H' → Q (.int n) H'
def sp_law2_start (K : PySem.W.Frag) (A : Ads) : Sp := fun vs H Q _ => ∃ (s : Addr) (cs : List Int) (G : Hp) (mu : Mu), vs = [.ref s] ∧ Hold G mu H ∧ SqL K G s (cs.map V.int) ∧
  ∀ (a : Addr) (d : DT) (H' : Hp), 0 ≤ d.p → Hold G (dd a s d :: mu) H' → Q (.ref a) H'
def sp_law2_changes (K : PySem.W.Frag) (A : Ads) : Sp := fun vs H Q _ => ∃ (a s : Addr) (d : DT) (most : Int) (cs : List Int) (G : Hp) (mu : Mu), vs = [.ref a, .int most] ∧ Hold G (dd a s d :: mu) H ∧ SqL K G s (cs.map V.int) ∧ 0 ≤ d.p ∧ 1 ≤ most ∧ most ≤ 24 ∧
  ∀ (l : Addr) (ch : List Int) (d' : DT) (G' H' : Hp), Ex G G' → Lst G' l (ch.map V.int) → WOk ch → (ch.length : Int) ≤ most → 0 ≤ d'.p → Hold G' (dd a s d' :: mu) H' → Q (.ref l) H'
def unitL (n k : Nat) : List Int := (List.range n).map fun i => if i = k then 1 else 0
def sp_law2_single (K : PySem.W.Frag) (A : Ads) : Sp := fun vs H Q _ => ∃ (n k : Nat) (G : Hp) (mu : Mu), vs = [.int (n : Int), .int (k : Int)] ∧ WeatherC K A.cWeather ∧ Hold G mu H ∧ 1 ≤ n ∧ n ≤ 5 ∧
  ∀ w wt G' H', Ex G G' → IsWeather K A G' w wt (unitL n k) → Hold G' mu H' → Q (.ref w) H'
def sp_law2_weather (K : PySem.W.Frag) (A : Ads) : Sp := fun vs H Q _ => ∃ (l : Addr) (ch : List Int) (G : Hp) (mu : Mu), vs = [.ref l] ∧ WeatherC K A.cWeather ∧ Hold G mu H ∧ Lst G l (ch.map V.int) ∧ WOk ch ∧ ch.length ≤ 5 ∧
  ∀ w wt G' H', Ex G G' → IsWeather K A G' w wt ch → Hold G' mu H' → Q (.ref w) H'
/-! ### the sums of weathers of one tick -/
theorem unit_len (n k : Nat) : (unitL n k).length = n := by unfold unitL; rw [List.length_map, List.length_range]
theorem unit_get {n k i : Nat} (h : i < n) : (unitL n k)[i]? = some (if i = k then 1 else 0) := by
  unfold unitL
  rw [List.getElem?_map, List.getElem?_range h]
  rfl
theorem add_len {a b : List Int} : (addCh a b).length = addN a b := by unfold addCh; rw [List.length_map, List.length_range]
theorem addN_eq {a b : List Int} {n : Nat} (hn : 0 < n) (hb : b.length = n) (ha : a.length = n ∨ a.length = 1) : addN a b = n := by
  unfold addN
  rw [hb]
  rcases ha with ha | ha <;> rw [ha]
  · rw [Nat.gcd_self, Nat.div_self hn, Nat.one_mul]
  · rw [Nat.gcd_one_left, Nat.div_one, Nat.one_mul]
theorem add_get {a b : List Int} {n : Nat} (hn : 0 < n) (hb : b.length = n) (ha : a.length = n ∨ a.length = 1) {i : Nat} (hi : i < n) : (addCh a b)[i]? = some (a.getD (i % a.length) 0 + b.getD i 0) := by
  unfold addCh
  rw [addN_eq hn hb ha, List.getElem?_map, List.getElem?_range hi]
  show some (a.getD (i % a.length) 0 + b.getD (i % b.length) 0) = _
  rw [hb, Nat.mod_eq_of_lt hi]
theorem getD_of {l : List Int} {i : Nat} {x : Int} (h : l[i]? = some x) : l.getD i 0 = x := by rw [List.getD_eq_getElem?_getD, h]; rfl
/-- the first k changes, nothing behind -/
def padL (ch : List Int) (k : Nat) : List Int := (List.range ch.length).map fun i => if i < k then ch.getD i 0 else 0
theorem pad_len (ch : List Int) (k : Nat) : (padL ch k).length = ch.length := by unfold padL; rw [List.length_map, List.length_range]
theorem pad_get {ch : List Int} {k i : Nat} (h : i < ch.length) : (padL ch k)[i]? = some (if i < k then ch.getD i 0 else 0) := by
  unfold padL
  rw [List.getElem?_map, List.getElem?_range h]
  rfl
theorem pad_full (ch : List Int) : padL ch ch.length = ch := by
  apply List.ext_getElem?
  intro i
  by_cases h : i < ch.length
  · rw [pad_get h, if_pos h, List.getElem?_eq_getElem h, getD_of (List.getElem?_eq_getElem h)]
  · rw [List.getElem?_eq_none (by rw [pad_len]; omega), List.getElem?_eq_none (by omega)]
theorem pad_zero {ch : List Int} {k : Nat} (h : ∀ i, i < ch.length → ch.getD i 0 = 0) : padL ch k = ch := by
  apply List.ext_getElem?
  intro i
  by_cases c : i < ch.length
  · rw [pad_get c, h i c]
    have := h i c
    rw [getD_of (List.getElem?_eq_getElem c)] at this
    rw [List.getElem?_eq_getElem c, this]
    split <;> rfl
  · rw [List.getElem?_eq_none (by rw [pad_len]; omega), List.getElem?_eq_none (by omega)]
theorem pad_ok {ch : List Int} (ok : WOk ch) (k : Nat) : WOk (padL ch k) := by
  refine ⟨by rw [pad_len]; exact ok.1, by rw [pad_len]; exact ok.2.1, fun z hz => ?_⟩
  obtain ⟨i, hi, rfl⟩ := List.mem_map.mp hz
  have hi := List.mem_range.mp hi
  show -100 ≤ (if i < k then ch.getD i 0 else 0) ∧ (if i < k then ch.getD i 0 else 0) ≤ 100
  split
  · rw [getD_of (List.getElem?_eq_getElem hi)]
    exact ok.2.2 _ (List.getElem_mem hi)
  · omega
/-- what the sum is behind k ticks -/
def SumIs (ch : List Int) (k : Nat) (r : List Int) : Prop := r = padL ch k ∨ (r = [0] ∧ ∀ i, i < k → ch.getD i 0 = 0)
theorem sum_skip {ch : List Int} {k : Nat} {r : List Int} (h : SumIs ch k r) (hk : ch.getD k 0 = 0) : SumIs ch (k + 1) r := by
  have e : padL ch (k + 1) = padL ch k := by
    unfold padL
    refine List.map_congr_left fun i _ => ?_
    by_cases c : i < k
    · rw [if_pos c, if_pos (by omega)]
    · by_cases d : i = k
      · subst d
        rw [if_pos (by omega), if_neg c, hk]
      · rw [if_neg (by omega), if_neg c]
  rcases h with h | ⟨h1, h2⟩
  · exact .inl (h.trans e.symm)
  · refine .inr ⟨h1, fun i hi => ?_⟩
    by_cases d : i = k
    · subst d; exact hk
    · exact h2 i (by omega)
theorem sum_add {ch : List Int} {k : Nat} {r : List Int} (hk : k < ch.length) (h : SumIs ch k r) : addCh r ((unitL ch.length k).map (· * ch.getD k 0)) = padL ch (k + 1) := by
  have hb : ((unitL ch.length k).map (· * ch.getD k 0)).length = ch.length := by rw [List.length_map, unit_len]
  have hn : 0 < ch.length := by omega
  have ha : r.length = ch.length ∨ r.length = 1 := by
    rcases h with h | h
    · rw [h, pad_len]; exact .inl rfl
    · rw [h.1]; exact .inr rfl
  apply List.ext_getElem?
  intro i
  by_cases c : i < ch.length
  · rw [add_get hn hb ha c, pad_get c]
    have hu : ((unitL ch.length k).map (· * ch.getD k 0)).getD i 0 = (if i = k then 1 else 0) * ch.getD k 0 := getD_of (by rw [List.getElem?_map, unit_get c]; rfl)
    rw [hu]
    congr 1
    have hr : r.getD (i % r.length) 0 = if i < k then ch.getD i 0 else 0 := by
      rcases h with h | ⟨h, h0⟩
      · rw [h, pad_len, Nat.mod_eq_of_lt c]
        exact getD_of (pad_get c)
      · rw [h]
        show ([0] : List Int).getD (i % 1) 0 = _
        rw [Nat.mod_one]
        show (0 : Int) = _
        split
        · exact (h0 i (by omega)).symm
        · rfl
    rw [hr]
    by_cases d : i = k
    · subst d
      rw [if_neg (by omega), if_pos rfl, if_pos (by omega)]
      omega
    · rw [if_neg d]
      by_cases e : i < k
      · rw [if_pos e, if_pos (by omega)]; omega
      · rw [if_neg e, if_neg (by omega)]; omega
  · rw [List.getElem?_eq_none (by rw [add_len, addN_eq hn hb ha]; omega), List.getElem?_eq_none (by rw [pad_len]; omega)]
theorem unit_ok {n k : Nat} {c : Int} (hn : 0 < n) (hl : n ≤ 24) (c0 : -100 ≤ c) (c1 : c ≤ 100) : WOk ((unitL n k).map (· * c)) := by
  refine ⟨by rw [List.length_map, unit_len]; exact hn, by rw [List.length_map, unit_len]; exact hl, fun z hz => ?_⟩
  obtain ⟨y, hy, rfl⟩ := List.mem_map.mp hz
  obtain ⟨i, _, rfl⟩ := List.mem_map.mp hy
  show -100 ≤ (if i = k then 1 else 0) * c ∧ (if i = k then 1 else 0) * c ≤ 100
  split <;> omega
def t_law2_start (K : PySem.W.Frag) (A : Ads) : TS := tSeq (tAsg (tC (.int 1)) (gName 1)) (tSeq (tFor (iList K (tVar 0)) (gName 2) (tAsg (tOp (rI (fun _ j => 0 < j) fun i j => .int (i % j)) (tOp (rI0 fun i j => .int (i + j)) (tOp (rI0 fun i j => .int (i + j)) (tOp (rI CMul fun i j => .int (i * j)) (tVar 1) (tC (.int 48271))) (tVar 2)) (tC (.int 7))) (tC (.int 2147483647))) (gName 1))) (tRet (tLst (tCons (tVar 0) (tCons (tC (.int 0)) (tCons (tVar 1) (tCons (tC (.int 0)) (tNil))))))))
def t_law2_drawn (K : PySem.W.Frag) (A : Ads) : TS := tSeq (tIfS (tTest (tOp (rI0 fun i j => .bl (decide (j < i))) (tOp (rIx K) (tVar 0) (tC (.int 3))) (tC (.int 0)))) (tSeq (tAsg (tOp (rI (fun _ j => 0 < j) fun i j => .int (i % j)) (tOp (rIx K) (tVar 0) (tC (.int 3))) (tVar 1)) (gName 2)) (tSeq (tAsg (tOp (rI CDivW fun i j => .int (i / j)) (tOp (rIx K) (tVar 0) (tC (.int 3))) (tVar 1)) (gSub (tVar 0) (tC (.int 3)) rSetL)) (tRet (tVar 2)))) (tNext)) (tSeq (tAsg (tOp (rI0 fun i j => .int (i + j)) (tOp (rIx K) (tVar 0) (tC (.int 1))) (tC (.int 1))) (gSub (tVar 0) (tC (.int 1)) rSetL)) (tSeq (tIfS (tTest (tOp (rI0 fun i j => .bl (decide (i ≤ j))) (tOp (rIx K) (tVar 0) (tC (.int 1))) (tCB (rLen K) (tCons (tOp (rIx K) (tVar 0) (tC (.int 0))) (tNil))))) (tSeq (tAsg (tOp (rIx K) (tOp (rIx K) (tVar 0) (tC (.int 0))) (tOp (rI0 fun i j => .int (i - j)) (tOp (rIx K) (tVar 0) (tC (.int 1))) (tC (.int 1)))) (gName 3)) (tSeq (tAsg (tIf (tTest (tOp (rI0 fun i j => .bl (decide (j ≤ i))) (tVar 3) (tOp (rI CPow fun i j => .int (i ^ j.toNat)) (tC (.int 10)) (tC (.int 18))))) (tOp (rI CDivW fun i j => .int (i / j)) (tVar 3) (tVar 1)) (tC (.int 0))) (gSub (tVar 0) (tC (.int 3)) rSetL)) (tRet (tOp (rI (fun _ j => 0 < j) fun i j => .int (i % j)) (tVar 3) (tVar 1))))) (tNext)) (tSeq (tAsg (tOp (rI (fun _ j => 0 < j) fun i j => .int (i % j)) (tOp (rI0 fun i j => .int (i + j)) (tOp (rI CMul fun i j => .int (i * j)) (tOp (rIx K) (tVar 0) (tC (.int 2))) (tC (.int 48271))) (tC (.int 11))) (tC (.int 2147483647))) (gSub (tVar 0) (tC (.int 2)) rSetL)) (tRet (tOp (rI (fun _ j => 0 < j) fun i j => .int (i % j)) (tOp (rI CDivW fun i j => .int (i / j)) (tOp (rIx K) (tVar 0) (tC (.int 2))) (tC (.int 7))) (tVar 1))))))
def t_law2_changes (K : PySem.W.Frag) (A : Ads) : TS := tSeq (tAsg (tOp (rIx K) (tLst (tCons (tC (.int 3)) (tCons (tC (.int 9)) (tCons (tC (.int 100)) (tNil))))) (tCal (sp_law2_drawn K A) E0 (tCons (tVar 0) (tCons (tC (.int 3)) (tNil))))) (gName 2)) (tRet (tLc (iRng1 (tCons (tOp (rI0 fun i j => .int (i + j)) (tC (.int 1)) (tCal (sp_law2_drawn K A) E0 (tCons (tVar 0) (tCons (tVar 1) (tNil))))) (tNil))) (gName 3) (tYes) (tOp (rI0 fun i j => .int (i - j)) (tCal (sp_law2_drawn K A) E0 (tCons (tVar 0) (tCons (tOp (rI0 fun i j => .int (i + j)) (tOp (rI CMul fun i j => .int (i * j)) (tC (.int 2)) (tVar 2)) (tC (.int 1))) (tNil)))) (tVar 2)) [3]))
def t_law2_single (K : PySem.W.Frag) (A : Ads) : TS := tSeq (tAsg (tLc (iRng1 (tCons (tVar 0) (tNil))) (gName 3) (tYes) (tCB rInt (tCons (tOp rEq (tVar 3) (tVar 1)) (tNil))) [3]) (gName 2)) (tSeq (tIfS (tTest (tOp rEq (tVar 0) (tC (.int 1)))) (tRet (tMak A.cWeather (sp_Weather_init K A) E0 (tCons (tOp (rIx K) (tVar 2) (tC (.int 0))) (tNil)))) (tNext)) (tSeq (tIfS (tTest (tOp rEq (tVar 0) (tC (.int 2)))) (tRet (tMak A.cWeather (sp_Weather_init K A) E0 (tCons (tOp (rIx K) (tVar 2) (tC (.int 0))) (tCons (tOp (rIx K) (tVar 2) (tC (.int 1))) (tNil))))) (tNext)) (tSeq (tIfS (tTest (tOp rEq (tVar 0) (tC (.int 3)))) (tRet (tMak A.cWeather (sp_Weather_init K A) E0 (tCons (tOp (rIx K) (tVar 2) (tC (.int 0))) (tCons (tOp (rIx K) (tVar 2) (tC (.int 1))) (tCons (tOp (rIx K) (tVar 2) (tC (.int 2))) (tNil)))))) (tNext)) (tSeq (tIfS (tTest (tOp rEq (tVar 0) (tC (.int 4)))) (tRet (tMak A.cWeather (sp_Weather_init K A) E0 (tCons (tOp (rIx K) (tVar 2) (tC (.int 0))) (tCons (tOp (rIx K) (tVar 2) (tC (.int 1))) (tCons (tOp (rIx K) (tVar 2) (tC (.int 2))) (tCons (tOp (rIx K) (tVar 2) (tC (.int 3))) (tNil))))))) (tNext)) (tRet (tMak A.cWeather (sp_Weather_init K A) E0 (tCons (tOp (rIx K) (tVar 2) (tC (.int 0))) (tCons (tOp (rIx K) (tVar 2) (tC (.int 1))) (tCons (tOp (rIx K) (tVar 2) (tC (.int 2))) (tCons (tOp (rIx K) (tVar 2) (tC (.int 3))) (tCons (tOp (rIx K) (tVar 2) (tC (.int 4))) (tNil))))))))))))
def t_law2_weather (K : PySem.W.Frag) (A : Ads) : TS := tSeq (tAsg (tMak A.cWeather (sp_Weather_init K A) E0 (tCons (tC (.int 0)) (tNil))) (gName 1)) (tSeq (tFor (iRng1 (tCons (tCB (rLen K) (tCons (tVar 0) (tNil))) (tNil))) (gName 2) (tIfS (tTest (tOp rNe (tOp (rIx K) (tVar 0) (tVar 2)) (tC (.int 0)))) (tAsg (tOp (rOwn2 A.cWeather (sp_Weather___add K A) E0) (tVar 1) (tOp (rOwnI A.cWeather (sp_Weather___mul K A) E0) (tCal (sp_law2_single K A) E0 (tCons (tCB (rLen K) (tCons (tVar 0) (tNil))) (tCons (tVar 2) (tNil)))) (tOp (rIx K) (tVar 0) (tVar 2)))) (gName 1)) (tNext))) (tRet (tIf (tTest (tOp rEq (tCB (rOwnLen A.cWeather (sp_Weather___len K A) E0) (tCons (tVar 1) (tNil))) (tCB (rLen K) (tCons (tVar 0) (tNil))))) (tVar 1) (tOp (rOwn2 A.cWeather (sp_Weather___add K A) E0) (tVar 1) (tOp (rOwnI A.cWeather (sp_Weather___mul K A) E0) (tCal (sp_law2_single K A) E0 (tCons (tCB (rLen K) (tCons (tVar 0) (tNil))) (tCons (tC (.int 0)) (tNil)))) (tC (.int 0)))))))
section
variable {K : PySem.W.Frag} {A : Ads}
section
variable {G H : Hp} {mu : Mu} {g : TG} {tt : TT} {te : TE} {vs : List Nat} {σ : L2.St} {Q : VK} {a : Addr}
/-- items that are drawn, none left out -/
def LcE (G : Hp) (St : Mu → Prop) (Pe : V → Prop) (x : V) (g : TG) (tt : TT) (te : TE) (vs : List Nat) (σ : L2.St) : Prop :=
  ∀ (D : Addr) (acc : List V) (G' H' : Hp) (mu' : Mu) (LY : V → Hp → Prop) (LN : Hp → Prop), Ex G G' → St mu' → Hold G' ((D, .lst acc) :: mu') H' →
    (∀ y H4 G4 mu4, Pe y → St mu4 → Ex G' G4 → Hold G4 ((D, .lst acc) :: mu4) H4 → LY y H4) →
    g x (wipe σ vs) H' fun σ2 H2 => wipe σ2 vs = wipe σ vs ∧ tt σ2 H2 fun b H3 => if b = true then te σ2 H3 LY else LN H3
theorem lcR1_all {n : Int} (St : Mu → Prop) (Pe : V → Prop) (hh : Hold G mu H) (h0 : St mu) (hn : n ≤ 1000000) (hn0 : -(2 ^ 62) ≤ n) (hs : ∀ z, 0 ≤ z → z < n → LcE G St Pe (V.int z) g tt te vs σ)
    (hd : ∀ D acc G' H' mu', acc.length = n.toNat → Ex G G' → St mu' → Lst G' D acc → (∀ y ∈ acc, Pe y) → Hold G' mu' H' → Q (.ref D) H') : LcR1 g tt te vs σ Q [.int n] H := by
  refine lcR1_by hh (by omega) hn0 (fun i acc G' mu' => St mu' ∧ acc.length = i ∧ ∀ y ∈ acc, Pe y) ⟨h0, rfl, fun y h => by cases h⟩ ?_ ?_
  · rintro i D acc G' mu' H' hi hal ex hh' ⟨st, hlen, pe⟩
    refine hs (i : Int) (by omega) hi D acc G' H' mu' _ _ ex st hh' (fun y H4 G4 mu4 hy s4 ex4 hh4 => ?_)
    refine lcY hh4 (ex.trans ex4) hal (by omega) ⟨s4, by rw [List.length_append, hlen]; rfl, fun z hz => ?_⟩
    rcases List.mem_append.mp hz with h | h
    · exact pe z h
    · rw [List.mem_singleton] at h
      rw [h]; exact hy
  · rintro D acc G' mu' H' hal ex hh' ⟨st, hlen, pe⟩
    obtain ⟨G2, ex2, h2, hh2⟩ := hh'.frzL
    exact hd D acc G2 H' mu' hlen (ex.trans ex2) st h2 pe hh2
end
section
variable {G H : Hp} {mu : Mu} {a s : Addr} {d : DT} {cs : List Int} {Q : VK} {E : XK} {lim : Int} {x : Addr × HO}
theorem ap_drawn (hh : Hold G (dd a s d :: mu) H) (hs : SqL K G s (cs.map V.int)) (d0 : 0 ≤ d.p) (h0 : 0 < lim) (h1 : lim < 2 ^ 64) (k : ∀ (n : Int) (d' : DT) (H' : Hp), 0 ≤ n → n < lim → 0 ≤ d'.p → Hold G (dd a s d' :: mu) H' → Q (.int n) H') : sp_law2_drawn K A [.ref a, .int lim] H Q E :=
  ⟨a, s, d, lim, cs, G, mu, rfl, hh, hs, d0, h0, h1, k⟩
theorem ap_drawn1 (hh : Hold G (x :: dd a s d :: mu) H) (hs : SqL K G s (cs.map V.int)) (d0 : 0 ≤ d.p) (h0 : 0 < lim) (h1 : lim < 2 ^ 64) (k : ∀ (n : Int) (d' : DT) (H' : Hp), 0 ≤ n → n < lim → 0 ≤ d'.p → Hold G (x :: dd a s d' :: mu) H' → Q (.int n) H') : sp_law2_drawn K A [.ref a, .int lim] H Q E :=
  ⟨a, s, d, lim, cs, G, _, rfl, hh.swap, hs, d0, h0, h1, fun n d' H' a b c h => k n d' H' a b c h.swap⟩
end
theorem pure_law2_start (vs : List V) (H : Hp) (Q : VK) (E : XK) (h : sp_law2_start K A vs H Q E) : t_law2_start K A { nx := fun _ H' => Q .non H', rt := Q } (start ["_law_script", "_law_mixed", "_law_cell"] vs) H := by
  obtain ⟨s, cs, G, mu, rfl, hh, hs, k⟩ := h
  show t_law2_start K A _ [some (.ref s), none, none] H
  unfold t_law2_start
  walk_at "w"
  refine forL_by (hh.lst hs) (fun i σ H' => ∃ (m : Int) (v2 : Option V), σ = [some (.ref s), some (.int m), v2] ∧ Hold G mu H') ⟨_, _, rfl, hh⟩ (fun i σ H' _ ⟨_, _, _, h⟩ => h.lst hs) ?_ ?_
  · rintro i y σ H' hy ⟨m, v2, rfl, hh'⟩
    obtain ⟨z, _, rfl⟩ := ints_of hy
    walk_at "w"
    exact ⟨_, _, rfl, hh'⟩
  · rintro σ H' ⟨m, v2, rfl, hh'⟩
    walk_at "w"
    exact lst_m (sz (by show 4 ≤ 1000000; decide)) hh' fun p H2 hh2 => k p ⟨0, m, 0⟩ H2 (Int.le_refl 0) hh2
theorem pure_law2_drawn (vs : List V) (H : Hp) (Q : VK) (E : XK) (h : sp_law2_drawn K A vs H Q E) : t_law2_drawn K A { nx := fun _ H' => Q .non H', rt := Q } (start ["_law_state", "_law_count", "_law_result", "_law_cell"] vs) H := by
  obtain ⟨a, s, ⟨p, m, r⟩, lim, cs, G, mu, rfl, hh, hs, d0, h0, h1, k⟩ := h
  have d0 : 0 ≤ p := d0
  show t_law2_drawn K A _ [some (.ref a), some (.int lim), none, none] H
  unfold t_law2_drawn
  walk_at "w"
  by_cases c : 0 < r
  · rw [if_pos (decide_eq_true c)]
    walk_at "w"
    refine setL_m hh 0 rfl (by rfl) fun H3 hh3 => ?_
    walk_at "w"
    exact k _ ⟨p, m, r / lim⟩ H3 (Int.emod_nonneg _ (by omega)) (Int.emod_lt_of_pos _ h0) d0 hh3
  · rw [if_neg (fun z => c (of_decide_eq_true z))]
    walk_at "w"
    refine setL_m hh 0 rfl (by rfl) fun H3 hh3 => ?_
    have hh3 : Hold G ((a, .lst [.ref s, .int (p + 1), .int m, .int r]) :: mu) H3 := hh3
    walk_at "w"
    rw [List.length_map]
    walk_at "w"
    by_cases c2 : p + 1 ≤ (cs.length : Int)
    · rw [if_pos (decide_eq_true c2)]
      walk_at "w"
      obtain ⟨z, hz⟩ := get_some (l := cs) (i := (p + 1 - 1).toNat) (by omega)
      refine rix_l hh3 hs (atI_of (by omega) (ints_at hz)) ?_
      walk_at "w"
      by_cases c3 : (10 : Int) ^ 18 ≤ z
      · rw [if_pos (decide_eq_true c3)]
        walk_at "w"
        refine setL_m hh3 0 rfl (by rfl) fun H4 hh4 => ?_
        walk_at "w"
        exact k _ ⟨p + 1, m, z / lim⟩ H4 (Int.emod_nonneg _ (by omega)) (Int.emod_lt_of_pos _ h0) (by show 0 ≤ p + 1; omega) hh4
      · rw [if_neg (fun z => c3 (of_decide_eq_true z))]
        walk_at "w"
        refine setL_m hh3 0 rfl (by rfl) fun H4 hh4 => ?_
        walk_at "w"
        exact k _ ⟨p + 1, m, 0⟩ H4 (Int.emod_nonneg _ (by omega)) (Int.emod_lt_of_pos _ h0) (by show 0 ≤ p + 1; omega) hh4
    · rw [if_neg (fun z => c2 (of_decide_eq_true z))]
      walk_at "w"
      refine setL_m hh3 0 rfl (by rfl) fun H4 hh4 => ?_
      have hh4 : Hold G ((a, .lst [.ref s, .int (p + 1), .int ((m * 48271 + 11) % 2147483647), .int r]) :: mu) H4 := hh4
      walk_at "w"
      exact k _ ⟨p + 1, (m * 48271 + 11) % 2147483647, r⟩ H4 (Int.emod_nonneg _ (by omega)) (Int.emod_lt_of_pos _ h0) (by show 0 ≤ p + 1; omega) hh4
theorem ints_all {P : Int → Prop} {acc : List V} (h : ∀ y ∈ acc, ∃ z, y = V.int z ∧ P z) : ∃ xs : List Int, acc = xs.map V.int ∧ ∀ z ∈ xs, P z := allI h
theorem pure_law2_changes (vs : List V) (H : Hp) (Q : VK) (E : XK) (h : sp_law2_changes K A vs H Q E) : t_law2_changes K A { nx := fun _ H' => Q .non H', rt := Q } (start ["_law_state", "_law_most", "_law_high", "_law_k"] vs) H := by
  obtain ⟨a, s, d, most, cs, G, mu, rfl, hh, hs, d0, hm1, hm2, k⟩ := h
  show t_law2_changes K A _ [some (.ref a), some (.int most), none, none] H
  unfold t_law2_changes
  walk_at "w"
  walk_at "wl"
  rename_i pl G1 H1 ex1 tl hh1
  walk_at "w"
  refine ap_drawn hh1 (hs.up ex1) d0 (by decide) (by decide) fun n1 d1 H2 n0 n1' dp hh2 => ?_
  obtain ⟨hi, hx, i0, i1⟩ : ∃ hi : Int, ([3, 9, 100] : List Int)[n1.toNat]? = some hi ∧ 1 ≤ hi ∧ hi ≤ 100 := by
    have : n1 = 0 ∨ n1 = 1 ∨ n1 = 2 := by omega
    rcases this with rfl | rfl | rfl
    · exact ⟨3, rfl, by decide, by decide⟩
    · exact ⟨9, rfl, by decide, by decide⟩
    · exact ⟨100, rfl, by decide, by decide⟩
  refine rix_l hh2 (SqL.of_ (xs := ([3, 9, 100] : List Int).map V.int) tl) (atI_of n0 (ints_at hx)) ?_
  walk_at "w"
  refine ap_drawn hh2 (hs.up ex1) dp (by omega) (by omega) fun n2 d2 H3 m0 m1 dp2 hh3 => ?_
  walk_at "w"
  refine lcR1_all (fun mu' => ∃ d : DT, 0 ≤ d.p ∧ mu' = dd a s d :: mu) (fun y => ∃ z, y = V.int z ∧ (-100 ≤ z ∧ z ≤ 100)) hh3 ⟨d2, dp2, rfl⟩ (by omega) (by omega) (fun z z0 z1 D acc G4 H4 mu4 LY LN ex4 st4 hh4 hY => ?_) fun D acc G4 H4 mu4 hl4 ex4 st4 hD pe hh4 => ?_
  · obtain ⟨d4, dp4, rfl⟩ := st4
    walk_at "w"
    refine ap_drawn1 hh4 (hs.up (ex1.trans ex4)) dp4 (by omega) (by omega) fun n5 d5 H5 p0 p1 dp5 hh5 => ?_
    walk_at "w"
    exact hY _ _ _ _ ⟨n5 - hi, rfl, by omega, by omega⟩ ⟨d5, dp5, rfl⟩ (Ex.refl _) hh5
  · obtain ⟨d4, dp4, rfl⟩ := st4
    obtain ⟨xs, rfl, hxs⟩ := ints_all pe
    rw [List.length_map] at hl4
    walk_at "w"
    exact k D xs d4 G4 H4 (ex1.trans ex4) hD ⟨by omega, by omega, hxs⟩ (by omega) dp4 hh4
theorem unit_map (n k : Nat) : ((rngI n).map fun z : Int => V.int (if decide (z = (k : Int)) = true then 1 else 0)) = (unitL n k).map V.int := by
  unfold rngI unitL
  rw [List.map_map, List.map_map]
  refine List.map_congr_left fun i _ => ?_
  show V.int (if decide ((i : Int) = (k : Int)) = true then 1 else 0) = V.int (if i = k then 1 else 0)
  by_cases h : i = k
  · rw [if_pos h, if_pos (decide_eq_true (by omega))]
  · rw [if_neg h, if_neg (fun z => h (by have := of_decide_eq_true z; omega))]
theorem unit_wok {n k : Nat} (hn : 0 < n) (hl : n ≤ 24) : WOk (unitL n k) := by
  have := unit_ok (n := n) (k := k) (c := 1) hn hl (by decide) (by decide)
  rw [show ((fun x : Int => x * 1) : Int → Int) = id from funext fun x => Int.mul_one x, List.map_id] at this
  exact this
theorem pure_law2_single (vs : List V) (H : Hp) (Q : VK) (E : XK) (h : sp_law2_single K A vs H Q E) : t_law2_single K A { nx := fun _ H' => Q .non H', rt := Q } (start ["_law_size", "_law_at", "_law_parts", "_law_k"] vs) H := by
  obtain ⟨n, k, G, mu, rfl, W, hh, hn1, hn5, kk⟩ := h
  show t_law2_single K A _ [some (.int (n : Int)), some (.int (k : Int)), none, none] H
  unfold t_law2_single
  walk_at "w"
  refine lcR1_fil (fun _ => true) (fun z => .int (if decide (z = (k : Int)) = true then 1 else 0)) hh (by omega) (by omega) (fun z z0 z1 D acc G4 H4 LY LN ex4 hh4 hY hN => ?_) fun D4 G4 H4 ex4 hD4 hh4 => ?_
  · walk_at "w"
    exact hY _ _ _ rfl rfl (Ex.refl _) hh4
  rw [flt_all, Int.toNat_natCast, unit_map] at hD4
  have wk := unit_wok (n := n) (k := k) (by omega) (by omega)
  have fin : ∀ vs : List V, vs = (unitL n k).map V.int → rMak A.cWeather (sp_Weather_init K A) E0 vs H4 Q := fun vs e => by
    subst e
    exact weather_m hh4 W wk fun w wt G' H' ex iw hh' => kk w wt G' H' (ex4.trans ex) iw hh'
  obtain rfl | rfl | rfl | rfl | rfl : n = 1 ∨ n = 2 ∨ n = 3 ∨ n = 4 ∨ n = 5 := by omega
  · obtain ⟨x0, e⟩ : ∃ x0, unitL 1 k = [x0] := ⟨_, rfl⟩
    rw [e] at hD4 fin
    walk_at "wd"
    exact fin _ rfl
  · obtain ⟨x0, x1, e⟩ : ∃ x0 x1, unitL 2 k = [x0, x1] := ⟨_, _, rfl⟩
    rw [e] at hD4 fin
    walk_at "wd"
    exact fin _ rfl
  · obtain ⟨x0, x1, x2, e⟩ : ∃ x0 x1 x2, unitL 3 k = [x0, x1, x2] := ⟨_, _, _, rfl⟩
    rw [e] at hD4 fin
    walk_at "wd"
    exact fin _ rfl
  · obtain ⟨x0, x1, x2, x3, e⟩ : ∃ x0 x1 x2 x3, unitL 4 k = [x0, x1, x2, x3] := ⟨_, _, _, _, rfl⟩
    rw [e] at hD4 fin
    walk_at "wd"
    exact fin _ rfl
  · obtain ⟨x0, x1, x2, x3, x4, e⟩ : ∃ x0 x1 x2 x3 x4, unitL 5 k = [x0, x1, x2, x3, x4] := ⟨_, _, _, _, _, rfl⟩
    rw [e] at hD4 fin
    walk_at "wd"
    exact fin _ rfl
theorem pure_law2_weather (vs : List V) (H : Hp) (Q : VK) (E : XK) (h : sp_law2_weather K A vs H Q E) : t_law2_weather K A { nx := fun _ H' => Q .non H', rt := Q } (start ["_law_changes_here", "_law_result", "_law_k"] vs) H := by
  obtain ⟨l, ch, G, mu, rfl, W, hh, hl, ok, h5, kk⟩ := h
  show t_law2_weather K A _ [some (.ref l), none, none] H
  unfold t_law2_weather
  walk_at "w"
  have n0 := ok.1
  refine weather_m (ch := [0]) hh W ⟨by decide, by decide, fun z hz => by rw [List.mem_singleton] at hz; omega⟩ fun w0 wt0 G0 H0 ex0 iw0 hh0 => ?_
  walk_at "w"
  rw [List.length_map]
  have cok : ∀ {i : Nat}, i < ch.length → -100 ≤ ch.getD i 0 ∧ ch.getD i 0 ≤ 100 := fun {i} hi => by
    rw [getD_of (List.getElem?_eq_getElem hi)]
    exact ok.2.2 _ (List.getElem_mem hi)
  refine forR1_by (by omega) (by omega) (fun i σ H' => ∃ (w wt : Addr) (r : List Int) (v2 : Option V) (G' : Hp), σ = [some (.ref l), some (.ref w), v2] ∧ Ex G G' ∧ IsWeather K A G' w wt r ∧ SumIs ch i r ∧ Hold G' mu H')
    ⟨w0, wt0, [0], none, G0, rfl, ex0, iw0, .inr ⟨rfl, fun i h => absurd h (Nat.not_lt_zero i)⟩, hh0⟩ ?_ ?_
  · rintro i σ H1 hi ⟨w, wt, r, v2, G1, rfl, ex1, iw, si, hh1⟩
    have hi : i < ch.length := by omega
    have c0 := cok hi
    walk_at "w"
    have hx : (ch.map V.int)[((i : Int)).toNat]? = some (V.int (ch.getD i 0)) := by rw [Int.toNat_natCast, List.getElem?_map, List.getElem?_eq_getElem hi]; exact congrArg (fun z => some (V.int z)) (getD_of (List.getElem?_eq_getElem hi)).symm
    refine rix_l hh1 (SqL.of_ (hl.up ex1)) (atI_of (by omega) hx) ?_
    walk_at "w"
    by_cases c : ch.getD i 0 = 0
    · refine r_dN (by exact c) ?_
      walk_at "w"
      exact ⟨w, wt, r, _, G1, rfl, ex1, iw, sum_skip si c, hh1⟩
    · refine r_dM (by exact c) ?_
      walk_at "w"
      rw [List.length_map]
      obtain ⟨_, _, dx1, g1, _⟩ := id iw
      refine ⟨ch.length, i, G1, mu, rfl, W, hh1, by omega, h5, fun w2 wt2 G2 H2 ex2 iw2 hh2 => ?_⟩
      walk_at "w"
      refine rix_l hh2 (SqL.of_ (hl.up (ex1.trans ex2))) (atI_of (by omega) hx) ?_
      obtain ⟨_, _, dx2, g2, _⟩ := id iw2
      refine ⟨w2, dx2, _, _, rfl, rfl, hh2.rd g2, w2, wt2, _, _, G2, mu, rfl, iw2, unit_ok (by omega) (by omega) c0.1 c0.2, hh2, fun w3 wt3 G3 H3 ex3 iw3 hh3 => ⟨⟨w3, rfl⟩, ?_⟩⟩
      obtain ⟨_, _, dx3, g3, _⟩ := id iw3
      refine ⟨w, w3, dx1, dx3, _, _, rfl, rfl, hh3.rd ((ex2.trans ex3) _ _ g1), hh3.rd g3, w, wt, w3, wt3, r, _, G3, mu, rfl, iw.up (ex2.trans ex3), iw3, by rw [sum_add hi si]; exact pad_ok ok _, hh3, fun w4 wt4 G4 H4 ex4 iw4 hh4 => ⟨⟨w4, rfl⟩, ?_⟩⟩
      rw [sum_add hi si] at iw4
      walk_at "w"
      exact ⟨w4, wt4, _, _, G4, rfl, ex1.trans (ex2.trans (ex3.trans ex4)), iw4, .inl rfl, hh4⟩
  · rintro σ H1 ⟨w, wt, r, v2, G1, rfl, ex1, iw, si, hh1⟩
    rw [Int.toNat_natCast] at si
    obtain ⟨_, _, dx1, g1, _⟩ := id iw
    walk_at "w"
    refine ⟨w, dx1, _, rfl, hh1.rd g1, w, wt, r, rfl, iw.up hh1.ex, _, rfl, by omega, by have := iw.2.1.2.1; omega, ?_⟩
    walk_at "w"
    rw [List.length_map]
    by_cases e : r.length = ch.length
    · have er : r = ch := by
        rcases si with h | ⟨h, z⟩
        · rw [h, pad_full]
        · have h1 : ch.length = 1 := by rw [← e, h]; rfl
          rcases ch with _ | ⟨x, _ | ⟨y, t⟩⟩
          · exact absurd n0 (Nat.lt_irrefl 0)
          · rw [h]
            exact congrArg (fun z => [z]) (z 0 (Nat.zero_lt_succ _)).symm
          · exact absurd h1 (by simp)
      rw [er] at iw
      refine r_dT (by exact congrArg Int.ofNat e) ?_
      walk_at "w"
      exact kk w wt G1 H1 ex1 iw hh1
    · have hz : r = [0] ∧ ∀ i, i < ch.length → ch.getD i 0 = 0 := by
        rcases si with h | h
        · exact absurd (by rw [h, pad_len]) e
        · exact h
      have si0 : SumIs ch 0 r := .inr ⟨hz.1, fun i h => absurd h (Nat.not_lt_zero i)⟩
      have z0 := hz.2 0 n0
      have add0 := sum_add n0 si0
      rw [z0, pad_zero hz.2] at add0
      refine r_dF (by omega) ?_
      walk_at "w"
      rw [List.length_map]
      refine ⟨ch.length, 0, G1, mu, rfl, W, hh1, by omega, h5, fun w2 wt2 G2 H2 ex2 iw2 hh2 => ?_⟩
      walk_at "w"
      obtain ⟨_, _, dx2, g2, _⟩ := id iw2
      refine ⟨w2, dx2, _, _, rfl, rfl, hh2.rd g2, w2, wt2, _, _, G2, mu, rfl, iw2, unit_ok (by omega) (by omega) (by decide) (by decide), hh2, fun w3 wt3 G3 H3 ex3 iw3 hh3 => ⟨⟨w3, rfl⟩, ?_⟩⟩
      obtain ⟨_, _, dx3, g3, _⟩ := id iw3
      refine ⟨w, w3, dx1, dx3, _, _, rfl, rfl, hh3.rd ((ex2.trans ex3) _ _ g1), hh3.rd g3, w, wt, w3, wt3, r, _, G3, mu, rfl, iw.up (ex2.trans ex3), iw3, by rw [add0]; exact ok, hh3, fun w4 wt4 G4 H4 ex4 iw4 hh4 => ⟨⟨w4, rfl⟩, ?_⟩⟩
      rw [add0] at iw4
      walk_at "w"
      exact kk w4 wt4 G4 H4 (ex1.trans (ex2.trans (ex3.trans ex4))) iw4 hh4
end
end Wm
end

section
namespace Wm
open PySem PySem.Spec PyProof.Rows L2 StX
/-! ## Settings: promises -/
structure SetC (K : PySem.W.Frag) (C : Addr) : Prop where
  cl : Cls K C
  n1 : NoAttr K C "least"
  n2 : NoAttr K C "most"
abbrev DegOk (a : Int) : Prop := -(10 ^ 12) ≤ a ∧ a ≤ 10 ^ 12
def RngOk (a b : Int) : Prop := -(10 ^ 12) ≤ a ∧ a ≤ b ∧ b ≤ 10 ^ 12
def sp_is_range (K : PySem.W.Frag) (A : Ads) : Sp := fun vs H Q _ => ∃ a b : Int, vs = [.int a, .int b] ∧ Q (.bl (decide (-(10 ^ 12) ≤ a) && (decide (a ≤ b) && decide (b ≤ 10 ^ 12)))) H
def sp_Setting_init (K : PySem.W.Frag) (A : Ads) : Sp := fun vs H Q _ => ∃ (p C dx : Addr) (a b : Int) (G : Hp) (mu : Mu), vs = [.ref p, .int a, .int b] ∧ SetC K C ∧ RngOk a b ∧ Hold G ((p, .ins C dx []) :: mu) H ∧
  ∀ H', Hold G ((p, .ins C dx [("least", .int a), ("most", .int b)]) :: mu) H' → Q .non H'
def sp_Setting_thresholds (K : PySem.W.Frag) (A : Ads) : Sp := fun vs H Q _ => ∃ (p C dx : Addr) (fs : List (Str × V)) (t : V) (a b : Int), vs = [.ref p, t] ∧ SetC K C ∧ H p = some (.ins C dx fs) ∧ fs.lookup ("least" : Str) = some (V.int a) ∧ fs.lookup ("most" : Str) = some (V.int b) ∧
  ∀ q H', Ex H H' → H' q = some (.tup [.int a, .int b]) → Q (.ref q) H'
def sp_HourSetting_thresholds (K : PySem.W.Frag) (A : Ads) : Sp := fun vs H Q _ => ∃ (p : Addr) (S : SetD) (t : Int), vs = [.ref p, .int t] ∧ IsSet K A H p S ∧ S.kind = 1 ∧
  ∀ q H', Ex H H' → H' q = some (.tup [.int (S.thr t).1, .int (S.thr t).2]) → Q (.ref q) H'
def sp_Setting_may_switch (K : PySem.W.Frag) (A : Ads) : Sp := fun vs H Q _ => ∃ (p s : V), vs = [p, s] ∧ Q (.bl true) H
def sp_RestSetting_may_switch (K : PySem.W.Frag) (A : Ads) : Sp := fun vs H Q _ => ∃ (p : Addr) (S : SetD) (o : Option Int), vs = [.ref p, optI o] ∧ IsSet K A H p S ∧ S.kind = 2 ∧ Q (.bl (S.may o)) H
def sp_Setting___call (K : PySem.W.Frag) (A : Ads) : Sp := fun vs H Q _ => ∃ (p : Addr) (S : SetD) (t w : Int) (on : Bool) (o : Option Int), vs = [.ref p, .int t, .int w, .bl on, optI o] ∧ IsSet K A H p S ∧ ∀ H', Ex H H' → Q (.bl (S.next t w on o)) H'
def sp_RestSetting_init (K : PySem.W.Frag) (A : Ads) : Sp := fun vs H Q _ => ∃ (p dx : Addr) (a b r : Int) (G : Hp) (mu : Mu), vs = [.ref p, .int a, .int b, .int r] ∧ RestSettingC K A.cRestSetting ∧ RngOk a b ∧ 0 ≤ r ∧ r ≤ 1000 ∧ Hold G ((p, .ins A.cRestSetting dx []) :: mu) H ∧
  ∀ G' H', Ex G G' → IsSet K A G' p ⟨2, a, b, 0, [], r⟩ → Hold G' mu H' → Q .non H'
/-- the parts of a day: the first begins at 0, each behind the one before it -/
def PrtsOk (len : Int) : Int → List (Int × Int × Int) → Prop
  | _, [] => True
  | last, p :: r => last < p.1 ∧ p.1 < len ∧ RngOk p.2.1 p.2.2 ∧ PrtsOk len p.1 r
def sp_HourSetting_body (K : PySem.W.Frag) (A : Ads) : Sp := fun vs H Q _ => ∃ (p dx q : Addr) (len : Int) (as : List Addr) (p0 : Int × Int × Int) (ps : List (Int × Int × Int)) (G : Hp) (mu : Mu), vs = [.ref p, .int len, .ref q] ∧ HourSettingC K A.cHourSetting ∧ 1 ≤ len ∧ len ≤ 24 ∧ G q = some (.tup (as.map V.ref)) ∧ PartsAt G as (p0 :: ps) ∧
  p0.1 = 0 ∧ PrtsOk len (-1) (p0 :: ps) ∧ Hold G ((p, .ins A.cHourSetting dx []) :: mu) H ∧ ∀ G' H', Ex G G' → IsSet K A G' p ⟨1, p0.2.1, p0.2.2, len, p0 :: ps, 0⟩ → Hold G' mu H' → Q .non H'
def sp_HourSetting_init (K : PySem.W.Frag) (A : Ads) : Sp := fun vs H Q E => ∃ ws rest, vs = ws ++ rest ∧ ws.length = ["self", "length"].length ∧ rest.length ≤ sizeLine ∧ ∀ p, H p = Option.none → sp_HourSetting_body K A (ws ++ [V.ref p]) (upd H p (.tup rest)) Q E
def t_is_range (K : PySem.W.Frag) (A : Ads) : TS := tRet (tChain3 (rI0 fun i j => .bl (decide (i ≤ j))) (rI0 fun i j => .bl (decide (i ≤ j))) (rI0 fun i j => .bl (decide (i ≤ j))) (tOp (rI0 fun i j => .int (i - j)) (tC (.int 0)) (tC (.int 1000000000000))) (tVar 0) (tVar 1) (tC (.int 1000000000000)))
def t_Setting_init (K : PySem.W.Frag) (A : Ads) : TS := tSeq (tIfS (tNot (tB (tCal (sp_is_range K A) E0 (tCons (tVar 1) (tCons (tVar 2) (tNil)))))) (tNever) (tNext)) (tSeq (sFld K (tVar 0) (tVar 1) "least") (sFld K (tVar 0) (tVar 2) "most"))
def t_Setting_thresholds (K : PySem.W.Frag) (A : Ads) : TS := tRet (tTup (tCons (tFld K (tVar 0) "least") (tCons (tFld K (tVar 0) "most") (tNil))))
def t_Setting_may_switch (K : PySem.W.Frag) (A : Ads) : TS := tRet (tC (.bl true))
def t_Setting___call_c1 (K : PySem.W.Frag) (A : Ads) : TS := tSeq (tIfS (tAnd (tTest (tOp rNe (tVar 7) (tVar 3))) (tNot (tB (tMtd3 A.cSetting (sp_Setting_may_switch K A) A.cHourSetting (sp_Setting_may_switch K A) A.cRestSetting (sp_RestSetting_may_switch K A) "may_switch" E0 (tVar 0) (tCons (tVar 4) (tNil)))))) (tRet (tVar 3)) (tNext)) (tRet (tVar 7))
def t_Setting___call (K : PySem.W.Frag) (A : Ads) : TS := tSeq (tAsg (tMtd3 A.cSetting (sp_Setting_thresholds K A) A.cHourSetting (sp_HourSetting_thresholds K A) A.cRestSetting (sp_Setting_thresholds K A) "thresholds" E0 (tVar 0) (tCons (tVar 1) (tNil))) (gTup K 2 (gCons (gName 5) (gCons (gName 6) (gNil))))) (tSeq (tAsg (tOrV (tOp (rI0 fun i j => .bl (decide (i < j))) (tVar 2) (tVar 5)) (tAndV (tVar 3) (tOp (rI0 fun i j => .bl (decide (i ≤ j))) (tVar 2) (tVar 6)))) (gName 7)) (t_Setting___call_c1 K A))
def t_HourSetting_init (K : PySem.W.Frag) (A : Ads) : TS := tSeq (tIfS (tNot (tTest (tChain (rI0 fun i j => .bl (decide (i ≤ j))) (rI0 fun i j => .bl (decide (i ≤ j))) (tC (.int 1)) (tVar 1) (tC (.int 24))))) (tNever) (tNext)) (tSeq (tIfS (tTest (tOp (rEqT0 K) (tVar 2) (tTup (tNil)))) (tNever) (tNext)) (tSeq (tAsg (tUn (rU fun i => .int (-i)) (tC (.int 1))) (gName 4)) (tSeq (tFor (iEnumT K (tCons (tVar 2) (tNil))) (gTup K 2 (gCons (gName 5) (gCons (gTup K 3 (gCons (gName 6) (gCons (gName 7) (gCons (gName 8) (gNil))))) (gNil)))) (tSeq (tIfS (tOr (tNot (tTest (tChain (rI0 fun i j => .bl (decide (i < j))) (rI0 fun i j => .bl (decide (i < j))) (tVar 4) (tVar 6) (tVar 1)))) (tOr (tAnd (tTest (tOp rEq (tVar 5) (tC (.int 0)))) (tTest (tOp rNe (tVar 6) (tC (.int 0))))) (tNot (tB (tCal (sp_is_range K A) E0 (tCons (tVar 7) (tCons (tVar 8) (tNil)))))))) (tNever) (tNext)) (tAsg (tVar 6) (gName 4)))) (tSeq (tDrop (tSup A.cHourSetting (sp_Setting_init K A) E0 (tCons (tOp (rIx K) (tOp (rIx K) (tVar 2) (tC (.int 0))) (tC (.int 1))) (tCons (tOp (rIx K) (tOp (rIx K) (tVar 2) (tC (.int 0))) (tC (.int 2))) (tNil))))) (tSeq (sFld K (tVar 0) (tVar 1) "length") (tSeq (sFld K (tVar 0) (tVar 2) "hours") (tNext)))))))
def t_HourSetting_thresholds (K : PySem.W.Frag) (A : Ads) : TS := tSeq (tAsg (tSup A.cHourSetting (sp_Setting_thresholds K A) E0 (tCons (tVar 1) (tNil))) (gName 3)) (tSeq (tFor (iTup K (tFld K (tVar 0) "hours")) (gTup K 3 (gCons (gName 4) (gCons (gName 5) (gCons (gName 6) (gNil))))) (tIfS (tTest (tOp (rI0 fun i j => .bl (decide (i ≤ j))) (tVar 4) (tOp (rI (fun _ j => 0 < j) fun i j => .int (i % j)) (tCB rInt (tCons (tVar 1) (tNil))) (tFld K (tVar 0) "length")))) (tAsg (tTup (tCons (tVar 5) (tCons (tVar 6) (tNil)))) (gName 3)) (tNext))) (tSeq (tRet (tVar 3)) (tNext)))
def t_RestSetting_init (K : PySem.W.Frag) (A : Ads) : TS := tSeq (tDrop (tSup A.cRestSetting (sp_Setting_init K A) E0 (tCons (tVar 1) (tCons (tVar 2) (tNil))))) (tSeq (tIfS (tNot (tTest (tChain (rI0 fun i j => .bl (decide (i ≤ j))) (rI0 fun i j => .bl (decide (i ≤ j))) (tC (.int 0)) (tVar 3) (tC (.int 1000))))) (tNever) (tNext)) (tSeq (sFld K (tVar 0) (tVar 3) "rest") (tNext)))
def t_RestSetting_may_switch (K : PySem.W.Frag) (A : Ads) : TS := tRet (tOrV (tOp rIsN (tVar 1) (tC .non)) (tOp (rI0 fun i j => .bl (decide (j < i))) (tVar 1) (tFld K (tVar 0) "rest")))
section
variable {K : PySem.W.Frag} {A : Ads}
theorem SettingC.set {C : Addr} (h : SettingC K C) : SetC K C := ⟨h.cl, h.n_least, h.n_most⟩
theorem HourSettingC.set {C : Addr} (h : HourSettingC K C) : SetC K C := ⟨h.cl, h.n_least, h.n_most⟩
theorem RestSettingC.set {C : Addr} (h : RestSettingC K C) : SetC K C := ⟨h.cl, h.n_least, h.n_most⟩
theorem pure_is_range (vs : List V) (H : Hp) (Q : VK) (E : XK) (h : sp_is_range K A vs H Q E) : t_is_range K A { nx := fun _ H' => Q .non H', rt := Q } (start ["low", "high"] vs) H := by
  obtain ⟨a, b, rfl, k⟩ := h
  show t_is_range K A _ [some (.int a), some (.int b)] H
  unfold t_is_range
  rw [show (-(10 : Int) ^ 12) = 0 - 1000000000000 by decide, show ((10 : Int) ^ 12) = 1000000000000 by decide] at k
  walk_at "v"
  refine r_ite (fun h1 => ?_) fun h1 => ?_
  · rw [h1, Bool.true_and] at k
    walk_at "v"
    refine r_ite (fun h2 => ?_) fun h2 => ?_
    · rw [h2, Bool.true_and] at k
      walk_at "v"
      exact k
    · rw [h2, Bool.false_and] at k
      walk_at "v"
      exact k
  · rw [h1, Bool.false_and] at k
    walk_at "v"
    exact k
theorem rng_true {a b : Int} (h : RngOk a b) : (decide (-(10 : Int) ^ 12 ≤ a) && (decide (a ≤ b) && decide (b ≤ 10 ^ 12))) = true := by
  obtain ⟨h1, h2, h3⟩ := h
  rw [decide_eq_true h1, decide_eq_true h2, decide_eq_true h3]
  rfl
theorem ap_range {a b : Int} {H : Hp} {Q : VK} {E : XK} (h : RngOk a b) (k : Q (.bl true) H) : sp_is_range K A [.int a, .int b] H Q E := ⟨a, b, rfl, by rw [rng_true h]; exact k⟩
theorem pure_Setting_init (vs : List V) (H : Hp) (Q : VK) (E : XK) (h : sp_Setting_init K A vs H Q E) : t_Setting_init K A { nx := fun _ H' => Q .non H', rt := Q } (start ["self", "low", "high"] vs) H := by
  obtain ⟨p, C, dx, a, b, G, mu, rfl, sc, ro, hh, k⟩ := h
  obtain ⟨s1, s2, s3⟩ := sc
  show t_Setting_init K A _ [some (.ref p), some (.int a), some (.int b)] H
  unfold t_Setting_init
  walk_at "w"
  refine ap_range ro ?_
  walk_at "w"
  refine setF_m hh 0 rfl s1 s2 (of_decide_eq_true rfl) fun H1 hh1 => ?_
  walk_at "w"
  refine setF_m hh1 0 rfl s1 s3 (of_decide_eq_true rfl) fun H2 hh2 => ?_
  walk_at "w"
  exact k _ hh2
theorem pure_Setting_thresholds (vs : List V) (H : Hp) (Q : VK) (E : XK) (h : sp_Setting_thresholds K A vs H Q E) : t_Setting_thresholds K A { nx := fun _ H' => Q .non H', rt := Q } (start ["self", "tick"] vs) H := by
  obtain ⟨p, C, dx, fs, t, a, b, rfl, ⟨s1, s2, s3⟩, hp, l1, l2, k⟩ := h
  show t_Setting_thresholds K A _ [some (.ref p), some t] H
  unfold t_Setting_thresholds
  walk_at "v"
  refine ⟨p, C, dx, fs, _, rfl, hp, s1, s2, l1, ?_⟩
  walk_at "v"
  refine ⟨p, C, dx, fs, _, rfl, hp, s1, s3, l2, ?_⟩
  walk_at "v"
  refine tup_x (by exact of_decide_eq_true rfl) (Hold.start H) fun q H1 e hh1 => ?_
  walk_at "v"
  exact k q H1 hh1.ex e
theorem pure_Setting_may_switch (vs : List V) (H : Hp) (Q : VK) (E : XK) (h : sp_Setting_may_switch K A vs H Q E) : t_Setting_may_switch K A { nx := fun _ H' => Q .non H', rt := Q } (start ["self", "since"] vs) H := by
  obtain ⟨p, s, rfl, k⟩ := h
  unfold t_Setting_may_switch
  walk_at "v"
  exact k
theorem pure_RestSetting_may_switch (vs : List V) (H : Hp) (Q : VK) (E : XK) (h : sp_RestSetting_may_switch K A vs H Q E) : t_RestSetting_may_switch K A { nx := fun _ H' => Q .non H', rt := Q } (start ["self", "since"] vs) H := by
  obtain ⟨p, S, o, rfl, is, e2, k⟩ := h
  show t_RestSetting_may_switch K A _ [some (.ref p), some (optI o)] H
  unfold t_RestSetting_may_switch
  unfold SetD.may at k
  rw [if_pos e2] at k
  obtain ⟨rc, dx, hp⟩ : RestSettingC K A.cRestSetting ∧ ∃ dx, H p = some (.ins A.cRestSetting dx [("least", .int S.lo), ("most", .int S.hi), ("rest", .int S.rest)]) := by
    rcases is with ⟨z, _⟩ | ⟨z, _⟩ | ⟨_, z⟩
    · omega
    · omega
    · exact z
  cases o with
  | none =>
    walk_at "v"
    exact r_iteT (by exact k)
  | some n =>
    walk_at "v"
    refine r_iteF ?_
    show tOp (rI0 fun i j => V.bl (decide (j < i))) (tVar 1) (tFld K (tVar 0) "rest") [some (V.ref p), some (V.int n)] H _
    walk_at "v"
    exact k
theorem take_fold {α β : Type} {f : β → α → β} {d : β} {xs : List α} {i : Nat} {x : α} (h : xs[i]? = some x) : (xs.take (i + 1)).foldl f d = f ((xs.take i).foldl f d) x := by
  rw [List.take_add_one, h, List.foldl_append]
  rfl
theorem PartsAt.get {H : Hp} {as : List Addr} {ps : List (Int × Int × Int)} (h : PartsAt H as ps) {i : Nat} {x : V} (hx : (as.map V.ref)[i]? = some x) : ∃ a p, x = .ref a ∧ ps[i]? = some p ∧ H a = some (.tup [.int p.1, .int p.2.1, .int p.2.2]) := by
  rw [List.getElem?_map] at hx
  cases e : as[i]? with
  | none => rw [e] at hx; cases hx
  | some a =>
    rw [e] at hx
    cases hx
    have : i < ps.length := by rw [← h.len]; exact (List.getElem?_eq_some_iff.mp e).1
    exact ⟨a, ps[i], rfl, List.getElem?_eq_getElem this, h.at_ i a _ e (List.getElem?_eq_getElem this)⟩
theorem pure_HourSetting_thresholds (vs : List V) (H : Hp) (Q : VK) (E : XK) (h : sp_HourSetting_thresholds K A vs H Q E) : t_HourSetting_thresholds K A { nx := fun _ H' => Q .non H', rt := Q } (start ["self", "tick", "__class__", "found", "begin", "low", "high"] vs) H := by
  obtain ⟨p, S, t, rfl, is, e1, k⟩ := h
  show t_HourSetting_thresholds K A _ [some (.ref p), some (.int t), none, none, none, none, none] H
  obtain ⟨hc, l0, dx, q, as, h1, h2, h3⟩ : HourSettingC K A.cHourSetting ∧ 0 < S.len ∧ ∃ dx q as, H p = some (.ins A.cHourSetting dx [("least", .int S.lo), ("most", .int S.hi), ("length", .int S.len), ("hours", .ref q)]) ∧ H q = some (.tup (as.map V.ref)) ∧ PartsAt H as S.parts := by
    rcases is with ⟨z, _⟩ | ⟨_, z⟩ | ⟨z, _⟩
    · omega
    · exact z
    · omega
  unfold t_HourSetting_thresholds
  walk_at "v"
  refine ⟨p, dx, _, rfl, h1, ?_⟩
  walk_at "v"
  refine ⟨p, _, dx, _, _, _, _, rfl, hc.set, h1, rfl, rfl, fun q1 H1 ex1 f1 => ?_⟩
  have h11 := ex1 _ _ h1
  have h21 := ex1 _ _ h2
  walk_at "v"
  refine forT_by (SqT.of_ h21) (fun i σ H2 => Ex H H2 ∧ ∃ (q2 : Addr) (v4 v5 v6 : Option V), σ = [some (.ref p), some (.int t), none, some (.ref q2), v4, v5, v6] ∧ H2 q2 = some (.tup [.int ((S.parts.take i).foldl (hourStep S.len t) (S.lo, S.hi)).1, .int ((S.parts.take i).foldl (hourStep S.len t) (S.lo, S.hi)).2])) ⟨ex1, q1, _, _, _, rfl, f1⟩
    (fun i σ H2 _ p2 => SqT.of_ (p2.1 _ _ h2)) ?_ ?_
  · rintro i x σ H2 hx ⟨ex2, q2, v4, v5, v6, rfl, f2⟩
    obtain ⟨a, pt, rfl, hpt, ha⟩ := h3.get hx
    have ha2 := ex2 _ _ ha
    have h12 := ex2 _ _ h1
    have hh2 : Hold H [] H2 := (Hold.start H).grow ex2
    walk_at "w"
    have tk := take_fold (f := hourStep S.len t) (d := (S.lo, S.hi)) hpt
    refine r_ite (fun c => ?_) fun c => ?_
    · walk_at "v"
      rename_i q3 G3 H3 ex3 tp3 hh3
      refine ⟨ex3.trans hh3.ex, q3, _, _, _, rfl, ?_⟩
      rw [tk]
      unfold hourStep
      rw [if_pos (of_decide_eq_true c)]
      exact tp3.at_ hh3.ex
    · walk_at "v"
      refine ⟨ex2, q2, _, _, _, rfl, ?_⟩
      rw [tk]
      unfold hourStep
      rw [if_neg (of_decide_eq_false c)]
      exact f2
  · rintro σ H2 ⟨ex2, q2, v4, v5, v6, rfl, f2⟩
    walk_at "v"
    refine k q2 H2 ex2 ?_
    unfold SetD.thr hourThr
    rw [if_pos e1]
    rw [List.take_of_length_le (by rw [List.length_map, h3.len]; exact Nat.le_refl _)] at f2
    exact f2
theorem r_mt3 {C1 C2 C3 : Addr} {s1 s2 s3 : Sp} {m : Str} {E : XK} {ta : TE} {t : TA} {σ : L2.St} {H : Hp} {Q : VK} (k : ta σ H fun x H1 => rMtd C1 m s1 E t σ x H1 Q ∨ rMtd C2 m s2 E t σ x H1 Q ∨ rMtd C3 m s3 E t σ x H1 Q) : tMtd3 C1 s1 C2 s2 C3 s3 m E ta t σ H Q := k
theorem ap_thr {σ : L2.St} {H : Hp} {a : Addr} {S : SetD} {t : Int} {tr : TA} {Q : VK} (is : IsSet K A H a S) (ht : ∀ R : List V → Hp → Prop, R [.int t] H → tr σ H R) (k : ∀ q H', Ex H H' → H' q = some (.tup [.int (S.thr t).1, .int (S.thr t).2]) → Q (.ref q) H') :
    rMtd A.cSetting "thresholds" (sp_Setting_thresholds K A) E0 tr σ (.ref a) H Q ∨ rMtd A.cHourSetting "thresholds" (sp_HourSetting_thresholds K A) E0 tr σ (.ref a) H Q ∨ rMtd A.cRestSetting "thresholds" (sp_Setting_thresholds K A) E0 tr σ (.ref a) H Q := by
  have thr0 : S.kind ≠ 1 → S.thr t = (S.lo, S.hi) := fun h => by unfold SetD.thr; rw [if_neg h]
  refine ap_mt3 is (by decide) ht (fun e => ?_) (fun e => ⟨a, S, t, rfl, is, e, k⟩) fun e => ?_
  · rcases is with ⟨_, c, dx, h⟩ | ⟨z, _⟩ | ⟨z, _⟩
    · rw [thr0 (by omega)] at k
      exact ⟨a, _, dx, _, _, _, _, rfl, c.set, h, rfl, rfl, k⟩
    · omega
    · omega
  · rcases is with ⟨z, _⟩ | ⟨z, _⟩ | ⟨_, c, dx, h⟩
    · omega
    · omega
    · rw [thr0 (by omega)] at k
      exact ⟨a, _, dx, _, _, _, _, rfl, c.set, h, rfl, rfl, k⟩
theorem ap_may {σ : L2.St} {H : Hp} {a : Addr} {S : SetD} {o : Option Int} {tr : TA} {Q : VK} (is : IsSet K A H a S) (ht : ∀ R : List V → Hp → Prop, R [optI o] H → tr σ H R) (k : Q (.bl (S.may o)) H) :
    rMtd A.cSetting "may_switch" (sp_Setting_may_switch K A) E0 tr σ (.ref a) H Q ∨ rMtd A.cHourSetting "may_switch" (sp_Setting_may_switch K A) E0 tr σ (.ref a) H Q ∨ rMtd A.cRestSetting "may_switch" (sp_RestSetting_may_switch K A) E0 tr σ (.ref a) H Q := by
  have m0 : S.kind ≠ 2 → S.may o = true := fun h => by unfold SetD.may; rw [if_neg h]
  refine ap_mt3 is (by decide) ht (fun e => ?_) (fun e => ?_) fun e => ⟨a, S, o, rfl, is, e, k⟩
  · rw [m0 (by omega)] at k; exact ⟨_, _, rfl, k⟩
  · rw [m0 (by omega)] at k; exact ⟨_, _, rfl, k⟩
theorem call_rest {H H1 : Hp} {Q : VK} {p : Addr} {S : SetD} {t w : Int} {on : Bool} {o : Option Int} {v5 v6 : Option V} (is : IsSet K A H p S) (e : Ex H H1) (k : ∀ H', Ex H H' → Q (.bl (S.next t w on o)) H') :
    t_Setting___call_c1 K A { nx := fun _ H' => Q .non H', rt := Q } [some (.ref p), some (.int t), some (.int w), some (.bl on), some (optI o), v5, v6, some (.bl (S.wants t w on))] H1 := by
  unfold t_Setting___call_c1
  unfold SetD.next at k
  walk_at "v"
  refine r_ifS ?_
  walk_at "v"
  refine r_ite (fun h1 => ?_) fun h1 => ?_
  · rw [h1, Bool.true_and] at k
    walk_at "v"
    refine r_mt3 ?_
    walk_at "v"
    refine ap_may (is.up e) (fun R h => by walk_at "v"; exact h) ?_
    walk_at "v"
    refine r_ite (fun h2 => ?_) fun h2 => ?_
    · rw [if_pos h2] at k
      walk_at "v"
      exact k _ e
    · rw [if_neg (by rw [h2]; decide)] at k
      walk_at "v"
      exact k _ e
  · rw [h1, Bool.false_and, if_neg (by decide)] at k
    refine r_iteF ?_
    walk_at "v"
    exact k _ e
theorem pure_Setting___call (vs : List V) (H : Hp) (Q : VK) (E : XK) (h : sp_Setting___call K A vs H Q E) : t_Setting___call K A { nx := fun _ H' => Q .non H', rt := Q } (start ["self", "tick", "warmth", "on", "since", "low", "high", "wanted"] vs) H := by
  obtain ⟨p, S, t, w, on, o, rfl, is, k⟩ := h
  show t_Setting___call K A _ [some (.ref p), some (.int t), some (.int w), some (.bl on), some (optI o), none, none, none] H
  unfold t_Setting___call
  walk_at "v"
  refine r_mt3 ?_
  walk_at "v"
  refine ap_thr is (fun R h => by walk_at "v"; exact h) fun q H1 e1 f1 => ?_
  walk_at "v"
  refine r_ite (fun h1 => ?_) fun h1 => ?_
  · walk_at "v"
    have wt : S.wants t w on = true := by unfold SetD.wants; rw [h1, Bool.true_or]
    have r := call_rest (K := K) (A := A) (v5 := some (.int (S.thr t).1)) (v6 := some (.int (S.thr t).2)) is e1 k
    rw [wt] at r
    exact r
  · walk_at "v"
    have w0 : S.wants t w on = (on && decide (w ≤ (S.thr t).2)) := by unfold SetD.wants; rw [h1, Bool.false_or]
    have r := call_rest (K := K) (A := A) (v5 := some (.int (S.thr t).1)) (v6 := some (.int (S.thr t).2)) is e1 k
    rw [w0] at r
    cases on with
    | true => 
      walk_at "v"
      rw [Bool.true_and] at r
      exact r
    | false =>
      walk_at "v"
      rw [Bool.false_and] at r
      exact r
theorem pure_RestSetting_init (vs : List V) (H : Hp) (Q : VK) (E : XK) (h : sp_RestSetting_init K A vs H Q E) : t_RestSetting_init K A { nx := fun _ H' => Q .non H', rt := Q } (start ["self", "low", "high", "rest", "__class__"] vs) H := by
  obtain ⟨p, dx, a, b, r, G, mu, rfl, rc, ro, r0, r1, hh, k⟩ := h
  show t_RestSetting_init K A _ [some (.ref p), some (.int a), some (.int b), some (.int r), none] H
  unfold t_RestSetting_init
  walk_at "v"
  refine ⟨p, dx, _, rfl, hh.get (i := 0) rfl, ?_⟩
  walk_at "v"
  refine ⟨p, _, dx, a, b, G, mu, rfl, rc.set, ro, hh, fun H1 hh1 => ?_⟩
  walk_at "sd"
  rename_i H2 hh2
  exact k _ _ hh2.frz_ex (.inr (.inr ⟨rfl, rc, dx, upd_same⟩)) hh2.frz
theorem PrtsOk.at_ {len : Int} : ∀ {ps : List (Int × Int × Int)} {last : Int} {i : Nat} {p : Int × Int × Int}, PrtsOk len last (ps.drop i) → ps[i]? = some p → last < p.1 ∧ p.1 < len ∧ RngOk p.2.1 p.2.2 ∧ PrtsOk len p.1 (ps.drop (i + 1)) := fun {ps last i p} h e => by
  obtain ⟨hi, e⟩ := List.getElem?_eq_some_iff.mp e
  rw [List.drop_eq_getElem_cons hi, e] at h
  exact h
theorem atI_0 {x : V} {r : List V} : atI (x :: r) 0 = some x := by
  unfold atI ixN
  simp
theorem pure_HourSetting_init (vs : List V) (H : Hp) (Q : VK) (E : XK) (h : sp_HourSetting_body K A vs H Q E) : t_HourSetting_init K A { nx := fun _ H' => Q .non H', rt := Q } (start ["self", "length", "parts", "__class__", "last", "index", "begin", "low", "high"] vs) H := by
  obtain ⟨p, dx, q, len, as, p0, ps, G, mu, rfl, hc, l1, l2, hq, pa, e0, po, hh, k⟩ := h
  show t_HourSetting_init K A _ [some (.ref p), some (.int len), some (.ref q), none, none, none, none, none, none] H
  unfold t_HourSetting_init
  cases as with
  | nil => have := pa.len; cases this
  | cons a0 as =>
  have f0 := pa.at_ 0 a0 p0 rfl rfl
  walk_at "wd"
  rename_i pe G1 H1 ex1 tp hh1
  refine eqT0 (SqT.of_ ((ex1.trans hh1.ex) _ _ hq)) (SqT.of_ (tp.at_ hh1.ex)) ?_
  have hh1 := hh1.weak ex1
  rw [decide_eq_false (by simp)]
  have q1 := hh1.ex _ _ hq
  walk_at "wd"
  refine forET_by (SqT.of_ q1) (fun i σ H2 => ∃ (last : Int) (v5 v6 v7 v8 : Option V), σ = [some (.ref p), some (.int len), some (.ref q), none, some (.int last), v5, v6, v7, v8] ∧ PrtsOk len last ((p0 :: ps).drop i) ∧ Hold G ((p, .ins A.cHourSetting dx []) :: mu) H2)
    ⟨_, _, _, _, _, rfl, po, hh1⟩ (fun i σ H2 _ ⟨_, _, _, _, _, _, _, h2⟩ => ⟨Ex.refl _, SqT.of_ (h2.ex _ _ hq)⟩) ?_ ?_
  · rintro i x σ H2 T hx ⟨last, v5, v6, v7, v8, rfl, po2, hh2⟩ hT
    obtain ⟨a, pt, rfl, hpt, ha⟩ := pa.get hx
    obtain ⟨c1, c2, c3, c4⟩ := po2.at_ hpt
    have hh3 := hh2.newg (o := .tup [.int (i : Int), .ref a]) hT
    have fT : (upd H2 T (.tup [.int (i : Int), .ref a])) T = some (.tup [.int (i : Int), .ref a]) := upd_same
    generalize upd H2 T (.tup [.int (i : Int), .ref a]) = H3 at hh3 fT
    have fa := hh3.ex _ _ ha
    have b0 : i = 0 → pt.1 = 0 := fun z => by
      subst z
      cases hpt
      exact e0
    by_cases hi0 : i = 0
    · have b0 := b0 hi0
      subst hi0
      walk_at "wd"
      refine ap_range c3 ?_
      walk_at "w"
      exact ⟨_, _, _, _, _, rfl, c4, hh3⟩
    · walk_at "wd"
      refine ap_range c3 ?_
      walk_at "w"
      exact ⟨_, _, _, _, _, rfl, c4, hh3⟩
  · rintro σ H2 ⟨last, v5, v6, v7, v8, rfl, po2, hh2⟩
    have f2 := hh2.ex _ _ f0
    have q2 : H2 q = some (.tup (V.ref a0 :: as.map V.ref)) := hh2.ex _ _ hq
    walk_at "w"
    refine ⟨p, dx, _, rfl, hh2.get (i := 0) rfl, ?_⟩
    walk_at "w"
    refine rix_ht q2 atI_0 ?_
    walk_at "w"
    refine rix_ht q2 atI_0 ?_
    walk_at "w"
    have ro : RngOk p0.2.1 p0.2.2 := (PrtsOk.at_ (i := 0) po rfl).2.2.1
    refine ⟨p, _, dx, _, _, G, mu, rfl, hc.set, ro, hh2, fun H3 hh3 => ?_⟩
    walk_at "w"
    rename_i H4 hh4 H5 hh5
    exact k _ _ hh5.frz_ex (.inr (.inl ⟨rfl, hc, by show (0 : Int) < len; omega, dx, q, a0 :: as, upd_same, hh5.frz_ex _ _ hq, pa.sup (exs_of hh5.frz_ex)⟩)) hh5.frz
end
end Wm
end

section
namespace Wm
open PySem PySem.Spec PyProof.Rows L2 StX
/-! ## watch, totals: promises -/
def sp_watch (K : PySem.W.Frag) (A : Ads) : SpG2 := fun vs G Pi N => ∃ (w wt p : Addr) (ch : List Int) (gain st : Int) (S : SetD) (n : Nat), vs = [.ref w, .int gain, .ref p, .int st, .int (n : Int)] ∧ IsWeather K A (core G) w wt ch ∧ IsSet K A (core G) p S ∧ 1 ≤ gain ∧ gain ≤ 200 ∧ DegOk st ∧ n ≤ 10000 ∧ N = n ∧
  Pi = fun i x H => i < n ∧ ∃ q, x = .ref q ∧ H q = some (.tup [.int (wWarm S ch gain st i), .bl (wOn S ch gain st i)])
def sp_totals (K : PySem.W.Frag) (A : Ads) : Sp := fun vs H Q _ => ∃ (w wt p : Addr) (ch : List Int) (gain st : Int) (S : SetD) (n : Nat) (G : Hp) (mu : Mu), vs = [.ref w, .int gain, .ref p, .int st, .int (n : Int)] ∧ Hold G mu H ∧ IsWeather K A G w wt ch ∧ IsSet K A G p S ∧ 1 ≤ gain ∧ gain ≤ 200 ∧ DegOk st ∧ n ≤ 10000 ∧
  ∀ q G' H', Ex G G' → Tup G' q [.int (wTot S ch gain st n).1, .int (wTot S ch gain st n).2.1, optI (wTot S ch gain st n).2.2.1] → Hold G' mu H' → Q (.ref q) H'
def sp_Room_temperatures_w (K : PySem.W.Frag) (A : Ads) : SpG2 := fun vs G Pi N => ∃ (p : Addr) (R : RoomD) (a b : Int), vs = [.ref p, .int a, .int b] ∧ IsRoom K A (core G) p R ∧ 0 ≤ a ∧ a ≤ b ∧ b ≤ 10 ^ 18 ∧ b ≤ a + 9999 ∧ N = (b - a + 1).toNat ∧ Pi = fun (i : Nat) (x : V) (_ : Hp) => (i : Int) < b - a + 1 ∧ x = V.int (dAt R.P (a + (i : Int)))
def t_watch_g1 (K : PySem.W.Frag) (A : Ads) (G : Hp) (Pi : Nat → V → Hp → Prop) : TG2 := tG2Then (tY2 G Pi (tTup (tCons (tVar 5) (tCons (tVar 6) (tNil))))) (tG2Then (tP2 (tAug 5 (tOp (rI0 fun i j => .int (i + j)) (tOp (rOwnIx A.cWeather (sp_Weather___getitem K A) E0) (tVar 0) (tVar 8)) (tIf (tB (tVar 6)) (tVar 1) (tC (.int 0)))) (ipI fun i j => i + j))) (tG2Then (tP2 (tAsg (tIf (tTest (tOp rIsN (tVar 7) (tC .non))) (tC .non) (tOp (rI0 fun i j => .int (i + j)) (tVar 7) (tC (.int 1)))) (gName 7))) (tG20)))
def t_watch (K : PySem.W.Frag) (A : Ads) (G : Hp) (Pi : Nat → V → Hp → Prop) : TG2 := tG2Then (tP2 (tDrop (tCal (sp_validate_number K A) E0 (tCons (tVar 1) (tCons (tC (.int 1)) (tCons (tC (.int 200)) (tNil))))))) (tG2Then (tP2 (tDrop (tCal (sp_validate_number K A) E0 (tCons (tVar 3) (tCons (tOp (rI0 fun i j => .int (i - j)) (tC (.int 0)) (tC (.int 1000000000000))) (tCons (tC (.int 1000000000000)) (tNil))))))) (tG2Then (tP2 (tDrop (tCal (sp_validate_number K A) E0 (tCons (tVar 4) (tCons (tC (.int 0)) (tCons (tC (.int 10000)) (tNil))))))) (tG2Then (tP2 (tPar3 5 6 7 (tCons (tVar 3) (tCons (tC (.bl false)) (tCons (tC .non) (tNil)))))) (tG2Then (tG2For (iRng1 (tCons (tVar 4) (tNil))) (gName 8) (tG2Then (tP2 (tIfW (wCmp rNe (wNm (wE (tCall3 2 A.cSetting A.cHourSetting A.cRestSetting (sp_Setting___call K A) E0 (tCons (tVar 8) (tCons (tVar 5) (tCons (tVar 6) (tCons (tVar 7) (tNil))))))) 9) (tVar 6)) (tPar 6 7 (tCons (tVar 9) (tCons (tC (.int 0)) (tNil)))) (tNext))) (t_watch_g1 K A G Pi))) (tG20)))))
def t_totals (K : PySem.W.Frag) (A : Ads) : TS := tSeq (tAsg (tTup (tCons (tC (.int 0)) (tCons (tC (.int 0)) (tCons (tC .non) (tCons (tC (.bl false)) (tNil)))))) (gTup K 4 (gCons (gName 5) (gCons (gName 6) (gCons (gName 7) (gCons (gName 8) (gNil))))))) (tSeq (tForG (tCall2 (sp_watch K A) [] (tCons (tVar 0) (tCons (tVar 1) (tCons (tVar 2) (tCons (tVar 3) (tCons (tVar 4) (tNil))))))) (gTup K 2 (gCons (gName 9) (gCons (gName 10) (gNil)))) (tSeq (tPar 5 6 (tCons (tOp (rI0 fun i j => .int (i + j)) (tVar 5) (tCB rInt (tCons (tVar 10) (tNil)))) (tCons (tOp (rI0 fun i j => .int (i + j)) (tVar 6) (tCB rInt (tCons (tOp rNe (tVar 10) (tVar 8)) (tNil)))) (tNil)))) (tSeq (tAsg (tVar 10) (gName 8)) (tIfS (tOr (tTest (tOp rIsN (tVar 7) (tC .non))) (tTest (tOp (rI0 fun i j => .bl (decide (i < j))) (tVar 9) (tVar 7)))) (tAsg (tVar 9) (gName 7)) (tNext))))) (tRet (tTup (tCons (tVar 5) (tCons (tVar 6) (tCons (tVar 7) (tNil)))))))
def t_Room_temperatures_w (K : PySem.W.Frag) (A : Ads) (G : Hp) (Pi : Nat → V → Hp → Prop) : TG2 := tG2Then (tP2 (tDrop (tCal (sp_validate_number K A) E0 (tCons (tVar 1) (tCons (tC (.int 0)) (tCons (tC (.int 1000000000000000000)) (tNil))))))) (tG2Then (tP2 (tDrop (tCal (sp_validate_number K A) E0 (tCons (tVar 2) (tCons (tVar 1) (tCons (tCB rMin2 (tCons (tC (.int 1000000000000000000)) (tCons (tOp (rI0 fun i j => .int (i - j)) (tOp (rI0 fun i j => .int (i + j)) (tVar 1) (tC (.int 10000))) (tC (.int 1))) (tNil)))) (tNil))))))) (tG2Then (tG2For (iRng2 (tCons (tVar 1) (tCons (tOp (rI0 fun i j => .int (i + j)) (tVar 2) (tC (.int 1))) (tNil)))) (gName 3) (tG2Then (tY2 G Pi (tMtd A.cRoom "temperature" (sp_Room_temperature K A) E0 (tVar 0) (tCons (tVar 3) (tNil)))) (tG20))) (tG20)))
section
variable {K : PySem.W.Frag} {A : Ads}
def ForG (gt : TG) (tb : TS) (D : Ends) (σ : L2.St) (G : Hp) (Pi : Nat → V → Hp → Prop) (N : Nat) (H1 : Hp) : Prop := ∃ W : Nat → L2.St → Hp → Prop, W 0 σ H1 ∧ (∀ i σ H, W i σ H → Ex G H) ∧ (∀ σ H H', W N σ H → KpH H1 H H' → D.nx σ H') ∧
  ∀ i σ H x Hg H', W i σ H → Pi i x Hg → Ex (core G) Hg → Ex Hg H' → KpH H1 H H' → gt x σ H' fun σ2 H2 => tb { D with nx := W (i + 1), ct := W (i + 1), bk := D.nx } σ2 H2
theorem r_forG {tg : TGen2} {gt : TG} {tb : TS} {D : Ends} {σ : L2.St} {H : Hp} (k : tg σ H fun G Pi N H1 => ForG gt tb D σ G Pi N H1) : tForG tg gt tb D σ H := k
theorem r_call2 {sp : SpG2} {t : TA} {σ : L2.St} {H : Hp} {cont : Hp → (Nat → V → Hp → Prop) → Nat → Hp → Prop} (k : t σ H fun vs H1 => rG2 sp (vs ++ []) H1 cont) : tCall2 sp [] t σ H cont := k
theorem kp_ex {H1 H H' : Hp} (e : Ex H1 H) (k : KpH H1 H H') : Ex H1 H' := fun b o q => k b o (e b o q) (.inl ⟨o, q⟩)
theorem watch_rest {w wt p : Addr} {ch : List Int} {gain st : Int} {S : SetD} {N k : Nat} {on1 : Bool} {vs : V} {v9 : Option V} {G H1 : Hp} {D : GE2} (iw : IsWeather K A (core G) w wt ch) (hj : (k : Int) < (N : Int)) (n1 : N ≤ 10000) (e1 : Ex (core G) H1)
    (h1 : on1 = S.next (k : Int) (wst S ch gain st k).w (wst S ch gain st k).on (wst S ch gain st k).since) (h2 : vs = optI (sinceOf (wst S ch gain st k).on (S.next (k : Int) (wst S ch gain st k).w (wst S ch gain st k).on (wst S ch gain st k).since) (wst S ch gain st k).since))
    (hd : ∀ σ H, σ = [some (.ref w), some (.int gain), some (.ref p), some (.int st), some (.int (N : Int)), some (.int (wst S ch gain st (k + 1)).w), some (.bl (wst S ch gain st (k + 1)).on), some (optI (wst S ch gain st (k + 1)).since), some (.int (k : Int)), v9] → Ex (core G) H → D.nx (k + 1) σ H) :
    t_watch_g1 K A G (fun i x H => i < N ∧ ∃ q, x = .ref q ∧ H q = some (.tup [.int (wWarm S ch gain st i), .bl (wOn S ch gain st i)])) D k [some (.ref w), some (.int gain), some (.ref p), some (.int st), some (.int (N : Int)), some (.int (wst S ch gain st k).w), some (.bl on1), some vs, some (.int (k : Int)), v9] H1 := by
  unfold t_watch_g1
  refine g2_then (g2_y (by omega) ?_)
  walk_at "w"
  refine tup_x (by exact of_decide_eq_true rfl) ((Hold.start (core G)).grow e1) fun q H2 e2 hh2 => ?_
  refine ⟨hh2.ex, ⟨by omega, q, rfl, by rw [e2, h1]; rfl⟩, ?_⟩
  dsimp only
  obtain ⟨wc, wok, dxw, hw, hwt⟩ := id iw
  refine g2_then (g2_p ?_)
  walk_at "w"
  refine ⟨w, dxw, _, rfl, hw, w, wt, _, ch, rfl, iw, by omega, by omega, ?_⟩
  have ew : (wst S ch gain st (k + 1)).w = (wst S ch gain st k).w + (cyc ch (k : Int) + (if on1 = true then gain else 0)) := by rw [h1]; rfl
  have eo : (wst S ch gain st (k + 1)).on = on1 := by rw [h1]; rfl
  rw [ew, eo] at hd
  subst h2
  have es : (wst S ch gain st (k + 1)).since = (sinceOf (wst S ch gain st k).on on1 (wst S ch gain st k).since).map (· + 1) := by rw [h1]; rfl
  rw [es] at hd
  rw [← h1]
  generalize sinceOf (wst S ch gain st k).on on1 (wst S ch gain st k).since = so at hd ⊢
  have last : ∀ g : Int, g = (if on1 = true then gain else 0) → tG2Then (tP2 (tAsg (tIf (tTest (tOp rIsN (tVar 7) (tC V.non))) (tC V.non) (tOp (rI0 fun i j => V.int (i + j)) (tVar 7) (tC (V.int 1)))) (gName 7))) tG20 D (k + 1) [some (.ref w), some (.int gain), some (.ref p), some (.int st), some (.int (N : Int)), some (.int ((wst S ch gain st k).w + (cyc ch (k : Int) + g))), some (.bl on1), some (optI so), some (.int (k : Int)), v9] (core G) := fun g hg => by
    rw [← hg] at hd
    refine g2_then (g2_p ?_)
    walk_at "w"
    cases so with
    | none =>
      refine r_iteT ?_
      walk_at "w"
      refine g2_0 (hd _ _ rfl (Ex.refl _))
    | some n =>
      refine r_iteF ?_
      show tOp (rI0 fun i j => V.int (i + j)) (tVar 7) (tC (V.int 1)) [_, _, _, _, _, _, _, some (V.int n), _, _] _ _
      walk_at "w"
      refine g2_0 (hd _ _ rfl (Ex.refl _))
  cases on1 with
  | true =>
    walk_at "w"
    exact last gain rfl
  | false =>
    walk_at "w"
    exact last 0 rfl
theorem pure_watch (vs : List V) (G : Hp) (Pi : Nat → V → Hp → Prop) (N : Nat) (h : sp_watch K A vs G Pi N) : t_watch K A G Pi { nx := fun i _ H' => i = N ∧ Ex (core G) H', rt := fun i v H' => v = .non ∧ i = N ∧ Ex (core G) H' } 0 (start ["weather", "gain", "setting", "start", "count", "warmth", "on", "since", "tick", "later"] vs) (core G) := by
  obtain ⟨w, wt, p, ch, gain, st, S, n, rfl, iw, is, g1, g2, ⟨d1, d2⟩, n1, rfl, rfl⟩ := h
  show t_watch K A G _ _ 0 [some (.ref w), some (.int gain), some (.ref p), some (.int st), some (.int (N : Int)), none, none, none, none, none] (core G)
  unfold t_watch
  refine g2_then (g2_p ?_)
  walk_at "w"
  refine ⟨_, _, _, rfl, g1, g2, ?_⟩
  walk_at "w"
  try dsimp only
  refine g2_then (g2_p ?_)
  walk_at "w"
  refine ⟨_, _, _, rfl, by omega, by omega, ?_⟩
  walk_at "w"
  try dsimp only
  refine g2_then (g2_p ?_)
  walk_at "w"
  refine ⟨_, _, _, rfl, by omega, by omega, ?_⟩
  walk_at "w"
  try dsimp only
  refine g2_then (g2_p ?_)
  walk_at "w"
  try dsimp only
  refine g2_then ?_
  refine g2_forR1 (n := (N : Int)) (fun R q => by walk_at "w"; exact q) (by omega) (by omega) (fun j k σ H => k = j ∧ j ≤ N ∧ ∃ v8 v9 : Option V, σ = [some (.ref w), some (.int gain), some (.ref p), some (.int st), some (.int (N : Int)), some (.int (wst S ch gain st j).w), some (.bl (wst S ch gain st j).on), some (optI (wst S ch gain st j).since), v8, v9] ∧ Ex (core G) H) ⟨rfl, Nat.zero_le _, _, _, rfl, Ex.refl _⟩ ?_ ?_
  · rintro j k σ H hj ⟨rfl, _, v8, v9, rfl, e2⟩
    have wp := iw
    obtain ⟨wc, wok, dxw, hw, hwt⟩ := wp
    walk_at "w"
    try dsimp only
    refine g2_then (g2_p (r_ifW (r_wCmp (r_wNm (r_wE ?_)))))
    refine ap_call3 rfl (is.up e2) (fun R h => by walk_at "w"; exact h) ⟨p, S, _, _, _, _, rfl, is.up e2, fun H1 e1 => ?_⟩
    have e1 := e2.trans e1
    dsimp only [List.set_cons_zero, List.set_cons_succ]
    walk_at "v"
    refine r_ite (fun c => ?_) fun c => ?_
    · walk_at "w"
      refine watch_rest (S := S) iw hj n1 e1 rfl (by unfold sinceOf; rw [if_pos c]; rfl) (fun σ2 H2 h2 e3 => ?_)
      exact ⟨rfl, by omega, _, _, h2, e3⟩
    · walk_at "w"
      have c : S.next (k : Int) (wst S ch gain st k).w (wst S ch gain st k).on (wst S ch gain st k).since = (wst S ch gain st k).on := by simpa using c
      refine watch_rest (S := S) iw hj n1 e1 (by rw [c]) (by unfold sinceOf; rw [c]; simp) (fun σ2 H2 h2 e3 => ?_)
      exact ⟨rfl, by omega, _, _, h2, e3⟩
  · rintro k σ H ⟨rfl, _, v8, v9, rfl, e2⟩
    refine g2_0 ?_
    exact ⟨by simp, e2⟩
theorem pure_Room_temperatures_w (vs : List V) (G : Hp) (Pi : Nat → V → Hp → Prop) (N : Nat) (h : sp_Room_temperatures_w K A vs G Pi N) : t_Room_temperatures_w K A G Pi { nx := fun i _ H' => i = N ∧ Ex (core G) H', rt := fun i v H' => v = .non ∧ i = N ∧ Ex (core G) H' } 0 (start ["self", "first", "last", "tick"] vs) (core G) := by
  obtain ⟨p, R, a, b, rfl, ir, a0, ab, b1, b2, rfl, rfl⟩ := h
  have hh : Hold (core G) [] (core G) := Hold.start _
  show t_Room_temperatures_w K A G _ _ 0 [some (.ref p), some (.int a), some (.int b), none] (core G)
  unfold t_Room_temperatures_w
  refine g2_then (g2_p ?_)
  walk_at "w"
  refine ⟨a, 0, 10 ^ 18, rfl, a0, by omega, ?_⟩
  try dsimp only
  refine g2_then (g2_p ?_)
  walk_at "w"
  refine ⟨b, a, _, rfl, ab, ?_, ?_⟩
  · split <;> omega
  try dsimp only
  refine g2_then ?_
  refine g2_forR2 (lo := a) (n := b + 1) (fun R' q => ?_) (by omega) (by omega) (by omega) (by omega) (fun j k σ H' => k = j ∧ (j : Int) ≤ b + 1 - a ∧ (∃ v : Option V, σ = [some (.ref p), some (.int a), some (.int b), v]) ∧ H' = core G) ⟨rfl, by omega, ⟨_, rfl⟩, rfl⟩ ?_ ?_
  · walk_at "w"
    exact q
  · rintro j k σ H2 hi ⟨rfl, _, ⟨v, rfl⟩, rfl⟩
    walk_at "w"
    try dsimp only
    refine g2_then (g2_y (by omega) ?_)
    walk_at "w"
    rename_i H3 hh3
    refine ⟨hh3.ex, ⟨by omega, rfl⟩, ?_⟩
    try dsimp only
    exact g2_0 ⟨rfl, by omega, ⟨_, rfl⟩, rfl⟩
  · rintro k σ H2 ⟨rfl, _, ⟨v, rfl⟩, rfl⟩
    refine g2_0 ⟨by omega, Ex.refl _⟩
theorem pure_totals (vs : List V) (H : Hp) (Q : VK) (E : XK) (h : sp_totals K A vs H Q E) : t_totals K A { nx := fun _ H' => Q .non H', rt := Q } (start ["weather", "gain", "setting", "start", "count", "heated", "switched", "coldest", "before", "warmth", "on"] vs) H := by
  obtain ⟨w, wt, p, ch, gain, st, S, n, G, mu, rfl, hh, iw, is, g1, g2, dst, n1, k⟩ := h
  show t_totals K A _ [some (.ref w), some (.int gain), some (.ref p), some (.int st), some (.int (n : Int)), none, none, none, none, none, none] H
  unfold t_totals
  walk_at "w"
  rename_i q0 G0 H0 ex0 tp0 hh0
  refine r_forG (r_call2 ?_)
  walk_at "w"
  refine rg2_I (hh0.weak ex0) (fun es => ⟨w, wt, p, ch, gain, st, S, n, rfl, iw.sup es, is.sup es, g1, g2, dst, n1, rfl, rfl⟩) fun eG => ?_
  refine ⟨fun i σ H' => Ex H0 H' ∧ ∃ v9 v10 : Option V, σ = [some (.ref w), some (.int gain), some (.ref p), some (.int st), some (.int (n : Int)), some (.int (wTot S ch gain st i).1), some (.int (wTot S ch gain st i).2.1), some (optI (wTot S ch gain st i).2.2.1), some (.bl (wTot S ch gain st i).2.2.2), v9, v10], ⟨Ex.refl _, _, _, rfl⟩, fun i σ H' ⟨e, _⟩ => eG.trans e, ?_, ?_⟩
  · rintro σ H1 H2 ⟨e1, v9, v10, rfl⟩ kp
    have hh2 := (hh0.weak ex0).grow (kp_ex e1 kp)
    walk_at "w"
    rename_i p5 G5 H5 ex5 tp5 hh5
    exact k _ _ _ ex5 tp5 hh5
  · rintro i σ H1 x Hg H2 ⟨e1, v9, v10, rfl⟩ ⟨hi, q, rfl, fq⟩ eg e2 kp
    have e3 := kp_ex e1 kp
    have fq := e2 _ _ fq
    have st2 : (wTot S ch gain st (i + 1)).2.2.1 = (match (wTot S ch gain st i).2.2.1 with
      | none => some (wWarm S ch gain st i)
      | some c => some (if wWarm S ch gain st i < c then wWarm S ch gain st i else c)) := rfl
    cases hc : (wTot S ch gain st i).2.2.1 with
    | none =>
      rw [hc] at st2
      walk_at "w"
      refine r_iteT (r_iteT ?_)
      walk_at "w"
      exact ⟨e3, _, _, by rw [st2]; rfl⟩
    | some c =>
      rw [hc] at st2
      have st2 : (wTot S ch gain st (i + 1)).2.2.1 = some (if wWarm S ch gain st i < c then wWarm S ch gain st i else c) := st2
      rw [show optI (some c) = V.int c from rfl]
      walk_at "w"
      refine r_iteF ?_
      walk_at "w"
      refine r_ite (fun h1 => ?_) fun h1 => ?_
      · walk_at "w"
        refine ⟨e3, some (.int (wWarm S ch gain st i)), some (.bl (wOn S ch gain st i)), ?_⟩
        rw [st2, if_pos (of_decide_eq_true h1)]
        rfl
      · walk_at "w"
        refine ⟨e3, some (.int (wWarm S ch gain st i)), some (.bl (wOn S ch gain st i)), ?_⟩
        rw [st2, if_neg (of_decide_eq_false h1)]
        rfl
end
end Wm
end

section
/-! ## a list of anything != an empty list -/
namespace Wm
open PySem PySem.Spec PyProof.Rows L2 StX
def rNeE (K : PySem.W.Frag) : R2 := fun x y H Q => ∃ a b xs, x = .ref a ∧ y = .ref b ∧ SqL K H a xs ∧ SqL K H b [] ∧ Q (.bl (decide (xs ≠ []))) H
end Wm
end

section
/-! ## lists of tuples of texts, numbers and objects: != where both hold the same -/
namespace Wm
open PySem PySem.Spec PyProof.Rows L2 StX
def plainV (x : V) : Bool := match x with
  | .ref _ => true
  | y => flatV y && eqV y y
/-- two tuples that hold the same -/
def SameT (K : PySem.W.Frag) (H : Hp) (x y : V) : Prop := ∃ p q zs, x = .ref p ∧ y = .ref q ∧ SqT K H p zs ∧ SqT K H q zs ∧ zs.all plainV = true
def rNeOps (K : PySem.W.Frag) : R2 := fun x y H Q => ∃ a b xs ys, x = .ref a ∧ y = .ref b ∧ SqL K H a xs ∧ SqL K H b ys ∧ Paired (SameT K H) xs ys ∧ Q (.bl false) H
theorem plain_eq {A : Around} {s : Shared} {x : V} {v u : Value} (h : plainV x = true) (rx : RelV x v) (ry : RelV x u) : SeqAt.EqAt A s v u true := by
  cases x with
  | ref p =>
    cases rx
    cases ry
    exact SeqAt.EqAt.same _
  | _ =>
    unfold plainV at h
    rw [Bool.and_eq_true] at h
    have e := eqAt_V (A := A) (s := s) rx ry h.1 h.1
    rw [h.2] at e
    exact e
theorem plain_all {A : Around} {s : Shared} : ∀ {zs : List V} {us ws : List Value}, zs.all plainV = true → Vals zs us → Vals zs ws → ∀ j (h1 : j < us.length) (h2 : j < ws.length), SeqAt.EqAt A s us[j] ws[j] true
  | [], us, ws, _, r1, r2, j, h1, h2 => by
    cases r1
    exact absurd h1 (Nat.not_lt_zero j)
  | z :: zs, us, ws, h, r1, r2, j, h1, h2 => by
    rw [List.all_cons, Bool.and_eq_true] at h
    cases r1 with
    | cons a1 b1 =>
      cases r2 with
      | cons a2 b2 =>
        cases j with
        | zero => exact plain_eq h.1 a1 a2
        | succ j => exact plain_all h.2 b1 b2 j (Nat.lt_of_succ_lt_succ h1) (Nat.lt_of_succ_lt_succ h2)
section
variable {X : Cx} {pins : List (Addr × Obj)} {σ : L2.St} {H : Hp} {s : Shared}
theorem sameT_eq (I : Inv X pins σ H s) {A : Around} (hu : A.units < cLine) {x y : V} {v u : Value} (h : SameT X.K H x y) (rx : RelV x v) (ry : RelV y u) : SeqAt.EqAt A s v u true := by
  obtain ⟨p, q, zs, rfl, rfl, h1, h2, h3⟩ := h
  cases (show v = Value.ref p from rx)
  cases (show u = Value.ref q from ry)
  by_cases e : p = q
  · subst e
    exact SeqAt.EqAt.same _
  obtain ⟨us, r1, t1, _⟩ := I.tuple h1
  obtain ⟨ws, r2, t2, _⟩ := I.tuple h2
  have t1 : s.heap.IsTuple p us.toArray := t1
  have t2 : s.heap.IsTuple q ws.toArray := t2
  have k := SeqAt.RcAt.tuples (e := fun _ => true) t1 t2 hu fun j h1 h2 => by
    have q := plain_all (A := A.in1) (s := s) h3 r1 r2 j (by simpa using h1) (by simpa using h2)
    simpa using q
  have sz : us.toArray.size = ws.toArray.size := by rw [List.size_toArray, List.size_toArray, ← r1.length, ← r2.length]
  rw [show ((List.range (min us.toArray.size ws.toArray.size)).all (fun _ => true) && us.toArray.size == ws.toArray.size) = true from by
    rw [sz, List.all_eq_true.mpr (fun _ _ => rfl)]
    simp] at k
  exact SeqAt.EqAt.of_refs e k
theorem sameT_all (I : Inv X pins σ H s) {A : Around} (hu : A.units < cLine) {xs ys : List V} (h : Paired (SameT X.K H) xs ys) : ∀ {us ws : List Value}, Vals xs us → Vals ys ws → ∀ j (h1 : j < us.length) (h2 : j < ws.length), SeqAt.EqAt A s us[j] ws[j] true := by
  induction h with
  | nil =>
    intro us ws r1 r2 j h1 h2
    cases r1
    exact absurd h1 (Nat.not_lt_zero j)
  | cons h _ k =>
    intro us ws r1 r2 j h1 h2
    cases r1 with
    | cons a1 b1 =>
      cases r2 with
      | cons a2 b2 =>
        cases j with
        | zero => exact sameT_eq I hu h a1 a2
        | succ j => exact k b1 b2 j (Nat.lt_of_succ_lt_succ h1) (Nat.lt_of_succ_lt_succ h2)
theorem op_neOps {X : Cx} (hu0 : X.A.units + 64 < cLine) : OpR X (compareOp .NotEq) (rNeOps X.K) := by
  intro pins s σ H x y v u Q I rx ry h
  have hu : X.A.units < cLine := by omega
  obtain ⟨a, b, xs, ys, rfl, rfl, h1, h2, h3, q⟩ := h
  cases rx
  cases ry
  obtain ⟨us, r1, l1, z1⟩ := I.list h1
  obtain ⟨ws, r2, l2, z2⟩ := I.list h2
  have hsz : us.toArray.size = ws.toArray.size := by
    rw [List.size_toArray, List.size_toArray, ← r1.length, ← r2.length]
    exact Paired.length h3
  show wpAny _ _ (richCompare .NotEq _ _) _ _ s
  refine SeqAt.RcNeAt.lists (e := fun _ => true) l1.isList l2.isList hsz hu (fun j h1 h2 => ?_) _ _ _ _ ?_
  · have k := sameT_all I (A := X.A.in1) (by show X.A.units + 1 < cLine; omega) h3 r1 r2 j (by simpa using h1) (by simpa using h2)
    simpa using k
  · rw [List.all_eq_true.mpr (fun _ _ => rfl)]
    exact ⟨.bl false, H, I, rfl, q⟩
end
theorem neOps {K : PySem.W.Frag} {H : Hp} {p q : Addr} {xs ys : List V} {Q : VK} (h1 : SqL K H p xs) (h2 : SqL K H q ys) (h3 : Paired (SameT K H) xs ys) (k : Q (.bl false) H) : rNeOps K (.ref p) (.ref q) H Q := ⟨p, q, xs, ys, rfl, rfl, h1, h2, h3, k⟩
end Wm
end

section
/-! ## a list comprehension over a generator, from what it gives -/
namespace Wm
open PySem PySem.Spec PyProof.Rows L2 StX GenW
/-- all that is known, but for the mutables -/
noncomputable def most (mu : Mu) (H : Hp) : Hp := fun b => open Classical in if b ∈ mu.map (·.1) then none else H b
theorem most_ex (mu : Mu) (H : Hp) : Ex (most mu H) H := fun b o q => by
  unfold most at q
  split at q
  · cases q
  · exact q
theorem most_at {mu : Mu} {H : Hp} {b : Addr} {o : HO} (h : b ∉ mu.map (·.1)) (q : H b = some o) : most mu H b = some o := by
  unfold most
  rw [if_neg h]
  exact q
theorem Hold.most {G H1 H' : Hp} {mu : Mu} (hh : Hold G mu H1) (e : Ex H1 H') : Hold (most mu H') mu H' ∧ Ex G (Wm.most mu H') := by
  have h' := hh.grow e
  refine ⟨⟨most_ex mu H', h'.at_, fun q hq => ?_, h'.nd⟩, fun b o q => ?_⟩
  · unfold Wm.most
    rw [if_pos (List.mem_map_of_mem hq)]
  · refine most_at (fun hb => ?_) (h'.ex _ _ q)
    obtain ⟨p, hp, rfl⟩ := List.mem_map.mp hb
    rw [h'.out p hp] at q
    cases q
/-- what an item is: a plain value, or a tuple of such -/
inductive Row where
  | val (v : V)
  | tup (us : List V)
def RowAt (r : Row) (y : V) (H : Hp) : Prop := match r with
  | .val v => y = v
  | .tup us => ∃ q, y = .ref q ∧ H q = some (.tup us)
theorem RowAt.up {r : Row} {y : V} {H H' : Hp} (h : RowAt r y H) (e : Ex H H') : RowAt r y H' := by
  cases r with
  | val v => exact h
  | tup us => obtain ⟨q, h1, h2⟩ := h; exact ⟨q, h1, e _ _ h2⟩
theorem RowAt.kp {r : Row} {y : V} {H1 H H' : Hp} (h : RowAt r y H) (e : KpH H1 H H') : RowAt r y H' := by
  cases r with
  | val v => exact h
  | tup us => obtain ⟨q, h1, h2⟩ := h; exact ⟨q, h1, e _ _ h2 (.inr rfl)⟩
theorem RowAt.upd {r : Row} {y : V} {H : Hp} {D : Addr} {xs ys : List V} (h : RowAt r y H) (hD : H D = some (.lst xs)) : RowAt r y (upd H D (.lst ys)) := by
  cases r with
  | val v => exact h
  | tup us =>
    obtain ⟨q, h1, h2⟩ := h
    refine ⟨q, h1, ?_⟩
    rw [upd_ne (fun z => by rw [z, hD] at h2; cases h2)]
    exact h2
theorem RowAt.most {r : Row} {y : V} {G H1 H' : Hp} {mu : Mu} (h : RowAt r y H') (hh : Hold G mu H1) (e : Ex H1 H') (ht : ∀ q ∈ mu, ∀ us, q.2 ≠ HO.tup us) : RowAt r y (Wm.most mu H') := by
  cases r with
  | val v => exact h
  | tup us =>
    obtain ⟨q, h1, h2⟩ := h
    refine ⟨q, h1, most_at (fun z => ?_) h2⟩
    obtain ⟨p, hp, rfl⟩ := List.mem_map.mp z
    rw [(hh.grow e).at_ p hp] at h2
    exact ht p hp us (Option.some.inj h2)
/-- what is left of the comprehension when the generator is made -/
def LcG (gt : TG) (tt : TT) (te : TE) (vs : List Nat) (σ : L2.St) (Q : VK) (G : Hp) (Pi : Nat → V → Hp → Prop) (N : Nat) (H1 : Hp) : Prop := ∀ Dl, H1 Dl = none → ∃ W : Nat → Hp → Prop, W 0 (upd H1 Dl (.lst [])) ∧ (∀ i H, W i H → Ex G H ∧ ∃ xs, H Dl = some (.lst xs)) ∧
  (∀ H H', W N H → KpH H1 H H' → Q (.ref Dl) H') ∧
  ∀ i H x Hg H', W i H → Pi i x Hg → Ex (core G) Hg → Ex Hg H' → KpH H1 H H' → gt x (wipe σ vs) H' fun σ2 H2 => wipe σ2 vs = wipe σ vs ∧ tt σ2 H2 fun b H3 =>
    if b = true then te σ2 H3 fun y H4 => ∃ acc, H4 Dl = some (.lst acc) ∧ acc.length < sizeLine ∧ W (i + 1) (upd H4 Dl (.lst (acc ++ [y]))) else W (i + 1) H3
theorem r_lcG {tg : TGen2} {gt : TG} {tt : TT} {te : TE} {vs : List Nat} {σ : L2.St} {H : Hp} {Q : VK} (k : tg σ H fun G Pi N H1 => LcG gt tt te vs σ Q G Pi N H1) : tLcG tg gt tt te vs σ H Q := k
theorem lcG_I {gt : TG} {tt : TT} {te : TE} {vs : List Nat} {σ : L2.St} {Q : VK} {G H1 G0 : Hp} {mu : Mu} {Pi : Nat → V → Hp → Prop} {N : Nat} (row : Nat → Row) (hh : Hold G0 mu H1) (eG : Ex G H1) (hN : N < sizeLine) (ht : ∀ q ∈ mu, ∀ us, q.2 ≠ HO.tup us) (hi : ∀ i x Hg, Pi i x Hg → i < N)
    (hs : ∀ i x Hg H' (LY : V → Hp → Prop) (LN : Hp → Prop), Pi i x Hg → Ex Hg H' → Hold G0 mu H' → (∀ y H4, RowAt (row i) y H4 → Ex H' H4 → LY y H4) → gt x (wipe σ vs) H' fun σ2 H2 => wipe σ2 vs = wipe σ vs ∧ tt σ2 H2 fun b H3 => if b = true then te σ2 H3 LY else LN H3)
    (hd : ∀ D acc G' H', Ex G0 G' → Lst G' D acc → acc.length = N → (∀ (j : Nat) y, acc[j]? = some y → RowAt (row j) y G') → Hold G' mu H' → Q (.ref D) H') : LcG gt tt te vs σ Q G Pi N H1 := by
  intro Dl hD
  have u0 : Ex H1 (upd H1 Dl (.lst [])) := Ex.new hD
  refine ⟨fun i H => Ex H1 H ∧ ∃ acc, H Dl = some (.lst acc) ∧ acc.length = i ∧ ∀ (j : Nat) y, acc[j]? = some y → RowAt (row j) y H, ⟨u0, [], upd_same, rfl, fun j y h => by cases h⟩, fun i H ⟨e, acc, h, _⟩ => ⟨eG.trans e, acc, h⟩, ?_, ?_⟩
  · rintro H H' ⟨e, acc, h1, h2, h3⟩ kp
    have e' := kp_ex e kp
    have hl : H' Dl = some (.lst acc) := kp _ _ h1 (.inr rfl)
    obtain ⟨hm, em⟩ := hh.most e'
    have nm : Dl ∉ mu.map (·.1) := fun z => by
      obtain ⟨p, hp, rfl⟩ := List.mem_map.mp z
      rw [hh.at_ p hp] at hD
      cases hD
    exact hd Dl acc _ H' em (most_at nm hl) h2 (fun j y hj => ((h3 j y hj).kp kp).most hh e' ht) hm
  · rintro i H x Hg H' ⟨e, acc, h1, h2, h3⟩ hp eg e2 kp
    have e' := kp_ex e kp
    have hl : H' Dl = some (.lst acc) := kp _ _ h1 (.inr rfl)
    have ilt := hi i x Hg hp
    refine hs i x Hg H' _ _ hp e2 (hh.grow e') fun y H4 hr e4 => ⟨acc, e4 _ _ hl, by omega, fun b o q => ?_, acc ++ [y], upd_same, by rw [List.length_append, h2]; rfl, fun j z hj => ?_⟩
    · rw [upd_ne (fun z => by rw [z, hD] at q; cases q)]
      exact e4 _ _ (e' _ _ q)
    · refine RowAt.upd ?_ (e4 _ _ hl)
      by_cases hj' : j < acc.length
      · rw [List.getElem?_append_left hj'] at hj
        exact ((h3 j z hj).kp kp).up e4
      · have : j = acc.length := by
          have := (List.getElem?_eq_some_iff.mp hj).1
          rw [List.length_append] at this
          have : [y].length = 1 := rfl
          omega
        subst this
        rw [List.getElem?_append_right (Nat.le_refl _), Nat.sub_self] at hj
        cases hj
        rw [h2]
        exact hr
/-- rows of plain values -/
theorem rows_val {acc : List V} {N : Nat} {f : Nat → V} {G : Hp} (hl : acc.length = N) (h : ∀ (j : Nat) y, acc[j]? = some y → RowAt (.val (f j)) y G) : acc = (rngI N).map fun z => f z.toNat := by
  refine List.ext_getElem? fun j => ?_
  rw [List.getElem?_map]
  by_cases hj : j < N
  · rw [List.getElem?_eq_getElem (by omega)]
    have := h j _ (List.getElem?_eq_getElem (by omega))
    unfold rngI
    rw [List.getElem?_map, List.getElem?_range hj]
    show some _ = some (f (Int.toNat (j : Int)))
    rw [Int.toNat_natCast]
    exact congrArg some this
  · rw [List.getElem?_eq_none (by omega), List.getElem?_eq_none (by rw [rngI_len]; omega)]
    rfl
/-- two lists of the same tuples -/
theorem rows_pair {K : PySem.W.Frag} {H : Hp} {us : Nat → List V} (hz : ∀ j, (us j).all plainV = true) : ∀ {xs ys : List V} {k : Nat}, xs.length = ys.length → (∀ (j : Nat) y, xs[j]? = some y → RowAt (.tup (us (k + j))) y H) → (∀ (j : Nat) y, ys[j]? = some y → RowAt (.tup (us (k + j))) y H) → Paired (SameT K H) xs ys := by
  intro xs
  induction xs with
  | nil =>
    intro ys k hl _ _
    cases ys with
    | nil => exact .nil
    | cons y r => cases hl
  | cons x r ih =>
    intro ys k hl h1 h2
    cases ys with
    | nil => cases hl
    | cons y r' =>
      obtain ⟨p, rfl, hp⟩ := h1 0 x rfl
      obtain ⟨q, rfl, hq⟩ := h2 0 y rfl
      refine .cons ⟨p, q, _, rfl, rfl, SqT.of hp, SqT.of hq, hz _⟩ (ih (k := k + 1) (by simpa using hl) (fun j z hj => ?_) fun j z hj => ?_)
      · have := h1 (j + 1) z hj
        rw [show k + (j + 1) = k + 1 + j by omega] at this
        exact this
      · have := h2 (j + 1) z hj
        rw [show k + (j + 1) = k + 1 + j by omega] at this
        exact this
end Wm
end

section
/-! ## The room of k46's replay -/
namespace Wm
open PySem PySem.Spec PyProof.Rows L2 StX
def p46 : Par := ⟨[-2, 1, 0], 4, 0, 9, 5, false⟩
def q46 : Par := ⟨rotW [-2, 1, 0] 7, 4, 0, 9, dAt p46 7, oAt p46 6⟩
end Wm
end

section
/-! ## k42: a setting that asks what the room's heater does -/
namespace Wm
open PySem PySem.Spec PyProof.Rows L2 StX
theorem cyc_ch (P : Par) (t : Int) : cyc P.ch t = chAt P t := rfl
theorem oAt_prev (P : Par) {t : Int} (h : 0 ≤ t) : oAt P t = P.dec (dAt P t) (prevO P t) := by
  by_cases h0 : t = 0
  · subst h0
    rw [o_zero, d_zero]
    rfl
  · have := o_succ P (t := t - 1) (by omega)
    rw [show t - 1 + 1 = t by omega] at this
    rw [this]
    unfold prevO
    rw [if_neg (by omega)]
/-- what the setting says, whenever it may switch -/
structure Like (S : SetD) (P : Par) : Prop where
  thr : ∀ t : Int, S.thr t = (P.lo, P.hi)
  may : ∀ s : Option Int, (∀ n, s = some n → 1 ≤ n) → S.may s = true
theorem Like.next {S : SetD} {P : Par} (L : Like S P) {t w : Int} {on : Bool} {s : Option Int} (hs : ∀ n, s = some n → 1 ≤ n) : S.next t w on s = P.dec w on := by
  unfold SetD.next
  rw [L.may s hs]
  simp only [Bool.not_true, Bool.and_false, Bool.false_eq_true, if_false]
  unfold SetD.wants Par.dec
  rw [L.thr]
  by_cases h : w < P.lo
  · rw [if_pos h, decide_eq_true h, Bool.true_or]
  · rw [if_neg h, decide_eq_false h, Bool.false_or]
theorem Like.st {S : SetD} {P : Par} (L : Like S P) (hw : P.was = false) : ∀ i : Nat, (wst S P.ch P.gain P.start i).w = dAt P i ∧ (wst S P.ch P.gain P.start i).on = prevO P i ∧ ∀ n, (wst S P.ch P.gain P.start i).since = some n → 1 ≤ n
  | 0 => ⟨by show P.start = _; rw [show ((0 : Nat) : Int) = 0 from rfl, d_zero], by show false = _; unfold prevO; rw [if_pos (by decide), hw], fun n h => by cases h⟩
  | i + 1 => by
    obtain ⟨h1, h2, h3⟩ := Like.st L hw i
    have e : S.next (i : Int) (wst S P.ch P.gain P.start i).w (wst S P.ch P.gain P.start i).on (wst S P.ch P.gain P.start i).since = oAt P i := by
      rw [L.next h3, h1, h2, ← oAt_prev P (Int.natCast_nonneg i)]
    have e1 : wst S P.ch P.gain P.start (i + 1) = wstep S P.ch P.gain i (wst S P.ch P.gain P.start i) := rfl
    rw [e1]
    unfold wstep
    dsimp only
    rw [e]
    refine ⟨?_, ?_, ?_⟩
    · rw [show ((i + 1 : Nat) : Int) = (i : Int) + 1 by omega, d_succ P (Int.natCast_nonneg i), h1, cyc_ch]
      unfold Par.heat
      omega
    · unfold prevO
      rw [if_neg (by omega), show ((i + 1 : Nat) : Int) - 1 = i by omega]
    · intro n hn
      unfold sinceOf at hn
      split at hn
      · cases hn; decide
      · cases hs : (wst S P.ch P.gain P.start i).since with
        | none => rw [hs] at hn; cases hn
        | some m =>
          rw [hs] at hn
          cases hn
          have := h3 m hs
          show 1 ≤ m + 1
          omega
theorem Like.warm {S : SetD} {P : Par} (L : Like S P) (hw : P.was = false) (i : Nat) : wWarm S P.ch P.gain P.start i = dAt P i := (L.st hw i).1
theorem Like.on_ {S : SetD} {P : Par} (L : Like S P) (hw : P.was = false) (i : Nat) : wOn S P.ch P.gain P.start i = oAt P i := by
  unfold wOn
  rw [(L.st hw (i + 1)).2.1]
  unfold prevO
  rw [if_neg (by omega), show ((i + 1 : Nat) : Int) - 1 = i by omega]
theorem Like.tot {S : SetD} {P : Par} (L : Like S P) (hw : P.was = false) : ∀ n : Nat, (wTot S P.ch P.gain P.start n).1 = hAt P n ∧ (wTot S P.ch P.gain P.start n).2.1 = swAt P n ∧ (wTot S P.ch P.gain P.start n).2.2.2 = prevO P n
  | 0 => ⟨by show (0 : Int) = _; rw [show ((0 : Nat) : Int) = 0 from rfl, h_zero], by show (0 : Int) = _; rw [show ((0 : Nat) : Int) = 0 from rfl, sw_zero], by show false = _; unfold prevO; rw [if_pos (by decide), hw]⟩
  | n + 1 => by
    obtain ⟨h1, h2, h3⟩ := Like.tot L hw n
    have e : ((n + 1 : Nat) : Int) = (n : Int) + 1 := by omega
    refine ⟨?_, ?_, ?_⟩
    · show (wTot S P.ch P.gain P.start n).1 + (if wOn S P.ch P.gain P.start n = true then 1 else 0) = _
      rw [h1, L.on_ hw, e, h_succ P (Int.natCast_nonneg n)]
    · show (wTot S P.ch P.gain P.start n).2.1 + (if (wOn S P.ch P.gain P.start n != (wTot S P.ch P.gain P.start n).2.2.2) = true then 1 else 0) = _
      rw [h2, h3, L.on_ hw, e, sw_succ P (Int.natCast_nonneg n)]
      rfl
    · show wOn S P.ch P.gain P.start n = _
      rw [L.on_ hw]
      unfold prevO
      rw [if_neg (by omega), show ((n + 1 : Nat) : Int) - 1 = n by omega]
theorem like_plain (P : Par) : Like ⟨0, P.lo, P.hi, 0, [], 0⟩ P := ⟨fun _ => rfl, fun _ _ => rfl⟩
theorem like_hour (P : Par) (len : Int) (h : 0 < len) : Like ⟨1, P.lo, P.hi, len, [(0, P.lo, P.hi)], 0⟩ P := by
  refine ⟨fun t => ?_, fun _ _ => rfl⟩
  show hourThr len [(0, P.lo, P.hi)] (P.lo, P.hi) t = _
  show hourStep len t (P.lo, P.hi) (0, P.lo, P.hi) = _
  unfold hourStep
  split <;> rfl
theorem like_rest (P : Par) : Like ⟨2, P.lo, P.hi, 0, [], 0⟩ P := by
  refine ⟨fun _ => rfl, fun s hs => ?_⟩
  show mayOf 0 s = true
  cases s with
  | none => rfl
  | some n => exact decide_eq_true (hs n rfl)
/-! ### a setting that rests: two switchings lie apart -/
section
variable (S : SetD) (ch : List Int) (gain st : Int)
/-- at tick i the heater is switched -/
def swT (i : Nat) : Bool := wOn S ch gain st i != (wst S ch gain st i).on
theorem swT_next {S : SetD} {ch : List Int} {gain st : Int} {i : Nat} (h : swT S ch gain st i = true) : S.may (wst S ch gain st i).since = true := by
  unfold swT wOn at h
  have e : (wst S ch gain st (i + 1)).on = S.next (i : Int) (wst S ch gain st i).w (wst S ch gain st i).on (wst S ch gain st i).since := rfl
  rw [e] at h
  unfold SetD.next at h
  split at h
  · rw [bne_self_eq_false] at h
    cases h
  · rename_i hn
    cases hm : S.may (wst S ch gain st i).since with
    | true => rfl
    | false =>
      rw [hm, h] at hn
      exact absurd rfl hn
/-- since: how long ago the last switching was -/
theorem since_inv : ∀ i : Nat, match (wst S ch gain st i).since with
    | none => ∀ j, j < i → swT S ch gain st j = false
    | some n => ∃ j, j < i ∧ swT S ch gain st j = true ∧ n = (i : Int) - j ∧ ∀ k, j < k → k < i → swT S ch gain st k = false
  | 0 => fun j hj => absurd hj (Nat.not_lt_zero j)
  | i + 1 => by
    have ih := since_inv i
    have e : (wst S ch gain st (i + 1)).since = (sinceOf (wst S ch gain st i).on (wOn S ch gain st i) (wst S ch gain st i).since).map (· + 1) := rfl
    rw [e]
    unfold sinceOf
    have sw : swT S ch gain st i = (wOn S ch gain st i != (wst S ch gain st i).on) := rfl
    cases hs : swT S ch gain st i with
    | true =>
      rw [if_pos (by rw [← sw]; exact hs)]
      exact ⟨i, by omega, hs, by show (0 : Int) + 1 = _; omega, fun k h1 h2 => by omega⟩
    | false =>
      rw [if_neg (by rw [← sw, hs]; decide)]
      cases hq : (wst S ch gain st i).since with
      | none =>
        rw [hq] at ih
        intro j hj
        by_cases h : j = i
        · rw [h]; exact hs
        · exact ih j (by omega)
      | some n =>
        rw [hq] at ih
        obtain ⟨j, j1, j2, j3, j4⟩ := ih
        refine ⟨j, by omega, j2, by show n + 1 = _; omega, fun k h1 h2 => ?_⟩
        by_cases h : k = i
        · rw [h]; exact hs
        · exact j4 k h1 (by omega)
end
theorem rest_apart {S : SetD} {ch : List Int} {gain st : Int} (h2 : S.kind = 2) {a b : Nat} (hab : a < b) (ha : swT S ch gain st a = true) (hb : swT S ch gain st b = true) : S.rest < (b : Int) - a := by
  have m := swT_next hb
  have iv := since_inv S ch gain st b
  unfold SetD.may at m
  rw [if_pos h2] at m
  cases hq : (wst S ch gain st b).since with
  | none =>
    rw [hq] at iv
    rw [iv a hab] at ha
    cases ha
  | some n =>
    rw [hq] at iv m
    obtain ⟨j, j1, j2, j3, j4⟩ := iv
    have m : S.rest < n := of_decide_eq_true m
    have : a ≤ j := by
      refine Decidable.byContradiction fun c => ?_
      rw [j4 a (by omega) hab] at ha
      cases ha
    omega
/-- the heater's states with False ahead of them -/
theorem ahead_at {S : SetD} {ch : List Int} {gain st : Int} {k : Nat} : (if k = 0 then false else wOn S ch gain st (k - 1)) = (wst S ch gain st k).on := by
  cases k with
  | zero => rfl
  | succ k => rw [if_neg (by omega)]; rfl
/-- of the ticks that are kept out of a range, two neighbours -/
theorem kept_lt {p : Int → Bool} {n : Nat} {i : Nat} {a b : Int} (ha : ((rngI n).filter p)[i]? = some a) (hb : ((rngI n).filter p)[i + 1]? = some b) : a < b ∧ 0 ≤ a ∧ b < n ∧ p a = true ∧ p b = true := by
  have m1 := List.mem_filter.mp (List.mem_of_getElem? ha)
  have m2 := List.mem_filter.mp (List.mem_of_getElem? hb)
  have pw : ((rngI n).filter p).Pairwise (· < ·) := by
    refine List.Pairwise.filter _ ?_
    unfold rngI
    refine List.pairwise_map.mpr (List.Pairwise.imp (fun h => by omega) List.pairwise_lt_range)
  have l1 := (List.getElem?_eq_some_iff.mp ha)
  have l2 := (List.getElem?_eq_some_iff.mp hb)
  obtain ⟨h1, e1⟩ := l1
  obtain ⟨h2, e2⟩ := l2
  have := List.pairwise_iff_getElem.mp pw i (i + 1) h1 h2 (by omega)
  rw [e1, e2] at this
  have r : ∀ z, z ∈ rngI n → 0 ≤ z ∧ z < n := fun z hz => by
    unfold rngI at hz
    obtain ⟨k, hk, rfl⟩ := List.mem_map.mp hz
    have := List.mem_range.mp hk
    omega
  exact ⟨this, (r a m1.1).1, (r b m2.1).2, m1.2, m2.2⟩
end Wm
end

section
/-! ## A lambda handed on: the table of code objects among the mutables -/
namespace Wm
open PySem PySem.Spec PyProof.Rows L2 StX LamX
/-- the table's code objects bear the name q -/
def TabOk (G : Hp) (ps : Array Value) (q : Str) : Prop := TriplesOk ps.toList ∧ ∀ (pos : Pos) (cv : Value), codeAmong pos ps.toList = some cv → ∃ c, cv = .ref c ∧ G c = some (CodeO c q)
/-- no table, no code object -/
def plainO : HO → Bool
  | .tbl _ => false
  | .ext _ => false
  | _ => true
section
variable {G H H1 : Hp} {mu : Mu} {P : Addr} {ps : Array Value} {q : Str}
/-- the ghost heap of all but the mutables -/
def ghost (mu : Mu) (H : Hp) : Hp := fun b => if b ∈ mu.map (·.1) then none else H b
/-- without tables -/
def clean (G : Hp) : Hp := fun b => match G b with
  | some (.tbl _) => none
  | o => o
end
end Wm
end

section
/-! ## Joining: x(lambda: ..) -/
namespace Wm
open PySem PySem.Spec PyProof.Rows L2 StX LamX
section
variable {X : Cx}
end
end Wm
end

section
/-! ## A def that is handed a lambda, as a promise -/
namespace Wm
open PySem PySem.Spec PyProof.Rows L2 StX LamX
structure ErrD (P : Program) (w : World) (K : PySem.W.Frag) (mg : Str → Option Value) (base : Heap) (k : Nat) (x : Str) (Ng : List Str) (a : Str) (TT : (XK → Hp → VK → Prop) → Hp → VK → Prop) : Prop where
  ex : ∃ (st : Stmt) (fe : Addr) (fd : FuncData), FunD K x x (defArgs st) (defBody st) (defScope st) [] [] fe fd ∧ mg x = some (.ref fe) ∧ PySem.W.keepIn K (.ref fe) = true ∧ Binds K fd [a] [] ∧ FnScope Ng [a] (defScope st) ∧ Ng[0]? = some a ∧ Vis (defScope st) a ∧
    ∀ (X : Cx), X.prog = P → X.w = w → X.K = K → X.mg = mg → X.base = base → Room (k + 1) X.A → ∀ (cdv : Value) (q : Str), GivesTo X Ng x (defScope st) fe cdv (defBody st) a q TT
/-- a field of a caught error -/
structure XfI (K : PySem.W.Frag) (C : Addr) (f : Str) : Prop where
  xf : XfC K C
  noat : PySem.W.findIn K (.ref C) f = some none
section
variable {X : Cx}
end
end Wm
end

section
namespace Wm
open PySem PySem.Spec PyProof.Rows L2 StX LamX
/-- the code object of the def at f -/
def cdAt (K : PySem.W.Frag) (f : Addr) : Option Value := match K.lookup f with
  | some ⟨_, _, .func fd, _⟩ => some fd.code
  | _ => none
section
variable {P : Program} {w : World} {K : PySem.W.Frag} {mg : Str → Option Value} {base : Heap}
end
end Wm
end

section
/-! ## Lambdas as values: made, kept in a list, handed on later -/
namespace Wm
open PySem PySem.Spec PyProof.Rows L2 StX LamX
/-- a lambda's words; nm: its parameter with a default -/
structure LSp where
  params : Arguments
  body : Expr
  scope : Scope
  nm : Option Str
/-- a frame's lambdas: the frame's cells, the lambdas' qualified name, their words -/
structure LamZ where
  cells : List (Str × Addr)
  q : Str
  sp : Nat → LSp
def dVal : Option Addr → Value
  | none => .none
  | some t => .ref t
/-- the object at f is the frame's lambda i -/
def LmO (Z : LamZ) (i : Nat) (f c' : Addr) (d : Option Addr) : HO := .ext fun h => ∃ (doc pm ctv : Value), h.get? f = some (PySem.W.kdv_obj "<lambda>" Z.q (Z.sp i).params (.expr (Z.sp i).body) (Z.sp i).scope (cloFrom Z.cells (Z.sp i).scope.names []) (dVal d) doc pm c' ctv)
/-- what stands behind the lambda's default -/
def DflAt (Z : LamZ) (i : Nat) (d : Option Addr) (H : Hp) : Prop := ((Z.sp i).nm = none ∧ d = none) ∨ ∃ x t v, (Z.sp i).nm = some x ∧ d = some t ∧ H t = some (.tup [v])
def IsLam (Z : LamZ) (i : Nat) (f : Addr) (H : Hp) : Prop := ∃ c' d, H f = some (LmO Z i f c' d) ∧ H c' = some (CodeO c' Z.q) ∧ DflAt Z i d H
/-- the lambda's names: captured ones, globals, its parameter -/
structure LamS1 (sc scope : Scope) (nm : Option Str) : Prop where
  kind : scope.kind = .function
  co : scope.isCoroutine = false
  gen : scope.isGenerator = false
  cell : ∀ y ∈ scope.names, y.2 ≠ .cell
  loc : ∀ y ∈ scope.names, y.2 = .local → nm = some y.1
  free : ∀ y ∈ scope.names, y.2 = .free → sc.names.lookup y.1 = some .cell ∨ sc.names.lookup y.1 = some .free
  par : ∀ x, nm = some x → scope.names.lookup x = some .local
def lamS1B (sc scope : Scope) (nm : Option Str) : Bool :=
  decide (scope.kind = .function) && (!scope.isCoroutine && (!scope.isGenerator && ((scope.names.all fun y => !decide (y.2 = .cell) && ((!decide (y.2 = .local) || decide (nm = some y.1)) && (!decide (y.2 = .free) || (decide (sc.names.lookup y.1 = some .cell) || decide (sc.names.lookup y.1 = some .free))))) &&
    (match nm with | none => true | some x => decide (scope.names.lookup x = some .local)))))
section
variable {X : Cx} {pins : List (Addr × Obj)} {σ : L2.St} {H HZ : Hp} {s s1 : Shared} {Z : LamZ} {i : Nat}
end
/-- the reading of a lambda as a value -/
def tLamV (Z : LamZ) (P : Addr) (i : Nat) : TE := fun σ H Q => TabS H P Z.q ∧ ∀ (H1 : Hp) (f : Addr), ExtN H H1 → TabS H1 P Z.q → IsLam Z i f H1 → Q (.ref f) H1
section
variable {X : Cx} {Z : LamZ} {i : Nat} {c P : Addr} {params : Arguments} {body : Expr} {scope : Scope} {pos : Pos}
end
end Wm
end

section
/-! ## A kept lambda, called by the def that got it -/
namespace Wm
open PySem PySem.Spec PyProof.Rows L2 StX LamX
/-- the frame's cells, kept till s1 -/
def CellsK (X : Cx) (s : Shared) (H : Hp) (s1 : Shared) (HZ : Hp) : Prop := ∀ y c v, X.env.cells.lookup y = some c → s.heap.IsCell c v → s1.heap.IsCell c v ∧ HZ c = none
section
variable {X : Cx} {pins : List (Addr × Obj)} {σ : L2.St} {H HZ : Hp} {s s1 : Shared}
end
/-- what is asked of the frame's lambda i with the reading t -/
structure LamOk (X : Cx) (Z : LamZ) (k i : Nat) (t : XK → TE) : Prop where
  L : LamS1 X.env.scope (Z.sp i).scope (Z.sp i).nm
  nN : ∀ x, (Z.sp i).nm = some x → x ∉ X.N
  bind0 : (Z.sp i).nm = none → ∀ (cl : List (Str × Addr)) (doc pm cdv ctv : Value), bindArgs (PySem.W.kdv_fn "<lambda>" Z.q (Z.sp i).params (.expr (Z.sp i).body) (Z.sp i).scope cl .none doc pm cdv ctv) ⟨[], []⟩ = pure []
  bind1 : ∀ x, (Z.sp i).nm = some x → ∀ (cl : List (Str × Addr)) (doc pm cdv ctv : Value) (T : Addr) (v : Value), ∃ kk, bindArgs (PySem.W.kdv_fn "<lambda>" Z.q (Z.sp i).params (.expr (Z.sp i).body) (Z.sp i).scope cl (.ref T) doc pm cdv ctv) ⟨[], []⟩ = seqItems? (.ref T) >>= kk ∧ kk (some #[v]) = pure [(x, v)]
  body : ∀ (A : Around) (outer : List Env) (s : Shared) (H : Hp) (E : XK) (f c' : Addr), Room k (A.deeper (lamEnv X (Z.sp i).scope s.heap.objs.size f c')) → PE (lamCx X A outer s H E (Z.sp i).scope f c') (Z.sp i).body (t E)
def LamsFrom (X : Cx) (Z : LamZ) (k n : Nat) (ts : List (XK → TE)) : Prop := ∀ i t, ts[i]? = some t → LamOk X Z k (n + i) t
section
variable {X : Cx} {pins : List (Addr × Obj)} {σ : L2.St} {H : Hp} {s : Shared} {Z : LamZ} {i k : Nat} {t : XK → TE}
end
/-- x(e), x calls the lambda that e's value is -/
def tErrV (Z : LamZ) (ts : List (XK → TE)) (TT : (XK → Hp → VK → Prop) → Hp → VK → Prop) (te : TE) : TE := fun σ H Q => te σ H fun x H1 => ∃ f i t, x = .ref f ∧ IsLam Z i f H1 ∧ ts[i]? = some t ∧ TT (fun E H' Q' => t E σ H' Q') H1 Q
/-- what a def makes of a lambda is asked at its start alone -/
def TTMono (TT : (XK → Hp → VK → Prop) → Hp → VK → Prop) : Prop := ∀ (tl tl' : XK → Hp → VK → Prop) (H : Hp) (Q : VK), (∀ E Q', tl E H Q' → tl' E H Q') → TT tl H Q → TT tl' H Q
section
variable {X : Cx} {Z : LamZ}
end
end Wm
namespace Wm
open PySem PySem.Spec PyProof.Rows L2 StX LamX
def lsp0 : LSp := ⟨⟨[], [], none, [], [], none, []⟩, .Constant .none 0 ⟨0, 0, 0, 0⟩, ⟨.function, [], false, false, []⟩, none⟩
def spL (l : List LSp) : Nat → LSp := fun i => l.getD i lsp0
/-! ### a def of two promises -/
def spOr (a b : Sp) : Sp := fun vs H Q E => a vs H Q E ∨ b vs H Q E
section
variable {P : Program} {w : World} {K : PySem.W.Frag} {mg : Str → Option Value} {base : Heap} {CX : CXT} {k : Nat} {f : Addr} {fd : FuncData} {ps : List Str} {sp1 sp2 : Sp}
end
/-! ### what is never reached -/
def spD (ds : List V) (sp : Sp) : Sp := fun vs H Q E => sp (vs ++ ds) H Q E
end Wm
end

section
/-! ## Joining a law that hands lambdas on -/
namespace Wm
open PySem PySem.Spec PyProof.Rows L2 StX LamX
/-- the code object of the def at f, and the table of its own code objects -/
def lawCP (K : PySem.W.Frag) (f : Addr) : Option (Addr × Addr) := match K.lookup f with
  | some ⟨_, _, .func fd, _⟩ => (match fd.code with
    | .ref c => (match K.lookup c with
      | some ⟨_, _, .fields vs, _⟩ => (match (vs[11]? : Option Value) with
        | some (.ref P) => some (c, P)
        | _ => none)
      | _ => none)
    | _ => none)
  | _ => none
def cLawAd (K : PySem.W.Frag) (x : Str) : Addr := match lawCP K (He.ga K x) with
  | some q => q.1
  | none => 0
def tLawAd (K : PySem.W.Frag) (x : Str) : Addr := match lawCP K (He.ga K x) with
  | some q => q.2
  | none => 0
def tabB (K : PySem.W.Frag) (x : Str) : Bool := match lawCP K (He.ga K x) with
  | some q => PySem.W.codeHdIn K q.1 q.2 && (K.lookup q.2).isNone
  | none => false
theorem FunD.fnIn {K : PySem.W.Frag} {x qual : Str} {params : Arguments} {body : List Stmt} {scope : Scope} {dvs : List V} {kws : List (Str × V)} {f : Addr} {fd : FuncData} (F : FunD K x qual params body scope dvs kws f fd) : PySem.W.fnIn K f = true := by
  obtain ⟨oc, od, dV, kV, doc, pm, an, cdv, ct, osl, rfl, lk, hcd, hD, _⟩ := F.ex
  unfold PySem.W.fnIn
  rw [lk]
/-! ### the errors' classes -/
structure ErrsC (K : PySem.W.Frag) (A : Ads) : Prop where
  e0 : ErrC K A A.cContradiction 0
  e1 : ErrC K A A.cInvalidHeater 1
  e2 : ErrC K A A.cInvalidNumber 2
  e3 : ErrC K A A.cInvalidWeather 3
  e4 : ErrC K A A.cOtherWeather 4
  ix : IdxC K A.cInvalidWeather "index"
  xfi : XfI K A.cInvalidWeather "index"
  ns : PySem.W.subIn K (.ref A.cInvalidNumber) (.type "StopIteration") = some false
def errB (K : PySem.W.Frag) (x : Str) (i : Nat) : Bool := excB K (He.ga K x) && (decide (PySem.W.exmOne K (.ref (He.ga K x)) (.ref (He.ga K "WarmthError")) = some true) && (decide (PySem.W.kitOne K (.ref (He.ga K x)) (.ref (He.ga K "Contradiction")) = some (i == 0)) &&
  (decide (PySem.W.kitOne K (.ref (He.ga K x)) (.ref (He.ga K "InvalidHeater")) = some (i == 1)) && (decide (PySem.W.kitOne K (.ref (He.ga K x)) (.ref (He.ga K "InvalidNumber")) = some (i == 2)) && (decide (PySem.W.kitOne K (.ref (He.ga K x)) (.ref (He.ga K "InvalidWeather")) = some (i == 3)) &&
  (decide (PySem.W.kitOne K (.ref (He.ga K x)) (.ref (He.ga K "OtherWeather")) = some (i == 4)) && decide (PySem.W.kitOne K (.ref (He.ga K x)) (.type "ValueError") = some true)))))))
def errsB (K : PySem.W.Frag) : Bool := errB K "Contradiction" 0 && (errB K "InvalidHeater" 1 && (errB K "InvalidNumber" 2 && (errB K "InvalidWeather" 3 && (errB K "OtherWeather" 4 && (oexB K (He.ga K "InvalidWeather") && (decide (PySem.W.findIn K (.ref (He.ga K "InvalidWeather")) "index" = some none) && (xfB K (He.ga K "InvalidWeather") && decide (PySem.W.subIn K (.ref (He.ga K "InvalidNumber")) (.type "StopIteration") = some false))))))))
/-! ### the table among the mutables -/
section
variable {K : PySem.W.Frag} {A : Ads} {G H : Hp} {mu : Mu} {P : Addr} {ps : Array Value} {q : Str}
end
/-! ### what _law_error answers -/
section
variable {K : PySem.W.Frag} {A : Ads} {G H : Hp} {mu : Mu} {P p q : Addr} {ps : Array Value} {xs : List V} {Q : VK} {v w : V} {D : Addr} {i : Nat}
def notTup : HO → Bool
  | .tup _ => false
  | _ => true
/-- the answer is a tuple xs -/
def ErrQ (G : Hp) (mu : Mu) (xs : List V) (Q : VK) : Prop := ∀ p G' H', Ex G G' → Tup G' p xs → Hold G' mu H' → Q (.ref p) H'
/-- equal data -/
theorem neD_same {d : PyData} (h1 : Dp K H v d) (h2 : Dp K H w d) (hs : SeqAt.shaped d = true) (k : Q (.bl false) H) : rNeD K v w H Q := by
  have e : PyData.eqv d d = true := SeqAt.eqv_refl _ (by have := hs; unfold SeqAt.shaped at this; rw [Bool.and_eq_true] at this; exact this.1)
  exact ⟨d, d, h1, h2, hs, hs, by rw [e]; exact k⟩
end
/-! ### draws, the table ahead -/
section
variable {K : PySem.W.Frag} {A : Ads} {G H : Hp} {mu : Mu} {Q : VK} {E : XK} {a c t se p : Addr} {d : DS} {most : Int} {x : Addr × HO}
end
end Wm
end

section
/-! ## A kept lambda, called from a list comprehension of the def that made it -/
namespace Wm
open PySem PySem.Spec PyProof.Rows L2 StX LamX
/-- x(e), x calls the lambda that e's value is; σ0: the maker's slots -/
def tErrVA (σ0 : L2.St) (Z : LamZ) (ts : List (XK → TE)) (TT : (XK → Hp → VK → Prop) → Hp → VK → Prop) (te : TE) : TE := fun σ H Q => te σ H fun x H1 => ∃ f i t, x = .ref f ∧ IsLam Z i f H1 ∧ ts[i]? = some t ∧ TT (fun E H' Q' => t E σ0 H' Q') H1 Q
section
variable {X : Cx} {Z : LamZ} {pins0 : List (Addr × Obj)} {σ0 : L2.St} {s0 : Shared} {H0 : Hp} {bs : Scope} {ce : Env} {fp : List Addr}
end
/-! ### a list comprehension whose element looks at the maker's slots -/
def tLcE (wi : TI) (g : TG) (tt : TT) (te : L2.St → TE) (vs : List Nat) : TE := fun σ H Q => tLc wi g tt (te σ) vs σ H Q
section
variable {X : Cx}
end
end Wm
end

section
/-! ## Kept lambdas: rules over the ghost heap -/
namespace Wm
open PySem PySem.Spec PyProof.Rows L2 StX LamX
section
variable {K : PySem.W.Frag} {A : Ads} {G H H1 : Hp} {mu : Mu} {P a p q : Addr} {ps : Array Value} {Q : VK} {σ : L2.St} {Z : LamZ} {i : Nat}
/-- neither a table nor a code object nor a tuple -/
def flatO : HO → Bool
  | .tbl _ => false
  | .ext _ => false
  | .tup _ => false
  | _ => true
/-- the answers of some calls: (n,) each -/
def ErrTs (G : Hp) (ps : List Addr) (ns : List Str) : Prop := ps.length = ns.length ∧ ∀ (i : Nat) (p : Addr) (n : Str), ps[i]? = some p → ns[i]? = some n → Tup G p [.str n]
/-- some lambdas made, one behind another -/
def lamA (Z : LamZ) (P : Addr) : List Nat → TA
  | [] => tNil
  | i :: r => tCons (tLamV Z P i) (lamA Z P r)
def LamsAt (Z : LamZ) (is : List Nat) (fs : List Addr) (G : Hp) : Prop := fs.length = is.length ∧ ∀ (k : Nat) (f : Addr) (i : Nat), fs[k]? = some f → is[k]? = some i → IsLam Z i f G
end
/-! ### facts behind a lambda's making -/
section
variable {K : PySem.W.Frag} {A : Ads} {G : Hp} {p : Addr}
end
end Wm
end

section
namespace Wm
open PySem PySem.Spec PyProof.Rows L2 StX
open LamX
/-! ## Defs that raise: the promises that only raise -/
/-- an error without fields is wished, whatever was made on the way -/
def RzN (C : Addr) (H : Hp) (E : XK) : Prop := ∀ H', Ex H H' → E (.ref C) none H'
def sp_validate_numberR (K : PySem.W.Frag) (A : Ads) : Sp := fun vs H _ E => ∃ n lo hi : Int, vs = [.int n, .int lo, .int hi] ∧ ¬ (lo ≤ n ∧ n ≤ hi) ∧ E (.ref A.cInvalidNumber) none H
def sp_validate_numberX (K : PySem.W.Frag) (A : Ads) : Sp := spOr (sp_validate_number K A) (sp_validate_numberR K A)
def sp_Heater_initR (K : PySem.W.Frag) (A : Ads) : Sp := fun vs H _ E => ∃ (p : Addr) (g lo hi : Int), vs = [.ref p, .int g, .int lo, .int hi] ∧ ¬ HtOk g lo hi ∧ E (.ref A.cInvalidHeater) none H
def sp_Heater_initX (K : PySem.W.Frag) (A : Ads) : Sp := spOr (sp_Heater_init K A) (sp_Heater_initR K A)
def sp_Heater_movedR (K : PySem.W.Frag) (A : Ads) : Sp := fun vs H _ E => ∃ (p : Addr) (d g lo hi : Int), vs = [.ref p, .int d] ∧ IsHeater K A H p g lo hi ∧ ¬ HtOk g (lo + d) (hi + d) ∧ RzN A.cInvalidHeater H E
def sp_Heater_movedX (K : PySem.W.Frag) (A : Ads) : Sp := spOr (sp_Heater_moved K A) (sp_Heater_movedR K A)
def sp_Room_initR (K : PySem.W.Frag) (A : Ads) : Sp := fun vs H _ E => ∃ (p : Addr) (w h on : V) (st : Int), vs = [.ref p, w, h, .int st, on] ∧ ¬ (-(10 ^ 12) ≤ st ∧ st ≤ 10 ^ 12) ∧ E (.ref A.cInvalidNumber) none H
def sp_Room_initX (K : PySem.W.Frag) (A : Ads) : Sp := spOr (sp_Room_init K A) (sp_Room_initR K A)
/-- a method whose tick is out of range -/
def spTick (A : Ads) (lo : Int) : Sp := fun vs H _ E => ∃ (p : Addr) (t : Int), vs = [.ref p, .int t] ∧ ¬ (lo ≤ t ∧ t ≤ 10 ^ 18) ∧ E (.ref A.cInvalidNumber) none H
def sp_Room_temperatureR (K : PySem.W.Frag) (A : Ads) : Sp := fun vs H _ E => ∃ (p : Addr) (t : Int), vs = [.ref p, .int t] ∧ ¬ (0 ≤ t ∧ t ≤ 10 ^ 18) ∧ E (.ref A.cInvalidNumber) none H
def sp_Room_temperatureX (K : PySem.W.Frag) (A : Ads) : Sp := spOr (sp_Room_temperature K A) (sp_Room_temperatureR K A)
def sp_Room_is_onR (K : PySem.W.Frag) (A : Ads) : Sp := fun vs H _ E => ∃ (p : Addr) (t : Int), vs = [.ref p, .int t] ∧ ¬ (0 ≤ t ∧ t ≤ 10 ^ 18) ∧ E (.ref A.cInvalidNumber) none H
def sp_Room_is_onX (K : PySem.W.Frag) (A : Ads) : Sp := spOr (sp_Room_is_on K A) (sp_Room_is_onR K A)
def sp_Room_heating_ticksR (K : PySem.W.Frag) (A : Ads) : Sp := fun vs H _ E => ∃ (p : Addr) (t : Int), vs = [.ref p, .int t] ∧ ¬ (0 ≤ t ∧ t ≤ 10 ^ 18) ∧ E (.ref A.cInvalidNumber) none H
def sp_Room_heating_ticksX (K : PySem.W.Frag) (A : Ads) : Sp := spOr (sp_Room_heating_ticks K A) (sp_Room_heating_ticksR K A)
def sp_Room_switchingsR (K : PySem.W.Frag) (A : Ads) : Sp := fun vs H _ E => ∃ (p : Addr) (t : Int), vs = [.ref p, .int t] ∧ ¬ (0 ≤ t ∧ t ≤ 10 ^ 18) ∧ E (.ref A.cInvalidNumber) none H
def sp_Room_switchingsX (K : PySem.W.Frag) (A : Ads) : Sp := spOr (sp_Room_switchings K A) (sp_Room_switchingsR K A)
def sp_Room_nth_switchingR (K : PySem.W.Frag) (A : Ads) : Sp := fun vs H _ E => ∃ (p : Addr) (t : Int), vs = [.ref p, .int t] ∧ ¬ (1 ≤ t ∧ t ≤ 10 ^ 18) ∧ E (.ref A.cInvalidNumber) none H
def sp_Room_nth_switchingX (K : PySem.W.Frag) (A : Ads) : Sp := spOr (sp_Room_nth_switching K A) (sp_Room_nth_switchingR K A)
def sp_Room_temperaturesR (K : PySem.W.Frag) (A : Ads) : SpG := fun vs H _ E => ∃ (p : Addr) (a b : Int), vs = [.ref p, .int a, .int b] ∧ (¬ (0 ≤ a ∧ a ≤ 10 ^ 18) ∨ ¬ (a ≤ b ∧ b ≤ 10 ^ 18 ∧ b ≤ a + 9999)) ∧ E (.ref A.cInvalidNumber) none H
def sp_Room_temperaturesX (K : PySem.W.Frag) (A : Ads) : SpG := spGOr (sp_Room_temperatures K A) (sp_Room_temperaturesR K A)
/-- an observer's fields -/
def obsF (w : V) (g t d : Int) (on : Bool) (lo hi no : V) : List (Str × V) := [("outside", w), ("power", .int g), ("tick", .int t), ("degrees", .int d), ("is_heating", .bl on), ("lows", lo), ("highs", hi), ("noted", no)]
def sp_ThresholdObserver_init (K : PySem.W.Frag) (A : Ads) : Sp := fun vs H Q _ => ∃ (p dx : Addr) (w : V) (g st : Int) (on : Bool) (G : Hp) (mu : Mu), vs = [.ref p, w, .int g, .int st, .bl on] ∧ ThresholdObserverC K A.cThresholdObserver ∧ 1 ≤ g ∧ g ≤ 200 ∧ -(10 ^ 12) ≤ st ∧ st ≤ 10 ^ 12 ∧
  Hold G ((p, .ins A.cThresholdObserver dx []) :: mu) H ∧ ∀ (t1 t2 l : Addr) (G' H' : Hp), Ex G G' → Tup G' t1 [.int (0 - 1000000000000), .int 1000000000000] → Tup G' t2 [.int (0 - 1000000000000), .int 1000000000000] → Lst G' l [] →
    Hold G' ((p, .ins A.cThresholdObserver dx (obsF w g 0 st on (.ref t1) (.ref t2) (.ref l))) :: mu) H' → Q .non H'
def sp_ThresholdObserver_initR (K : PySem.W.Frag) (A : Ads) : Sp := fun vs H _ E => ∃ (p : Addr) (w on : V) (g st : Int), vs = [.ref p, w, .int g, .int st, on] ∧ ((¬ (1 ≤ g ∧ g ≤ 200) ∧ E (.ref A.cInvalidHeater) none H) ∨ ((1 ≤ g ∧ g ≤ 200) ∧ ¬ (-(10 ^ 12) ≤ st ∧ st ≤ 10 ^ 12) ∧ E (.ref A.cInvalidNumber) none H))
def sp_ThresholdObserver_initX (K : PySem.W.Frag) (A : Ads) : Sp := spOr (sp_ThresholdObserver_init K A) (sp_ThresholdObserver_initR K A)
def sp_ThresholdObserver_see_restR (K : PySem.W.Frag) (A : Ads) : Sp := fun vs H _ E => ∃ (p dx : Addr) (w lo hi no : V) (g t d : Int) (on : Bool) (z : Int), vs = [.ref p, .int z] ∧ ThresholdObserverC K A.cThresholdObserver ∧ H p = some (.ins A.cThresholdObserver dx (obsF w g t d on lo hi no)) ∧ ¬ (t ≤ z ∧ z ≤ 10 ^ 18) ∧ E (.ref A.cInvalidNumber) none H
def sp_ThresholdObserver_see_switchingR (K : PySem.W.Frag) (A : Ads) : Sp := fun vs H _ E => ∃ (p dx : Addr) (w lo hi no : V) (g t d : Int) (on : Bool) (z : Int), vs = [.ref p, .int z] ∧ ThresholdObserverC K A.cThresholdObserver ∧ H p = some (.ins A.cThresholdObserver dx (obsF w g t d on lo hi no)) ∧ ¬ (t ≤ z ∧ z ≤ 10 ^ 18) ∧ E (.ref A.cInvalidNumber) none H
def t_validate_numberR (K : PySem.W.Frag) (A : Ads) (E : XK) : TS := tSeq (tIfS (tNot (tTest (tChain (rI0 fun i j => .bl (decide (i ≤ j))) (rI0 fun i j => .bl (decide (i ≤ j))) (tVar 1) (tVar 0) (tVar 2)))) (tRz (fun _ H Q => Q (.ref A.cInvalidNumber) none H) E) (tNext)) (tNever)
def t_Heater_initR (K : PySem.W.Frag) (A : Ads) (E : XK) : TS := tSeq (tIfS (tOr (tNot (tTest (tChain (rI0 fun i j => .bl (decide (i ≤ j))) (rI0 fun i j => .bl (decide (i ≤ j))) (tC (.int 1)) (tVar 1) (tC (.int 200))))) (tNot (tTest (tChain3 (rI0 fun i j => .bl (decide (i ≤ j))) (rI0 fun i j => .bl (decide (i ≤ j))) (rI0 fun i j => .bl (decide (i ≤ j))) (tOp (rI0 fun i j => .int (i - j)) (tC (.int 0)) (tC (.int 1000000000000))) (tVar 2) (tVar 3) (tC (.int 1000000000000)))))) (tRz (fun _ H Q => Q (.ref A.cInvalidHeater) none H) E) (tNext)) (tNever)
def t_Heater_movedR (K : PySem.W.Frag) (A : Ads) (E : XK) : TS := tSeq (tRet (tMak A.cHeater (sp_Heater_initX K A) E (tCons (tFld K (tVar 0) "power") (tCons (tOp (rI0 fun i j => .int (i + j)) (tFld K (tVar 0) "below") (tVar 1)) (tCons (tOp (rI0 fun i j => .int (i + j)) (tFld K (tVar 0) "above") (tVar 1)) (tNil)))))) (tNever)
def t_Room_initR (K : PySem.W.Frag) (A : Ads) (E : XK) : TS := tSeq (tDrop (tCal (sp_validate_numberX K A) E (tCons (tVar 3) (tCons (tOp (rI0 fun i j => .int (i - j)) (tC (.int 0)) (tC (.int 1000000000000))) (tCons (tC (.int 1000000000000)) (tNil)))))) (tNever)
def t_Room_temperatureR (K : PySem.W.Frag) (A : Ads) (E : XK) : TS := tSeq (tDrop (tCal (sp_validate_numberX K A) E (tCons (tVar 1) (tCons (tC (.int 0)) (tCons (tC (.int 1000000000000000000)) (tNil)))))) (tNever)
def t_Room_is_onR (K : PySem.W.Frag) (A : Ads) (E : XK) : TS := tSeq (tDrop (tCal (sp_validate_numberX K A) E (tCons (tVar 1) (tCons (tC (.int 0)) (tCons (tC (.int 1000000000000000000)) (tNil)))))) (tNever)
def t_Room_heating_ticksR (K : PySem.W.Frag) (A : Ads) (E : XK) : TS := tSeq (tDrop (tCal (sp_validate_numberX K A) E (tCons (tVar 1) (tCons (tC (.int 0)) (tCons (tC (.int 1000000000000000000)) (tNil)))))) (tNever)
def t_Room_switchingsR (K : PySem.W.Frag) (A : Ads) (E : XK) : TS := tSeq (tDrop (tCal (sp_validate_numberX K A) E (tCons (tVar 1) (tCons (tC (.int 0)) (tCons (tC (.int 1000000000000000000)) (tNil)))))) (tNever)
def t_Room_nth_switchingR (K : PySem.W.Frag) (A : Ads) (E : XK) : TS := tSeq (tDrop (tCal (sp_validate_numberX K A) E (tCons (tVar 1) (tCons (tC (.int 1)) (tCons (tC (.int 1000000000000000000)) (tNil)))))) (tNever)
def t_Room_temperaturesR (K : PySem.W.Frag) (A : Ads) (E : XK) : TGn := tGThen (tPlain (tDrop (tCal (sp_validate_numberX K A) E (tCons (tVar 1) (tCons (tC (.int 0)) (tCons (tC (.int 1000000000000000000)) (tNil))))))) (tGThen (tPlain (tDrop (tCal (sp_validate_numberX K A) E (tCons (tVar 2) (tCons (tVar 1) (tCons (tCB rMin2 (tCons (tC (.int 1000000000000000000)) (tCons (tOp (rI0 fun i j => .int (i - j)) (tOp (rI0 fun i j => .int (i + j)) (tVar 1) (tC (.int 10000))) (tC (.int 1))) (tNil)))) (tNil))))))) (tGNever))
def t_ThresholdObserver_init (K : PySem.W.Frag) (A : Ads) : TS := tSeq (tIfS (tNot (tTest (tChain (rI0 fun i j => .bl (decide (i ≤ j))) (rI0 fun i j => .bl (decide (i ≤ j))) (tC (.int 1)) (tVar 2) (tC (.int 200))))) (tNever) (tNext)) (tSeq (tDrop (tCal (sp_validate_number K A) E0 (tCons (tVar 3) (tCons (tOp (rI0 fun i j => .int (i - j)) (tC (.int 0)) (tC (.int 1000000000000))) (tCons (tC (.int 1000000000000)) (tNil)))))) (tSeq (sFld K (tVar 0) (tVar 1) "outside") (tSeq (sFld K (tVar 0) (tVar 2) "power") (tSeq (sFld K (tVar 0) (tC (.int 0)) "tick") (tSeq (sFld K (tVar 0) (tVar 3) "degrees") (tSeq (sFld K (tVar 0) (tVar 4) "is_heating") (tSeq (sFld K (tVar 0) (tTup (tCons (tOp (rI0 fun i j => .int (i - j)) (tC (.int 0)) (tC (.int 1000000000000))) (tCons (tC (.int 1000000000000)) (tNil)))) "lows") (tSeq (sFld K (tVar 0) (tTup (tCons (tOp (rI0 fun i j => .int (i - j)) (tC (.int 0)) (tC (.int 1000000000000))) (tCons (tC (.int 1000000000000)) (tNil)))) "highs") (sFld K (tVar 0) (tLst (tNil)) "noted")))))))))
def t_ThresholdObserver_initR (K : PySem.W.Frag) (A : Ads) (E : XK) : TS := tSeq (tIfS (tNot (tTest (tChain (rI0 fun i j => .bl (decide (i ≤ j))) (rI0 fun i j => .bl (decide (i ≤ j))) (tC (.int 1)) (tVar 2) (tC (.int 200))))) (tRz (fun _ H Q => Q (.ref A.cInvalidHeater) none H) E) (tNext)) (tSeq (tDrop (tCal (sp_validate_numberX K A) E (tCons (tVar 3) (tCons (tOp (rI0 fun i j => .int (i - j)) (tC (.int 0)) (tC (.int 1000000000000))) (tCons (tC (.int 1000000000000)) (tNil)))))) (tNever))
def t_ThresholdObserver_see_restR (K : PySem.W.Frag) (A : Ads) (E : XK) : TS := tSeq (tDrop (tCal (sp_validate_numberX K A) E (tCons (tVar 1) (tCons (tFld K (tVar 0) "tick") (tCons (tC (.int 1000000000000000000)) (tNil)))))) (tNever)
def t_ThresholdObserver_see_switchingR (K : PySem.W.Frag) (A : Ads) (E : XK) : TS := tSeq (tDrop (tCal (sp_validate_numberX K A) E (tCons (tVar 1) (tCons (tFld K (tVar 0) "tick") (tCons (tC (.int 1000000000000000000)) (tNil)))))) (tNever)
section
variable {K : PySem.W.Frag} {A : Ads}
/-! ### calls that raise, within _law_error -/
section
variable {G H : Hp} {mu : Mu} {Q Q' : VK} {E : XK} {g lo hi : Int} {q p w : Addr} {R : RoomD}
end
end
end Wm
end

section
namespace Wm
open PySem PySem.Spec PyProof.Rows L2 StX
/-! ## first_parting, and what it calls -/
def endO (rs : List RunD) (loop : Option Int) : Option Int := loop.map fun j => finLast rs + circ rs j
def sp_second_end (K : PySem.W.Frag) (A : Ads) : Sp := fun vs H Q _ => ∃ (p : Addr) (P : Par) (rs : List RunD) (loop : Option Int), vs = [.ref p] ∧ IsHist K A H p P rs loop ∧ Q (optI (endO rs loop)) H
def sp_rest_of (K : PySem.W.Frag) (A : Ads) : Sp := fun vs H Q _ => ∃ (p : Addr) (R : RoomD) (t : Int), vs = [.ref p, .int t] ∧ IsRoom K A H p R ∧ 0 ≤ t ∧
  ∀ q n H', Ex H H' → H' q = some (.tup [.bl (oAt R.P t), optI n]) → RestV R.P R.loop t n → Q (.ref q) H'
def sp_parting_of (K : PySem.W.Frag) (A : Ads) : Sp := fun vs H Q _ => ∃ (p q : Addr) (R1 R2 : RoomD), vs = [.ref p, .ref q] ∧ IsRoom K A H p R1 ∧ IsRoom K A H q R2 ∧ SameW R1.P R2.P ∧ R1.P.start = R2.P.start ∧
  ∀ o H', Ex H H' → PartV R1.P R2.P o → Q (optI o) H'
def sp_Weather___eq (K : PySem.W.Frag) (A : Ads) : Sp := fun vs H Q _ => ∃ (p q t u : Addr) (c d : List Int), vs = [.ref p, .ref q] ∧ IsWeather K A H p t c ∧ IsWeather K A H q u d ∧ ∀ H', Ex H H' → Q (.bl (eqW c d)) H'
def sp_first_parting (K : PySem.W.Frag) (A : Ads) : Sp := fun vs H Q _ => ∃ (p q : Addr) (R1 R2 : RoomD), vs = [.ref p, .ref q] ∧ IsRoom K A H p R1 ∧ IsRoom K A H q R2 ∧ eqW R1.P.ch R2.P.ch = true ∧
  ∀ o H', Ex H H' → PartV R1.P R2.P o → Q (optI o) H'
def sp_first_partingR (K : PySem.W.Frag) (A : Ads) : Sp := fun vs H _ E => ∃ (p q : Addr) (R1 R2 : RoomD), vs = [.ref p, .ref q] ∧ IsRoom K A H p R1 ∧ IsRoom K A H q R2 ∧ eqW R1.P.ch R2.P.ch = false ∧ ∀ H', Ex H H' → E (.ref A.cOtherWeather) none H'
def t_second_end (K : PySem.W.Frag) (A : Ads) : TS := tRet (tIf (tTest (tOp rIsN (tFld K (tVar 0) "loop") (tC .non))) (tC .non) (tOp (rI0 fun i j => .int (i + j)) (tFld K (tOp (rIx K) (tFld K (tVar 0) "runs") (tUn (rU fun i => .int (-i)) (tC (.int 1)))) "end") (tMtd A.cHistory "circle" (sp_History_circle K A) E0 (tVar 0) tNil)))
def t_rest_of (K : PySem.W.Frag) (A : Ads) : TS := tSeq (tAsg (tOp (rIx K) (tMtd A.cHistory "wrapped" (sp_History_wrapped K A) E0 (tFld K (tVar 0) "past") (tCons (tVar 1) (tNil))) (tC (.int 1))) (gName 2)) (tSeq (tAsg (tMtd A.cHistory "run_at" (sp_History_run_at K A) E0 (tFld K (tVar 0) "past") (tCons (tVar 2) (tNil))) (gName 3)) (tRet (tTup (tCons (tFld K (tVar 3) "is_heating") (tCons (tIf (tTest (tOp rIsN (tFld K (tVar 3) "end") (tC .non))) (tC .non) (tOp (rI0 fun i j => .int (i - j)) (tFld K (tVar 3) "end") (tVar 2))) (tNil))))))
def t_Weather___eq (K : PySem.W.Frag) (A : Ads) : TS := tSeq (tIfS (tNot (tB (tCB (rIsiO A.cWeather) (tCons (tVar 1) (tCons (tC (.ref A.cWeather)) (tNil)))))) (tNever) (tNext)) (tRet (tOp (rEqD K) (tOp (rRepTA K) (tFld K (tVar 0) "pattern") (tCB (rLen K) (tCons (tFld K (tVar 1) "pattern") (tNil)))) (tOp (rRepTA K) (tFld K (tVar 1) "pattern") (tCB (rLen K) (tCons (tFld K (tVar 0) "pattern") (tNil))))))
def t_parting_of_c1 (K : PySem.W.Frag) (A : Ads) : TS := tAug 2 (tCB (rMin K) (tCons (tLc (iTup K (tTup (tCons (tOp (rIx K) (tVar 4) (tC (.int 1))) (tCons (tOp (rIx K) (tVar 5) (tC (.int 1))) (tNil))))) (gName 6) (tTest (tOp rNotN (tVar 6) (tC .non))) (tVar 6) [6]) (tNil))) (ipI fun i j => i + j)
def t_parting_of_c2 (K : PySem.W.Frag) (A : Ads) : TS := tSeq (tWhile (tOr (tTest (tOp rIsN (tVar 3) (tC .non))) (tTest (tOp (rI0 fun i j => .bl (decide (i < j))) (tVar 2) (tVar 3)))) (tSeq (tPar 4 5 (tCons (tCal (sp_rest_of K A) E0 (tCons (tVar 0) (tCons (tVar 2) (tNil)))) (tCons (tCal (sp_rest_of K A) E0 (tCons (tVar 1) (tCons (tVar 2) (tNil)))) (tNil)))) (tSeq (tIfS (tTest (tOp rNe (tOp (rI CMul fun i j => .int (i * j)) (tPrp A.cHeater (sp_Heater_gain K A) E0 (tPrp A.cRoom (sp_Room_heater K A) E0 (tVar 0))) (tCB rInt (tCons (tOp (rIx K) (tVar 4) (tC (.int 0))) (tNil)))) (tOp (rI CMul fun i j => .int (i * j)) (tPrp A.cHeater (sp_Heater_gain K A) E0 (tPrp A.cRoom (sp_Room_heater K A) E0 (tVar 1))) (tCB rInt (tCons (tOp (rIx K) (tVar 5) (tC (.int 0))) (tNil)))))) (tRet (tOp (rI0 fun i j => .int (i + j)) (tVar 2) (tC (.int 1)))) (tNext)) (tSeq (tIfS (tAnd (tTest (tOp rIsN (tOp (rIx K) (tVar 4) (tC (.int 1))) (tC .non))) (tTest (tOp rIsN (tOp (rIx K) (tVar 5) (tC (.int 1))) (tC .non)))) (tRet (tC .non)) (tNext)) (t_parting_of_c1 K A))))) (tRet (tC .non))
def t_parting_of (K : PySem.W.Frag) (A : Ads) : TS := tSeq (tPar 2 3 (tCons (tC (.int 0)) (tCons (tCal (sp_second_end K A) E0 (tCons (tIf (tTest (tOp rNotN (tFld K (tFld K (tVar 0) "past") "loop") (tC .non))) (tFld K (tVar 0) "past") (tFld K (tVar 1) "past")) (tNil))) (tNil)))) (t_parting_of_c2 K A)
def t_first_parting (K : PySem.W.Frag) (A : Ads) : TS := tSeq (tIfS (tTest (tOp (rOwnNe A.cWeather (sp_Weather___eq K A) E0) (tPrp A.cRoom (sp_Room_weather K A) E0 (tVar 0)) (tPrp A.cRoom (sp_Room_weather K A) E0 (tVar 1)))) (tNever) (tNext)) (tSeq (tIfS (tTest (tOp rNe (tPrp A.cRoom (sp_Room_start K A) E0 (tVar 0)) (tPrp A.cRoom (sp_Room_start K A) E0 (tVar 1)))) (tRet (tC (.int 0))) (tNext)) (tRet (tCal (sp_parting_of K A) E0 (tCons (tVar 0) (tCons (tVar 1) (tNil))))))
def t_first_partingR (K : PySem.W.Frag) (A : Ads) (E : XK) : TS := tSeq (tIfS (tTest (tOp (rOwnNe A.cWeather (sp_Weather___eq K A) E0) (tPrp A.cRoom (sp_Room_weather K A) E0 (tVar 0)) (tPrp A.cRoom (sp_Room_weather K A) E0 (tVar 1)))) (tRz (fun _ H Q => Q (.ref A.cOtherWeather) none H) E) (tNext)) (tNever)
section
variable {K : PySem.W.Frag} {A : Ads}
def rests (n1 n2 : Option Int) : List Int := [n1, n2].filterMap id
end
end Wm
end

section
namespace Wm
open PySem PySem.Spec PyProof.Rows L2 StX
open GenW
/-! # law_k42: plain settings and rooms -/
def sp_law (K : PySem.W.Frag) (A : Ads) : Sp := fun vs H Q _ => ∃ (a : Addr) (ns : List Int), vs = [.ref a] ∧ (((RoomCs K A ∧ SettingC K A.cSetting) ∧ HourSettingC K A.cHourSetting) ∧ RestSettingC K A.cRestSetting) ∧ SqL K H a (ns.map V.int) ∧ ns.length ≤ 63 ∧ ∀ H', Q (.bl true) H'
section
variable {K : PySem.W.Frag} {A : Ads} {G G' : Hp} {p : Addr}
theorem IsHeater.sup {g lo hi : Int} (e : ExS G G') (h : IsHeater K A G p g lo hi) : IsHeater K A G' p g lo hi := by
  obtain ⟨a, b, dx, h1⟩ := h
  exact ⟨a, b, dx, e _ _ h1 rfl⟩
theorem IsRun.sup {r : RunD} (e : ExS G G') (h : IsRun K A G p r) : IsRun K A G' p r := by
  obtain ⟨a, b, dx, s, h1, h2⟩ := h
  exact ⟨a, b, dx, s, e _ _ h1 rfl, e _ _ h2 rfl⟩
theorem IsHist.sup {P : Par} {rs : List RunD} {loop : Option Int} (e : ExS G G') (h : IsHist K A G p P rs loop) : IsHist K A G' p P rs loop := by
  obtain ⟨a, b, c, dx, sh, ru, ras, h1, h2, h3, h4⟩ := h
  exact ⟨a, b, c, dx, sh, ru, ras, e _ _ h1 rfl, e _ _ h2 rfl, e _ _ h3 rfl, ⟨h4.len, fun i a r h5 h6 => (h4.at_ i a r h5 h6).sup e⟩⟩
theorem OptAt.sup {v : V} {o : Option (Int × Int)} (e : ExS G G') (h : OptAt G v o) : OptAt G' v o := by
  cases o with
  | none => exact h
  | some x =>
    obtain ⟨q, h1, h2⟩ := h
    exact ⟨q, h1, e _ _ h2 rfl⟩
theorem IsRoom.sup {R : RoomD} (e : ExS G G') (h : IsRoom K A G p R) : IsRoom K A G' p R := by
  obtain ⟨a, b, c, d, dx, vr, vs, vc, vw, o1, o2, h1, h2, h3, h4, h5, h6, h7⟩ := h
  exact ⟨a, b.sup e, c.sup e, d.sup e, dx, vr, vs, vc, vw, o1, o2, e _ _ h1 rfl, h2.sup e, h3.sup e, h4, h5.sup e, h6, h7.sup e⟩
end
def t_law2_c1 (K : PySem.W.Frag) (A : Ads) : TS := tSeq (tAsg (tLc (iRng1 (tCons (tVar 8) (tNil))) (gName 20) (tTest (tOp rNe (tOp (rIx K) (tVar 18) (tVar 20)) (tOp (rIx K) (tOp rCat (tLst (tCons (tC (.bl false)) (tNil))) (tVar 18)) (tVar 20)))) (tVar 20) [20]) (gName 19)) (tIfS (tTest (tOp (rNeD K) (tLc (iRng2 (tCons (tC (.int 1)) (tCons (tCB (rLen K) (tCons (tVar 19) (tNil))) (tNil)))) (gName 20) (tTest (tOp (rI0 fun i j => .bl (decide (i ≤ j))) (tOp (rI0 fun i j => .int (i - j)) (tOp (rIx K) (tVar 19) (tVar 20)) (tOp (rIx K) (tVar 19) (tOp (rI0 fun i j => .int (i - j)) (tVar 20) (tC (.int 1))))) (tVar 9))) (tVar 20) [20]) (tLst (tNil)))) (tRet (tC (.bl false))) (tNext))
def t_law2_c2 (K : PySem.W.Frag) (A : Ads) : TS := tSeq (tAsg (tLcG (tCall2 (sp_watch K A) [] (tCons (tVar 3) (tCons (tVar 4) (tCons (tMakKw A.cRestSetting 2 1 (sp_RestSetting_init K A) E0 (tCons (tVar 5) (tCons (tVar 6) (tNil))) (tCons (tVar 9) (tNil))) (tCons (tVar 7) (tCons (tVar 8) (tNil))))))) (gName 12) (tYes) (tOp (rIx K) (tVar 12) (tC (.int 1))) [12]) (gName 18)) (t_law2_c1 K A)
def t_law2_c3 (K : PySem.W.Frag) (A : Ads) : TS := tSeq (tFor (iList K (tVar 16)) (gName 17) (tIfS (tTest (tOp (rNeOps K) (tLcG (tCall2 (sp_watch K A) [] (tCons (tVar 3) (tCons (tVar 4) (tCons (tVar 17) (tCons (tVar 7) (tCons (tVar 8) (tNil))))))) (gName 12) (tYes) (tVar 12) [12]) (tVar 11))) (tRet (tC (.bl false))) (tNext))) (t_law2_c2 K A)
def t_law2_c4 (K : PySem.W.Frag) (A : Ads) : TS := tSeq (tAsg (tLst (tCons (tMak A.cHourSetting (sp_HourSetting_init K A) E0 (tCons (tOp (rI0 fun i j => .int (i + j)) (tC (.int 1)) (tCal (sp_law2_drawn K A) E0 (tCons (tVar 1) (tCons (tC (.int 24)) (tNil))))) (tCons (tTup (tCons (tC (.int 0)) (tCons (tVar 5) (tCons (tVar 6) (tNil))))) (tNil)))) (tCons (tMakKw A.cRestSetting 2 1 (sp_RestSetting_init K A) E0 (tCons (tVar 5) (tCons (tVar 6) (tNil))) (tCons (tC (.int 0)) (tNil))) (tNil)))) (gName 16)) (t_law2_c3 K A)
def t_law2_c5 (K : PySem.W.Frag) (A : Ads) : TS := tSeq (tAsg (tCal (sp_totals K A) E0 (tCons (tVar 3) (tCons (tVar 4) (tCons (tMak A.cSetting (sp_Setting_init K A) E0 (tCons (tVar 5) (tCons (tVar 6) (tNil)))) (tCons (tVar 7) (tCons (tVar 8) (tNil))))))) (gName 15)) (tSeq (tIfS (tTest (tOp (rNeD K) (tSl (rSlA K) (tVar 15) (tNoPart) (tPart (tC (.int 2)))) (tTup (tCons (tMtd A.cRoom "heating_ticks" (sp_Room_heating_ticks K A) E0 (tVar 10) (tCons (tVar 8) (tNil))) (tCons (tMtd A.cRoom "switchings" (sp_Room_switchings K A) E0 (tVar 10) (tCons (tVar 8) (tNil))) (tNil)))))) (tRet (tC (.bl false))) (tNext)) (t_law2_c4 K A))
def t_law2_c6 (K : PySem.W.Frag) (A : Ads) : TS := tSeq (tIfS (tTest (tOp (rNeD K) (tLc (iList K (tVar 11)) (gName 12) (tYes) (tOp (rIx K) (tVar 12) (tC (.int 0))) [12]) (tLcG (tMeth2 A.cRoom "temperatures" (sp_Room_temperatures_w K A) [] (tVar 10) (tCons (tC (.int 0)) (tCons (tOp (rI0 fun i j => .int (i - j)) (tVar 8) (tC (.int 1))) (tNil)))) (gName 13) (tYes) (tVar 13) [13]))) (tRet (tC (.bl false))) (tNext)) (tSeq (tIfS (tTest (tOp (rNeD K) (tLc (iList K (tVar 11)) (gName 12) (tYes) (tOp (rIx K) (tVar 12) (tC (.int 1))) [12]) (tLc (iRng1 (tCons (tVar 8) (tNil))) (gName 14) (tYes) (tMtd A.cRoom "is_on" (sp_Room_is_on K A) E0 (tVar 10) (tCons (tVar 14) (tNil))) [14]))) (tRet (tC (.bl false))) (tNext)) (t_law2_c5 K A))
def t_law2_c7 (K : PySem.W.Frag) (A : Ads) : TS := tSeq (tAsg (tMak A.cRoom (spD [.bl false] (sp_Room_init K A)) E0 (tCons (tVar 3) (tCons (tMak A.cHeater (sp_Heater_init K A) E0 (tCons (tVar 4) (tCons (tVar 5) (tCons (tVar 6) (tNil))))) (tCons (tVar 7) (tNil))))) (gName 10)) (tSeq (tAsg (tLcG (tCall2 (sp_watch K A) [] (tCons (tVar 3) (tCons (tVar 4) (tCons (tMak A.cSetting (sp_Setting_init K A) E0 (tCons (tVar 5) (tCons (tVar 6) (tNil)))) (tCons (tVar 7) (tCons (tVar 8) (tNil))))))) (gName 12) (tYes) (tVar 12) [12]) (gName 11)) (t_law2_c6 K A))
def t_law (K : PySem.W.Frag) (A : Ads) : TS := tSeq (tAsg (tCal (sp_law2_start K A) E0 (tCons (tVar 0) (tNil))) (gName 1)) (tSeq (tFor (iRng1 (tCons (tC (.int 3)) (tNil))) (gName 2) (tSeq (tPar 3 4 (tCons (tCal (sp_law2_weather K A) E0 (tCons (tCal (sp_law2_changes K A) E0 (tCons (tVar 1) (tCons (tC (.int 5)) (tNil)))) (tNil))) (tCons (tOp (rI0 fun i j => .int (i + j)) (tC (.int 1)) (tCal (sp_law2_drawn K A) E0 (tCons (tVar 1) (tCons (tOp (rIx K) (tLst (tCons (tC (.int 9)) (tCons (tC (.int 200)) (tNil)))) (tCal (sp_law2_drawn K A) E0 (tCons (tVar 1) (tCons (tC (.int 2)) (tNil))))) (tNil))))) (tNil)))) (tSeq (tAsg (tOp (rI0 fun i j => .int (i - j)) (tCal (sp_law2_drawn K A) E0 (tCons (tVar 1) (tCons (tOp (rIx K) (tLst (tCons (tC (.int 30)) (tCons (tOp (rI CPow fun i j => .int (i ^ j.toNat)) (tC (.int 10)) (tC (.int 11))) (tNil)))) (tCal (sp_law2_drawn K A) E0 (tCons (tVar 1) (tCons (tC (.int 2)) (tNil))))) (tNil)))) (tC (.int 15))) (gName 5)) (tSeq (tPar 6 7 (tCons (tOp (rI0 fun i j => .int (i + j)) (tVar 5) (tCal (sp_law2_drawn K A) E0 (tCons (tVar 1) (tCons (tC (.int 20)) (tNil))))) (tCons (tOp (rI0 fun i j => .int (i - j)) (tOp (rI0 fun i j => .int (i + j)) (tVar 5) (tCal (sp_law2_drawn K A) E0 (tCons (tVar 1) (tCons (tC (.int 60)) (tNil))))) (tC (.int 30))) (tNil)))) (tSeq (tAsg (tTup (tCons (tOp (rI0 fun i j => .int (i + j)) (tC (.int 1)) (tCal (sp_law2_drawn K A) E0 (tCons (tVar 1) (tCons (tC (.int 200)) (tNil))))) (tCons (tCal (sp_law2_drawn K A) E0 (tCons (tVar 1) (tCons (tC (.int 20)) (tNil)))) (tNil)))) (gTup K 2 (gCons (gName 8) (gCons (gName 9) (gNil))))) (t_law2_c7 K A)))))) (tRet (tC (.bl true))))
section
variable {K : PySem.W.Frag} {A : Ads}
theorem ap_newRoom0 {G H : Hp} {ch : List Int} {g : Int} {w wt : Addr} {Q : VK} {E : XK} {mu : Mu} {h : Addr} {lo hi st : Int} (T : RoomCs K A) (hh : Hold G mu H) (iw : IsWeather K A G w wt ch) (ih : IsHeater K A G h g lo hi) (s1 : -(10 ^ 12) ≤ st) (s2 : st ≤ 10 ^ 12)
    (k : ∀ (p : Addr) (R : RoomD) (G' H' : Hp), Ex G G' → IsRoom K A G' p R → R.P = ⟨ch, g, lo, hi, st, false⟩ → Hold G' mu H' → Q (.ref p) H') : rMak A.cRoom (spD [.bl false] (sp_Room_init K A)) E [.ref w, .ref h, .int st] H Q := by
  refine make_m hh fun p dp H4 hh4 => ?_
  exact ⟨p, dp, w, wt, h, ⟨ch, g, lo, hi, st, false⟩, G, mu, rfl, T.r, T.p, T.u, iw, ih, s1, s2, hh4, fun rs loop pa G5 H5 ex5 ir hh5 => ⟨rfl, k p _ G5 H5 ex5 ir rfl hh5⟩⟩
theorem ap_newHeater {G H : Hp} {g : Int} {Q : VK} {E : XK} {mu : Mu} {lo hi : Int} (T : RoomCs K A) (hh : Hold G mu H) (ok : HtOk g lo hi) (k : ∀ q G' H', Ex G G' → IsHeater K A G' q g lo hi → Hold G' mu H' → Q (.ref q) H') : rMak A.cHeater (sp_Heater_init K A) E [.int g, .int lo, .int hi] H Q :=
  make_m hh fun x dx H2 hh2 => ⟨x, dx, g, lo, hi, G, mu, rfl, T.h, ok, hh2, fun G3 H3 e ih hh3 => ⟨rfl, k x G3 H3 e ih hh3⟩⟩
theorem ap_newSet {G H : Hp} {mu : Mu} {Q : VK} {E : XK} {lo hi : Int} (SC : SettingC K A.cSetting) (hh : Hold G mu H) (ok : RngOk lo hi) (k : ∀ p G' H', Ex G G' → IsSet K A G' p ⟨0, lo, hi, 0, [], 0⟩ → Hold G' mu H' → Q (.ref p) H') : rMak A.cSetting (sp_Setting_init K A) E [.int lo, .int hi] H Q :=
  make_m hh fun x dx H2 hh2 => ⟨x, A.cSetting, dx, lo, hi, G, mu, rfl, SC.set, ok, hh2, fun H3 hh3 => ⟨rfl, k x _ H3 hh3.frz_ex (.inl ⟨rfl, SC, dx, upd_same⟩) hh3.frz⟩⟩
theorem ap_newRest {G H : Hp} {mu : Mu} {Q : VK} {E : XK} {lo hi r : Int} (RC : RestSettingC K A.cRestSetting) (hh : Hold G mu H) (ok : RngOk lo hi) (r0 : 0 ≤ r) (r1 : r ≤ 1000) (k : ∀ p G' H', Ex G G' → IsSet K A G' p ⟨2, lo, hi, 0, [], r⟩ → Hold G' mu H' → Q (.ref p) H') : rMakKw A.cRestSetting 2 1 (sp_RestSetting_init K A) E [.int lo, .int hi] [.int r] H Q :=
  makeKw_m hh rfl rfl fun x dx H2 hh2 => ⟨x, dx, lo, hi, r, G, mu, rfl, RC, ok, r0, r1, hh2, fun G3 H3 e is hh3 => ⟨rfl, k x G3 H3 e is hh3⟩⟩
theorem ap_newHour {G H : Hp} {mu : Mu} {Q : VK} {E : XK} {lo hi len : Int} {q : Addr} (HC : HourSettingC K A.cHourSetting) (hh : Hold G mu H) (ok : RngOk lo hi) (l0 : 1 ≤ len) (l1 : len ≤ 24) (hq : Tup G q [.int 0, .int lo, .int hi]) (k : ∀ p G' H', Ex G G' → IsSet K A G' p ⟨1, lo, hi, len, [(0, lo, hi)], 0⟩ → Hold G' mu H' → Q (.ref p) H') : rMak A.cHourSetting (sp_HourSetting_init K A) E [.int len, .ref q] H Q :=
  make_m hh fun x dx H1 hh1 => ⟨[.ref x, .int len], [.ref q], rfl, rfl, sz (Nat.le_of_ble_eq_true rfl), fun t ht => ⟨x, dx, t, len, [q], (0, lo, hi), [], upd G t (.tup [.ref q]), mu, rfl, HC, l0, l1, upd_same,
    ⟨rfl, fun i a p h1 h2 => by
      cases i with
      | zero => cases h1; cases h2; exact Ex.new (hh1.g_none ht) _ _ hq
      | succ i => cases h1⟩, rfl, ⟨by show (-1 : Int) < 0; decide, by show 0 < len; omega, ok, True.intro⟩, hh1.new ht, fun G' H' ex is hh' => ⟨rfl, k x G' H' ((Ex.new (hh1.g_none ht)).trans ex) is hh'⟩⟩⟩
def Inv42 (K : PySem.W.Frag) (s a : Addr) (ns : List Int) : L2.St → Hp → Prop := fun σ H' => ∃ (v2 v3 v4 v5 v6 v7 v8 v9 v10 v11 v12 v13 v14 v15 v16 v17 v18 v19 v20 : Option V) (d : DT) (G : Hp), σ = [some (.ref s), some (.ref a), v2, v3, v4, v5, v6, v7, v8, v9, v10, v11, v12, v13, v14, v15, v16, v17, v18, v19, v20] ∧ 0 ≤ d.p ∧ SqL K G s (ns.map V.int) ∧ Hold G [dd a s d] H'
section
variable {G H : Hp} {a s w wt p rw cm ot : Addr} {ns : List Int} {d : DT} {R : RoomD} {ch : List Int} {g lo hi st r : Int} {N : Nat} {S : SetD} {nx bk ct : L2.St → Hp → Prop} {rt : VK} {v2 v10 v11 v12 v13 v14 v15 v16 v17 v18 v19 v20 : Option V}
theorem bls_at {f : Nat → Bool} {n i : Nat} (h : i < n) : ((rngI n).map fun z => V.bl (f z.toNat))[i]? = some (V.bl (f i)) := by
  unfold rngI
  rw [List.getElem?_map, List.getElem?_map, List.getElem?_range h]
  show some (V.bl (f (Int.toNat (i : Int)))) = _
  rw [Int.toNat_natCast]
theorem dpAll_bls {H : Hp} (xs : List Bool) : DpAll K H (xs.map V.bl) (xs.map PyData.bool) := by
  induction xs with
  | nil => exact .nil
  | cons x r ih => exact .cons (.bl x) ih
theorem canLay_bls (xs : List Bool) : PyData.canLayAll0 (xs.map PyData.bool) = true := by
  induction xs with
  | nil => rfl
  | cons x r ih =>
    simp only [List.map_cons, PyData.canLayAll0, PyData.canLay0, Bool.true_and]
    exact ih
theorem depth_bls (xs : List Bool) : PyData.depthAll (xs.map PyData.bool) = 0 := by
  induction xs with
  | nil => rfl
  | cons x r ih =>
    simp only [List.map_cons, PyData.depthAll, PyData.depth, ih]
    rfl
theorem ne_bls {H : Hp} {p q : Addr} {xs : List Bool} {Q : VK} (h1 : SqL K H p (xs.map V.bl)) (h2 : SqL K H q (xs.map V.bl)) (k : Q (.bl false) H) : rNeD K (.ref p) (.ref q) H Q :=
  neD_same (.lst h1 (dpAll_bls xs)) (.lst h2 (dpAll_bls xs)) (shaped_lst (canLay_bls xs) (by rw [depth_bls]; decide)) k
theorem ne_ints {H : Hp} {p q : Addr} {xs : List Int} {Q : VK} (h1 : SqL K H p (xs.map V.int)) (h2 : SqL K H q (xs.map V.int)) (k : Q (.bl false) H) : rNeD K (.ref p) (.ref q) H Q := by
  refine neI h1 h2 ?_
  rw [decide_eq_true rfl]
  exact k
theorem dd_tup {a s : Addr} {d : DT} : ∀ q ∈ [dd a s d], ∀ us, q.2 ≠ HO.tup us := fun q hq us e => by
  obtain rfl := List.mem_singleton.mp hq
  cases e
theorem k42_c1 (hh : Hold G [dd a s d] H) (hs : SqL K G s (ns.map V.int)) (d0 : 0 ≤ d.p) (n1 : N ≤ 200) (hk : S.kind = 2) (hr : S.rest = r) (hc : Lst G cm ((rngI N).map fun z => V.bl (wOn S ch g st z.toNat))) (kk : ∀ σ H', Inv42 K s a ns σ H' → nx σ H') :
    t_law2_c1 K A ⟨nx, rt, bk, ct⟩ [some (.ref s), some (.ref a), v2, some (.ref w), some (.int g), some (.int lo), some (.int hi), some (.int st), some (.int (N : Int)), some (.int r), v10, v11, v12, v13, v14, v15, v16, v17, some (.ref cm), v19, v20] H := by
  unfold t_law2_c1
  walk_at "w"
  refine lcR1_fil (n := (N : Int)) (fun z => swT S ch g st z.toNat) V.int hh (by omega) (by omega) (fun z z0 z1 D acc G14 H14 LY LN ex14 hh14 hY hN => ?_) fun D1 G1 H1 ex1 hD1 hh1 => ?_
  · obtain ⟨k, rfl⟩ := Int.eq_ofNat_of_zero_le z0
    have kN : k < N := by omega
    have hc14 := hc.up ex14
    walk_at "w"
    refine rix_h (hc14.at_ hh14.ex) (atI_of (by omega) (by rw [Int.toNat_natCast]; exact bls_at kN)) ?_
    walk_at "w"
    walk_at "wl"
    rename_i q1 G15 H15 ex15 hq1 hh15
    walk_at "w"
    refine cat_N hh15 (hq1.at_ hh15.ex) ((hc14.up ex15).at_ hh15.ex) (by rw [List.length_map, rngI_len]; show 1 + N ≤ _; omega) fun q2 G16 H16 ex16 hq2 hh16 => ?_
    walk_at "w"
    have at2 : (([V.bl false] : List V) ++ (rngI N).map fun z => V.bl (wOn S ch g st z.toNat))[((k : Nat) : Int).toNat]? = some (V.bl (wst S ch g st k).on) := by
      rw [Int.toNat_natCast, ← ahead_at]
      cases k with
      | zero => rfl
      | succ k =>
        show ((rngI N).map fun z => V.bl (wOn S ch g st z.toNat))[k]? = _
        rw [bls_at (by omega)]
        rfl
    refine rix_h (hq2.at_ hh16.ex) (atI_of (by omega) at2) ?_
    walk_at "w"
    have e : (wOn S ch g st k != (wst S ch g st k).on) = swT S ch g st k := rfl
    rw [e]
    cases hw : swT S ch g st k with
    | true =>
      walk_at "w"
      exact hY _ _ _ hw rfl (ex15.trans ex16) hh16
    | false =>
      walk_at "w"
      exact hN _ _ hw (ex15.trans ex16) hh16
  · rw [Int.toNat_natCast] at hD1
    generalize hl : (rngI N).filter (fun z => swT S ch g st z.toNat) = ts at hD1
    have tl : ts.length ≤ 200 := by
      rw [← hl]
      have := List.length_filter_le (fun z => swT S ch g st z.toNat) (rngI N)
      rw [rngI_len] at this
      omega
    walk_at "w"
    rw [List.length_map]
    refine lcR2_fil (lo := 1) (keep := fun _ => false) V.int hh1 (by decide) (by decide) (by omega) (by omega) (by omega) (fun z z0 z1 D acc G14 H14 LY LN ex14 hh14 hY hN => ?_) fun D2 G2 H2 ex2 hD2 hh2 => ?_
    · obtain ⟨k, rfl⟩ := Int.eq_ofNat_of_zero_le (show 0 ≤ z by omega)
      obtain ⟨j, rfl⟩ : ∃ j, k = j + 1 := ⟨k - 1, by omega⟩
      have hl1 : j + 1 < ts.length := by omega
      have e1 : ts[j]? = some ts[j] := List.getElem?_eq_getElem (by omega)
      have e2 : ts[j + 1]? = some ts[j + 1] := List.getElem?_eq_getElem hl1
      generalize ts[j] = x1 at e1
      generalize ts[j + 1] = x2 at e2
      have hD14 := hD1.up ex14
      have kl := kept_lt (p := fun z => swT S ch g st z.toNat) (n := N) (by rw [hl]; exact e1) (by rw [hl]; exact e2)
      obtain ⟨l1, l2, l3, l4, l5⟩ := kl
      have ap := rest_apart hk (show x1.toNat < x2.toNat by omega) l4 l5
      rw [hr] at ap
      walk_at "w"
      refine rix_l hh14 (SqL.of_ hD14) (atI_of (by omega) (ints_at (by rw [show (((j + 1 : Nat) : Int)).toNat = j + 1 by omega]; exact e2))) ?_
      walk_at "w"
      refine rix_l hh14 (SqL.of_ hD14) (atI_of (by omega) (ints_at (by rw [show (((j + 1 : Nat) : Int) - 1).toNat = j by omega]; exact e1))) ?_
      walk_at "w"
      refine r_dF (by omega) ?_
      walk_at "w"
      exact hN _ _ rfl (Ex.refl _) (by assumption)
    · rw [flt_none (fun _ _ => rfl)] at hD2
      walk_at "w"
      walk_at "wl"
      rename_i q3 G3 H3 ex3 hq3 hh3
      refine ne_ints (xs := []) (SqL.of (hh3.rd (hD2.up ex3))) (SqL.of (hh3.rd hq3)) ?_
      walk_at "w"
      exact kk _ _ ⟨_, _, _, _, _, _, _, _, _, _, _, _, _, _, _, _, _, _, _, d, G3, rfl, d0, hs.up (ex1.trans (ex2.trans ex3)), hh3⟩
/-- what is told of a turn's room -/
structure Fa42 (K : PySem.W.Frag) (A : Ads) (G : Hp) (s w wt : Addr) (ns ch : List Int) (g lo hi st : Int) (N : Nat) (r : Int) : Prop where
  hs : SqL K G s (ns.map V.int)
  iw : IsWeather K A G w wt ch
  g1 : 1 ≤ g
  g2 : g ≤ 200
  rng : RngOk lo hi
  dst : DegOk st
  n0 : 1 ≤ N
  n1 : N ≤ 200
  r0 : 0 ≤ r
  r1 : r ≤ 20
theorem Fa42.up {G' : Hp} (F : Fa42 K A G s w wt ns ch g lo hi st N r) (e : Ex G G') : Fa42 K A G' s w wt ns ch g lo hi st N r := ⟨F.hs.up e, F.iw.up e, F.g1, F.g2, F.rng, F.dst, F.n0, F.n1, F.r0, F.r1⟩
theorem k42_c2 (RC : RestSettingC K A.cRestSetting) (hh : Hold G [dd a s d] H) (F : Fa42 K A G s w wt ns ch g lo hi st N r) (d0 : 0 ≤ d.p) (kk : ∀ σ H', Inv42 K s a ns σ H' → nx σ H') :
    t_law2_c2 K A ⟨nx, rt, bk, ct⟩ [some (.ref s), some (.ref a), v2, some (.ref w), some (.int g), some (.int lo), some (.int hi), some (.int st), some (.int (N : Int)), some (.int r), v10, v11, v12, v13, v14, v15, v16, v17, v18, v19, v20] H := by
  unfold t_law2_c2
  have n1 := F.n1
  have r1 := F.r1
  walk_at "w"
  refine r_lcG (r_call2 ?_)
  walk_at "w"
  refine ap_newRest RC hh F.rng F.r0 (by omega) fun p1 G1 H1 e1 is hh1 => ?_
  walk_at "w"
  refine rg2_I hh1 (fun es => ⟨w, wt, p1, ch, g, st, _, N, rfl, (F.iw.up e1).sup es, is.sup es, F.g1, F.g2, F.dst, by omega, rfl, rfl⟩) fun eG => ?_
  refine lcG_I (fun j => .val (.bl (wOn ⟨2, lo, hi, 0, [], r⟩ ch g st j))) hh1 eG (szl (by omega)) dd_tup (fun i x Hg h => h.1) (fun i x Hg H' LY LN hp eg hh' hY => ?_) fun D acc G2 H2 e2 hD hl hrow hh2 => ?_
  · obtain ⟨hi', q, rfl, fq⟩ := hp
    have fq := eg _ _ fq
    walk_at "w"
    exact hY _ _ rfl (Ex.refl _)
  · rw [rows_val hl hrow] at hD
    walk_at "w"
    exact k42_c1 (S := ⟨2, lo, hi, 0, [], r⟩) hh2 (F.hs.up (e1.trans e2)) d0 n1 rfl rfl hD kk
/-- the rows that the law keeps -/
def RowsAt (G : Hp) (rw : Addr) (P : Par) (N : Nat) : Prop := ∃ acc : List V, Lst G rw acc ∧ acc.length = N ∧ ∀ (j : Nat) y, acc[j]? = some y → RowAt (.tup [.int (dAt P j), .bl (oAt P j)]) y G
theorem RowsAt.up {G' : Hp} {P : Par} (h : RowsAt G rw P N) (e : Ex G G') : RowsAt G' rw P N := by
  obtain ⟨acc, h1, h2, h3⟩ := h
  exact ⟨acc, h1.up e, h2, fun j y hj => (h3 j y hj).up e⟩
theorem k42_c3 {p1 p2 : Addr} {len : Int} (RC : RestSettingC K A.cRestSetting) (hh : Hold G [dd a s d] H) (F : Fa42 K A G s w wt ns ch g lo hi st N r) (d0 : 0 ≤ d.p) (rows : RowsAt G rw ⟨ch, g, lo, hi, st, false⟩ N) (ho : Lst G ot [.ref p1, .ref p2])
    (l0 : 1 ≤ len) (s1 : IsSet K A G p1 ⟨1, lo, hi, len, [(0, lo, hi)], 0⟩) (s2 : IsSet K A G p2 ⟨2, lo, hi, 0, [], 0⟩) (kk : ∀ σ H', Inv42 K s a ns σ H' → nx σ H') :
    t_law2_c3 K A ⟨nx, rt, bk, ct⟩ [some (.ref s), some (.ref a), v2, some (.ref w), some (.int g), some (.int lo), some (.int hi), some (.int st), some (.int (N : Int)), some (.int r), v10, some (.ref rw), v12, v13, v14, v15, some (.ref ot), v17, v18, v19, v20] H := by
  unfold t_law2_c3
  have n1 := F.n1
  walk_at "w"
  refine forL_I (fun σ H' => ∃ (v17 : Option V) (G' : Hp), σ = [some (.ref s), some (.ref a), v2, some (.ref w), some (.int g), some (.int lo), some (.int hi), some (.int st), some (.int (N : Int)), some (.int r), v10, some (.ref rw), v12, v13, v14, v15, some (.ref ot), v17, v18, v19, v20] ∧ Ex G G' ∧ Hold G' [dd a s d] H') (fun σ H' ⟨_, G', _, e, hh'⟩ => (ho.up e).at_ hh'.ex) ⟨v17, G, rfl, Ex.refl _, hh⟩ ?_ ?_
  · rintro x σ H1 hx ⟨u17, G1, rfl, e1, hh1⟩
    obtain ⟨p3, S, rfl, is, L⟩ : ∃ (p3 : Addr) (S : SetD), x = V.ref p3 ∧ IsSet K A G p3 S ∧ Like S ⟨ch, g, lo, hi, st, false⟩ := by
      rcases List.mem_cons.mp hx with h | h
      · exact ⟨p1, _, h, s1, like_hour ⟨ch, g, lo, hi, st, false⟩ len (by omega)⟩
      · exact ⟨p2, _, List.mem_singleton.mp h, s2, like_rest ⟨ch, g, lo, hi, st, false⟩⟩
    walk_at "w"
    refine r_lcG (r_call2 ?_)
    walk_at "w"
    refine rg2_I hh1 (fun es => ⟨w, wt, p3, ch, g, st, S, N, rfl, (F.iw.up e1).sup es, (is.up e1).sup es, F.g1, F.g2, F.dst, by omega, rfl, rfl⟩) fun eG => ?_
    refine lcG_I (fun j => .tup [.int (dAt ⟨ch, g, lo, hi, st, false⟩ j), .bl (oAt ⟨ch, g, lo, hi, st, false⟩ j)]) hh1 eG (szl (by omega)) dd_tup (fun i x Hg h => h.1) (fun i x Hg H' LY LN hp eg hh' hY => ?_) fun D acc G2 H2 e2 hD hl hrow hh2 => ?_
    · obtain ⟨hi', q, rfl, fq⟩ := hp
      have fq := eg _ _ fq
      rw [show wWarm S ch g st i = dAt ⟨ch, g, lo, hi, st, false⟩ i from L.warm rfl i, show wOn S ch g st i = oAt ⟨ch, g, lo, hi, st, false⟩ i from L.on_ rfl i] at fq
      walk_at "w"
      exact hY _ _ ⟨q, rfl, fq⟩ (Ex.refl _)
    · obtain ⟨acc0, r1, r2, r3⟩ := rows.up (e1.trans e2)
      walk_at "w"
      refine neOps (SqL.of_ (hD.at_ hh2.ex)) (SqL.of_ (r1.at_ hh2.ex)) (rows_pair (k := 0) (us := fun j => [.int (dAt ⟨ch, g, lo, hi, st, false⟩ j), .bl (oAt ⟨ch, g, lo, hi, st, false⟩ j)]) (fun j => ?_) (by omega) (fun j y hj => by rw [Nat.zero_add]; exact (hrow j y hj).up hh2.ex) (fun j y hj => by rw [Nat.zero_add]; exact (r3 j y hj).up hh2.ex)) ?_
      · simp [plainV, flatV, eqV]
      walk_at "w"
      exact ⟨_, G2, rfl, e1.trans e2, hh2⟩
  · rintro σ H1 ⟨u17, G1, rfl, e1, hh1⟩
    exact k42_c2 RC hh1 (F.up e1) d0 kk
theorem k42_c4 (HC : HourSettingC K A.cHourSetting) (RC : RestSettingC K A.cRestSetting) (hh : Hold G [dd a s d] H) (F : Fa42 K A G s w wt ns ch g lo hi st N r) (d0 : 0 ≤ d.p) (rows : RowsAt G rw ⟨ch, g, lo, hi, st, false⟩ N) (kk : ∀ σ H', Inv42 K s a ns σ H' → nx σ H') :
    t_law2_c4 K A ⟨nx, rt, bk, ct⟩ [some (.ref s), some (.ref a), v2, some (.ref w), some (.int g), some (.int lo), some (.int hi), some (.int st), some (.int (N : Int)), some (.int r), v10, some (.ref rw), v12, v13, v14, v15, v16, v17, v18, v19, v20] H := by
  unfold t_law2_c4
  walk_at "w"
  refine ap_drawn hh F.hs d0 (by decide) (by decide) fun l d1 H1 l0 l1 d10 hh1 => ?_
  walk_at "w"
  rename_i q2 G2 H2 e2 hq2 hh2
  refine ap_newHour HC hh2 F.rng (by omega) (by omega) hq2 fun p3 G3 H3 e3 s3 hh3 => ?_
  walk_at "w"
  refine ap_newRest RC hh3 F.rng (by decide) (by decide) fun p4 G4 H4 e4 s4 hh4 => ?_
  walk_at "w"
  walk_at "wl"
  rename_i q5 G5 H5 e5 hq5 hh5
  walk_at "w"
  have E := e2.trans (e3.trans (e4.trans e5))
  exact k42_c3 RC hh5 (F.up E) d10 (rows.up E) hq5 (by omega) (s3.up (e4.trans e5)) (s4.up e5) kk
theorem k42_c5 (SC : SettingC K A.cSetting) (HC : HourSettingC K A.cHourSetting) (RC : RestSettingC K A.cRestSetting) (hh : Hold G [dd a s d] H) (F : Fa42 K A G s w wt ns ch g lo hi st N r) (d0 : 0 ≤ d.p) (ir : IsRoom K A G p R) (hP : R.P = ⟨ch, g, lo, hi, st, false⟩) (rows : RowsAt G rw ⟨ch, g, lo, hi, st, false⟩ N) (kk : ∀ σ H', Inv42 K s a ns σ H' → nx σ H') :
    t_law2_c5 K A ⟨nx, rt, bk, ct⟩ [some (.ref s), some (.ref a), v2, some (.ref w), some (.int g), some (.int lo), some (.int hi), some (.int st), some (.int (N : Int)), some (.int r), some (.ref p), some (.ref rw), v12, v13, v14, v15, v16, v17, v18, v19, v20] H := by
  unfold t_law2_c5
  have n1 := F.n1
  walk_at "w"
  refine ap_newSet SC hh F.rng fun p1 G1 H1 e1 is hh1 => ?_
  walk_at "w"
  refine ⟨w, wt, p1, ch, g, st, _, N, G1, _, rfl, hh1, F.iw.up e1, is, F.g1, F.g2, F.dst, by omega, fun q2 G2 H2 e2 hq2 hh2 => ?_⟩
  obtain ⟨t1, t2, _⟩ := (like_plain ⟨ch, g, lo, hi, st, false⟩).tot rfl N
  rw [show (wTot ⟨0, lo, hi, 0, [], 0⟩ ch g st N).1 = _ from t1, show (wTot ⟨0, lo, hi, 0, [], 0⟩ ch g st N).2.1 = _ from t2] at hq2
  walk_at "w"
  refine slT_N hh2 hq2 fun q3 G3 H3 e3 hq3 hh3 => ?_
  have ir3 := ir.up (e1.trans (e2.trans e3))
  walk_at "w"
  rename_i q6 G6 H6 e6 hq6 hh6
  rw [hP] at hq6
  have hq3 : Tup G3 q3 (([hAt ⟨ch, g, lo, hi, st, false⟩ N, swAt ⟨ch, g, lo, hi, st, false⟩ N] : List Int).map V.int) := hq3
  refine neT (SqT.of_ ((hq3.up e6).at_ hh6.ex)) (ys := [hAt ⟨ch, g, lo, hi, st, false⟩ N, swAt ⟨ch, g, lo, hi, st, false⟩ N]) (SqT.of_ (hq6.at_ hh6.ex)) ?_
  rw [decide_eq_true rfl]
  walk_at "w"
  have E := e1.trans (e2.trans (e3.trans e6))
  exact k42_c4 HC RC hh6 (F.up E) d0 (rows.up E) kk
theorem rngI_map {f : Nat → V} : (rngI N).map (fun z => f z.toNat) = (List.range N).map f := by
  unfold rngI
  rw [List.map_map]
  rfl
theorem r_meth2 {C : Addr} {m : Str} {sp : SpG2} {ta : TE} {t : TA} {σ : L2.St} {H : Hp} {cont : Hp → (Nat → V → Hp → Prop) → Nat → Hp → Prop} (k : ta σ H fun x H1 => ∃ a dx fs, x = .ref a ∧ H1 a = some (.ins C dx fs) ∧ fs.lookup m = none ∧
  t σ H1 fun vs H2 => rG2 sp (x :: (vs ++ [])) H2 cont) : tMeth2 C m sp [] ta t σ H cont := k
theorem k42_c6 (SC : SettingC K A.cSetting) (HC : HourSettingC K A.cHourSetting) (RC : RestSettingC K A.cRestSetting) (hh : Hold G [dd a s d] H) (F : Fa42 K A G s w wt ns ch g lo hi st N r) (d0 : 0 ≤ d.p) (ir : IsRoom K A G p R) (hP : R.P = ⟨ch, g, lo, hi, st, false⟩) (rows : RowsAt G rw ⟨ch, g, lo, hi, st, false⟩ N) (kk : ∀ σ H', Inv42 K s a ns σ H' → nx σ H') :
    t_law2_c6 K A ⟨nx, rt, bk, ct⟩ [some (.ref s), some (.ref a), v2, some (.ref w), some (.int g), some (.int lo), some (.int hi), some (.int st), some (.int (N : Int)), some (.int r), some (.ref p), some (.ref rw), v12, v13, v14, v15, v16, v17, v18, v19, v20] H := by
  unfold t_law2_c6
  have n1 := F.n1
  have n0 := F.n0
  generalize hQ : (⟨ch, g, lo, hi, st, false⟩ : Par) = P at *
  obtain ⟨acc0, r1, r2, r3⟩ := id rows
  have hl0 : (List.range N).map (fun j => acc0.getD j V.non) = acc0 := by
    refine List.ext_getElem? fun j => ?_
    rw [List.getElem?_map]
    by_cases hj : j < N
    · rw [List.getElem?_range hj, List.getElem?_eq_getElem (by omega)]
      show some (acc0.getD j V.non) = _
      rw [List.getD_eq_getElem?_getD, List.getElem?_eq_getElem (by omega)]
      rfl
    · rw [List.getElem?_eq_none (by rw [List.length_range]; omega), List.getElem?_eq_none (by omega)]
      rfl
  have at0 : ∀ {G' : Hp} {j : Nat}, Ex G G' → j < N → ∃ q, acc0.getD j V.non = .ref q ∧ G' q = some (.tup [.int (dAt P j), .bl (oAt P j)]) := fun {G' j} e hj => by
    have h := (r3 j _ (List.getElem?_eq_getElem (by omega))).up e
    rw [List.getD_eq_getElem?_getD, List.getElem?_eq_getElem (by omega)]
    exact h
  have r1' : Lst G rw ((List.range N).map fun j => acc0.getD j V.non) := by rw [hl0]; exact r1
  walk_at "w"
  refine lcL_fil (List.range N) (fun j => acc0.getD j V.non) (fun _ => true) (fun j : Nat => V.int (dAt P j)) hh (by rw [List.length_range]; omega) r1' (fun j hj D acc G3 H3 LY LN ex3 hh3 hY hN => ?_) fun D1 G1 H1 e1 hD1 hh1 => ?_
  · have hj := List.mem_range.mp hj
    obtain ⟨q, e, hq⟩ := at0 (ex3.trans hh3.ex) hj
    show gName 12 (acc0.getD j V.non) _ H3 _
    rw [e]
    walk_at "w"
    exact hY _ _ _ rfl rfl (Ex.refl _) hh3
  rw [flt_all] at hD1
  walk_at "w"
  refine r_lcG (r_meth2 ?_)
  walk_at "w"
  obtain ⟨dx, vr, vs, vc, vw, o1, o2, hob, _⟩ := (ir.up (e1.trans hh1.ex)).ob
  refine ⟨p, dx, _, rfl, hob, rfl, ?_⟩
  walk_at "w"
  refine rg2_I hh1 (fun es => ⟨p, R, 0, (N : Int) - 1, rfl, (ir.up e1).sup es, by decide, by omega, by omega, by omega, rfl, rfl⟩) fun eG => ?_
  rw [show ((N : Int) - 1 - 0 + 1).toNat = N by omega, hP]
  refine lcG_I (fun j => .val (.int (dAt P j))) hh1 eG (szl (by omega)) dd_tup (fun i x Hg h => by have := h.1; omega) (fun i x Hg H' LY LN hp eg hh' hY => ?_) fun D2 acc G2 H2 e2 hD2 hl2 hrow hh2 => ?_
  · obtain ⟨hi', rfl⟩ := hp
    walk_at "w"
    exact hY _ _ (by show V.int (dAt P (0 + (i : Int))) = _; rw [Int.zero_add]) (Ex.refl _)
  rw [rows_val hl2 hrow, rngI_map (f := fun j => V.int (dAt P (j : Int)))] at hD2
  have el : (List.range N).map (fun j : Nat => V.int (dAt P j)) = ((List.range N).map fun j : Nat => dAt P j).map V.int := by rw [List.map_map]; rfl
  rw [el] at hD1 hD2
  refine ne_ints (SqL.of_ ((hD1.up e2).at_ hh2.ex)) (SqL.of_ (hD2.at_ hh2.ex)) ?_
  walk_at "w"
  refine lcL_fil (List.range N) (fun j => acc0.getD j V.non) (fun _ => true) (fun j : Nat => V.bl (oAt P j)) hh2 (by rw [List.length_range]; omega) (r1'.up (e1.trans e2)) (fun j hj D acc G3 H3 LY LN ex3 hh3 hY hN => ?_) fun D3 G3 H3 e3 hD3 hh3 => ?_
  · have hj := List.mem_range.mp hj
    obtain ⟨q, e, hq⟩ := at0 (e1.trans (e2.trans (ex3.trans hh3.ex))) hj
    show gName 12 (acc0.getD j V.non) _ H3 _
    rw [e]
    walk_at "w"
    exact hY _ _ _ rfl rfl (Ex.refl _) hh3
  rw [flt_all] at hD3
  have E3 := e1.trans (e2.trans e3)
  walk_at "w"
  refine lcR1_fil (n := (N : Int)) (fun _ => true) (fun z => V.bl (oAt P z)) hh3 (by omega) (by omega) (fun z z0 z1 D acc G4 H4 LY LN ex4 hh4 hY hN => ?_) fun D4 G4 H4 e4 hD4 hh4 => ?_
  · walk_at "w"
    rw [hP]
    exact hY _ _ _ rfl rfl (Ex.refl _) (by assumption)
  rw [flt_all, Int.toNat_natCast] at hD4
  have eb : (rngI N).map (fun z => V.bl (oAt P z)) = ((List.range N).map fun j : Nat => oAt P j).map V.bl := by
    unfold rngI
    rw [List.map_map, List.map_map]
    rfl
  have eb3 : (List.range N).map (fun j : Nat => V.bl (oAt P j)) = ((List.range N).map fun j : Nat => oAt P j).map V.bl := by rw [List.map_map]; rfl
  rw [eb] at hD4
  rw [eb3] at hD3
  refine ne_bls (SqL.of_ ((hD3.up e4).at_ hh4.ex)) (SqL.of_ (hD4.at_ hh4.ex)) ?_
  walk_at "w"
  have E := E3.trans e4
  subst hQ
  exact k42_c5 SC HC RC hh4 (F.up E) d0 (ir.up E) hP (rows.up E) kk
theorem k42_c7 (T : RoomCs K A) (SC : SettingC K A.cSetting) (HC : HourSettingC K A.cHourSetting) (RC : RestSettingC K A.cRestSetting) (hh : Hold G [dd a s d] H) (F : Fa42 K A G s w wt ns ch g lo hi st N r) (d0 : 0 ≤ d.p) (hok : HtOk g lo hi) (kk : ∀ σ H', Inv42 K s a ns σ H' → nx σ H') :
    t_law2_c7 K A ⟨nx, rt, bk, ct⟩ [some (.ref s), some (.ref a), v2, some (.ref w), some (.int g), some (.int lo), some (.int hi), some (.int st), some (.int (N : Int)), some (.int r), v10, v11, v12, v13, v14, v15, v16, v17, v18, v19, v20] H := by
  unfold t_law2_c7
  have n1 := F.n1
  walk_at "w"
  refine ap_newHeater T hh hok fun q1 G1 H1 e1 ih hh1 => ?_
  walk_at "w"
  refine ap_newRoom0 T hh1 (F.iw.up e1) ih F.dst.1 F.dst.2 fun p R G2 H2 e2 ir hP hh2 => ?_
  walk_at "w"
  refine r_lcG (r_call2 ?_)
  walk_at "w"
  refine ap_newSet SC hh2 F.rng fun p3 G3 H3 e3 is hh3 => ?_
  have E3 := e1.trans (e2.trans e3)
  walk_at "w"
  refine rg2_I hh3 (fun es => ⟨w, wt, p3, ch, g, st, _, N, rfl, (F.iw.up E3).sup es, is.sup es, F.g1, F.g2, F.dst, by omega, rfl, rfl⟩) fun eG => ?_
  have L := like_plain ⟨ch, g, lo, hi, st, false⟩
  refine lcG_I (fun j => .tup [.int (dAt ⟨ch, g, lo, hi, st, false⟩ j), .bl (oAt ⟨ch, g, lo, hi, st, false⟩ j)]) hh3 eG (szl (by omega)) dd_tup (fun i x Hg h => h.1) (fun i x Hg H' LY LN hp eg hh' hY => ?_) fun D acc G4 H4 e4 hD hl hrow hh4 => ?_
  · obtain ⟨hi', q, rfl, fq⟩ := hp
    have fq := eg _ _ fq
    rw [show wWarm ⟨0, lo, hi, 0, [], 0⟩ ch g st i = dAt ⟨ch, g, lo, hi, st, false⟩ i from L.warm rfl i, show wOn ⟨0, lo, hi, 0, [], 0⟩ ch g st i = oAt ⟨ch, g, lo, hi, st, false⟩ i from L.on_ rfl i] at fq
    walk_at "w"
    exact hY _ _ ⟨q, rfl, fq⟩ (Ex.refl _)
  · walk_at "w"
    have E := E3.trans e4
    exact k42_c6 SC HC RC hh4 (F.up E) d0 (ir.up (e3.trans e4)) hP ⟨acc, hD, hl, hrow⟩ kk
end
theorem two_lim {n x y : Int} (n0 : 0 ≤ n) (n1 : n < 2) : ∃ hi : Int, ([x, y] : List Int)[n.toNat]? = some hi ∧ (hi = x ∨ hi = y) := by
  have : n = 0 ∨ n = 1 := by omega
  rcases this with rfl | rfl
  · exact ⟨x, rfl, .inl rfl⟩
  · exact ⟨y, rfl, .inr rfl⟩
theorem pure_law (vs : List V) (H : Hp) (Q : VK) (E : XK) (h : sp_law K A vs H Q E) : t_law K A { nx := fun _ H' => Q .non H', rt := Q } (start ["_law_script", "_law_state", "_law_turn", "_law_sky", "_law_gain", "_law_low", "_law_high", "_law_start_here", "_law_count", "_law_pause", "_law_room", "_law_rows", "_law_row", "_law_warmth", "_law_tick", "_law_told", "_law_others", "_law_other", "_law_calm", "_law_ticks", "_law_k"] vs) H := by
  obtain ⟨s, ns, rfl, ⟨⟨⟨T, SC⟩, HC⟩, RC⟩, hs, h63, k⟩ := h
  have hh := Hold.start H
  show t_law K A _ [some (.ref s), none, none, none, none, none, none, none, none, none, none, none, none, none, none, none, none, none, none, none, none] H
  unfold t_law
  walk_at "w"
  refine ⟨s, ns, H, [], rfl, hh, hs, fun a d H1 d0 hh1 => ?_⟩
  walk_at "w"
  refine forR1_I (by decide) (by decide) (Inv42 K s a ns) ⟨_, _, _, _, _, _, _, _, _, _, _, _, _, _, _, _, _, _, _, d, H, rfl, d0, hs, hh1⟩ ?_ ?_
  · rintro i0 σ H2 i00 _ ⟨v2, v3, v4, v5, v6, v7, v8, v9, v10, v11, v12, v13, v14, v15, v16, v17, v18, v19, v20, d, G, rfl, d0, hs, hh2⟩
    walk_at "w"
    refine ⟨a, s, d, 5, ns, G, [], rfl, hh2, hs, d0, by decide, by decide, fun l ch d3 G3 H3 ex3 hl wok hcl d30 hh3 => ?_⟩
    walk_at "w"
    refine ⟨l, ch, G3, _, rfl, T.w, hh3, hl, wok, by omega, fun w wt G4 H4 ex4 iw hh4 => ?_⟩
    have hs4 := hs.up (ex3.trans ex4)
    clear hs
    walk_at "w"
    walk_at "wl"
    rename_i p5 G5 H5 ex5 hp5 hh5
    walk_at "w"
    refine ap_drawn hh5 (hs4.up ex5) d30 (by decide) (by decide) fun n6 d6 H6 n60 n61 d60 hh6 => ?_
    obtain ⟨m6, hx6, hm6⟩ := two_lim (x := 9) (y := 200) n60 n61
    refine rix_l hh6 (SqL.of_ (xs := ([9, 200] : List Int).map V.int) hp5) (atI_of n60 (ints_at hx6)) ?_
    walk_at "w"
    refine ap_drawn hh6 (hs4.up ex5) d60 (by omega) (by omega) fun gn d7 H7 n70 n71 d70 hh7 => ?_
    walk_at "w"
    walk_at "wl"
    rename_i p8 G8 H8 ex8 hp8 hh8
    have hs8 := hs4.up (ex5.trans ex8)
    walk_at "w"
    refine ap_drawn hh8 hs8 d70 (by decide) (by decide) fun n9 d9 H9 n90 n91 d90 hh9 => ?_
    obtain ⟨m9, hx9, hm9⟩ := two_lim (x := 30) (y := 10 ^ 11) n90 n91
    refine rix_l hh9 (SqL.of_ (xs := ([30, 10 ^ 11] : List Int).map V.int) hp8) (atI_of n90 (ints_at hx9)) ?_
    walk_at "w"
    refine ap_drawn hh9 hs8 d90 (by omega) (by omega) fun lo d10 H10 lo0 lo1 d100 hh10 => ?_
    walk_at "w"
    refine ap_drawn hh10 hs8 d100 (by decide) (by decide) fun up d11 H11 up0 up1 d110 hh11 => ?_
    walk_at "w"
    refine ap_drawn hh11 hs8 d110 (by decide) (by decide) fun st d12 H12 st0 st1 d120 hh12 => ?_
    walk_at "w"
    refine ap_drawn hh12 hs8 d120 (by decide) (by decide) fun cn d13 H13 cn0 cn1 d130 hh13 => ?_
    walk_at "w"
    refine ap_drawn hh13 hs8 d130 (by decide) (by decide) fun ps d14 H14 ps0 ps1 d140 hh14 => ?_
    walk_at "w"
    rename_i q15 G15 H15 ex15 tp15 hh15
    have iw15 := iw.up (ex5.trans (ex8.trans ex15))
    have hs15 := hs8.up ex15
    obtain ⟨N, hN⟩ := Int.eq_ofNat_of_zero_le (show 0 ≤ 1 + cn by omega)
    rw [hN]
    exact k42_c7 T SC HC RC hh15 ⟨hs15, iw15, by omega, by omega, by unfold RngOk; omega, by unfold DegOk; omega, by omega, by omega, ps0, by omega⟩ d140 (by unfold HtOk; omega) fun σ H' h => h
  · rintro σ H2 ⟨v2, v3, v4, v5, v6, v7, v8, v9, v10, v11, v12, v13, v14, v15, v16, v17, v18, v19, v20, d, G, rfl, d0, hs, hh2⟩
    walk_at "w"
    exact k H2
end
end Wm
end

section
namespace Wm
open PySem PySem.Spec PyProof.Rows L2 StX

def top (i : Nat) : Stmt := PySem.Challenge.pw_warmswitch_k42_whole_plain_settings_and.main.body.getD i (.Pass ⟨0, 0, 0, 0⟩)
section
variable {K : PySem.W.Frag} {mg : Str → Option Value} {base : Heap} {CX : CXT} {A : Ads}
abbrev s__law_start : Stmt := top 34
theorem sc__law_start : FnScope ["_law_script", "_law_mixed", "_law_cell"] ["_law_script"] (defScope s__law_start) := ⟨rfl, rfl, rfl, by decide +kernel, rfl, by decide +kernel, by decide +kernel⟩
theorem len_law2_start {vs : List V} {H : Hp} {Q : VK} {E : XK} (h : sp_law2_start K A vs H Q E) : vs.length = 1 := by
  unfold sp_law2_start at h
  repeat (first | (obtain ⟨rfl, _⟩ := h; rfl) | obtain ⟨_, h⟩ := h)
theorem ok_law2_start {f : Addr} {fd : FuncData} (F : FunD K "_law_start" "_law_start" (defArgs s__law_start) (defBody s__law_start) (defScope s__law_start) [] [] f fd) (hcx : NoE CX) (b : Blt mg)  : FnOk A.P A.w K mg base CX 1 f fd ["_law_script"] (sp_law2_start K A) := by
  refine okD F sc__law_start (fun vs H Q E h => len_law2_start h) (fun cdv A' outer s H vs Q E hr h => ⟨t_law2_start K A, ?_, pure_law2_start vs H Q E h⟩)
  exact pss_cons (ps_set (i := 1) sc__law_start.nd rfl (by first | exact Or.inl rfl | exact Or.inr rfl) (pe_int)) (pss_cons (ps_for PassesOwn.never rfl (pi_list (pv 0)) (pg_name (i := 2) sc__law_start.nd rfl (by first | exact Or.inl rfl | exact Or.inr rfl)) (pss_one (ps_set (i := 1) sc__law_start.nd rfl (by first | exact Or.inl rfl | exact Or.inr rfl) (pe_op op_mod (pe_op op_add (pe_op op_add (pe_op op_mul (pv 1) (pe_int)) (pv 2)) (pe_int)) (pe_int))))) (pss_one (ps_ret (pe_lst (pa_cons (pv 0) (pa_cons (pe_int) (pa_cons (pv 1) (pa_cons (pe_int) (pa_nil)))))))))
abbrev s_Weather___init__ : Stmt := inClass (top 14) 2
theorem sc_Weather___init__ : FnScope ["self", "changes", "index", "change"] ((["self"] : List Str) ++ (["changes"] : List Str)) (defScope s_Weather___init__) := ⟨rfl, rfl, rfl, by decide +kernel, rfl, by decide +kernel, by decide +kernel⟩
theorem ok_Weather_init {f : Addr} {fd : FuncData} (F : FunD K "__init__" "Weather.__init__" (defArgs s_Weather___init__) (defBody s_Weather___init__) (defScope s_Weather___init__) [] [] f fd) (hcx : NoE CX) (b : Blt mg) (a_Weather : ∃ u, mg "Weather" = some u ∧ RelV (.ref A.cWeather) u) (cv_Weather_MAX_TICKS : CVC K A.cWeather "MAX_TICKS" (.int 24)) (cv_Weather_MAX_CHANGE : CVC K A.cWeather "MAX_CHANGE" (.int 100)) (hup : StX.CXUp CX) : FnR A.P A.w K mg base CX 1 f (sp_Weather_init K A) := by
  refine okStar (p1 := "self") (pv := "changes") (sp := sp_Weather_body K A) F sc_Weather___init__ hup (fun kV doc pm an cdv ct => StX.bind_star1 (B := fun l => bindArgs (PySem.W.fnOf "__init__" "Weather.__init__" (defArgs s_Weather___init__) (defBody s_Weather___init__) (defScope s_Weather___init__) .none kV doc pm an cdv ct) ⟨l, []⟩) (fun a => rfl) (fun a r rs => rfl)) (fun cdv A' outer s H vs Q E hr h => ⟨t_Weather_init K A, ?_, pure_Weather_init vs H Q E h⟩)
  exact pss_cons (ps_if (pt_cmpR (op_eqD hr.units) (pv 1) (pe_tup (pa_nil)) (nomark _)) (pss_one (ps_never)) (pss_nil)) (pss_cons (ps_for PassesOwn.never rfl (pi_enumT (by rfl) b.n_enumerate (pa_cons (pv 1) (pa_nil))) (pg_tup rfl (pgs_cons (pg_name (i := 2) sc_Weather___init__.nd rfl (by first | exact Or.inl rfl | exact Or.inr rfl)) (pgs_cons (pg_name (i := 3) sc_Weather___init__.nd rfl (by first | exact Or.inl rfl | exact Or.inr rfl)) (pgs_nil)))) (pss_one (ps_if (PW.pt (pw_or (pt_cmpR op_eq (pv 2) ((pe_cvC ((C8.pe_gc (by rfl) a_Weather)) cv_Weather_MAX_TICKS)) (nomark _)) (pw_or1 (pt_not (pt_chain op_le op_le (pe_op op_sub (pe_int) ((pe_cvC ((C8.pe_gc (by rfl) a_Weather)) cv_Weather_MAX_CHANGE))) (pv 3) ((pe_cvC ((C8.pe_gc (by rfl) a_Weather)) cv_Weather_MAX_CHANGE))))))) (pss_one (ps_never)) (pss_nil)))) (pss_one (ps_fld (pv 0) (pv 1) rfl)))
abbrev s_common_divisor : Stmt := top 13
theorem sc_common_divisor : FnScope ["one", "other"] ["one", "other"] (defScope s_common_divisor) := ⟨rfl, rfl, rfl, by decide +kernel, rfl, by decide +kernel, by decide +kernel⟩
theorem len_common_divisor {vs : List V} {H : Hp} {Q : VK} {E : XK} (h : sp_common_divisor K A vs H Q E) : vs.length = 2 := by
  unfold sp_common_divisor at h
  repeat (first | (obtain ⟨rfl, _⟩ := h; rfl) | obtain ⟨_, h⟩ := h)
theorem ok_common_divisor {f : Addr} {fd : FuncData} (F : FunD K "common_divisor" "common_divisor" (defArgs s_common_divisor) (defBody s_common_divisor) (defScope s_common_divisor) [] [] f fd) (hcx : NoE CX) (b : Blt mg)  : FnOk A.P A.w K mg base CX 1 f fd ["one", "other"] (sp_common_divisor K A) := by
  refine okD F sc_common_divisor (fun vs H Q E h => len_common_divisor h) (fun cdv A' outer s H vs Q E hr h => ⟨t_common_divisor K A, ?_, pure_common_divisor vs H Q E h⟩)
  exact pss_cons (ps_while PassesOwn.never (pt_cmpR op_ne (pv 1) (pe_int) (nomark _)) (pss_one (ps_par (i := 0) (j := 1) rfl sc_common_divisor.nd rfl rfl (by decide) rfl rfl (pa_cons (pv 1) (pa_cons (pe_op op_mod ((pe_callTy call_int1 (by rfl) b.n_int (by decide +kernel) (pa_cons (pv 0) (pa_nil)))) ((pe_callTy call_int1 (by rfl) b.n_int (by decide +kernel) (pa_cons (pv 1) (pa_nil))))) (pa_nil))) (by rfl)))) (pss_one (ps_ret (pv 0)))
abbrev s_Weather___add__ : Stmt := inClass (top 14) 9
theorem sc_Weather___add__ : FnScope ["self", "other", "one", "two", "size", "both", "tick"] ["self", "other"] (defScope s_Weather___add__) := ⟨rfl, rfl, rfl, by decide +kernel, rfl, by decide +kernel, by decide +kernel⟩
theorem len_Weather___add {vs : List V} {H : Hp} {Q : VK} {E : XK} (h : sp_Weather___add K A vs H Q E) : vs.length = 2 := by
  unfold sp_Weather___add at h
  repeat (first | (obtain ⟨rfl, _⟩ := h; rfl) | obtain ⟨_, h⟩ := h)
theorem ok_Weather___add {f : Addr} {fd : FuncData} (F : FunD K "__add__" "Weather.__add__" (defArgs s_Weather___add__) (defBody s_Weather___add__) (defScope s_Weather___add__) [] [] f fd) (hcx : NoE CX) (b : Blt mg) (c_common_divisor : CalR A.P A.w K mg base CX 1 "common_divisor" (sp_common_divisor K A)) (n_Weather : MakR A.P A.w K mg base CX 1 "Weather" A.cWeather (sp_Weather_init K A)) : FnOk A.P A.w K mg base CX 3 f fd ["self", "other"] (sp_Weather___add K A) := by
  refine okD F sc_Weather___add__ (fun vs H Q E h => len_Weather___add h) (fun cdv A' outer s H vs Q E hr h => ⟨t_Weather___add K A, ?_, pure_Weather___add vs H Q E h⟩)
  exact pss_cons (ps_asg (pe_tup (pa_cons (pe_fld (pv 0) rfl) (pa_cons (pe_fld (pv 1) rfl) (pa_nil)))) (pg_tup rfl (pgs_cons (pg_name (i := 2) sc_Weather___add__.nd rfl (by first | exact Or.inl rfl | exact Or.inr rfl)) (pgs_cons (pg_name (i := 3) sc_Weather___add__.nd rfl (by first | exact Or.inl rfl | exact Or.inr rfl)) (pgs_nil))))) (pss_cons (ps_set (i := 4) sc_Weather___add__.nd rfl (by first | exact Or.inl rfl | exact Or.inr rfl) (pe_op op_mul (pe_op op_fdivW ((pe_callB call_len (by rfl) b.n_len boot_len (pa_cons (pv 2) (pa_nil)))) ((pe_cR c_common_divisor hr (by decide) (hcx _) (by rfl) (pa_cons ((pe_callB call_len (by rfl) b.n_len boot_len (pa_cons (pv 2) (pa_nil)))) (pa_cons ((pe_callB call_len (by rfl) b.n_len boot_len (pa_cons (pv 3) (pa_nil)))) (pa_nil)))))) ((pe_callB call_len (by rfl) b.n_len boot_len (pa_cons (pv 3) (pa_nil)))))) (pss_cons (ps_setLc (i := 5) rfl sc_Weather___add__.nd rfl rfl (sw_true rfl rfl rfl (by decide +kernel)) (own := [("tick", 6)]) (g := gName 6) (tt := tYes) (te := tOp (rI0 fun i j => .int (i + j)) (tOp (rIx K) (tVar 2) (tOp (rI (fun _ j => 0 < j) fun i j => .int (i % j)) (tCB rInt (tCons (tVar 6) (tNil))) (tCB (rLen K) (tCons (tVar 2) (tNil))))) (tOp (rIx K) (tVar 3) (tOp (rI (fun _ j => 0 < j) fun i j => .int (i % j)) (tCB rInt (tCons (tVar 6) (tNil))) (tCB (rLen K) (tCons (tVar 3) (tNil)))))) (pi_range1 (by rfl) b.n_range (pa_cons (pv 4) (pa_nil))) (blkOk_by (N := ["self", "other", "one", "two", "size", "both", "tick"]) (sc := defScope s_Weather___add__) (by decide +kernel)) (fun _ _ _ _ _ => pg_name (i := 6) sc_Weather___add__.nd rfl (by first | exact Or.inl rfl | exact Or.inr rfl)) (fun _ _ _ _ _ => pts_nil) (fun _ _ _ _ _ => pe_op op_add (pe_ix ix_seq (pv 2) (pe_op op_mod ((pe_callTy call_int1 (by rfl) b.n_int (by decide +kernel) (pa_cons (pv 6) (pa_nil)))) ((pe_callB call_len (by rfl) b.n_len boot_len (pa_cons (pv 2) (pa_nil))))) (fun _ _ => rfl)) (pe_ix ix_seq (pv 3) (pe_op op_mod ((pe_callTy call_int1 (by rfl) b.n_int (by decide +kernel) (pa_cons (pv 6) (pa_nil)))) ((pe_callB call_len (by rfl) b.n_len boot_len (pa_cons (pv 3) (pa_nil))))) (fun _ _ => rfl)))) (pss_one (ps_ret ((pe_mkSR n_Weather hr (by decide) (hcx _) (by rfl) (pv 5)))))))
abbrev s_Weather___mul__ : Stmt := inClass (top 14) 12
theorem sc_Weather___mul__ : FnScope ["self", "times", "multiplied", "change"] ["self", "times"] (defScope s_Weather___mul__) := ⟨rfl, rfl, rfl, by decide +kernel, rfl, by decide +kernel, by decide +kernel⟩
theorem len_Weather___mul {vs : List V} {H : Hp} {Q : VK} {E : XK} (h : sp_Weather___mul K A vs H Q E) : vs.length = 2 := by
  unfold sp_Weather___mul at h
  repeat (first | (obtain ⟨rfl, _⟩ := h; rfl) | obtain ⟨_, h⟩ := h)
theorem ok_Weather___mul {f : Addr} {fd : FuncData} (F : FunD K "__mul__" "Weather.__mul__" (defArgs s_Weather___mul__) (defBody s_Weather___mul__) (defScope s_Weather___mul__) [] [] f fd) (hcx : NoE CX) (b : Blt mg) (n_Weather : MakR A.P A.w K mg base CX 1 "Weather" A.cWeather (sp_Weather_init K A)) : FnOk A.P A.w K mg base CX 3 f fd ["self", "times"] (sp_Weather___mul K A) := by
  refine okD F sc_Weather___mul__ (fun vs H Q E h => len_Weather___mul h) (fun cdv A' outer s H vs Q E hr h => ⟨t_Weather___mul K A, ?_, pure_Weather___mul vs H Q E h⟩)
  exact pss_cons (ps_setLc (i := 2) rfl sc_Weather___mul__.nd rfl rfl (sw_true rfl rfl rfl (by decide +kernel)) (own := [("change", 3)]) (g := gName 3) (tt := tYes) (te := tOp (rI CMul fun i j => .int (i * j)) (tVar 3) (tVar 1)) (pi_tup (pe_fld (pv 0) rfl)) (blkOk_by (N := ["self", "times", "multiplied", "change"]) (sc := defScope s_Weather___mul__) (by decide +kernel)) (fun _ _ _ _ _ => pg_name (i := 3) sc_Weather___mul__.nd rfl (by first | exact Or.inl rfl | exact Or.inr rfl)) (fun _ _ _ _ _ => pts_nil) (fun _ _ _ _ _ => pe_op op_mul (pv 3) (pv 1))) (pss_one (ps_ret ((pe_mkSR n_Weather hr (by decide) (hcx _) (by rfl) (pv 2)))))
abbrev s__law_single : Stmt := top 39
theorem sc__law_single : FnScope ["_law_size", "_law_at", "_law_parts", "_law_k"] ["_law_size", "_law_at"] (defScope s__law_single) := ⟨rfl, rfl, rfl, by decide +kernel, rfl, by decide +kernel, by decide +kernel⟩
theorem len_law2_single {vs : List V} {H : Hp} {Q : VK} {E : XK} (h : sp_law2_single K A vs H Q E) : vs.length = 2 := by
  unfold sp_law2_single at h
  repeat (first | (obtain ⟨rfl, _⟩ := h; rfl) | obtain ⟨_, h⟩ := h)
theorem ok_law2_single {f : Addr} {fd : FuncData} (F : FunD K "_law_single" "_law_single" (defArgs s__law_single) (defBody s__law_single) (defScope s__law_single) [] [] f fd) (hcx : NoE CX) (b : Blt mg) (n_Weather : MakR A.P A.w K mg base CX 1 "Weather" A.cWeather (sp_Weather_init K A)) : FnOk A.P A.w K mg base CX 3 f fd ["_law_size", "_law_at"] (sp_law2_single K A) := by
  refine okD F sc__law_single (fun vs H Q E h => len_law2_single h) (fun cdv A' outer s H vs Q E hr h => ⟨t_law2_single K A, ?_, pure_law2_single vs H Q E h⟩)
  exact pss_cons (ps_setLc (i := 2) rfl sc__law_single.nd rfl rfl (sw_true rfl rfl rfl (by decide +kernel)) (own := [("_law_k", 3)]) (g := gName 3) (tt := tYes) (te := tCB rInt (tCons (tOp rEq (tVar 3) (tVar 1)) (tNil))) (pi_range1 (by rfl) b.n_range (pa_cons (pv 0) (pa_nil))) (blkOk_by (N := ["_law_size", "_law_at", "_law_parts", "_law_k"]) (sc := defScope s__law_single) (by decide +kernel)) (fun _ _ _ _ _ => pg_name (i := 3) sc__law_single.nd rfl (by first | exact Or.inl rfl | exact Or.inr rfl)) (fun _ _ _ _ _ => pts_nil) (fun _ _ _ _ _ => (pe_callTy call_int1 (by rfl) b.n_int (by decide +kernel) (pa_cons (pe_cmpR op_eq (pv 3) (pv 1) (nomark _)) (pa_nil))))) (pss_cons (ps_if (pt_cmpR op_eq (pv 0) (pe_int) (nomark _)) (pss_one (ps_ret ((pe_mkR n_Weather hr (by decide) (hcx _) (by rfl) (pa_cons (pe_ix ix_seq (pv 2) (pe_int) (fun _ _ => rfl)) (pa_nil)))))) (pss_nil)) (pss_cons (ps_if (pt_cmpR op_eq (pv 0) (pe_int) (nomark _)) (pss_one (ps_ret ((pe_mkR n_Weather hr (by decide) (hcx _) (by rfl) (pa_cons (pe_ix ix_seq (pv 2) (pe_int) (fun _ _ => rfl)) (pa_cons (pe_ix ix_seq (pv 2) (pe_int) (fun _ _ => rfl)) (pa_nil))))))) (pss_nil)) (pss_cons (ps_if (pt_cmpR op_eq (pv 0) (pe_int) (nomark _)) (pss_one (ps_ret ((pe_mkR n_Weather hr (by decide) (hcx _) (by rfl) (pa_cons (pe_ix ix_seq (pv 2) (pe_int) (fun _ _ => rfl)) (pa_cons (pe_ix ix_seq (pv 2) (pe_int) (fun _ _ => rfl)) (pa_cons (pe_ix ix_seq (pv 2) (pe_int) (fun _ _ => rfl)) (pa_nil)))))))) (pss_nil)) (pss_cons (ps_if (pt_cmpR op_eq (pv 0) (pe_int) (nomark _)) (pss_one (ps_ret ((pe_mkR n_Weather hr (by decide) (hcx _) (by rfl) (pa_cons (pe_ix ix_seq (pv 2) (pe_int) (fun _ _ => rfl)) (pa_cons (pe_ix ix_seq (pv 2) (pe_int) (fun _ _ => rfl)) (pa_cons (pe_ix ix_seq (pv 2) (pe_int) (fun _ _ => rfl)) (pa_cons (pe_ix ix_seq (pv 2) (pe_int) (fun _ _ => rfl)) (pa_nil))))))))) (pss_nil)) (pss_one (ps_ret ((pe_mkR n_Weather hr (by decide) (hcx _) (by rfl) (pa_cons (pe_ix ix_seq (pv 2) (pe_int) (fun _ _ => rfl)) (pa_cons (pe_ix ix_seq (pv 2) (pe_int) (fun _ _ => rfl)) (pa_cons (pe_ix ix_seq (pv 2) (pe_int) (fun _ _ => rfl)) (pa_cons (pe_ix ix_seq (pv 2) (pe_int) (fun _ _ => rfl)) (pa_cons (pe_ix ix_seq (pv 2) (pe_int) (fun _ _ => rfl)) (pa_nil))))))))))))))
abbrev s_Weather___len__ : Stmt := inClass (top 14) 5
theorem sc_Weather___len__ : FnScope ["self"] ["self"] (defScope s_Weather___len__) := ⟨rfl, rfl, rfl, by decide +kernel, rfl, by decide +kernel, by decide +kernel⟩
theorem len_Weather___len {vs : List V} {H : Hp} {Q : VK} {E : XK} (h : sp_Weather___len K A vs H Q E) : vs.length = 1 := by
  unfold sp_Weather___len at h
  repeat (first | (obtain ⟨rfl, _⟩ := h; rfl) | obtain ⟨_, h⟩ := h)
theorem ok_Weather___len {f : Addr} {fd : FuncData} (F : FunD K "__len__" "Weather.__len__" (defArgs s_Weather___len__) (defBody s_Weather___len__) (defScope s_Weather___len__) [] [] f fd) (hcx : NoE CX) (b : Blt mg)  : FnOk A.P A.w K mg base CX 1 f fd ["self"] (sp_Weather___len K A) := by
  refine okD F sc_Weather___len__ (fun vs H Q E h => len_Weather___len h) (fun cdv A' outer s H vs Q E hr h => ⟨t_Weather___len K A, ?_, pure_Weather___len vs H Q E h⟩)
  exact pss_one (ps_ret ((pe_callB call_len (by rfl) b.n_len boot_len (pa_cons (pe_fld (pv 0) rfl) (pa_nil)))))
abbrev s__law_weather : Stmt := top 38
theorem sc__law_weather : FnScope ["_law_changes_here", "_law_result", "_law_k"] ["_law_changes_here"] (defScope s__law_weather) := ⟨rfl, rfl, rfl, by decide +kernel, rfl, by decide +kernel, by decide +kernel⟩
theorem len_law2_weather {vs : List V} {H : Hp} {Q : VK} {E : XK} (h : sp_law2_weather K A vs H Q E) : vs.length = 1 := by
  unfold sp_law2_weather at h
  repeat (first | (obtain ⟨rfl, _⟩ := h; rfl) | obtain ⟨_, h⟩ := h)
theorem ok_law2_weather {f : Addr} {fd : FuncData} (F : FunD K "_law_weather" "_law_weather" (defArgs s__law_weather) (defBody s__law_weather) (defScope s__law_weather) [] [] f fd) (hcx : NoE CX) (b : Blt mg) (n_Weather : MakR A.P A.w K mg base CX 1 "Weather" A.cWeather (sp_Weather_init K A)) (d_Weather___add__ : DunR A.P A.w K mg base CX 3 A.cWeather "__add__" (sp_Weather___add K A)) (sf_Weather : PySem.W.selfFirst K A.cWeather = true) (d_Weather___mul__ : DunR A.P A.w K mg base CX 3 A.cWeather "__mul__" (sp_Weather___mul K A)) (ml_Weather : mulB K A.cWeather = true) (c_law2_single : CalR A.P A.w K mg base CX 3 "_law_single" (sp_law2_single K A)) (d_Weather___len__ : DunR A.P A.w K mg base CX 1 A.cWeather "__len__" (sp_Weather___len K A)) : FnOk A.P A.w K mg base CX 4 f fd ["_law_changes_here"] (sp_law2_weather K A) := by
  refine okD F sc__law_weather (fun vs H Q E h => len_law2_weather h) (fun cdv A' outer s H vs Q E hr h => ⟨t_law2_weather K A, ?_, pure_law2_weather vs H Q E h⟩)
  exact pss_cons (ps_set (i := 1) sc__law_weather.nd rfl (by first | exact Or.inl rfl | exact Or.inr rfl) ((pe_mkR n_Weather hr (by decide) (hcx _) (by rfl) (pa_cons (pe_int) (pa_nil))))) (pss_cons (ps_for PassesOwn.never rfl (pi_range1 (by rfl) b.n_range (pa_cons ((pe_callB call_len (by rfl) b.n_len boot_len (pa_cons (pv 0) (pa_nil)))) (pa_nil))) (pg_name (i := 2) sc__law_weather.nd rfl (by first | exact Or.inl rfl | exact Or.inr rfl)) (pss_one (ps_if (pt_cmpR op_ne (pe_ix ix_seq (pv 0) (pv 2) (fun _ _ => rfl)) (pe_int) (nomark _)) (pss_one (ps_set (i := 1) sc__law_weather.nd rfl (by first | exact Or.inl rfl | exact Or.inr rfl) (pe_op (op_own2 d_Weather___add__ sf_Weather hr (by decide) (hcx _)) (pv 1) (pe_op (op_ownM d_Weather___mul__ ml_Weather hr (by decide) (hcx _)) ((pe_cR c_law2_single hr (by decide) (hcx _) (by rfl) (pa_cons ((pe_callB call_len (by rfl) b.n_len boot_len (pa_cons (pv 0) (pa_nil)))) (pa_cons (pv 2) (pa_nil))))) (pe_ix ix_seq (pv 0) (pv 2) (fun _ _ => rfl)))))) (pss_nil)))) (pss_one (ps_ret (pe_ifExp (pt_cmpR op_eq ((pe_callB (call_lenOwn d_Weather___len__ hr (by decide) (hcx _)) (by rfl) b.n_len boot_len (pa_cons (pv 1) (pa_nil)))) ((pe_callB call_len (by rfl) b.n_len boot_len (pa_cons (pv 0) (pa_nil)))) (nomark _)) (pv 1) (pe_op (op_own2 d_Weather___add__ sf_Weather hr (by decide) (hcx _)) (pv 1) (pe_op (op_ownM d_Weather___mul__ ml_Weather hr (by decide) (hcx _)) ((pe_cR c_law2_single hr (by decide) (hcx _) (by rfl) (pa_cons ((pe_callB call_len (by rfl) b.n_len boot_len (pa_cons (pv 0) (pa_nil)))) (pa_cons (pe_int) (pa_nil))))) (pe_int)))))))
abbrev s__law_drawn : Stmt := top 35
theorem sc__law_drawn : FnScope ["_law_state", "_law_count", "_law_result", "_law_cell"] ["_law_state", "_law_count"] (defScope s__law_drawn) := ⟨rfl, rfl, rfl, by decide +kernel, rfl, by decide +kernel, by decide +kernel⟩
theorem len_law2_drawn {vs : List V} {H : Hp} {Q : VK} {E : XK} (h : sp_law2_drawn K A vs H Q E) : vs.length = 2 := by
  unfold sp_law2_drawn at h
  repeat (first | (obtain ⟨rfl, _⟩ := h; rfl) | obtain ⟨_, h⟩ := h)
theorem ok_law2_drawn {f : Addr} {fd : FuncData} (F : FunD K "_law_drawn" "_law_drawn" (defArgs s__law_drawn) (defBody s__law_drawn) (defScope s__law_drawn) [] [] f fd) (hcx : NoE CX) (b : Blt mg)  : FnOk A.P A.w K mg base CX 1 f fd ["_law_state", "_law_count"] (sp_law2_drawn K A) := by
  refine okD F sc__law_drawn (fun vs H Q E h => len_law2_drawn h) (fun cdv A' outer s H vs Q E hr h => ⟨t_law2_drawn K A, ?_, pure_law2_drawn vs H Q E h⟩)
  exact pss_cons (ps_if (pt_cmpR op_gt (pe_ix ix_seq (pv 0) (pe_int) (fun _ _ => rfl)) (pe_int) (nomark _)) (pss_cons (ps_set (i := 2) sc__law_drawn.nd rfl (by first | exact Or.inl rfl | exact Or.inr rfl) (pe_op op_mod (pe_ix ix_seq (pv 0) (pe_int) (fun _ _ => rfl)) (pv 1))) (pss_cons (ps_asg (pe_op op_fdivW (pe_ix ix_seq (pv 0) (pe_int) (fun _ _ => rfl)) (pv 1)) (pg_sub (pv 0) (pe_int) set_list)) (pss_one (ps_ret (pv 2))))) (pss_nil)) (pss_cons (ps_asg (pe_op op_add (pe_ix ix_seq (pv 0) (pe_int) (fun _ _ => rfl)) (pe_int)) (pg_sub (pv 0) (pe_int) set_list)) (pss_cons (ps_if (pt_cmpR op_le (pe_ix ix_seq (pv 0) (pe_int) (fun _ _ => rfl)) ((pe_callB call_len (by rfl) b.n_len boot_len (pa_cons (pe_ix ix_seq (pv 0) (pe_int) (fun _ _ => rfl)) (pa_nil)))) (nomark _)) (pss_cons (ps_set (i := 3) sc__law_drawn.nd rfl (by first | exact Or.inl rfl | exact Or.inr rfl) (pe_ix ix_seq (pe_ix ix_seq (pv 0) (pe_int) (fun _ _ => rfl)) (pe_op op_sub (pe_ix ix_seq (pv 0) (pe_int) (fun _ _ => rfl)) (pe_int)) (fun _ _ => rfl))) (pss_cons (ps_asg (pe_ifExp (pt_cmpR op_ge (pv 3) (pe_op op_pow (pe_int) (pe_int)) (nomark _)) (pe_op op_fdivW (pv 3) (pv 1)) (pe_int)) (pg_sub (pv 0) (pe_int) set_list)) (pss_one (ps_ret (pe_op op_mod (pv 3) (pv 1)))))) (pss_nil)) (pss_cons (ps_asg (pe_op op_mod (pe_op op_add (pe_op op_mul (pe_ix ix_seq (pv 0) (pe_int) (fun _ _ => rfl)) (pe_int)) (pe_int)) (pe_int)) (pg_sub (pv 0) (pe_int) set_list)) (pss_one (ps_ret (pe_op op_mod (pe_op op_fdivW (pe_ix ix_seq (pv 0) (pe_int) (fun _ _ => rfl)) (pe_int)) (pv 1)))))))
abbrev s__law_changes : Stmt := top 37
theorem sc__law_changes : FnScope ["_law_state", "_law_most", "_law_high", "_law_k"] ["_law_state", "_law_most"] (defScope s__law_changes) := ⟨rfl, rfl, rfl, by decide +kernel, rfl, by decide +kernel, by decide +kernel⟩
theorem len_law2_changes {vs : List V} {H : Hp} {Q : VK} {E : XK} (h : sp_law2_changes K A vs H Q E) : vs.length = 2 := by
  unfold sp_law2_changes at h
  repeat (first | (obtain ⟨rfl, _⟩ := h; rfl) | obtain ⟨_, h⟩ := h)
theorem ok_law2_changes {f : Addr} {fd : FuncData} (F : FunD K "_law_changes" "_law_changes" (defArgs s__law_changes) (defBody s__law_changes) (defScope s__law_changes) [] [] f fd) (hcx : NoE CX) (b : Blt mg) (c_law2_drawn : CalR A.P A.w K mg base CX 1 "_law_drawn" (sp_law2_drawn K A)) : FnOk A.P A.w K mg base CX 2 f fd ["_law_state", "_law_most"] (sp_law2_changes K A) := by
  refine okD F sc__law_changes (fun vs H Q E h => len_law2_changes h) (fun cdv A' outer s H vs Q E hr h => ⟨t_law2_changes K A, ?_, pure_law2_changes vs H Q E h⟩)
  exact pss_cons (ps_set (i := 2) sc__law_changes.nd rfl (by first | exact Or.inl rfl | exact Or.inr rfl) (pe_ix ix_seq (pe_lst (pa_cons (pe_int) (pa_cons (pe_int) (pa_cons (pe_int) (pa_nil))))) ((pe_cR c_law2_drawn hr (by decide) (hcx _) (by rfl) (pa_cons (pv 0) (pa_cons (pe_int) (pa_nil))))) (fun _ _ => rfl))) (pss_one (ps_ret (pe_lc (own := [("_law_k", 3)]) (g := gName 3) (tt := tYes) (te := tOp (rI0 fun i j => .int (i - j)) (tCal (sp_law2_drawn K A) E0 (tCons (tVar 0) (tCons (tOp (rI0 fun i j => .int (i + j)) (tOp (rI CMul fun i j => .int (i * j)) (tC (.int 2)) (tVar 2)) (tC (.int 1))) (tNil)))) (tVar 2)) rfl sc__law_changes.nd (pi_range1 (by rfl) b.n_range (pa_cons (pe_op op_add (pe_int) ((pe_cR c_law2_drawn hr (by decide) (hcx _) (by rfl) (pa_cons (pv 0) (pa_cons (pv 1) (pa_nil)))))) (pa_nil))) (blkOk_by (N := ["_law_state", "_law_most", "_law_high", "_law_k"]) (sc := defScope s__law_changes) (by decide +kernel)) (fun _ _ _ _ _ => pg_name (i := 3) sc__law_changes.nd rfl (by first | exact Or.inl rfl | exact Or.inr rfl)) (fun _ _ _ _ _ => pts_nil) (fun _ _ _ _ _ => pe_op op_sub ((pe_cR c_law2_drawn hr (by decide) (hcx _) (by rfl) (pa_cons (pv 0) (pa_cons (pe_op op_add (pe_op op_mul (pe_int) (pv 2)) (pe_int)) (pa_nil))))) (pv 2)))))
abbrev s_validate_number : Stmt := top 12
theorem sc_validate_number : FnScope ["number", "smallest", "largest"] ["number", "smallest", "largest"] (defScope s_validate_number) := ⟨rfl, rfl, rfl, by decide +kernel, rfl, by decide +kernel, by decide +kernel⟩
theorem len_validate_number {vs : List V} {H : Hp} {Q : VK} {E : XK} (h : sp_validate_number K A vs H Q E) : vs.length = 3 := by
  unfold sp_validate_number at h
  repeat (first | (obtain ⟨rfl, _⟩ := h; rfl) | obtain ⟨_, h⟩ := h)
theorem ok_validate_number {f : Addr} {fd : FuncData} (F : FunD K "validate_number" "validate_number" (defArgs s_validate_number) (defBody s_validate_number) (defScope s_validate_number) [] [] f fd) (hcx : NoE CX) (b : Blt mg)  : FnOk A.P A.w K mg base CX 1 f fd ["number", "smallest", "largest"] (sp_validate_number K A) := by
  refine okD F sc_validate_number (fun vs H Q E h => len_validate_number h) (fun cdv A' outer s H vs Q E hr h => ⟨t_validate_number K A, ?_, pure_validate_number vs H Q E h⟩)
  exact pss_one (ps_if (pt_not (pt_chain op_le op_le (pv 1) (pv 0) (pv 2))) (pss_one (ps_never)) (pss_nil))
abbrev s_History_decide : Stmt := inClass (top 9) 1
theorem sc_History_decide : FnScope ["self", "degrees", "is_heating"] ["self", "degrees", "is_heating"] (defScope s_History_decide) := ⟨rfl, rfl, rfl, by decide +kernel, rfl, by decide +kernel, by decide +kernel⟩
theorem len_History_decide {vs : List V} {H : Hp} {Q : VK} {E : XK} (h : sp_History_decide K A vs H Q E) : vs.length = 3 := by
  unfold sp_History_decide at h
  repeat (first | (obtain ⟨rfl, _⟩ := h; rfl) | obtain ⟨_, h⟩ := h)
theorem ok_History_decide {f : Addr} {fd : FuncData} (F : FunD K "decide" "History.decide" (defArgs s_History_decide) (defBody s_History_decide) (defScope s_History_decide) [] [] f fd) (hcx : NoE CX) (b : Blt mg)  : FnOk A.P A.w K mg base CX 1 f fd ["self", "degrees", "is_heating"] (sp_History_decide K A) := by
  refine okD F sc_History_decide (fun vs H Q E h => len_History_decide h) (fun cdv A' outer s H vs Q E hr h => ⟨t_History_decide K A, ?_, pure_History_decide vs H Q E h⟩)
  exact pss_cons (ps_if (pt_cmpR op_lt (pv 1) (pe_fld (pv 0) rfl) (nomark _)) (pss_one (ps_ret (pe_bl))) (pss_nil)) (pss_one (ps_ret (pe_and (pv 2) (pe_one (pe_cmpR op_le (pv 1) (pe_fld (pv 0) rfl) (nomark _))))))
abbrev s_Run___init__ : Stmt := inClass (top 8) 0
theorem sc_Run___init__ : FnScope ["self", "begin", "degrees", "is_heating", "steps", "step"] ["self", "begin", "degrees", "is_heating", "steps"] (defScope s_Run___init__) := ⟨rfl, rfl, rfl, by decide +kernel, rfl, by decide +kernel, by decide +kernel⟩
theorem len_Run_init {vs : List V} {H : Hp} {Q : VK} {E : XK} (h : sp_Run_init K A vs H Q E) : vs.length = 5 := by
  unfold sp_Run_init at h
  repeat (first | (obtain ⟨rfl, _⟩ := h; rfl) | obtain ⟨_, h⟩ := h)
theorem ok_Run_init {f : Addr} {fd : FuncData} (F : FunD K "__init__" "Run.__init__" (defArgs s_Run___init__) (defBody s_Run___init__) (defScope s_Run___init__) [] [] f fd) (hcx : NoE CX) (b : Blt mg)  : FnOk A.P A.w K mg base CX 1 f fd ["self", "begin", "degrees", "is_heating", "steps"] (sp_Run_init K A) := by
  refine okD F sc_Run___init__ (fun vs H Q E h => len_Run_init h) (fun cdv A' outer s H vs Q E hr h => ⟨t_Run_init K A, ?_, pure_Run_init vs H Q E h⟩)
  exact pss_cons (ps_fld (pv 0) (pv 1) rfl) (pss_cons (ps_fld (pv 0) (pe_non) rfl) (pss_cons (ps_fld (pv 0) (pv 2) rfl) (pss_cons (ps_fld (pv 0) (pv 3) rfl) (pss_cons (ps_fld (pv 0) (pe_lst (pa_cons (pe_int) (pa_nil))) rfl) (pss_cons (ps_for PassesOwn.never rfl (pi_list (pv 4)) (pg_name (i := 5) sc_Run___init__.nd rfl (by first | exact Or.inl rfl | exact Or.inr rfl)) (pss_one (ps_expr ((pe_bm PySem.F.plainAttrs_list PySem.F.slot_list_append PySem.F.type_list_append mt_append (pe_fld (pv 0) rfl) (pa_cons (pe_op op_add (pe_ix ix_seq (pe_fld (pv 0) rfl) (pe_un un_neg (pe_int)) (fun _ _ => rfl)) (pv 5)) (pa_nil))))))) (pss_cons (ps_fld (pv 0) ((pe_callB call_len (by rfl) b.n_len boot_len (pa_cons (pv 4) (pa_nil)))) rfl) (pss_one (ps_fld (pv 0) (pe_ix ix_seq (pe_fld (pv 0) rfl) (pe_un un_neg (pe_int)) (fun _ _ => rfl)) rfl))))))))
abbrev s_Run_first_beyond : Stmt := inClass (top 8) 2
theorem sc_Run_first_beyond : FnScope ["self", "bound", "sign", "found", "place", "gap"] ["self", "bound", "sign"] (defScope s_Run_first_beyond) := ⟨rfl, rfl, rfl, by decide +kernel, rfl, by decide +kernel, by decide +kernel⟩
theorem len_Run_first_beyond {vs : List V} {H : Hp} {Q : VK} {E : XK} (h : sp_Run_first_beyond K A vs H Q E) : vs.length = 3 := by
  unfold sp_Run_first_beyond at h
  repeat (first | (obtain ⟨rfl, _⟩ := h; rfl) | obtain ⟨_, h⟩ := h)
theorem ok_Run_first_beyond {f : Addr} {fd : FuncData} (F : FunD K "first_beyond" "Run.first_beyond" (defArgs s_Run_first_beyond) (defBody s_Run_first_beyond) (defScope s_Run_first_beyond) [] [] f fd) (hcx : NoE CX) (b : Blt mg)  : FnOk A.P A.w K mg base CX 1 f fd ["self", "bound", "sign"] (sp_Run_first_beyond K A) := by
  refine okD F sc_Run_first_beyond (fun vs H Q E h => len_Run_first_beyond h) (fun cdv A' outer s H vs Q E hr h => ⟨t_Run_first_beyond K A, ?_, pure_Run_first_beyond vs H Q E h⟩)
  exact pss_cons (ps_set (i := 3) sc_Run_first_beyond.nd rfl (by first | exact Or.inl rfl | exact Or.inr rfl) (pe_lst (pa_nil))) (pss_cons (ps_for PassesOwn.never rfl (pi_range1 (by rfl) b.n_range (pa_cons (pe_fld (pv 0) rfl) (pa_nil))) (pg_name (i := 4) sc_Run_first_beyond.nd rfl (by first | exact Or.inl rfl | exact Or.inr rfl)) (pss_cons (ps_set (i := 5) sc_Run_first_beyond.nd rfl (by first | exact Or.inl rfl | exact Or.inr rfl) (pe_op op_mul (pe_op op_sub (pe_op op_sub (pv 1) (pe_fld (pv 0) rfl)) (pe_ix ix_seq (pe_fld (pv 0) rfl) (pv 4) (fun _ _ => rfl))) (pv 2))) (pss_one (ps_if (pt_cmpR op_lt (pv 5) (pe_int) (nomark _)) (pss_one (ps_expr ((pe_bm PySem.F.plainAttrs_list PySem.F.slot_list_append PySem.F.type_list_append mt_append (pv 3) (pa_cons (pe_op op_add (pe_fld (pv 0) rfl) (pv 4)) (pa_nil)))))) (pss_one (ps_if (pt_cmpR op_gt (pe_op op_mul (pe_fld (pv 0) rfl) (pv 2)) (pe_int) (nomark _)) (pss_one (ps_expr ((pe_bm PySem.F.plainAttrs_list PySem.F.slot_list_append PySem.F.type_list_append mt_append (pv 3) (pa_cons (pe_op op_add (pe_op op_add (pe_fld (pv 0) rfl) (pv 4)) (pe_op op_mul (pe_op op_add (pe_op op_fdivW (pv 5) (pe_op op_mul (pe_fld (pv 0) rfl) (pv 2))) (pe_int)) (pe_fld (pv 0) rfl))) (pa_nil)))))) (pss_nil))))))) (pss_one (ps_ret (pe_ifExp (pt_cmpR (op_neD hr.units) (pv 3) (pe_lst (pa_nil)) (nomark _)) ((pe_callB (cr_min rfl) (by rfl) b.n_min (by decide +kernel) (pa_cons (pv 3) (pa_nil)))) (pe_non)))))
abbrev s_Run_at : Stmt := inClass (top 8) 1
theorem sc_Run_at : FnScope ["self", "tick", "place"] ["self", "tick"] (defScope s_Run_at) := ⟨rfl, rfl, rfl, by decide +kernel, rfl, by decide +kernel, by decide +kernel⟩
theorem len_Run_at {vs : List V} {H : Hp} {Q : VK} {E : XK} (h : sp_Run_at K A vs H Q E) : vs.length = 2 := by
  unfold sp_Run_at at h
  repeat (first | (obtain ⟨rfl, _⟩ := h; rfl) | obtain ⟨_, h⟩ := h)
theorem ok_Run_at {f : Addr} {fd : FuncData} (F : FunD K "at" "Run.at" (defArgs s_Run_at) (defBody s_Run_at) (defScope s_Run_at) [] [] f fd) (hcx : NoE CX) (b : Blt mg)  : FnOk A.P A.w K mg base CX 1 f fd ["self", "tick"] (sp_Run_at K A) := by
  refine okD F sc_Run_at (fun vs H Q E h => len_Run_at h) (fun cdv A' outer s H vs Q E hr h => ⟨t_Run_at K A, ?_, pure_Run_at vs H Q E h⟩)
  exact pss_cons (ps_set (i := 2) sc_Run_at.nd rfl (by first | exact Or.inl rfl | exact Or.inr rfl) (pe_op op_sub (pv 1) (pe_fld (pv 0) rfl))) (pss_one (ps_ret (pe_op op_add (pe_op op_add (pe_fld (pv 0) rfl) (pe_op op_mul (pe_op op_fdivW (pv 2) (pe_fld (pv 0) rfl)) (pe_fld (pv 0) rfl))) (pe_ix ix_seq (pe_fld (pv 0) rfl) (pe_op op_mod ((pe_callTy call_int1 (by rfl) b.n_int (by decide +kernel) (pa_cons (pv 2) (pa_nil)))) (pe_fld (pv 0) rfl)) (fun _ _ => rfl)))))
abbrev s_History_find_runs : Stmt := inClass (top 9) 2
theorem sc_History_find_runs : FnScope ["self", "degrees", "is_heating", "tick", "seen", "is_open", "phase", "key", "added", "shifts", "run", "shift"] ["self", "degrees", "is_heating"] (defScope s_History_find_runs) := ⟨rfl, rfl, rfl, by decide +kernel, rfl, by decide +kernel, by decide +kernel⟩
theorem len_History_find_runs {vs : List V} {H : Hp} {Q : VK} {E : XK} (h : sp_History_find_runs K A vs H Q E) : vs.length = 3 := by
  unfold sp_History_find_runs at h
  repeat (first | (obtain ⟨rfl, _⟩ := h; rfl) | obtain ⟨_, h⟩ := h)
theorem ok_History_find_runs {f : Addr} {fd : FuncData} (F : FunD K "find_runs" "History.find_runs" (defArgs s_History_find_runs) (defBody s_History_find_runs) (defScope s_History_find_runs) [] [] f fd) (hcx : NoE CX) (b : Blt mg) (m_History_decide : MetR A.P A.w K mg base CX 1 A.cHistory "decide" (sp_History_decide K A)) (n_Run : MakR A.P A.w K mg base CX 1 "Run" A.cRun (sp_Run_init K A)) (m_Run_first_beyond : MetR A.P A.w K mg base CX 1 A.cRun "first_beyond" (sp_Run_first_beyond K A)) (m_Run_at : MetR A.P A.w K mg base CX 1 A.cRun "at" (sp_Run_at K A)) : FnOk A.P A.w K mg base CX 3 f fd ["self", "degrees", "is_heating"] (sp_History_find_runs K A) := by
  refine okD F sc_History_find_runs (fun vs H Q E h => len_History_find_runs h) (fun cdv A' outer s H vs Q E hr h => ⟨t_History_find_runs K A, ?_, pure_History_find_runs vs H Q E h⟩)
  exact pss_cons (ps_par3 (i := 3) (j := 4) (l := 5) rfl sc_History_find_runs.nd rfl rfl rfl (by decide) (by decide) (by decide) rfl rfl rfl (pa_cons (pe_int) (pa_cons (pe_seenNew) (pa_cons (pe_bl) (pa_nil)))) (by rfl)) (pss_cons (ps_set (i := 2) sc_History_find_runs.nd rfl (by first | exact Or.inl rfl | exact Or.inr rfl) ((pe_mtR m_History_decide hr (by decide) (hcx _) (pv 0) (pa_cons (pv 1) (pa_cons (pv 2) (pa_nil)))))) (pss_one (ps_while PassesOwn.never (pt_val (pv 5)) (pss_cons (ps_set (i := 6) sc_History_find_runs.nd rfl (by first | exact Or.inl rfl | exact Or.inr rfl) (pe_op op_mod ((pe_callTy call_int1 (by rfl) b.n_int (by decide +kernel) (pa_cons (pv 3) (pa_nil)))) ((pe_callB call_len (by rfl) b.n_len boot_len (pa_cons (pe_fld (pv 0) rfl) (pa_nil)))))) (pss_cons (ps_set (i := 7) sc_History_find_runs.nd rfl (by first | exact Or.inl rfl | exact Or.inr rfl) (pe_tup (pa_cons (pv 6) (pa_cons (pv 1) (pa_cons (pv 2) (pa_nil)))))) (pss_one (ps_if (pt_cmpR (op_seenIn (hu_of hr)) (pv 7) (pv 4) (by rfl)) (pss_cons (ps_fld (pv 0) (pe_seenGet (hu_of hr) (pv 4) (pv 7)) rfl) (pss_one (ps_set (i := 5) sc_History_find_runs.nd rfl (by first | exact Or.inl rfl | exact Or.inr rfl) (pe_bl)))) (pss_cons (ps_seenPut (hu_of hr) (pv 4) (pv 7) ((pe_callB call_len (by rfl) b.n_len boot_len (pa_cons (pe_fld (pv 0) rfl) (pa_nil)))) rfl) (pss_cons (ps_set (i := 8) sc_History_find_runs.nd rfl (by first | exact Or.inl rfl | exact Or.inr rfl) (pe_ifExp (pt_val (pv 2)) (pe_fld (pv 0) rfl) (pe_int))) (pss_cons (ps_set (i := 9) sc_History_find_runs.nd rfl (by first | exact Or.inl rfl | exact Or.inr rfl) (pe_op op_catA (pe_slice sl_tupA (pe_fld (pv 0) rfl) (po_some (pv 6)) (po_none)) (pe_slice sl_tupA (pe_fld (pv 0) rfl) (po_none) (po_some (pv 6))))) (pss_cons (ps_set (i := 10) sc_History_find_runs.nd rfl (by first | exact Or.inl rfl | exact Or.inr rfl) ((pe_mkR n_Run hr (by decide) (hcx _) (by rfl) (pa_cons (pv 3) (pa_cons (pv 1) (pa_cons (pv 2) (pa_cons (pe_lc (own := [("shift", 11)]) (g := gName 11) (tt := tYes) (te := tOp (rI0 fun i j => .int (i + j)) (tVar 11) (tVar 8)) rfl sc_History_find_runs.nd (pi_tup (pv 9)) (blkOk_by (N := ["self", "degrees", "is_heating", "tick", "seen", "is_open", "phase", "key", "added", "shifts", "run", "shift"]) (sc := defScope s_History_find_runs) (by decide +kernel)) (fun _ _ _ _ _ => pg_name (i := 11) sc_History_find_runs.nd rfl (by first | exact Or.inl rfl | exact Or.inr rfl)) (fun _ _ _ _ _ => pts_nil) (fun _ _ _ _ _ => pe_op op_add (pv 11) (pv 8))) (pa_nil)))))))) (pss_cons (ps_fld (pv 10) (pe_ifExp (pt_val (pv 2)) ((pe_mtR m_Run_first_beyond hr (by decide) (hcx _) (pv 10) (pa_cons (pe_fld (pv 0) rfl) (pa_cons (pe_int) (pa_nil))))) ((pe_mtR m_Run_first_beyond hr (by decide) (hcx _) (pv 10) (pa_cons (pe_fld (pv 0) rfl) (pa_cons (pe_un un_neg (pe_int)) (pa_nil)))))) rfl) (pss_cons (ps_expr ((pe_bm PySem.F.plainAttrs_list PySem.F.slot_list_append PySem.F.type_list_append mt_append (pe_fld (pv 0) rfl) (pa_cons (pv 10) (pa_nil))))) (pss_one (ps_if (pt_cmpR op_isN1 (pe_fld (pv 10) rfl) (pe_non) (nomark _)) (pss_one (ps_set (i := 5) sc_History_find_runs.nd rfl (by first | exact Or.inl rfl | exact Or.inr rfl) (pe_bl))) (pss_one (ps_par3 (i := 3) (j := 1) (l := 2) rfl sc_History_find_runs.nd rfl rfl rfl (by decide) (by decide) (by decide) rfl rfl rfl (pa_cons (pe_fld (pv 10) rfl) (pa_cons ((pe_mtR m_Run_at hr (by decide) (hcx _) (pv 10) (pa_cons (pe_fld (pv 10) rfl) (pa_nil)))) (pa_cons (pe_not (pv 2)) (pa_nil)))) (by rfl))))))))))))))))))
abbrev s_History___init__ : Stmt := inClass (top 9) 0
theorem sc_History___init__ : FnScope ["self", "changes", "gain", "low", "high", "start", "is_heating"] ["self", "changes", "gain", "low", "high", "start", "is_heating"] (defScope s_History___init__) := ⟨rfl, rfl, rfl, by decide +kernel, rfl, by decide +kernel, by decide +kernel⟩
theorem len_History_init {vs : List V} {H : Hp} {Q : VK} {E : XK} (h : sp_History_init K A vs H Q E) : vs.length = 7 := by
  unfold sp_History_init at h
  repeat (first | (obtain ⟨rfl, _⟩ := h; rfl) | obtain ⟨_, h⟩ := h)
theorem ok_History_init {f : Addr} {fd : FuncData} (F : FunD K "__init__" "History.__init__" (defArgs s_History___init__) (defBody s_History___init__) (defScope s_History___init__) [] [] f fd) (hcx : NoE CX) (b : Blt mg) (m_History_find_runs : MetR A.P A.w K mg base CX 3 A.cHistory "find_runs" (sp_History_find_runs K A)) : FnOk A.P A.w K mg base CX 4 f fd ["self", "changes", "gain", "low", "high", "start", "is_heating"] (sp_History_init K A) := by
  refine okD F sc_History___init__ (fun vs H Q E h => len_History_init h) (fun cdv A' outer s H vs Q E hr h => ⟨t_History_init K A, ?_, pure_History_init vs H Q E h⟩)
  exact pss_cons (ps_fld (pv 0) (pv 1) rfl) (pss_cons (ps_fld (pv 0) (pv 2) rfl) (pss_cons (ps_fld (pv 0) (pv 3) rfl) (pss_cons (ps_fld (pv 0) (pv 4) rfl) (pss_cons (ps_fld (pv 0) (pv 6) rfl) (pss_cons (ps_fld (pv 0) (pe_lst (pa_nil)) rfl) (pss_cons (ps_fld (pv 0) (pe_non) rfl) (pss_one (ps_expr ((pe_mtR m_History_find_runs hr (by decide) (hcx _) (pv 0) (pa_cons (pv 5) (pa_cons (pv 6) (pa_nil)))))))))))))
abbrev s_Weather_changes : Stmt := inClass (top 14) 4
theorem sc_Weather_changes : FnScope ["self"] ["self"] (defScope s_Weather_changes) := ⟨rfl, rfl, rfl, by decide +kernel, rfl, by decide +kernel, by decide +kernel⟩
theorem len_Weather_changes {vs : List V} {H : Hp} {Q : VK} {E : XK} (h : sp_Weather_changes K A vs H Q E) : vs.length = 1 := by
  unfold sp_Weather_changes at h
  repeat (first | (obtain ⟨rfl, _⟩ := h; rfl) | obtain ⟨_, h⟩ := h)
theorem ok_Weather_changes {f : Addr} {fd : FuncData} (F : FunD K "changes" "Weather.changes" (defArgs s_Weather_changes) (defBody s_Weather_changes) (defScope s_Weather_changes) [] [] f fd) (hcx : NoE CX) (b : Blt mg)  : FnOk A.P A.w K mg base CX 1 f fd ["self"] (sp_Weather_changes K A) := by
  refine okD F sc_Weather_changes (fun vs H Q E h => len_Weather_changes h) (fun cdv A' outer s H vs Q E hr h => ⟨t_Weather_changes K A, ?_, pure_Weather_changes vs H Q E h⟩)
  exact pss_one (ps_ret (pe_fld (pv 0) rfl))
abbrev s_Heater_gain : Stmt := inClass (top 19) 1
theorem sc_Heater_gain : FnScope ["self"] ["self"] (defScope s_Heater_gain) := ⟨rfl, rfl, rfl, by decide +kernel, rfl, by decide +kernel, by decide +kernel⟩
theorem len_Heater_gain {vs : List V} {H : Hp} {Q : VK} {E : XK} (h : sp_Heater_gain K A vs H Q E) : vs.length = 1 := by
  unfold sp_Heater_gain at h
  repeat (first | (obtain ⟨rfl, _⟩ := h; rfl) | obtain ⟨_, h⟩ := h)
theorem ok_Heater_gain {f : Addr} {fd : FuncData} (F : FunD K "gain" "Heater.gain" (defArgs s_Heater_gain) (defBody s_Heater_gain) (defScope s_Heater_gain) [] [] f fd) (hcx : NoE CX) (b : Blt mg)  : FnOk A.P A.w K mg base CX 1 f fd ["self"] (sp_Heater_gain K A) := by
  refine okD F sc_Heater_gain (fun vs H Q E h => len_Heater_gain h) (fun cdv A' outer s H vs Q E hr h => ⟨t_Heater_gain K A, ?_, pure_Heater_gain vs H Q E h⟩)
  exact pss_one (ps_ret (pe_fld (pv 0) rfl))
abbrev s_Heater_low : Stmt := inClass (top 19) 2
theorem sc_Heater_low : FnScope ["self"] ["self"] (defScope s_Heater_low) := ⟨rfl, rfl, rfl, by decide +kernel, rfl, by decide +kernel, by decide +kernel⟩
theorem len_Heater_low {vs : List V} {H : Hp} {Q : VK} {E : XK} (h : sp_Heater_low K A vs H Q E) : vs.length = 1 := by
  unfold sp_Heater_low at h
  repeat (first | (obtain ⟨rfl, _⟩ := h; rfl) | obtain ⟨_, h⟩ := h)
theorem ok_Heater_low {f : Addr} {fd : FuncData} (F : FunD K "low" "Heater.low" (defArgs s_Heater_low) (defBody s_Heater_low) (defScope s_Heater_low) [] [] f fd) (hcx : NoE CX) (b : Blt mg)  : FnOk A.P A.w K mg base CX 1 f fd ["self"] (sp_Heater_low K A) := by
  refine okD F sc_Heater_low (fun vs H Q E h => len_Heater_low h) (fun cdv A' outer s H vs Q E hr h => ⟨t_Heater_low K A, ?_, pure_Heater_low vs H Q E h⟩)
  exact pss_one (ps_ret (pe_fld (pv 0) rfl))
abbrev s_Heater_high : Stmt := inClass (top 19) 3
theorem sc_Heater_high : FnScope ["self"] ["self"] (defScope s_Heater_high) := ⟨rfl, rfl, rfl, by decide +kernel, rfl, by decide +kernel, by decide +kernel⟩
theorem len_Heater_high {vs : List V} {H : Hp} {Q : VK} {E : XK} (h : sp_Heater_high K A vs H Q E) : vs.length = 1 := by
  unfold sp_Heater_high at h
  repeat (first | (obtain ⟨rfl, _⟩ := h; rfl) | obtain ⟨_, h⟩ := h)
theorem ok_Heater_high {f : Addr} {fd : FuncData} (F : FunD K "high" "Heater.high" (defArgs s_Heater_high) (defBody s_Heater_high) (defScope s_Heater_high) [] [] f fd) (hcx : NoE CX) (b : Blt mg)  : FnOk A.P A.w K mg base CX 1 f fd ["self"] (sp_Heater_high K A) := by
  refine okD F sc_Heater_high (fun vs H Q E h => len_Heater_high h) (fun cdv A' outer s H vs Q E hr h => ⟨t_Heater_high K A, ?_, pure_Heater_high vs H Q E h⟩)
  exact pss_one (ps_ret (pe_fld (pv 0) rfl))
abbrev s_History_circle : Stmt := inClass (top 9) 3
theorem sc_History_circle : FnScope ["self"] ["self"] (defScope s_History_circle) := ⟨rfl, rfl, rfl, by decide +kernel, rfl, by decide +kernel, by decide +kernel⟩
theorem len_History_circle {vs : List V} {H : Hp} {Q : VK} {E : XK} (h : sp_History_circle K A vs H Q E) : vs.length = 1 := by
  unfold sp_History_circle at h
  repeat (first | (obtain ⟨rfl, _⟩ := h; rfl) | obtain ⟨_, h⟩ := h)
theorem ok_History_circle {f : Addr} {fd : FuncData} (F : FunD K "circle" "History.circle" (defArgs s_History_circle) (defBody s_History_circle) (defScope s_History_circle) [] [] f fd) (hcx : NoE CX) (b : Blt mg)  : FnOk A.P A.w K mg base CX 1 f fd ["self"] (sp_History_circle K A) := by
  refine okD F sc_History_circle (fun vs H Q E h => len_History_circle h) (fun cdv A' outer s H vs Q E hr h => ⟨t_History_circle K A, ?_, pure_History_circle vs H Q E h⟩)
  exact pss_one (ps_ret (pe_op op_sub (pe_fld (pe_ix ix_seq (pe_fld (pv 0) rfl) (pe_un un_neg (pe_int)) (fun _ _ => rfl)) rfl) (pe_fld (pe_ix ix_seq (pe_fld (pv 0) rfl) (pe_fld (pv 0) rfl) (fun _ _ => rfl)) rfl)))
abbrev s_repetition_of : Stmt := top 21
theorem sc_repetition_of : FnScope ["past", "runs", "loop", "first"] ["past"] (defScope s_repetition_of) := ⟨rfl, rfl, rfl, by decide +kernel, rfl, by decide +kernel, by decide +kernel⟩
theorem len_repetition_of {vs : List V} {H : Hp} {Q : VK} {E : XK} (h : sp_repetition_of K A vs H Q E) : vs.length = 1 := by
  unfold sp_repetition_of at h
  repeat (first | (obtain ⟨rfl, _⟩ := h; rfl) | obtain ⟨_, h⟩ := h)
theorem ok_repetition_of {f : Addr} {fd : FuncData} (F : FunD K "repetition_of" "repetition_of" (defArgs s_repetition_of) (defBody s_repetition_of) (defScope s_repetition_of) [] [] f fd) (hcx : NoE CX) (b : Blt mg) (m_History_circle : MetR A.P A.w K mg base CX 1 A.cHistory "circle" (sp_History_circle K A)) : FnOk A.P A.w K mg base CX 2 f fd ["past"] (sp_repetition_of K A) := by
  refine okD F sc_repetition_of (fun vs H Q E h => len_repetition_of h) (fun cdv A' outer s H vs Q E hr h => ⟨t_repetition_of K A, ?_, pure_repetition_of vs H Q E h⟩)
  exact pss_cons (ps_par (i := 1) (j := 2) rfl sc_repetition_of.nd rfl rfl (by decide) rfl rfl (pa_cons (pe_fld (pv 0) rfl) (pa_cons (pe_fld (pv 0) rfl) (pa_nil))) (by rfl)) (pss_cons (ps_if (pt_cmpR op_isN1 (pv 2) (pe_non) (nomark _)) (pss_one (ps_ret (pe_ifExp (pt_cmpR op_eq (pe_fld (pe_ix ix_seq (pv 1) (pe_un un_neg (pe_int)) (fun _ _ => rfl)) rfl) (pe_int) (nomark _)) (pe_tup (pa_cons (pe_fld (pe_ix ix_seq (pv 1) (pe_un un_neg (pe_int)) (fun _ _ => rfl)) rfl) (pa_cons (pe_fld (pe_ix ix_seq (pv 1) (pe_un un_neg (pe_int)) (fun _ _ => rfl)) rfl) (pa_nil)))) (pe_non)))) (pss_nil)) (pss_cons (ps_set (i := 3) sc_repetition_of.nd rfl (by first | exact Or.inl rfl | exact Or.inr rfl) (pe_fld (pe_ix ix_seq (pv 1) (pv 2) (fun _ _ => rfl)) rfl)) (pss_cons (ps_if (pt_cmpR op_gt (pv 2) (pe_int) (nomark _)) (pss_one (ps_aug (i := 3) sc_repetition_of.nd rfl (by first | exact Or.inl rfl | exact Or.inr rfl) ((pe_callB (call_min2 rfl) (by rfl) b.n_min (by decide +kernel) (pa_cons (pe_op op_sub (pe_fld (pe_ix ix_seq (pv 1) (pe_op op_sub (pv 2) (pe_int)) (fun _ _ => rfl)) rfl) (pe_fld (pe_ix ix_seq (pv 1) (pe_op op_sub (pv 2) (pe_int)) (fun _ _ => rfl)) rfl)) (pa_cons (pe_op op_sub (pe_fld (pe_ix ix_seq (pv 1) (pe_un un_neg (pe_int)) (fun _ _ => rfl)) rfl) (pe_fld (pe_ix ix_seq (pv 1) (pe_un un_neg (pe_int)) (fun _ _ => rfl)) rfl)) (pa_nil))))) ip_sub)) (pss_nil)) (pss_one (ps_ret (pe_tup (pa_cons (pv 3) (pa_cons ((pe_mt0R m_History_circle hr (by decide) (hcx _) (pv 0))) (pa_nil)))))))))
abbrev s_share_of : Stmt := top 22
theorem sc_share_of : FnScope ["past", "heated", "run", "divisor"] ["past"] (defScope s_share_of) := ⟨rfl, rfl, rfl, by decide +kernel, rfl, by decide +kernel, by decide +kernel⟩
theorem len_share_of {vs : List V} {H : Hp} {Q : VK} {E : XK} (h : sp_share_of K A vs H Q E) : vs.length = 1 := by
  unfold sp_share_of at h
  repeat (first | (obtain ⟨rfl, _⟩ := h; rfl) | obtain ⟨_, h⟩ := h)
theorem ok_share_of {f : Addr} {fd : FuncData} (F : FunD K "share_of" "share_of" (defArgs s_share_of) (defBody s_share_of) (defScope s_share_of) [] [] f fd) (hcx : NoE CX) (b : Blt mg) (c_common_divisor : CalR A.P A.w K mg base CX 1 "common_divisor" (sp_common_divisor K A)) (m_History_circle : MetR A.P A.w K mg base CX 1 A.cHistory "circle" (sp_History_circle K A)) : FnOk A.P A.w K mg base CX 2 f fd ["past"] (sp_share_of K A) := by
  refine okD F sc_share_of (fun vs H Q E h => len_share_of h) (fun cdv A' outer s H vs Q E hr h => ⟨t_share_of K A, ?_, pure_share_of vs H Q E h⟩)
  exact pss_cons (ps_if (pt_cmpR op_isN1 (pe_fld (pv 0) rfl) (pe_non) (nomark _)) (pss_one (ps_ret (pe_ifExp (pt_val (pe_fld (pe_ix ix_seq (pe_fld (pv 0) rfl) (pe_un un_neg (pe_int)) (fun _ _ => rfl)) rfl)) (pe_tup (pa_cons (pe_int) (pa_cons (pe_int) (pa_nil)))) (pe_tup (pa_cons (pe_int) (pa_cons (pe_int) (pa_nil))))))) (pss_nil)) (pss_cons (ps_set (i := 1) sc_share_of.nd rfl (by first | exact Or.inl rfl | exact Or.inr rfl) ((pe_callB (cr_sum rfl) (by rfl) b.n_sum (by decide +kernel) (pa_cons (pe_lc (own := [("run", 2)]) (g := gName 2) (tt := tB (tFld K (tVar 2) "is_heating")) (te := tOp (rI0 fun i j => .int (i - j)) (tFld K (tVar 2) "end") (tFld K (tVar 2) "begin")) rfl sc_share_of.nd (pi_list (pe_slice sl_list (pe_fld (pv 0) rfl) (po_some (pe_fld (pv 0) rfl)) (po_none))) (blkOk_by (N := ["past", "heated", "run", "divisor"]) (sc := defScope s_share_of) (by decide +kernel)) (fun _ _ _ _ _ => pg_name (i := 2) sc_share_of.nd rfl (by first | exact Or.inl rfl | exact Or.inr rfl)) (fun _ _ _ _ _ => pts_one (pt_val (pe_fld (pv 2) rfl))) (fun _ _ _ _ _ => pe_op op_sub (pe_fld (pv 2) rfl) (pe_fld (pv 2) rfl))) (pa_nil))))) (pss_cons (ps_set (i := 3) sc_share_of.nd rfl (by first | exact Or.inl rfl | exact Or.inr rfl) ((pe_cR c_common_divisor hr (by decide) (hcx _) (by rfl) (pa_cons (pv 1) (pa_cons ((pe_mt0R m_History_circle hr (by decide) (hcx _) (pv 0))) (pa_nil)))))) (pss_one (ps_ret (pe_tup (pa_cons (pe_op op_fdivW (pv 1) (pv 3)) (pa_cons (pe_op op_fdivW ((pe_mt0R m_History_circle hr (by decide) (hcx _) (pv 0))) (pv 3)) (pa_nil))))))))
abbrev s_Run_extreme : Stmt := inClass (top 8) 3
theorem sc_Run_extreme : FnScope ["self", "last", "sign", "best", "place", "tick", "degrees"] ["self", "last", "sign"] (defScope s_Run_extreme) := ⟨rfl, rfl, rfl, by decide +kernel, rfl, by decide +kernel, by decide +kernel⟩
theorem len_Run_extreme {vs : List V} {H : Hp} {Q : VK} {E : XK} (h : sp_Run_extreme K A vs H Q E) : vs.length = 3 := by
  unfold sp_Run_extreme at h
  repeat (first | (obtain ⟨rfl, _⟩ := h; rfl) | obtain ⟨_, h⟩ := h)
theorem ok_Run_extreme {f : Addr} {fd : FuncData} (F : FunD K "extreme" "Run.extreme" (defArgs s_Run_extreme) (defBody s_Run_extreme) (defScope s_Run_extreme) [] [] f fd) (hcx : NoE CX) (b : Blt mg) (m_Run_at : MetR A.P A.w K mg base CX 1 A.cRun "at" (sp_Run_at K A)) : FnOk A.P A.w K mg base CX 2 f fd ["self", "last", "sign"] (sp_Run_extreme K A) := by
  refine okD F sc_Run_extreme (fun vs H Q E h => len_Run_extreme h) (fun cdv A' outer s H vs Q E hr h => ⟨t_Run_extreme K A, ?_, pure_Run_extreme vs H Q E h⟩)
  exact pss_cons (ps_if (PW.pt (pw_and (pt_cmpR op_isN1 (pv 1) (pe_non) (nomark _)) (pw_and1 (pt_cmpR op_gt (pe_op op_mul (pe_fld (pv 0) rfl) (pv 2)) (pe_int) (nomark _))))) (pss_one (ps_ret (pe_non))) (pss_nil)) (pss_cons (ps_set (i := 3) sc_Run_extreme.nd rfl (by first | exact Or.inl rfl | exact Or.inr rfl) (pe_tup (pa_cons (pe_fld (pv 0) rfl) (pa_cons (pe_fld (pv 0) rfl) (pa_nil))))) (pss_cons (ps_for PassesOwn.never rfl (pi_range1 (by rfl) b.n_range (pa_cons (pe_fld (pv 0) rfl) (pa_nil))) (pg_name (i := 4) sc_Run_extreme.nd rfl (by first | exact Or.inl rfl | exact Or.inr rfl)) (pss_cons (ps_set (i := 5) sc_Run_extreme.nd rfl (by first | exact Or.inl rfl | exact Or.inr rfl) (pe_op op_add (pe_fld (pv 0) rfl) (pv 4))) (pss_cons (ps_if (PW.pt (pw_and (pt_cmpR op_notN1 (pv 1) (pe_non) (nomark _)) (pw_and1 (pt_cmpR op_gt (pv 5) (pv 1) (nomark _))))) (pss_one (ps_ret (pv 3))) (pss_nil)) (pss_cons (ps_if (pt_cmpR op_gt (pe_op op_mul (pe_fld (pv 0) rfl) (pv 2)) (pe_int) (nomark _)) (pss_one (ps_aug (i := 5) sc_Run_extreme.nd rfl (by first | exact Or.inl rfl | exact Or.inr rfl) (pe_op op_mul (pe_op op_fdivW (pe_op op_sub (pv 1) (pv 5)) (pe_fld (pv 0) rfl)) (pe_fld (pv 0) rfl)) ip_add)) (pss_nil)) (pss_cons (ps_set (i := 6) sc_Run_extreme.nd rfl (by first | exact Or.inl rfl | exact Or.inr rfl) ((pe_mtR m_Run_at hr (by decide) (hcx _) (pv 0) (pa_cons (pv 5) (pa_nil))))) (pss_one (ps_if (PW.pt (pw_or (pt_cmpR op_gt (pe_op op_mul (pv 6) (pv 2)) (pe_op op_mul (pe_ix ix_seq (pv 3) (pe_int) (fun _ _ => rfl)) (pv 2)) (nomark _)) (pw_or1 (PW.pt (pw_and (pt_cmpR op_eq (pv 6) (pe_ix ix_seq (pv 3) (pe_int) (fun _ _ => rfl)) (nomark _)) (pw_and1 (pt_cmpR op_lt (pv 5) (pe_ix ix_seq (pv 3) (pe_int) (fun _ _ => rfl)) (nomark _)))))))) (pss_one (ps_set (i := 3) sc_Run_extreme.nd rfl (by first | exact Or.inl rfl | exact Or.inr rfl) (pe_tup (pa_cons (pv 6) (pa_cons (pv 5) (pa_nil)))))) (pss_nil)))))))) (pss_one (ps_ret (pv 3)))))
abbrev s_extreme_of : Stmt := top 23
theorem sc_extreme_of : FnScope ["past", "sign", "found", "run", "best", "degrees", "tick"] ["past", "sign"] (defScope s_extreme_of) := ⟨rfl, rfl, rfl, by decide +kernel, rfl, by decide +kernel, by decide +kernel⟩
theorem len_extreme_of {vs : List V} {H : Hp} {Q : VK} {E : XK} (h : sp_extreme_of K A vs H Q E) : vs.length = 2 := by
  unfold sp_extreme_of at h
  repeat (first | (obtain ⟨rfl, _⟩ := h; rfl) | obtain ⟨_, h⟩ := h)
theorem ok_extreme_of {f : Addr} {fd : FuncData} (F : FunD K "extreme_of" "extreme_of" (defArgs s_extreme_of) (defBody s_extreme_of) (defScope s_extreme_of) [] [] f fd) (hcx : NoE CX) (b : Blt mg) (m_Run_extreme : MetR A.P A.w K mg base CX 2 A.cRun "extreme" (sp_Run_extreme K A)) : FnOk A.P A.w K mg base CX 3 f fd ["past", "sign"] (sp_extreme_of K A) := by
  refine okD F sc_extreme_of (fun vs H Q E h => len_extreme_of h) (fun cdv A' outer s H vs Q E hr h => ⟨t_extreme_of K A, ?_, pure_extreme_of vs H Q E h⟩)
  exact pss_cons (ps_setLc (i := 2) rfl sc_extreme_of.nd rfl rfl (sw_true rfl rfl rfl (by decide +kernel)) (own := [("run", 3)]) (g := gName 3) (tt := tYes) (te := tMtd A.cRun "extreme" (sp_Run_extreme K A) E0 (tVar 3) (tCons (tFld K (tVar 3) "end") (tCons (tVar 1) (tNil)))) (pi_list (pe_fld (pv 0) rfl)) (blkOk_by (N := ["past", "sign", "found", "run", "best", "degrees", "tick"]) (sc := defScope s_extreme_of) (by decide +kernel)) (fun _ _ _ _ _ => pg_name (i := 3) sc_extreme_of.nd rfl (by first | exact Or.inl rfl | exact Or.inr rfl)) (fun _ _ _ _ _ => pts_nil) (fun _ _ _ _ _ => (pe_mtR m_Run_extreme hr (by decide) (hcx _) (pv 3) (pa_cons (pe_fld (pv 3) rfl) (pa_cons (pv 1) (pa_nil)))))) (pss_cons (ps_if (pt_cmpR (op_inD (hu65_of hr)) (pe_non) (pv 2) (by rfl)) (pss_one (ps_ret (pe_non))) (pss_nil)) (pss_cons (ps_set (i := 4) sc_extreme_of.nd rfl (by first | exact Or.inl rfl | exact Or.inr rfl) (pe_ix ix_seq (pv 2) (pe_int) (fun _ _ => rfl))) (pss_cons (ps_for PassesOwn.never rfl (pi_list (pe_slice sl_list (pv 2) (po_some (pe_int)) (po_none))) (pg_tup rfl (pgs_cons (pg_name (i := 5) sc_extreme_of.nd rfl (by first | exact Or.inl rfl | exact Or.inr rfl)) (pgs_cons (pg_name (i := 6) sc_extreme_of.nd rfl (by first | exact Or.inl rfl | exact Or.inr rfl)) (pgs_nil)))) (pss_one (ps_if (pt_cmpR op_gt (pe_op op_mul (pv 5) (pv 1)) (pe_op op_mul (pe_ix ix_seq (pv 4) (pe_int) (fun _ _ => rfl)) (pv 1)) (nomark _)) (pss_one (ps_set (i := 4) sc_extreme_of.nd rfl (by first | exact Or.inl rfl | exact Or.inr rfl) (pe_tup (pa_cons (pv 5) (pa_cons (pv 6) (pa_nil)))))) (pss_nil)))) (pss_one (ps_ret (pv 4))))))
abbrev s_Room___init__ : Stmt := inClass (top 20) 0
theorem sc_Room___init__ : FnScope ["self", "weather", "heater", "start", "on"] ["self", "weather", "heater", "start", "on"] (defScope s_Room___init__) := ⟨rfl, rfl, rfl, by decide +kernel, rfl, by decide +kernel, by decide +kernel⟩
theorem len_Room_init {vs : List V} {H : Hp} {Q : VK} {E : XK} (h : sp_Room_init K A vs H Q E) : vs.length = 5 := by
  unfold sp_Room_init at h
  repeat (first | (obtain ⟨rfl, _⟩ := h; rfl) | obtain ⟨_, h⟩ := h)
theorem ok_Room_init {f : Addr} {fd : FuncData} (F : FunD K "__init__" "Room.__init__" (defArgs s_Room___init__) (defBody s_Room___init__) (defScope s_Room___init__) [] [("on", .bl false)] f fd) (hcx : NoE CX) (b : Blt mg) (c_validate_number : CalR A.P A.w K mg base CX 1 "validate_number" (sp_validate_number K A)) (k_MAX_DEGREES : ∃ u, mg "MAX_DEGREES" = some u ∧ RelV (.int 1000000000000) u) (n_History : MakR A.P A.w K mg base CX 4 "History" A.cHistory (sp_History_init K A)) (p_Weather_changes : PrpR A.P A.w K mg base CX 1 A.cWeather "changes" (sp_Weather_changes K A)) (p_Heater_gain : PrpR A.P A.w K mg base CX 1 A.cHeater "gain" (sp_Heater_gain K A)) (p_Heater_low : PrpR A.P A.w K mg base CX 1 A.cHeater "low" (sp_Heater_low K A)) (p_Heater_high : PrpR A.P A.w K mg base CX 1 A.cHeater "high" (sp_Heater_high K A)) (c_repetition_of : CalR A.P A.w K mg base CX 2 "repetition_of" (sp_repetition_of K A)) (c_share_of : CalR A.P A.w K mg base CX 2 "share_of" (sp_share_of K A)) (c_extreme_of : CalR A.P A.w K mg base CX 3 "extreme_of" (sp_extreme_of K A)) : FnOk A.P A.w K mg base CX 6 f fd ["self", "weather", "heater", "start", "on"] (sp_Room_init K A) := by
  refine okD F sc_Room___init__ (fun vs H Q E h => len_Room_init h) (fun cdv A' outer s H vs Q E hr h => ⟨t_Room_init K A, ?_, pure_Room_init vs H Q E h⟩)
  exact pss_cons (ps_expr ((pe_cR c_validate_number hr (by decide) (hcx _) (by rfl) (pa_cons (pv 3) (pa_cons (pe_op op_sub (pe_int) ((C8.pe_gc (by rfl) k_MAX_DEGREES))) (pa_cons ((C8.pe_gc (by rfl) k_MAX_DEGREES)) (pa_nil))))))) (pss_cons (ps_fld (pv 0) (pv 1) rfl) (pss_cons (ps_fld (pv 0) (pv 2) rfl) (pss_cons (ps_fld (pv 0) (pv 3) rfl) (pss_cons (ps_fld (pv 0) ((pe_mkR n_History hr (by decide) (hcx _) (by rfl) (pa_cons ((pe_prR p_Weather_changes hr (by decide) (hcx _) (pv 1))) (pa_cons ((pe_prR p_Heater_gain hr (by decide) (hcx _) (pv 2))) (pa_cons ((pe_prR p_Heater_low hr (by decide) (hcx _) (pv 2))) (pa_cons ((pe_prR p_Heater_high hr (by decide) (hcx _) (pv 2))) (pa_cons (pv 3) (pa_cons (pv 4) (pa_nil))))))))) rfl) (pss_cons (ps_fld (pv 0) ((pe_cR c_repetition_of hr (by decide) (hcx _) (by rfl) (pa_cons (pe_fld (pv 0) rfl) (pa_nil)))) rfl) (pss_cons (ps_fld (pv 0) ((pe_cR c_share_of hr (by decide) (hcx _) (by rfl) (pa_cons (pe_fld (pv 0) rfl) (pa_nil)))) rfl) (pss_cons (ps_fld (pv 0) ((pe_cR c_extreme_of hr (by decide) (hcx _) (by rfl) (pa_cons (pe_fld (pv 0) rfl) (pa_cons (pe_un un_neg (pe_int)) (pa_nil))))) rfl) (pss_one (ps_fld (pv 0) ((pe_cR c_extreme_of hr (by decide) (hcx _) (by rfl) (pa_cons (pe_fld (pv 0) rfl) (pa_cons (pe_int) (pa_nil))))) rfl)))))))))
abbrev s_Heater___init__ : Stmt := inClass (top 19) 0
theorem sc_Heater___init__ : FnScope ["self", "gain", "low", "high"] ["self", "gain", "low", "high"] (defScope s_Heater___init__) := ⟨rfl, rfl, rfl, by decide +kernel, rfl, by decide +kernel, by decide +kernel⟩
theorem len_Heater_init {vs : List V} {H : Hp} {Q : VK} {E : XK} (h : sp_Heater_init K A vs H Q E) : vs.length = 4 := by
  unfold sp_Heater_init at h
  repeat (first | (obtain ⟨rfl, _⟩ := h; rfl) | obtain ⟨_, h⟩ := h)
theorem ok_Heater_init {f : Addr} {fd : FuncData} (F : FunD K "__init__" "Heater.__init__" (defArgs s_Heater___init__) (defBody s_Heater___init__) (defScope s_Heater___init__) [] [] f fd) (hcx : NoE CX) (b : Blt mg) (k_MAX_GAIN : ∃ u, mg "MAX_GAIN" = some u ∧ RelV (.int 200) u) (k_MAX_DEGREES : ∃ u, mg "MAX_DEGREES" = some u ∧ RelV (.int 1000000000000) u) : FnOk A.P A.w K mg base CX 1 f fd ["self", "gain", "low", "high"] (sp_Heater_init K A) := by
  refine okD F sc_Heater___init__ (fun vs H Q E h => len_Heater_init h) (fun cdv A' outer s H vs Q E hr h => ⟨t_Heater_init K A, ?_, pure_Heater_init vs H Q E h⟩)
  exact pss_cons (ps_if (PW.pt (pw_or (pt_not (pt_chain op_le op_le (pe_int) (pv 1) ((C8.pe_gc (by rfl) k_MAX_GAIN)))) (pw_or1 (pt_not (pt_chain3 op_le op_le op_le (pe_op op_sub (pe_int) ((C8.pe_gc (by rfl) k_MAX_DEGREES))) (pv 2) (pv 3) ((C8.pe_gc (by rfl) k_MAX_DEGREES))))))) (pss_one (ps_never)) (pss_nil)) (pss_cons (ps_fld (pv 0) (pv 1) rfl) (pss_cons (ps_fld (pv 0) (pv 2) rfl) (pss_one (ps_fld (pv 0) (pv 3) rfl))))
abbrev s_Setting_thresholds : Stmt := inClass (top 28) 2
theorem sc_Setting_thresholds : FnScope ["self", "tick"] ["self", "tick"] (defScope s_Setting_thresholds) := ⟨rfl, rfl, rfl, by decide +kernel, rfl, by decide +kernel, by decide +kernel⟩
theorem len_Setting_thresholds {vs : List V} {H : Hp} {Q : VK} {E : XK} (h : sp_Setting_thresholds K A vs H Q E) : vs.length = 2 := by
  unfold sp_Setting_thresholds at h
  repeat (first | (obtain ⟨rfl, _⟩ := h; rfl) | obtain ⟨_, h⟩ := h)
theorem ok_Setting_thresholds {f : Addr} {fd : FuncData} (F : FunD K "thresholds" "Setting.thresholds" (defArgs s_Setting_thresholds) (defBody s_Setting_thresholds) (defScope s_Setting_thresholds) [] [] f fd) (hcx : NoE CX) (b : Blt mg)  : FnOk A.P A.w K mg base CX 1 f fd ["self", "tick"] (sp_Setting_thresholds K A) := by
  refine okD F sc_Setting_thresholds (fun vs H Q E h => len_Setting_thresholds h) (fun cdv A' outer s H vs Q E hr h => ⟨t_Setting_thresholds K A, ?_, pure_Setting_thresholds vs H Q E h⟩)
  exact pss_one (ps_ret (pe_tup (pa_cons (pe_fld (pv 0) rfl) (pa_cons (pe_fld (pv 0) rfl) (pa_nil)))))
abbrev s_HourSetting_thresholds : Stmt := inClass (top 29) 3
theorem sc_HourSetting_thresholds : NdefX.NScope ["self", "tick", "__class__", "found", "begin", "low", "high"] ["self", "tick"] ["__class__"] (defScope s_HourSetting_thresholds) := NdefX.nscope_by (by decide +kernel)
theorem len_HourSetting_thresholds {vs : List V} {H : Hp} {Q : VK} {E : XK} (h : sp_HourSetting_thresholds K A vs H Q E) : vs.length = 2 := by
  unfold sp_HourSetting_thresholds at h
  repeat (first | (obtain ⟨rfl, _⟩ := h; rfl) | obtain ⟨_, h⟩ := h)
theorem ok_HourSetting_thresholds {f cc c : Addr} {fd : FuncData} (F : FunS A.P K "thresholds" "HourSetting.thresholds" s_HourSetting_thresholds [] f A.cHourSetting cc c fd) (hcx : NoE CX) (b : Blt mg) (hsu : mg "super" = none) (su_HourSetting_thresholds : SupR A.P A.w K mg base CX 1 A.cHourSetting "thresholds" (sp_Setting_thresholds K A)) : FnOk A.P A.w K mg base CX 2 f fd ["self", "tick"] (sp_HourSetting_thresholds K A) := by
  refine okS F sc_HourSetting_thresholds (fun vs H Q E h => len_HourSetting_thresholds h) (fun A' outer s H vs Q E hr h => ⟨t_HourSetting_thresholds K A, QSs.nox ?_, pure_HourSetting_thresholds vs H Q E h⟩)
  exact qss_cons (qs_set (i := 3) sc_HourSetting_thresholds.nd rfl (by first | exact Or.inl rfl | exact Or.inr rfl) (qe_sup F su_HourSetting_thresholds hr (by decide) (hcx _) (pa_cons (pv 1) (pa_nil)) hsu rfl rfl rfl rfl rfl)) (qss_cons (qs_of (ps_for PassesOwn.never rfl (pi_tup (pe_fld (pv 0) rfl)) (pg_tup rfl (pgs_cons (pg_name (i := 4) sc_HourSetting_thresholds.nd rfl (by first | exact Or.inl rfl | exact Or.inr rfl)) (pgs_cons (pg_name (i := 5) sc_HourSetting_thresholds.nd rfl (by first | exact Or.inl rfl | exact Or.inr rfl)) (pgs_cons (pg_name (i := 6) sc_HourSetting_thresholds.nd rfl (by first | exact Or.inl rfl | exact Or.inr rfl)) (pgs_nil))))) (pss_one (ps_if (pt_cmpR op_le (pv 4) (pe_op op_mod ((pe_callTy call_int1 (by rfl) b.n_int (by decide +kernel) (pa_cons (pv 1) (pa_nil)))) (pe_fld (pv 0) rfl)) (nomark _)) (pss_one (ps_set (i := 3) sc_HourSetting_thresholds.nd rfl (by first | exact Or.inl rfl | exact Or.inr rfl) (pe_tup (pa_cons (pv 5) (pa_cons (pv 6) (pa_nil)))))) (pss_nil))))) (qss_cons (qs_of (ps_ret (pv 3))) (qss_of pss_nil)))
abbrev s_Setting_may_switch : Stmt := inClass (top 28) 3
theorem sc_Setting_may_switch : FnScope ["self", "since"] ["self", "since"] (defScope s_Setting_may_switch) := ⟨rfl, rfl, rfl, by decide +kernel, rfl, by decide +kernel, by decide +kernel⟩
theorem len_Setting_may_switch {vs : List V} {H : Hp} {Q : VK} {E : XK} (h : sp_Setting_may_switch K A vs H Q E) : vs.length = 2 := by
  unfold sp_Setting_may_switch at h
  repeat (first | (obtain ⟨rfl, _⟩ := h; rfl) | obtain ⟨_, h⟩ := h)
theorem ok_Setting_may_switch {f : Addr} {fd : FuncData} (F : FunD K "may_switch" "Setting.may_switch" (defArgs s_Setting_may_switch) (defBody s_Setting_may_switch) (defScope s_Setting_may_switch) [] [] f fd) (hcx : NoE CX) (b : Blt mg)  : FnOk A.P A.w K mg base CX 1 f fd ["self", "since"] (sp_Setting_may_switch K A) := by
  refine okD F sc_Setting_may_switch (fun vs H Q E h => len_Setting_may_switch h) (fun cdv A' outer s H vs Q E hr h => ⟨t_Setting_may_switch K A, ?_, pure_Setting_may_switch vs H Q E h⟩)
  exact pss_one (ps_ret (pe_bl))
abbrev s_RestSetting_may_switch : Stmt := inClass (top 30) 2
theorem sc_RestSetting_may_switch : FnScope ["self", "since"] ["self", "since"] (defScope s_RestSetting_may_switch) := ⟨rfl, rfl, rfl, by decide +kernel, rfl, by decide +kernel, by decide +kernel⟩
theorem len_RestSetting_may_switch {vs : List V} {H : Hp} {Q : VK} {E : XK} (h : sp_RestSetting_may_switch K A vs H Q E) : vs.length = 2 := by
  unfold sp_RestSetting_may_switch at h
  repeat (first | (obtain ⟨rfl, _⟩ := h; rfl) | obtain ⟨_, h⟩ := h)
theorem ok_RestSetting_may_switch {f : Addr} {fd : FuncData} (F : FunD K "may_switch" "RestSetting.may_switch" (defArgs s_RestSetting_may_switch) (defBody s_RestSetting_may_switch) (defScope s_RestSetting_may_switch) [] [] f fd) (hcx : NoE CX) (b : Blt mg)  : FnOk A.P A.w K mg base CX 1 f fd ["self", "since"] (sp_RestSetting_may_switch K A) := by
  refine okD F sc_RestSetting_may_switch (fun vs H Q E h => len_RestSetting_may_switch h) (fun cdv A' outer s H vs Q E hr h => ⟨t_RestSetting_may_switch K A, ?_, pure_RestSetting_may_switch vs H Q E h⟩)
  exact pss_one (ps_ret (pe_or (pe_cmpR op_isN1 (pv 1) (pe_non) (nomark _)) (pe_one (pe_cmpR op_gt (pv 1) (pe_fld (pv 0) rfl) (nomark _)))))
abbrev s_Setting___call__ : Stmt := inClass (top 28) 4
theorem sc_Setting___call__ : FnScope ["self", "tick", "warmth", "on", "since", "low", "high", "wanted"] ["self", "tick", "warmth", "on", "since"] (defScope s_Setting___call__) := ⟨rfl, rfl, rfl, by decide +kernel, rfl, by decide +kernel, by decide +kernel⟩
theorem len_Setting___call {vs : List V} {H : Hp} {Q : VK} {E : XK} (h : sp_Setting___call K A vs H Q E) : vs.length = 5 := by
  unfold sp_Setting___call at h
  repeat (first | (obtain ⟨rfl, _⟩ := h; rfl) | obtain ⟨_, h⟩ := h)
theorem ok_Setting___call {f : Addr} {fd : FuncData} (F : FunD K "__call__" "Setting.__call__" (defArgs s_Setting___call__) (defBody s_Setting___call__) (defScope s_Setting___call__) [] [] f fd) (hcx : NoE CX) (b : Blt mg) (m_Setting_thresholds : MetR A.P A.w K mg base CX 1 A.cSetting "thresholds" (sp_Setting_thresholds K A)) (m_HourSetting_thresholds : MetR A.P A.w K mg base CX 2 A.cHourSetting "thresholds" (sp_HourSetting_thresholds K A)) (m_RestSetting_thresholds : MetR A.P A.w K mg base CX 1 A.cRestSetting "thresholds" (sp_Setting_thresholds K A)) (m_Setting_may_switch : MetR A.P A.w K mg base CX 1 A.cSetting "may_switch" (sp_Setting_may_switch K A)) (m_HourSetting_may_switch : MetR A.P A.w K mg base CX 1 A.cHourSetting "may_switch" (sp_Setting_may_switch K A)) (m_RestSetting_may_switch : MetR A.P A.w K mg base CX 1 A.cRestSetting "may_switch" (sp_RestSetting_may_switch K A)) : FnOk A.P A.w K mg base CX 3 f fd ["self", "tick", "warmth", "on", "since"] (sp_Setting___call K A) := by
  refine okD F sc_Setting___call__ (fun vs H Q E h => len_Setting___call h) (fun cdv A' outer s H vs Q E hr h => ⟨t_Setting___call K A, ?_, pure_Setting___call vs H Q E h⟩)
  exact pss_cons (ps_asg ((pe_mtR3 m_Setting_thresholds m_HourSetting_thresholds m_RestSetting_thresholds hr (by decide) (by decide) (by decide) (hcx _) (pv 0) (pa_cons (pv 1) (pa_nil)))) (pg_tup rfl (pgs_cons (pg_name (i := 5) sc_Setting___call__.nd rfl (by first | exact Or.inl rfl | exact Or.inr rfl)) (pgs_cons (pg_name (i := 6) sc_Setting___call__.nd rfl (by first | exact Or.inl rfl | exact Or.inr rfl)) (pgs_nil))))) (pss_cons (ps_set (i := 7) sc_Setting___call__.nd rfl (by first | exact Or.inl rfl | exact Or.inr rfl) (pe_or (pe_cmpR op_lt (pv 2) (pv 5) (nomark _)) (pe_one (pe_and (pv 3) (pe_one (pe_cmpR op_le (pv 2) (pv 6) (nomark _))))))) (pss_cons (ps_if (PW.pt (pw_and (pt_cmpR op_ne (pv 7) (pv 3) (nomark _)) (pw_and1 (pt_not (pt_val ((pe_mtR3 m_Setting_may_switch m_HourSetting_may_switch m_RestSetting_may_switch hr (by decide) (by decide) (by decide) (hcx _) (pv 0) (pa_cons (pv 4) (pa_nil))))))))) (pss_one (ps_ret (pv 3))) (pss_nil)) (pss_one (ps_ret (pv 7)))))
abbrev s_Weather___getitem__ : Stmt := inClass (top 14) 6
theorem sc_Weather___getitem__ : FnScope ["self", "tick"] ["self", "tick"] (defScope s_Weather___getitem__) := ⟨rfl, rfl, rfl, by decide +kernel, rfl, by decide +kernel, by decide +kernel⟩
theorem len_Weather___getitem {vs : List V} {H : Hp} {Q : VK} {E : XK} (h : sp_Weather___getitem K A vs H Q E) : vs.length = 2 := by
  unfold sp_Weather___getitem at h
  repeat (first | (obtain ⟨rfl, _⟩ := h; rfl) | obtain ⟨_, h⟩ := h)
theorem ok_Weather___getitem {f : Addr} {fd : FuncData} (F : FunD K "__getitem__" "Weather.__getitem__" (defArgs s_Weather___getitem__) (defBody s_Weather___getitem__) (defScope s_Weather___getitem__) [] [] f fd) (hcx : NoE CX) (b : Blt mg) (c_validate_number : CalR A.P A.w K mg base CX 1 "validate_number" (sp_validate_number K A)) (k_MAX_TICK : ∃ u, mg "MAX_TICK" = some u ∧ RelV (.int 1000000000000000000) u) : FnOk A.P A.w K mg base CX 2 f fd ["self", "tick"] (sp_Weather___getitem K A) := by
  refine okD F sc_Weather___getitem__ (fun vs H Q E h => len_Weather___getitem h) (fun cdv A' outer s H vs Q E hr h => ⟨t_Weather___getitem K A, ?_, pure_Weather___getitem vs H Q E h⟩)
  exact pss_cons (ps_expr ((pe_cR c_validate_number hr (by decide) (hcx _) (by rfl) (pa_cons (pv 1) (pa_cons (pe_int) (pa_cons ((C8.pe_gc (by rfl) k_MAX_TICK)) (pa_nil))))))) (pss_one (ps_ret (pe_ix ix_seq (pe_fld (pv 0) rfl) (pe_op op_mod ((pe_callTy call_int1 (by rfl) b.n_int (by decide +kernel) (pa_cons (pv 1) (pa_nil)))) ((pe_callB call_len (by rfl) b.n_len boot_len (pa_cons (pe_fld (pv 0) rfl) (pa_nil))))) (fun _ _ => rfl))))
abbrev s_watch : Stmt := top 31
theorem sc_watch : GScope ["weather", "gain", "setting", "start", "count", "warmth", "on", "since", "tick", "later"] ["weather", "gain", "setting", "start", "count"] (defScope s_watch) := ⟨rfl, rfl, rfl, by decide +kernel, rfl, by decide +kernel, by decide +kernel⟩
theorem len_watch {vs : List V} {G : Hp} {Pi : Nat → V → Hp → Prop} {n : Nat} (h : sp_watch K A vs G Pi n) : vs.length = 5 := by
  unfold sp_watch at h
  repeat (first | (obtain ⟨rfl, _⟩ := h; rfl) | obtain ⟨_, h⟩ := h)
theorem ok_watch {f : Addr} {fd : FuncData} (F : FunD K "watch" "watch" (defArgs s_watch) (defBody s_watch) (defScope s_watch) [] [] f fd) (hcx : NoE CX) (b : Blt mg) (c_validate_number : CalR A.P A.w K mg base CX 1 "validate_number" (sp_validate_number K A)) (k_MAX_GAIN : ∃ u, mg "MAX_GAIN" = some u ∧ RelV (.int 200) u) (k_MAX_DEGREES : ∃ u, mg "MAX_DEGREES" = some u ∧ RelV (.int 1000000000000) u) (k_MAX_WATCHED : ∃ u, mg "MAX_WATCHED" = some u ∧ RelV (.int 10000) u) (d_Setting___call__ : DunR A.P A.w K mg base CX 3 A.cSetting "__call__" (sp_Setting___call K A)) (d_HourSetting___call__ : DunR A.P A.w K mg base CX 3 A.cHourSetting "__call__" (sp_Setting___call K A)) (d_RestSetting___call__ : DunR A.P A.w K mg base CX 3 A.cRestSetting "__call__" (sp_Setting___call K A)) (d_Weather___getitem__ : DunR A.P A.w K mg base CX 2 A.cWeather "__getitem__" (sp_Weather___getitem K A)) : GFn2 A.P A.w K mg base 4 f fd ["weather", "gain", "setting", "start", "count"] (sp_watch K A) := by
  refine okW F sc_watch (by decide +kernel) (fun vs G Pi n h => len_watch h) (fun cdv A' outer N0 pn vs G Pi n hr hS h => ⟨t_watch K A G Pi, ?_, pure_watch vs G Pi n h⟩)
  exact gss2_cons (gs2_ps (fun _ => ps_expr ((pe_cR c_validate_number hr (by decide) (hcx _) (by rfl) (pa_cons (pv 1) (pa_cons (pe_int) (pa_cons ((C8.pe_gc (by rfl) k_MAX_GAIN)) (pa_nil)))))))) (gss2_cons (gs2_ps (fun _ => ps_expr ((pe_cR c_validate_number hr (by decide) (hcx _) (by rfl) (pa_cons (pv 3) (pa_cons (pe_op op_sub (pe_int) ((C8.pe_gc (by rfl) k_MAX_DEGREES))) (pa_cons ((C8.pe_gc (by rfl) k_MAX_DEGREES)) (pa_nil)))))))) (gss2_cons (gs2_ps (fun _ => ps_expr ((pe_cR c_validate_number hr (by decide) (hcx _) (by rfl) (pa_cons (pv 4) (pa_cons (pe_int) (pa_cons ((C8.pe_gc (by rfl) k_MAX_WATCHED)) (pa_nil)))))))) (gss2_cons (gs2_ps (fun _ => ps_par3 (i := 5) (j := 6) (l := 7) rfl sc_watch.nd rfl rfl rfl (by decide) (by decide) (by decide) rfl rfl rfl (pa_cons (pv 3) (pa_cons (pe_bl) (pa_cons (pe_non) (pa_nil)))) (by rfl))) (gss2_cons (gs2_for (fun _ => pi2_range1 (by rfl) b.n_range (pa_cons (pv 4) (pa_nil))) (fun _ => pg_name (i := 8) sc_watch.nd rfl (by first | exact Or.inl rfl | exact Or.inr rfl)) (gss2_cons (gs2_ps (fun _ => ps_ifW (ptw_cmp op_ne (pew_named (i := 9) sc_watch.nd rfl (by first | exact Or.inl rfl | exact Or.inr rfl) (pew_of ((pe_call3 d_Setting___call__ d_HourSetting___call__ d_RestSetting___call__ hr (by decide) (by decide) (by decide) (hcx _) rfl (by first | exact Or.inl rfl | exact Or.inr (Or.inl rfl) | exact Or.inr (Or.inr rfl)) (pa_cons (pv 8) (pa_cons (pv 5) (pa_cons (pv 6) (pa_cons (pv 7) (pa_nil))))))))) (pv 6) (nomark _)) (pss_one (ps_par (i := 6) (j := 7) rfl sc_watch.nd rfl rfl (by decide) rfl rfl (pa_cons (pv 9) (pa_cons (pe_int) (pa_nil))) (by rfl))) (pss_nil))) (gss2_cons (gs2_yield (fun _ => pe_tup (pa_cons (pv 5) (pa_cons (pv 6) (pa_nil))))) (gss2_cons (gs2_ps (fun _ => ps_aug (i := 5) sc_watch.nd rfl (by first | exact Or.inl rfl | exact Or.inr rfl) (pe_op op_add (pe_ixOwn d_Weather___getitem__ hr (by decide) (hcx _) (pv 0) (pv 8) (fun _ _ => rfl)) (pe_ifExp (pt_val (pv 6)) (pv 1) (pe_int))) ip_add)) (gss2_cons (gs2_ps (fun _ => ps_set (i := 7) sc_watch.nd rfl (by first | exact Or.inl rfl | exact Or.inr rfl) (pe_ifExp (pt_cmpR op_isN1 (pv 7) (pe_non) (nomark _)) (pe_non) (pe_op op_add (pv 7) (pe_int))))) (gss2_nil)))))) (gss2_nil)))))
abbrev s_is_range : Stmt := top 27
theorem sc_is_range : FnScope ["low", "high"] ["low", "high"] (defScope s_is_range) := ⟨rfl, rfl, rfl, by decide +kernel, rfl, by decide +kernel, by decide +kernel⟩
theorem len_is_range {vs : List V} {H : Hp} {Q : VK} {E : XK} (h : sp_is_range K A vs H Q E) : vs.length = 2 := by
  unfold sp_is_range at h
  repeat (first | (obtain ⟨rfl, _⟩ := h; rfl) | obtain ⟨_, h⟩ := h)
theorem ok_is_range {f : Addr} {fd : FuncData} (F : FunD K "is_range" "is_range" (defArgs s_is_range) (defBody s_is_range) (defScope s_is_range) [] [] f fd) (hcx : NoE CX) (b : Blt mg) (k_MAX_DEGREES : ∃ u, mg "MAX_DEGREES" = some u ∧ RelV (.int 1000000000000) u) : FnOk A.P A.w K mg base CX 1 f fd ["low", "high"] (sp_is_range K A) := by
  refine okD F sc_is_range (fun vs H Q E h => len_is_range h) (fun cdv A' outer s H vs Q E hr h => ⟨t_is_range K A, ?_, pure_is_range vs H Q E h⟩)
  exact pss_one (ps_ret (pe_chain3 op_le op_le op_le (pe_op op_sub (pe_int) ((C8.pe_gc (by rfl) k_MAX_DEGREES))) (pv 0) (pv 1) ((C8.pe_gc (by rfl) k_MAX_DEGREES))))
abbrev s_Setting___init__ : Stmt := inClass (top 28) 1
theorem sc_Setting___init__ : FnScope ["self", "low", "high"] ["self", "low", "high"] (defScope s_Setting___init__) := ⟨rfl, rfl, rfl, by decide +kernel, rfl, by decide +kernel, by decide +kernel⟩
theorem len_Setting_init {vs : List V} {H : Hp} {Q : VK} {E : XK} (h : sp_Setting_init K A vs H Q E) : vs.length = 3 := by
  unfold sp_Setting_init at h
  repeat (first | (obtain ⟨rfl, _⟩ := h; rfl) | obtain ⟨_, h⟩ := h)
theorem ok_Setting_init {f : Addr} {fd : FuncData} (F : FunD K "__init__" "Setting.__init__" (defArgs s_Setting___init__) (defBody s_Setting___init__) (defScope s_Setting___init__) [] [] f fd) (hcx : NoE CX) (b : Blt mg) (c_is_range : CalR A.P A.w K mg base CX 1 "is_range" (sp_is_range K A)) : FnOk A.P A.w K mg base CX 2 f fd ["self", "low", "high"] (sp_Setting_init K A) := by
  refine okD F sc_Setting___init__ (fun vs H Q E h => len_Setting_init h) (fun cdv A' outer s H vs Q E hr h => ⟨t_Setting_init K A, ?_, pure_Setting_init vs H Q E h⟩)
  exact pss_cons (ps_if (pt_not (pt_val ((pe_cR c_is_range hr (by decide) (hcx _) (by rfl) (pa_cons (pv 1) (pa_cons (pv 2) (pa_nil))))))) (pss_one (ps_never)) (pss_nil)) (pss_cons (ps_fld (pv 0) (pv 1) rfl) (pss_one (ps_fld (pv 0) (pv 2) rfl)))
abbrev s_History_wrapped : Stmt := inClass (top 9) 4
theorem sc_History_wrapped : FnScope ["self", "tick", "turns"] ["self", "tick"] (defScope s_History_wrapped) := ⟨rfl, rfl, rfl, by decide +kernel, rfl, by decide +kernel, by decide +kernel⟩
theorem len_History_wrapped {vs : List V} {H : Hp} {Q : VK} {E : XK} (h : sp_History_wrapped K A vs H Q E) : vs.length = 2 := by
  unfold sp_History_wrapped at h
  repeat (first | (obtain ⟨rfl, _⟩ := h; rfl) | obtain ⟨_, h⟩ := h)
theorem ok_History_wrapped {f : Addr} {fd : FuncData} (F : FunD K "wrapped" "History.wrapped" (defArgs s_History_wrapped) (defBody s_History_wrapped) (defScope s_History_wrapped) [] [] f fd) (hcx : NoE CX) (b : Blt mg) (m_History_circle : MetR A.P A.w K mg base CX 1 A.cHistory "circle" (sp_History_circle K A)) : FnOk A.P A.w K mg base CX 2 f fd ["self", "tick"] (sp_History_wrapped K A) := by
  refine okD F sc_History_wrapped (fun vs H Q E h => len_History_wrapped h) (fun cdv A' outer s H vs Q E hr h => ⟨t_History_wrapped K A, ?_, pure_History_wrapped vs H Q E h⟩)
  exact pss_cons (ps_if (PW.pt (pw_or (pt_cmpR op_isN1 (pe_fld (pv 0) rfl) (pe_non) (nomark _)) (pw_or1 (pt_cmpR op_lt (pv 1) (pe_fld (pe_ix ix_seq (pe_fld (pv 0) rfl) (pe_un un_neg (pe_int)) (fun _ _ => rfl)) rfl) (nomark _))))) (pss_one (ps_ret (pe_tup (pa_cons (pe_int) (pa_cons (pv 1) (pa_nil)))))) (pss_nil)) (pss_cons (ps_set (i := 2) sc_History_wrapped.nd rfl (by first | exact Or.inl rfl | exact Or.inr rfl) (pe_op op_fdivW (pe_op op_sub (pv 1) (pe_fld (pe_ix ix_seq (pe_fld (pv 0) rfl) (pe_fld (pv 0) rfl) (fun _ _ => rfl)) rfl)) ((pe_mt0R m_History_circle hr (by decide) (hcx _) (pv 0))))) (pss_one (ps_ret (pe_tup (pa_cons (pv 2) (pa_cons (pe_op op_sub (pv 1) (pe_op op_mul (pv 2) ((pe_mt0R m_History_circle hr (by decide) (hcx _) (pv 0))))) (pa_nil)))))))
abbrev s_History_run_at : Stmt := inClass (top 9) 5
theorem sc_History_run_at : FnScope ["self", "tick", "low", "high", "middle"] ["self", "tick"] (defScope s_History_run_at) := ⟨rfl, rfl, rfl, by decide +kernel, rfl, by decide +kernel, by decide +kernel⟩
theorem len_History_run_at {vs : List V} {H : Hp} {Q : VK} {E : XK} (h : sp_History_run_at K A vs H Q E) : vs.length = 2 := by
  unfold sp_History_run_at at h
  repeat (first | (obtain ⟨rfl, _⟩ := h; rfl) | obtain ⟨_, h⟩ := h)
theorem ok_History_run_at {f : Addr} {fd : FuncData} (F : FunD K "run_at" "History.run_at" (defArgs s_History_run_at) (defBody s_History_run_at) (defScope s_History_run_at) [] [] f fd) (hcx : NoE CX) (b : Blt mg)  : FnOk A.P A.w K mg base CX 1 f fd ["self", "tick"] (sp_History_run_at K A) := by
  refine okD F sc_History_run_at (fun vs H Q E h => len_History_run_at h) (fun cdv A' outer s H vs Q E hr h => ⟨t_History_run_at K A, ?_, pure_History_run_at vs H Q E h⟩)
  exact pss_cons (ps_par (i := 2) (j := 3) rfl sc_History_run_at.nd rfl rfl (by decide) rfl rfl (pa_cons (pe_int) (pa_cons ((pe_callB call_len (by rfl) b.n_len boot_len (pa_cons (pe_fld (pv 0) rfl) (pa_nil)))) (pa_nil))) (by rfl)) (pss_cons (ps_while PassesOwn.never (pt_cmpR op_gt (pe_op op_sub (pv 3) (pv 2)) (pe_int) (nomark _)) (pss_cons (ps_set (i := 4) sc_History_run_at.nd rfl (by first | exact Or.inl rfl | exact Or.inr rfl) (pe_op op_fdivW (pe_op op_add (pv 2) (pv 3)) (pe_int))) (pss_one (ps_if (pt_cmpR op_le (pe_fld (pe_ix ix_seq (pe_fld (pv 0) rfl) (pv 4) (fun _ _ => rfl)) rfl) (pv 1) (nomark _)) (pss_one (ps_set (i := 2) sc_History_run_at.nd rfl (by first | exact Or.inl rfl | exact Or.inr rfl) (pv 4))) (pss_one (ps_set (i := 3) sc_History_run_at.nd rfl (by first | exact Or.inl rfl | exact Or.inr rfl) (pv 4))))))) (pss_one (ps_ret (pe_ix ix_seq (pe_fld (pv 0) rfl) (pv 2) (fun _ _ => rfl)))))
abbrev s_Room_temperature : Stmt := inClass (top 20) 4
theorem sc_Room_temperature : FnScope ["self", "tick", "place"] ["self", "tick"] (defScope s_Room_temperature) := ⟨rfl, rfl, rfl, by decide +kernel, rfl, by decide +kernel, by decide +kernel⟩
theorem len_Room_temperature {vs : List V} {H : Hp} {Q : VK} {E : XK} (h : sp_Room_temperature K A vs H Q E) : vs.length = 2 := by
  unfold sp_Room_temperature at h
  repeat (first | (obtain ⟨rfl, _⟩ := h; rfl) | obtain ⟨_, h⟩ := h)
theorem ok_Room_temperature {f : Addr} {fd : FuncData} (F : FunD K "temperature" "Room.temperature" (defArgs s_Room_temperature) (defBody s_Room_temperature) (defScope s_Room_temperature) [] [] f fd) (hcx : NoE CX) (b : Blt mg) (c_validate_number : CalR A.P A.w K mg base CX 1 "validate_number" (sp_validate_number K A)) (k_MAX_TICK : ∃ u, mg "MAX_TICK" = some u ∧ RelV (.int 1000000000000000000) u) (m_History_wrapped : MetR A.P A.w K mg base CX 2 A.cHistory "wrapped" (sp_History_wrapped K A)) (m_Run_at : MetR A.P A.w K mg base CX 1 A.cRun "at" (sp_Run_at K A)) (m_History_run_at : MetR A.P A.w K mg base CX 1 A.cHistory "run_at" (sp_History_run_at K A)) : FnOk A.P A.w K mg base CX 3 f fd ["self", "tick"] (sp_Room_temperature K A) := by
  refine okD F sc_Room_temperature (fun vs H Q E h => len_Room_temperature h) (fun cdv A' outer s H vs Q E hr h => ⟨t_Room_temperature K A, ?_, pure_Room_temperature vs H Q E h⟩)
  exact pss_cons (ps_expr ((pe_cR c_validate_number hr (by decide) (hcx _) (by rfl) (pa_cons (pv 1) (pa_cons (pe_int) (pa_cons ((C8.pe_gc (by rfl) k_MAX_TICK)) (pa_nil))))))) (pss_cons (ps_set (i := 2) sc_Room_temperature.nd rfl (by first | exact Or.inl rfl | exact Or.inr rfl) (pe_ix ix_seq ((pe_mtR m_History_wrapped hr (by decide) (hcx _) (pe_fld (pv 0) rfl) (pa_cons (pv 1) (pa_nil)))) (pe_int) (fun _ _ => rfl))) (pss_one (ps_ret ((pe_mtR m_Run_at hr (by decide) (hcx _) ((pe_mtR m_History_run_at hr (by decide) (hcx _) (pe_fld (pv 0) rfl) (pa_cons (pv 2) (pa_nil)))) (pa_cons (pv 2) (pa_nil)))))))
abbrev s_Room_temperatures : Stmt := inClass (top 20) 6
theorem sc_Room_temperatures : GScope ["self", "first", "last", "tick"] ["self", "first", "last"] (defScope s_Room_temperatures) := ⟨rfl, rfl, rfl, by decide +kernel, rfl, by decide +kernel, by decide +kernel⟩
theorem len_Room_temperatures_w {vs : List V} {G : Hp} {Pi : Nat → V → Hp → Prop} {n : Nat} (h : sp_Room_temperatures_w K A vs G Pi n) : vs.length = 3 := by
  unfold sp_Room_temperatures_w at h
  repeat (first | (obtain ⟨rfl, _⟩ := h; rfl) | obtain ⟨_, h⟩ := h)
theorem ok_Room_temperatures_w {f : Addr} {fd : FuncData} (F : FunD K "temperatures" "Room.temperatures" (defArgs s_Room_temperatures) (defBody s_Room_temperatures) (defScope s_Room_temperatures) [] [] f fd) (hcx : NoE CX) (b : Blt mg) (c_validate_number : CalR A.P A.w K mg base CX 1 "validate_number" (sp_validate_number K A)) (k_MAX_TICK : ∃ u, mg "MAX_TICK" = some u ∧ RelV (.int 1000000000000000000) u) (k_MAX_LISTED : ∃ u, mg "MAX_LISTED" = some u ∧ RelV (.int 10000) u) (m_Room_temperature : MetR A.P A.w K mg base CX 3 A.cRoom "temperature" (sp_Room_temperature K A)) : GFn2 A.P A.w K mg base 4 f fd ["self", "first", "last"] (sp_Room_temperatures_w K A) := by
  refine okW F sc_Room_temperatures (by decide +kernel) (fun vs G Pi n h => len_Room_temperatures_w h) (fun cdv A' outer N0 pn vs G Pi n hr hS h => ⟨t_Room_temperatures_w K A G Pi, ?_, pure_Room_temperatures_w vs G Pi n h⟩)
  exact gss2_cons (gs2_ps (fun _ => ps_expr ((pe_cR c_validate_number hr (by decide) (hcx _) (by rfl) (pa_cons (pv 1) (pa_cons (pe_int) (pa_cons ((C8.pe_gc (by rfl) k_MAX_TICK)) (pa_nil)))))))) (gss2_cons (gs2_ps (fun _ => ps_expr ((pe_cR c_validate_number hr (by decide) (hcx _) (by rfl) (pa_cons (pv 2) (pa_cons (pv 1) (pa_cons ((pe_callB (call_min2 rfl) (by rfl) b.n_min (by decide +kernel) (pa_cons ((C8.pe_gc (by rfl) k_MAX_TICK)) (pa_cons (pe_op op_sub (pe_op op_add (pv 1) ((C8.pe_gc (by rfl) k_MAX_LISTED))) (pe_int)) (pa_nil))))) (pa_nil)))))))) (gss2_cons (gs2_for (fun _ => pi2_range2 (by rfl) b.n_range (pa_cons (pv 1) (pa_cons (pe_op op_add (pv 2) (pe_int)) (pa_nil)))) (fun _ => pg_name (i := 3) sc_Room_temperatures.nd rfl (by first | exact Or.inl rfl | exact Or.inr rfl)) (gss2_cons (gs2_yield (fun _ => (pe_mtR m_Room_temperature hr (by decide) (hcx _) (pv 0) (pa_cons (pv 3) (pa_nil))))) (gss2_nil))) (gss2_nil)))
abbrev s_Room_is_on : Stmt := inClass (top 20) 5
theorem sc_Room_is_on : FnScope ["self", "tick"] ["self", "tick"] (defScope s_Room_is_on) := ⟨rfl, rfl, rfl, by decide +kernel, rfl, by decide +kernel, by decide +kernel⟩
theorem len_Room_is_on {vs : List V} {H : Hp} {Q : VK} {E : XK} (h : sp_Room_is_on K A vs H Q E) : vs.length = 2 := by
  unfold sp_Room_is_on at h
  repeat (first | (obtain ⟨rfl, _⟩ := h; rfl) | obtain ⟨_, h⟩ := h)
theorem ok_Room_is_on {f : Addr} {fd : FuncData} (F : FunD K "is_on" "Room.is_on" (defArgs s_Room_is_on) (defBody s_Room_is_on) (defScope s_Room_is_on) [] [] f fd) (hcx : NoE CX) (b : Blt mg) (c_validate_number : CalR A.P A.w K mg base CX 1 "validate_number" (sp_validate_number K A)) (k_MAX_TICK : ∃ u, mg "MAX_TICK" = some u ∧ RelV (.int 1000000000000000000) u) (m_History_run_at : MetR A.P A.w K mg base CX 1 A.cHistory "run_at" (sp_History_run_at K A)) (m_History_wrapped : MetR A.P A.w K mg base CX 2 A.cHistory "wrapped" (sp_History_wrapped K A)) : FnOk A.P A.w K mg base CX 3 f fd ["self", "tick"] (sp_Room_is_on K A) := by
  refine okD F sc_Room_is_on (fun vs H Q E h => len_Room_is_on h) (fun cdv A' outer s H vs Q E hr h => ⟨t_Room_is_on K A, ?_, pure_Room_is_on vs H Q E h⟩)
  exact pss_cons (ps_expr ((pe_cR c_validate_number hr (by decide) (hcx _) (by rfl) (pa_cons (pv 1) (pa_cons (pe_int) (pa_cons ((C8.pe_gc (by rfl) k_MAX_TICK)) (pa_nil))))))) (pss_one (ps_ret (pe_fld ((pe_mtR m_History_run_at hr (by decide) (hcx _) (pe_fld (pv 0) rfl) (pa_cons (pe_ix ix_seq ((pe_mtR m_History_wrapped hr (by decide) (hcx _) (pe_fld (pv 0) rfl) (pa_cons (pv 1) (pa_nil)))) (pe_int) (fun _ _ => rfl)) (pa_nil)))) rfl)))
abbrev s_totals : Stmt := top 32
theorem sc_totals : FnScope ["weather", "gain", "setting", "start", "count", "heated", "switched", "coldest", "before", "warmth", "on"] ["weather", "gain", "setting", "start", "count"] (defScope s_totals) := ⟨rfl, rfl, rfl, by decide +kernel, rfl, by decide +kernel, by decide +kernel⟩
theorem len_totals {vs : List V} {H : Hp} {Q : VK} {E : XK} (h : sp_totals K A vs H Q E) : vs.length = 5 := by
  unfold sp_totals at h
  repeat (first | (obtain ⟨rfl, _⟩ := h; rfl) | obtain ⟨_, h⟩ := h)
theorem ok_totals {f : Addr} {fd : FuncData} (F : FunD K "totals" "totals" (defArgs s_totals) (defBody s_totals) (defScope s_totals) [] [] f fd) (hcx : NoE CX) (b : Blt mg) (cw_watch : CalW A.P A.w K mg base 4 "watch" (sp_watch K A)) : FnOk A.P A.w K mg base CX 7 f fd ["weather", "gain", "setting", "start", "count"] (sp_totals K A) := by
  refine okD F sc_totals (fun vs H Q E h => len_totals h) (fun cdv A' outer s H vs Q E hr h => ⟨t_totals K A, ?_, pure_totals vs H Q E h⟩)
  exact pss_cons (ps_asg (pe_tup (pa_cons (pe_int) (pa_cons (pe_int) (pa_cons (pe_non) (pa_cons (pe_bl) (pa_nil)))))) (pg_tup rfl (pgs_cons (pg_name (i := 5) sc_totals.nd rfl (by first | exact Or.inl rfl | exact Or.inr rfl)) (pgs_cons (pg_name (i := 6) sc_totals.nd rfl (by first | exact Or.inl rfl | exact Or.inr rfl)) (pgs_cons (pg_name (i := 7) sc_totals.nd rfl (by first | exact Or.inl rfl | exact Or.inr rfl)) (pgs_cons (pg_name (i := 8) sc_totals.nd rfl (by first | exact Or.inl rfl | exact Or.inr rfl)) (pgs_nil))))))) (pss_cons (ps_forG (fun _ _ z => z) rfl (hr.mono (by decide)) (pg_cl cw_watch hr (by decide) (by rfl) (pa_cons (pv 0) (pa_cons (pv 1) (pa_cons (pv 2) (pa_cons (pv 3) (pa_cons (pv 4) (pa_nil))))))) (pg_tup rfl (pgs_cons (pg_name (i := 9) sc_totals.nd rfl (by first | exact Or.inl rfl | exact Or.inr rfl)) (pgs_cons (pg_name (i := 10) sc_totals.nd rfl (by first | exact Or.inl rfl | exact Or.inr rfl)) (pgs_nil)))) (pss_cons (ps_par (i := 5) (j := 6) rfl sc_totals.nd rfl rfl (by decide) rfl rfl (pa_cons (pe_op op_add (pv 5) ((pe_callTy call_int1 (by rfl) b.n_int (by decide +kernel) (pa_cons (pv 10) (pa_nil))))) (pa_cons (pe_op op_add (pv 6) ((pe_callTy call_int1 (by rfl) b.n_int (by decide +kernel) (pa_cons (pe_cmpR op_ne (pv 10) (pv 8) (nomark _)) (pa_nil))))) (pa_nil))) (by rfl)) (pss_cons (ps_set (i := 8) sc_totals.nd rfl (by first | exact Or.inl rfl | exact Or.inr rfl) (pv 10)) (pss_one (ps_if (PW.pt (pw_or (pt_cmpR op_isN1 (pv 7) (pe_non) (nomark _)) (pw_or1 (pt_cmpR op_lt (pv 9) (pv 7) (nomark _))))) (pss_one (ps_set (i := 7) sc_totals.nd rfl (by first | exact Or.inl rfl | exact Or.inr rfl) (pv 9))) (pss_nil)))))) (pss_one (ps_ret (pe_tup (pa_cons (pv 5) (pa_cons (pv 6) (pa_cons (pv 7) (pa_nil))))))))
abbrev s_Room_heated_before : Stmt := inClass (top 20) 7
theorem sc_Room_heated_before : FnScope ["self", "tick", "total", "run"] ["self", "tick"] (defScope s_Room_heated_before) := ⟨rfl, rfl, rfl, by decide +kernel, rfl, by decide +kernel, by decide +kernel⟩
theorem len_Room_heated_before {vs : List V} {H : Hp} {Q : VK} {E : XK} (h : sp_Room_heated_before K A vs H Q E) : vs.length = 2 := by
  unfold sp_Room_heated_before at h
  repeat (first | (obtain ⟨rfl, _⟩ := h; rfl) | obtain ⟨_, h⟩ := h)
theorem ok_Room_heated_before {f : Addr} {fd : FuncData} (F : FunD K "heated_before" "Room.heated_before" (defArgs s_Room_heated_before) (defBody s_Room_heated_before) (defScope s_Room_heated_before) [] [] f fd) (hcx : NoE CX) (b : Blt mg)  : FnOk A.P A.w K mg base CX 1 f fd ["self", "tick"] (sp_Room_heated_before K A) := by
  refine okD F sc_Room_heated_before (fun vs H Q E h => len_Room_heated_before h) (fun cdv A' outer s H vs Q E hr h => ⟨t_Room_heated_before K A, ?_, pure_Room_heated_before vs H Q E h⟩)
  exact pss_cons (ps_set (i := 2) sc_Room_heated_before.nd rfl (by first | exact Or.inl rfl | exact Or.inr rfl) (pe_int)) (pss_cons (ps_for PassesOwn.never rfl (pi_list (pe_fld (pe_fld (pv 0) rfl) rfl)) (pg_name (i := 3) sc_Room_heated_before.nd rfl (by first | exact Or.inl rfl | exact Or.inr rfl)) (pss_one (ps_if (PW.pt (pw_and (pt_val (pe_fld (pv 3) rfl)) (pw_and1 (pt_cmpR op_lt (pe_fld (pv 3) rfl) (pv 1) (nomark _))))) (pss_one (ps_aug (i := 2) sc_Room_heated_before.nd rfl (by first | exact Or.inl rfl | exact Or.inr rfl) (pe_op op_sub (pe_ifExp (pt_cmpR op_isN1 (pe_fld (pv 3) rfl) (pe_non) (nomark _)) (pv 1) ((pe_callB (call_min2 rfl) (by rfl) b.n_min (by decide +kernel) (pa_cons (pe_fld (pv 3) rfl) (pa_cons (pv 1) (pa_nil)))))) (pe_fld (pv 3) rfl)) ip_add)) (pss_nil)))) (pss_one (ps_ret (pv 2))))
abbrev s_Room_loop_begin : Stmt := inClass (top 20) 9
theorem sc_Room_loop_begin : FnScope ["self"] ["self"] (defScope s_Room_loop_begin) := ⟨rfl, rfl, rfl, by decide +kernel, rfl, by decide +kernel, by decide +kernel⟩
theorem len_Room_loop_begin {vs : List V} {H : Hp} {Q : VK} {E : XK} (h : sp_Room_loop_begin K A vs H Q E) : vs.length = 1 := by
  unfold sp_Room_loop_begin at h
  repeat (first | (obtain ⟨rfl, _⟩ := h; rfl) | obtain ⟨_, h⟩ := h)
theorem ok_Room_loop_begin {f : Addr} {fd : FuncData} (F : FunD K "loop_begin" "Room.loop_begin" (defArgs s_Room_loop_begin) (defBody s_Room_loop_begin) (defScope s_Room_loop_begin) [] [] f fd) (hcx : NoE CX) (b : Blt mg)  : FnOk A.P A.w K mg base CX 1 f fd ["self"] (sp_Room_loop_begin K A) := by
  refine okD F sc_Room_loop_begin (fun vs H Q E h => len_Room_loop_begin h) (fun cdv A' outer s H vs Q E hr h => ⟨t_Room_loop_begin K A, ?_, pure_Room_loop_begin vs H Q E h⟩)
  exact pss_one (ps_ret (pe_fld (pe_ix ix_seq (pe_fld (pe_fld (pv 0) rfl) rfl) (pe_fld (pe_fld (pv 0) rfl) rfl) (fun _ _ => rfl)) rfl))
abbrev s_Room_heating_ticks : Stmt := inClass (top 20) 8
theorem sc_Room_heating_ticks : FnScope ["self", "count", "turns", "tick", "total"] ["self", "count"] (defScope s_Room_heating_ticks) := ⟨rfl, rfl, rfl, by decide +kernel, rfl, by decide +kernel, by decide +kernel⟩
theorem len_Room_heating_ticks {vs : List V} {H : Hp} {Q : VK} {E : XK} (h : sp_Room_heating_ticks K A vs H Q E) : vs.length = 2 := by
  unfold sp_Room_heating_ticks at h
  repeat (first | (obtain ⟨rfl, _⟩ := h; rfl) | obtain ⟨_, h⟩ := h)
theorem ok_Room_heating_ticks {f : Addr} {fd : FuncData} (F : FunD K "heating_ticks" "Room.heating_ticks" (defArgs s_Room_heating_ticks) (defBody s_Room_heating_ticks) (defScope s_Room_heating_ticks) [] [] f fd) (hcx : NoE CX) (b : Blt mg) (c_validate_number : CalR A.P A.w K mg base CX 1 "validate_number" (sp_validate_number K A)) (k_MAX_TICK : ∃ u, mg "MAX_TICK" = some u ∧ RelV (.int 1000000000000000000) u) (m_History_wrapped : MetR A.P A.w K mg base CX 2 A.cHistory "wrapped" (sp_History_wrapped K A)) (m_Room_heated_before : MetR A.P A.w K mg base CX 1 A.cRoom "heated_before" (sp_Room_heated_before K A)) (m_Room_loop_begin : MetR A.P A.w K mg base CX 1 A.cRoom "loop_begin" (sp_Room_loop_begin K A)) : FnOk A.P A.w K mg base CX 3 f fd ["self", "count"] (sp_Room_heating_ticks K A) := by
  refine okD F sc_Room_heating_ticks (fun vs H Q E h => len_Room_heating_ticks h) (fun cdv A' outer s H vs Q E hr h => ⟨t_Room_heating_ticks K A, ?_, pure_Room_heating_ticks vs H Q E h⟩)
  exact pss_cons (ps_expr ((pe_cR c_validate_number hr (by decide) (hcx _) (by rfl) (pa_cons (pv 1) (pa_cons (pe_int) (pa_cons ((C8.pe_gc (by rfl) k_MAX_TICK)) (pa_nil))))))) (pss_cons (ps_asg ((pe_mtR m_History_wrapped hr (by decide) (hcx _) (pe_fld (pv 0) rfl) (pa_cons (pv 1) (pa_nil)))) (pg_tup rfl (pgs_cons (pg_name (i := 2) sc_Room_heating_ticks.nd rfl (by first | exact Or.inl rfl | exact Or.inr rfl)) (pgs_cons (pg_name (i := 3) sc_Room_heating_ticks.nd rfl (by first | exact Or.inl rfl | exact Or.inr rfl)) (pgs_nil))))) (pss_cons (ps_set (i := 4) sc_Room_heating_ticks.nd rfl (by first | exact Or.inl rfl | exact Or.inr rfl) ((pe_mtR m_Room_heated_before hr (by decide) (hcx _) (pv 0) (pa_cons (pv 3) (pa_nil))))) (pss_cons (ps_if (pt_cmpR op_gt (pv 2) (pe_int) (nomark _)) (pss_one (ps_aug (i := 4) sc_Room_heating_ticks.nd rfl (by first | exact Or.inl rfl | exact Or.inr rfl) (pe_op op_mul (pv 2) (pe_op op_sub ((pe_mtR m_Room_heated_before hr (by decide) (hcx _) (pv 0) (pa_cons (pe_fld (pe_ix ix_seq (pe_fld (pe_fld (pv 0) rfl) rfl) (pe_un un_neg (pe_int)) (fun _ _ => rfl)) rfl) (pa_nil)))) ((pe_mtR m_Room_heated_before hr (by decide) (hcx _) (pv 0) (pa_cons ((pe_mt0R m_Room_loop_begin hr (by decide) (hcx _) (pv 0))) (pa_nil)))))) ip_add)) (pss_nil)) (pss_one (ps_ret (pv 4))))))
abbrev s_Room_switched_before : Stmt := inClass (top 20) 10
theorem sc_Room_switched_before : FnScope ["self", "tick", "begins", "run", "same"] ["self", "tick"] (defScope s_Room_switched_before) := ⟨rfl, rfl, rfl, by decide +kernel, rfl, by decide +kernel, by decide +kernel⟩
theorem len_Room_switched_before {vs : List V} {H : Hp} {Q : VK} {E : XK} (h : sp_Room_switched_before K A vs H Q E) : vs.length = 2 := by
  unfold sp_Room_switched_before at h
  repeat (first | (obtain ⟨rfl, _⟩ := h; rfl) | obtain ⟨_, h⟩ := h)
theorem ok_Room_switched_before {f : Addr} {fd : FuncData} (F : FunD K "switched_before" "Room.switched_before" (defArgs s_Room_switched_before) (defBody s_Room_switched_before) (defScope s_Room_switched_before) [] [] f fd) (hcx : NoE CX) (b : Blt mg)  : FnOk A.P A.w K mg base CX 1 f fd ["self", "tick"] (sp_Room_switched_before K A) := by
  refine okD F sc_Room_switched_before (fun vs H Q E h => len_Room_switched_before h) (fun cdv A' outer s H vs Q E hr h => ⟨t_Room_switched_before K A, ?_, pure_Room_switched_before vs H Q E h⟩)
  exact pss_cons (ps_setLc (i := 2) rfl sc_Room_switched_before.nd rfl rfl (sw_true rfl rfl rfl (by decide +kernel)) (own := [("run", 3)]) (g := gName 3) (tt := tTest (tOp (rI0 fun i j => .bl (decide (i < j))) (tFld K (tVar 3) "begin") (tVar 1))) (te := tFld K (tVar 3) "begin") (pi_list (pe_fld (pe_fld (pv 0) rfl) rfl)) (blkOk_by (N := ["self", "tick", "begins", "run", "same"]) (sc := defScope s_Room_switched_before) (by decide +kernel)) (fun _ _ _ _ _ => pg_name (i := 3) sc_Room_switched_before.nd rfl (by first | exact Or.inl rfl | exact Or.inr rfl)) (fun _ _ _ _ _ => pts_one (pt_cmpR op_lt (pe_fld (pv 3) rfl) (pv 1) (nomark _))) (fun _ _ _ _ _ => pe_fld (pv 3) rfl)) (pss_cons (ps_set (i := 4) sc_Room_switched_before.nd rfl (by first | exact Or.inl rfl | exact Or.inr rfl) (pe_cmpR op_eq (pe_fld (pe_ix ix_seq (pe_fld (pe_fld (pv 0) rfl) rfl) (pe_int) (fun _ _ => rfl)) rfl) (pe_fld (pe_fld (pv 0) rfl) rfl) (nomark _))) (pss_one (ps_ret (pe_op op_sub ((pe_callB call_len (by rfl) b.n_len boot_len (pa_cons (pv 2) (pa_nil)))) ((pe_callTy call_int1 (by rfl) b.n_int (by decide +kernel) (pa_cons (pv 4) (pa_nil))))))))
abbrev s_Room_switchings : Stmt := inClass (top 20) 11
theorem sc_Room_switchings : FnScope ["self", "count", "turns", "tick", "total"] ["self", "count"] (defScope s_Room_switchings) := ⟨rfl, rfl, rfl, by decide +kernel, rfl, by decide +kernel, by decide +kernel⟩
theorem len_Room_switchings {vs : List V} {H : Hp} {Q : VK} {E : XK} (h : sp_Room_switchings K A vs H Q E) : vs.length = 2 := by
  unfold sp_Room_switchings at h
  repeat (first | (obtain ⟨rfl, _⟩ := h; rfl) | obtain ⟨_, h⟩ := h)
theorem ok_Room_switchings {f : Addr} {fd : FuncData} (F : FunD K "switchings" "Room.switchings" (defArgs s_Room_switchings) (defBody s_Room_switchings) (defScope s_Room_switchings) [] [] f fd) (hcx : NoE CX) (b : Blt mg) (c_validate_number : CalR A.P A.w K mg base CX 1 "validate_number" (sp_validate_number K A)) (k_MAX_TICK : ∃ u, mg "MAX_TICK" = some u ∧ RelV (.int 1000000000000000000) u) (m_History_wrapped : MetR A.P A.w K mg base CX 2 A.cHistory "wrapped" (sp_History_wrapped K A)) (m_Room_switched_before : MetR A.P A.w K mg base CX 1 A.cRoom "switched_before" (sp_Room_switched_before K A)) : FnOk A.P A.w K mg base CX 3 f fd ["self", "count"] (sp_Room_switchings K A) := by
  refine okD F sc_Room_switchings (fun vs H Q E h => len_Room_switchings h) (fun cdv A' outer s H vs Q E hr h => ⟨t_Room_switchings K A, ?_, pure_Room_switchings vs H Q E h⟩)
  exact pss_cons (ps_expr ((pe_cR c_validate_number hr (by decide) (hcx _) (by rfl) (pa_cons (pv 1) (pa_cons (pe_int) (pa_cons ((C8.pe_gc (by rfl) k_MAX_TICK)) (pa_nil))))))) (pss_cons (ps_asg ((pe_mtR m_History_wrapped hr (by decide) (hcx _) (pe_fld (pv 0) rfl) (pa_cons (pv 1) (pa_nil)))) (pg_tup rfl (pgs_cons (pg_name (i := 2) sc_Room_switchings.nd rfl (by first | exact Or.inl rfl | exact Or.inr rfl)) (pgs_cons (pg_name (i := 3) sc_Room_switchings.nd rfl (by first | exact Or.inl rfl | exact Or.inr rfl)) (pgs_nil))))) (pss_cons (ps_set (i := 4) sc_Room_switchings.nd rfl (by first | exact Or.inl rfl | exact Or.inr rfl) ((pe_mtR m_Room_switched_before hr (by decide) (hcx _) (pv 0) (pa_cons (pv 3) (pa_nil))))) (pss_one (ps_ret (pe_ifExp (pt_cmpR op_gt (pv 2) (pe_int) (nomark _)) (pe_op op_add (pv 4) (pe_op op_mul (pv 2) (pe_op op_sub ((pe_callB call_len (by rfl) b.n_len boot_len (pa_cons (pe_fld (pe_fld (pv 0) rfl) rfl) (pa_nil)))) (pe_fld (pe_fld (pv 0) rfl) rfl)))) ((pe_callB (call_max2 rfl) (by rfl) b.n_max (by decide +kernel) (pa_cons (pe_int) (pa_cons (pv 4) (pa_nil))))))))))
abbrev s_HourSetting___init__ : Stmt := inClass (top 29) 2
theorem sc_HourSetting___init__ : NdefX.NScope ["self", "length", "parts", "__class__", "last", "index", "begin", "low", "high"] ((["self", "length"] : List Str) ++ (["parts"] : List Str)) ["__class__"] (defScope s_HourSetting___init__) := NdefX.nscope_by (by decide +kernel)
theorem ok_HourSetting_init {f cc c : Addr} {fd : FuncData} (F : FunS A.P K "__init__" "HourSetting.__init__" s_HourSetting___init__ [] f A.cHourSetting cc c fd) (hcx : NoE CX) (b : Blt mg) (hsu : mg "super" = none) (a_HourSetting : ∃ u, mg "HourSetting" = some u ∧ RelV (.ref A.cHourSetting) u) (cv_HourSetting_MAX_LENGTH : CVC K A.cHourSetting "MAX_LENGTH" (.int 24)) (c_is_range : CalR A.P A.w K mg base CX 1 "is_range" (sp_is_range K A)) (su_HourSetting___init__ : SupR A.P A.w K mg base CX 2 A.cHourSetting "__init__" (sp_Setting_init K A)) (hup : StX.CXUp CX) : FnR A.P A.w K mg base CX 3 f (sp_HourSetting_init K A) := by
  refine okStarS (ps := ["self", "length"]) (pv := "parts") (sp := sp_HourSetting_body K A) F sc_HourSetting___init__ hup (fun kV doc pm an ct us rest hl => ?_) (fun A' outer s H vs Q E hr h => ⟨t_HourSetting_init K A, QSs.nox ?_, pure_HourSetting_init vs H Q E h⟩)
  · exact StX.bind_star2 (B := fun l => bindArgs (PySem.W.fnX "__init__" "HourSetting.__init__" (defArgs s_HourSetting___init__) (defBody s_HourSetting___init__) (defScope s_HourSetting___init__) [("__class__", cc)] .none kV doc pm an (.ref c) ct) ⟨l, []⟩) (fun a b => rfl) (fun a b r rs => rfl) us rest hl
  exact qss_cons (qs_of (ps_if (pt_not (pt_chain op_le op_le (pe_int) (pv 1) ((pe_cvC ((C8.pe_gc (by rfl) a_HourSetting)) cv_HourSetting_MAX_LENGTH)))) (pss_one (ps_never)) (pss_nil))) (qss_cons (qs_of (ps_if (pt_cmpR (op_eqT0 hr.units) (pv 2) (pe_tup (pa_nil)) (nomark _)) (pss_one (ps_never)) (pss_nil))) (qss_cons (qs_of (ps_set (i := 4) sc_HourSetting___init__.nd rfl (by first | exact Or.inl rfl | exact Or.inr rfl) (pe_un un_neg (pe_int)))) (qss_cons (qs_of (ps_for PassesOwn.never rfl (pi_enumT (by rfl) b.n_enumerate (pa_cons (pv 2) (pa_nil))) (pg_tup rfl (pgs_cons (pg_name (i := 5) sc_HourSetting___init__.nd rfl (by first | exact Or.inl rfl | exact Or.inr rfl)) (pgs_cons (pg_tup rfl (pgs_cons (pg_name (i := 6) sc_HourSetting___init__.nd rfl (by first | exact Or.inl rfl | exact Or.inr rfl)) (pgs_cons (pg_name (i := 7) sc_HourSetting___init__.nd rfl (by first | exact Or.inl rfl | exact Or.inr rfl)) (pgs_cons (pg_name (i := 8) sc_HourSetting___init__.nd rfl (by first | exact Or.inl rfl | exact Or.inr rfl)) (pgs_nil))))) (pgs_nil)))) (pss_cons (ps_if (PW.pt (pw_or (pt_not (pt_chain op_lt op_lt (pv 4) (pv 6) (pv 1))) (pw_or (PW.pt (pw_and (pt_cmpR op_eq (pv 5) (pe_int) (nomark _)) (pw_and1 (pt_cmpR op_ne (pv 6) (pe_int) (nomark _))))) (pw_or1 (pt_not (pt_val ((pe_cR c_is_range hr (by decide) (hcx _) (by rfl) (pa_cons (pv 7) (pa_cons (pv 8) (pa_nil))))))))))) (pss_one (ps_never)) (pss_nil)) (pss_one (ps_set (i := 4) sc_HourSetting___init__.nd rfl (by first | exact Or.inl rfl | exact Or.inr rfl) (pv 6)))))) (qss_cons (qs_expr (qe_sup F su_HourSetting___init__ hr (by decide) (hcx _) (pa_cons (pe_ix ix_seq (pe_ix ix_seq (pv 2) (pe_int) (fun _ _ => rfl)) (pe_int) (fun _ _ => rfl)) (pa_cons (pe_ix ix_seq (pe_ix ix_seq (pv 2) (pe_int) (fun _ _ => rfl)) (pe_int) (fun _ _ => rfl)) (pa_nil))) hsu rfl rfl rfl rfl rfl)) (qss_cons (qs_of (ps_fld (pv 0) (pv 1) rfl)) (qss_cons (qs_of (ps_fld (pv 0) (pv 2) rfl)) (qss_of pss_nil)))))))
abbrev s_RestSetting___init__ : Stmt := inClass (top 30) 1
theorem sc_RestSetting___init__ : NdefX.NScope ["self", "low", "high", "rest", "__class__"] ["self", "low", "high", "rest"] ["__class__"] (defScope s_RestSetting___init__) := NdefX.nscope_by (by decide +kernel)
theorem len_RestSetting_init {vs : List V} {H : Hp} {Q : VK} {E : XK} (h : sp_RestSetting_init K A vs H Q E) : vs.length = 4 := by
  unfold sp_RestSetting_init at h
  repeat (first | (obtain ⟨rfl, _⟩ := h; rfl) | obtain ⟨_, h⟩ := h)
theorem ok_RestSetting_init {f cc c : Addr} {fd : FuncData} (F : FunS A.P K "__init__" "RestSetting.__init__" s_RestSetting___init__ [] f A.cRestSetting cc c fd) (hcx : NoE CX) (b : Blt mg) (hsu : mg "super" = none) (su_RestSetting___init__ : SupR A.P A.w K mg base CX 2 A.cRestSetting "__init__" (sp_Setting_init K A)) (k_MAX_REST : ∃ u, mg "MAX_REST" = some u ∧ RelV (.int 1000) u) : FnOk A.P A.w K mg base CX 3 f fd ["self", "low", "high", "rest"] (sp_RestSetting_init K A) := by
  refine okS F sc_RestSetting___init__ (fun vs H Q E h => len_RestSetting_init h) (fun A' outer s H vs Q E hr h => ⟨t_RestSetting_init K A, QSs.nox ?_, pure_RestSetting_init vs H Q E h⟩)
  exact qss_cons (qs_expr (qe_sup F su_RestSetting___init__ hr (by decide) (hcx _) (pa_cons (pv 1) (pa_cons (pv 2) (pa_nil))) hsu rfl rfl rfl rfl rfl)) (qss_cons (qs_of (ps_if (pt_not (pt_chain op_le op_le (pe_int) (pv 3) ((C8.pe_gc (by rfl) k_MAX_REST)))) (pss_one (ps_never)) (pss_nil))) (qss_cons (qs_of (ps_fld (pv 0) (pv 3) rfl)) (qss_of pss_nil)))
abbrev s_law : Stmt := top 40
theorem sc_law : FnScope ["_law_script", "_law_state", "_law_turn", "_law_sky", "_law_gain", "_law_low", "_law_high", "_law_start_here", "_law_count", "_law_pause", "_law_room", "_law_rows", "_law_row", "_law_warmth", "_law_tick", "_law_told", "_law_others", "_law_other", "_law_calm", "_law_ticks", "_law_k"] ["_law_script"] (defScope s_law) := ⟨rfl, rfl, rfl, by decide +kernel, rfl, by decide +kernel, by decide +kernel⟩
theorem len_law {vs : List V} {H : Hp} {Q : VK} {E : XK} (h : sp_law K A vs H Q E) : vs.length = 1 := by
  unfold sp_law at h
  repeat (first | (obtain ⟨rfl, _⟩ := h; rfl) | obtain ⟨_, h⟩ := h)
theorem ok_law {f : Addr} {fd : FuncData} (F : FunD K "law" "law" (defArgs s_law) (defBody s_law) (defScope s_law) [] [] f fd) (hcx : NoE CX) (b : Blt mg) (c_law2_start : CalR A.P A.w K mg base CX 1 "_law_start" (sp_law2_start K A)) (c_law2_weather : CalR A.P A.w K mg base CX 4 "_law_weather" (sp_law2_weather K A)) (c_law2_changes : CalR A.P A.w K mg base CX 2 "_law_changes" (sp_law2_changes K A)) (c_law2_drawn : CalR A.P A.w K mg base CX 1 "_law_drawn" (sp_law2_drawn K A)) (n_Room : MakR A.P A.w K mg base CX 6 "Room" A.cRoom (spD [.bl false] (sp_Room_init K A))) (n_Heater : MakR A.P A.w K mg base CX 1 "Heater" A.cHeater (sp_Heater_init K A)) (cw_watch : CalW A.P A.w K mg base 4 "watch" (sp_watch K A)) (n_Setting : MakR A.P A.w K mg base CX 2 "Setting" A.cSetting (sp_Setting_init K A)) (mw_Room_temperatures : MetW A.P A.w K mg base 4 A.cRoom "temperatures" (sp_Room_temperatures_w K A)) (m_Room_is_on : MetR A.P A.w K mg base CX 3 A.cRoom "is_on" (sp_Room_is_on K A)) (c_totals : CalR A.P A.w K mg base CX 7 "totals" (sp_totals K A)) (m_Room_heating_ticks : MetR A.P A.w K mg base CX 3 A.cRoom "heating_ticks" (sp_Room_heating_ticks K A)) (m_Room_switchings : MetR A.P A.w K mg base CX 3 A.cRoom "switchings" (sp_Room_switchings K A)) (n_HourSetting : MakR A.P A.w K mg base CX 3 "HourSetting" A.cHourSetting (sp_HourSetting_init K A)) (n_RestSetting_kw : MakKR A.P A.w K mg base CX 3 "RestSetting" A.cRestSetting 2 ["rest"] (sp_RestSetting_init K A)) : FnOk A.P A.w K mg base CX 8 f fd ["_law_script"] (sp_law K A) := by
  refine okD F sc_law (fun vs H Q E h => len_law h) (fun cdv A' outer s H vs Q E hr h => ⟨t_law K A, ?_, pure_law vs H Q E h⟩)
  exact pss_cons (ps_set (i := 1) sc_law.nd rfl (by first | exact Or.inl rfl | exact Or.inr rfl) ((pe_cR c_law2_start hr (by decide) (hcx _) (by rfl) (pa_cons (pv 0) (pa_nil))))) (pss_cons (ps_for PassesOwn.never rfl (pi_range1 (by rfl) b.n_range (pa_cons (pe_int) (pa_nil))) (pg_name (i := 2) sc_law.nd rfl (by first | exact Or.inl rfl | exact Or.inr rfl)) (pss_cons (ps_par (i := 3) (j := 4) rfl sc_law.nd rfl rfl (by decide) rfl rfl (pa_cons ((pe_cR c_law2_weather hr (by decide) (hcx _) (by rfl) (pa_cons ((pe_cR c_law2_changes hr (by decide) (hcx _) (by rfl) (pa_cons (pv 1) (pa_cons (pe_int) (pa_nil))))) (pa_nil)))) (pa_cons (pe_op op_add (pe_int) ((pe_cR c_law2_drawn hr (by decide) (hcx _) (by rfl) (pa_cons (pv 1) (pa_cons (pe_ix ix_seq (pe_lst (pa_cons (pe_int) (pa_cons (pe_int) (pa_nil)))) ((pe_cR c_law2_drawn hr (by decide) (hcx _) (by rfl) (pa_cons (pv 1) (pa_cons (pe_int) (pa_nil))))) (fun _ _ => rfl)) (pa_nil)))))) (pa_nil))) (by rfl)) (pss_cons (ps_set (i := 5) sc_law.nd rfl (by first | exact Or.inl rfl | exact Or.inr rfl) (pe_op op_sub ((pe_cR c_law2_drawn hr (by decide) (hcx _) (by rfl) (pa_cons (pv 1) (pa_cons (pe_ix ix_seq (pe_lst (pa_cons (pe_int) (pa_cons (pe_op op_pow (pe_int) (pe_int)) (pa_nil)))) ((pe_cR c_law2_drawn hr (by decide) (hcx _) (by rfl) (pa_cons (pv 1) (pa_cons (pe_int) (pa_nil))))) (fun _ _ => rfl)) (pa_nil))))) (pe_int))) (pss_cons (ps_par (i := 6) (j := 7) rfl sc_law.nd rfl rfl (by decide) rfl rfl (pa_cons (pe_op op_add (pv 5) ((pe_cR c_law2_drawn hr (by decide) (hcx _) (by rfl) (pa_cons (pv 1) (pa_cons (pe_int) (pa_nil)))))) (pa_cons (pe_op op_sub (pe_op op_add (pv 5) ((pe_cR c_law2_drawn hr (by decide) (hcx _) (by rfl) (pa_cons (pv 1) (pa_cons (pe_int) (pa_nil)))))) (pe_int)) (pa_nil))) (by rfl)) (pss_cons (ps_asg (pe_tup (pa_cons (pe_op op_add (pe_int) ((pe_cR c_law2_drawn hr (by decide) (hcx _) (by rfl) (pa_cons (pv 1) (pa_cons (pe_int) (pa_nil)))))) (pa_cons ((pe_cR c_law2_drawn hr (by decide) (hcx _) (by rfl) (pa_cons (pv 1) (pa_cons (pe_int) (pa_nil))))) (pa_nil)))) (pg_tup rfl (pgs_cons (pg_name (i := 8) sc_law.nd rfl (by first | exact Or.inl rfl | exact Or.inr rfl)) (pgs_cons (pg_name (i := 9) sc_law.nd rfl (by first | exact Or.inl rfl | exact Or.inr rfl)) (pgs_nil))))) (pss_cons (ps_set (i := 10) sc_law.nd rfl (by first | exact Or.inl rfl | exact Or.inr rfl) ((pe_mkR n_Room hr (by decide) (hcx _) (by rfl) (pa_cons (pv 3) (pa_cons ((pe_mkR n_Heater hr (by decide) (hcx _) (by rfl) (pa_cons (pv 4) (pa_cons (pv 5) (pa_cons (pv 6) (pa_nil)))))) (pa_cons (pv 7) (pa_nil))))))) (pss_cons (ps_setLcG (i := 11) (own := [("_law_row", 12)]) (gt := gName 12) (tt := tYes) (te := tVar 12) rfl (hr.mono (by decide)) sc_law.nd rfl rfl (sw_true rfl rfl rfl (by decide +kernel))  (pg_cl cw_watch hr (by decide) (by rfl) (pa_cons (pv 3) (pa_cons (pv 4) (pa_cons ((pe_mkR n_Setting hr (by decide) (hcx _) (by rfl) (pa_cons (pv 5) (pa_cons (pv 6) (pa_nil))))) (pa_cons (pv 7) (pa_cons (pv 8) (pa_nil))))))) (blkOk_by (N := ["_law_script", "_law_state", "_law_turn", "_law_sky", "_law_gain", "_law_low", "_law_high", "_law_start_here", "_law_count", "_law_pause", "_law_room", "_law_rows", "_law_row", "_law_warmth", "_law_tick", "_law_told", "_law_others", "_law_other", "_law_calm", "_law_ticks", "_law_k"]) (sc := defScope s_law) (by decide +kernel)) (nocells (by decide +kernel)) (fun _ _ _ _ _ => pg_name (i := 12) sc_law.nd rfl (by first | exact Or.inl rfl | exact Or.inr rfl)) (fun _ _ _ _ _ => pts_nil) (fun _ _ _ _ _ => pv 12)) (pss_cons (ps_if (pt_cmpR (op_neD hr.units) (pe_lc (own := [("_law_row", 12)]) (g := gName 12) (tt := tYes) (te := tOp (rIx K) (tVar 12) (tC (.int 0))) rfl sc_law.nd (pi_list (pv 11)) (blkOk_by (N := ["_law_script", "_law_state", "_law_turn", "_law_sky", "_law_gain", "_law_low", "_law_high", "_law_start_here", "_law_count", "_law_pause", "_law_room", "_law_rows", "_law_row", "_law_warmth", "_law_tick", "_law_told", "_law_others", "_law_other", "_law_calm", "_law_ticks", "_law_k"]) (sc := defScope s_law) (by decide +kernel)) (fun _ _ _ _ _ => pg_name (i := 12) sc_law.nd rfl (by first | exact Or.inl rfl | exact Or.inr rfl)) (fun _ _ _ _ _ => pts_nil) (fun _ _ _ _ _ => pe_ix ix_seq (pv 12) (pe_int) (fun _ _ => rfl))) (pe_lcG (own := [("_law_warmth", 13)]) (gt := gName 13) (tt := tYes) (te := tVar 13) rfl (hr.mono (by decide)) sc_law.nd (pg_mt mw_Room_temperatures hr (by decide) (pv 10) (pa_cons (pe_int) (pa_cons (pe_op op_sub (pv 8) (pe_int)) (pa_nil)))) (blkOk_by (N := ["_law_script", "_law_state", "_law_turn", "_law_sky", "_law_gain", "_law_low", "_law_high", "_law_start_here", "_law_count", "_law_pause", "_law_room", "_law_rows", "_law_row", "_law_warmth", "_law_tick", "_law_told", "_law_others", "_law_other", "_law_calm", "_law_ticks", "_law_k"]) (sc := defScope s_law) (by decide +kernel)) (nocells (by decide +kernel)) (fun _ _ _ _ _ => pg_name (i := 13) sc_law.nd rfl (by first | exact Or.inl rfl | exact Or.inr rfl)) (fun _ _ _ _ _ => pts_nil) (fun _ _ _ _ _ => pv 13)) (nomark _)) (pss_one (ps_ret (pe_bl))) (pss_nil)) (pss_cons (ps_if (pt_cmpR (op_neD hr.units) (pe_lc (own := [("_law_row", 12)]) (g := gName 12) (tt := tYes) (te := tOp (rIx K) (tVar 12) (tC (.int 1))) rfl sc_law.nd (pi_list (pv 11)) (blkOk_by (N := ["_law_script", "_law_state", "_law_turn", "_law_sky", "_law_gain", "_law_low", "_law_high", "_law_start_here", "_law_count", "_law_pause", "_law_room", "_law_rows", "_law_row", "_law_warmth", "_law_tick", "_law_told", "_law_others", "_law_other", "_law_calm", "_law_ticks", "_law_k"]) (sc := defScope s_law) (by decide +kernel)) (fun _ _ _ _ _ => pg_name (i := 12) sc_law.nd rfl (by first | exact Or.inl rfl | exact Or.inr rfl)) (fun _ _ _ _ _ => pts_nil) (fun _ _ _ _ _ => pe_ix ix_seq (pv 12) (pe_int) (fun _ _ => rfl))) (pe_lc (own := [("_law_tick", 14)]) (g := gName 14) (tt := tYes) (te := tMtd A.cRoom "is_on" (sp_Room_is_on K A) E0 (tVar 10) (tCons (tVar 14) (tNil))) rfl sc_law.nd (pi_range1 (by rfl) b.n_range (pa_cons (pv 8) (pa_nil))) (blkOk_by (N := ["_law_script", "_law_state", "_law_turn", "_law_sky", "_law_gain", "_law_low", "_law_high", "_law_start_here", "_law_count", "_law_pause", "_law_room", "_law_rows", "_law_row", "_law_warmth", "_law_tick", "_law_told", "_law_others", "_law_other", "_law_calm", "_law_ticks", "_law_k"]) (sc := defScope s_law) (by decide +kernel)) (fun _ _ _ _ _ => pg_name (i := 14) sc_law.nd rfl (by first | exact Or.inl rfl | exact Or.inr rfl)) (fun _ _ _ _ _ => pts_nil) (fun _ _ _ _ _ => (pe_mtR m_Room_is_on hr (by decide) (hcx _) (pv 10) (pa_cons (pv 14) (pa_nil))))) (nomark _)) (pss_one (ps_ret (pe_bl))) (pss_nil)) (pss_cons (ps_set (i := 15) sc_law.nd rfl (by first | exact Or.inl rfl | exact Or.inr rfl) ((pe_cR c_totals hr (by decide) (hcx _) (by rfl) (pa_cons (pv 3) (pa_cons (pv 4) (pa_cons ((pe_mkR n_Setting hr (by decide) (hcx _) (by rfl) (pa_cons (pv 5) (pa_cons (pv 6) (pa_nil))))) (pa_cons (pv 7) (pa_cons (pv 8) (pa_nil))))))))) (pss_cons (ps_if (pt_cmpR (op_neD hr.units) (pe_slice sl_tupA (pv 15) (po_none) (po_some (pe_int))) (pe_tup (pa_cons ((pe_mtR m_Room_heating_ticks hr (by decide) (hcx _) (pv 10) (pa_cons (pv 8) (pa_nil)))) (pa_cons ((pe_mtR m_Room_switchings hr (by decide) (hcx _) (pv 10) (pa_cons (pv 8) (pa_nil)))) (pa_nil)))) (nomark _)) (pss_one (ps_ret (pe_bl))) (pss_nil)) (pss_cons (ps_set (i := 16) sc_law.nd rfl (by first | exact Or.inl rfl | exact Or.inr rfl) (pe_lst (pa_cons ((pe_mkR n_HourSetting hr (by decide) (hcx _) (by rfl) (pa_cons (pe_op op_add (pe_int) ((pe_cR c_law2_drawn hr (by decide) (hcx _) (by rfl) (pa_cons (pv 1) (pa_cons (pe_int) (pa_nil)))))) (pa_cons (pe_tup (pa_cons (pe_int) (pa_cons (pv 5) (pa_cons (pv 6) (pa_nil))))) (pa_nil))))) (pa_cons ((pe_mkKwR (ks := ["rest"]) n_RestSetting_kw hr (by decide) (hcx _) (by rfl) (pa_cons (pv 5) (pa_cons (pv 6) (pa_nil))) (pk_cons (pe_int) (pk_nil)))) (pa_nil))))) (pss_cons (ps_for PassesOwn.never rfl (pi_list (pv 16)) (pg_name (i := 17) sc_law.nd rfl (by first | exact Or.inl rfl | exact Or.inr rfl)) (pss_one (ps_if (pt_cmpR (op_neOps hr.units) (pe_lcG (own := [("_law_row", 12)]) (gt := gName 12) (tt := tYes) (te := tVar 12) rfl (hr.mono (by decide)) sc_law.nd (pg_cl cw_watch hr (by decide) (by rfl) (pa_cons (pv 3) (pa_cons (pv 4) (pa_cons (pv 17) (pa_cons (pv 7) (pa_cons (pv 8) (pa_nil))))))) (blkOk_by (N := ["_law_script", "_law_state", "_law_turn", "_law_sky", "_law_gain", "_law_low", "_law_high", "_law_start_here", "_law_count", "_law_pause", "_law_room", "_law_rows", "_law_row", "_law_warmth", "_law_tick", "_law_told", "_law_others", "_law_other", "_law_calm", "_law_ticks", "_law_k"]) (sc := defScope s_law) (by decide +kernel)) (nocells (by decide +kernel)) (fun _ _ _ _ _ => pg_name (i := 12) sc_law.nd rfl (by first | exact Or.inl rfl | exact Or.inr rfl)) (fun _ _ _ _ _ => pts_nil) (fun _ _ _ _ _ => pv 12)) (pv 11) (nomark _)) (pss_one (ps_ret (pe_bl))) (pss_nil)))) (pss_cons (ps_set (i := 18) sc_law.nd rfl (by first | exact Or.inl rfl | exact Or.inr rfl) (pe_lcG (own := [("_law_row", 12)]) (gt := gName 12) (tt := tYes) (te := tOp (rIx K) (tVar 12) (tC (.int 1))) rfl (hr.mono (by decide)) sc_law.nd (pg_cl cw_watch hr (by decide) (by rfl) (pa_cons (pv 3) (pa_cons (pv 4) (pa_cons ((pe_mkKwR (ks := ["rest"]) n_RestSetting_kw hr (by decide) (hcx _) (by rfl) (pa_cons (pv 5) (pa_cons (pv 6) (pa_nil))) (pk_cons (pv 9) (pk_nil)))) (pa_cons (pv 7) (pa_cons (pv 8) (pa_nil))))))) (blkOk_by (N := ["_law_script", "_law_state", "_law_turn", "_law_sky", "_law_gain", "_law_low", "_law_high", "_law_start_here", "_law_count", "_law_pause", "_law_room", "_law_rows", "_law_row", "_law_warmth", "_law_tick", "_law_told", "_law_others", "_law_other", "_law_calm", "_law_ticks", "_law_k"]) (sc := defScope s_law) (by decide +kernel)) (nocells (by decide +kernel)) (fun _ _ _ _ _ => pg_name (i := 12) sc_law.nd rfl (by first | exact Or.inl rfl | exact Or.inr rfl)) (fun _ _ _ _ _ => pts_nil) (fun _ _ _ _ _ => pe_ix ix_seq (pv 12) (pe_int) (fun _ _ => rfl)))) (pss_cons (ps_set (i := 19) sc_law.nd rfl (by first | exact Or.inl rfl | exact Or.inr rfl) (pe_lc (own := [("_law_k", 20)]) (g := gName 20) (tt := tTest (tOp rNe (tOp (rIx K) (tVar 18) (tVar 20)) (tOp (rIx K) (tOp rCat (tLst (tCons (tC (.bl false)) (tNil))) (tVar 18)) (tVar 20)))) (te := tVar 20) rfl sc_law.nd (pi_range1 (by rfl) b.n_range (pa_cons (pv 8) (pa_nil))) (blkOk_by (N := ["_law_script", "_law_state", "_law_turn", "_law_sky", "_law_gain", "_law_low", "_law_high", "_law_start_here", "_law_count", "_law_pause", "_law_room", "_law_rows", "_law_row", "_law_warmth", "_law_tick", "_law_told", "_law_others", "_law_other", "_law_calm", "_law_ticks", "_law_k"]) (sc := defScope s_law) (by decide +kernel)) (fun _ _ _ _ _ => pg_name (i := 20) sc_law.nd rfl (by first | exact Or.inl rfl | exact Or.inr rfl)) (fun _ _ _ _ _ => pts_one (pt_cmpR op_ne (pe_ix ix_seq (pv 18) (pv 20) (fun _ _ => rfl)) (pe_ix ix_seq (pe_op op_cat (pe_lst (pa_cons (pe_bl) (pa_nil))) (pv 18)) (pv 20) (fun _ _ => rfl)) (nomark _))) (fun _ _ _ _ _ => pv 20))) (pss_one (ps_if (pt_cmpR (op_neD hr.units) (pe_lc (own := [("_law_k", 20)]) (g := gName 20) (tt := tTest (tOp (rI0 fun i j => .bl (decide (i ≤ j))) (tOp (rI0 fun i j => .int (i - j)) (tOp (rIx K) (tVar 19) (tVar 20)) (tOp (rIx K) (tVar 19) (tOp (rI0 fun i j => .int (i - j)) (tVar 20) (tC (.int 1))))) (tVar 9))) (te := tVar 20) rfl sc_law.nd (pi_range2 (by rfl) b.n_range (pa_cons (pe_int) (pa_cons ((pe_callB call_len (by rfl) b.n_len boot_len (pa_cons (pv 19) (pa_nil)))) (pa_nil)))) (blkOk_by (N := ["_law_script", "_law_state", "_law_turn", "_law_sky", "_law_gain", "_law_low", "_law_high", "_law_start_here", "_law_count", "_law_pause", "_law_room", "_law_rows", "_law_row", "_law_warmth", "_law_tick", "_law_told", "_law_others", "_law_other", "_law_calm", "_law_ticks", "_law_k"]) (sc := defScope s_law) (by decide +kernel)) (fun _ _ _ _ _ => pg_name (i := 20) sc_law.nd rfl (by first | exact Or.inl rfl | exact Or.inr rfl)) (fun _ _ _ _ _ => pts_one (pt_cmpR op_le (pe_op op_sub (pe_ix ix_seq (pv 19) (pv 20) (fun _ _ => rfl)) (pe_ix ix_seq (pv 19) (pe_op op_sub (pv 20) (pe_int)) (fun _ _ => rfl))) (pv 9) (nomark _))) (fun _ _ _ _ _ => pv 20)) (pe_lst (pa_nil)) (nomark _)) (pss_one (ps_ret (pe_bl))) (pss_nil)))))))))))))))))) (pss_one (ps_ret (pe_bl))))
end
def d_law2_start : He.DefD := ⟨("_law_start", none), "_law_start", "_law_start", defArgs s__law_start, defBody s__law_start, defScope s__law_start, [], []⟩
def d_Weather_init : He.DefD := ⟨("Weather", some "__init__"), "__init__", "Weather.__init__", defArgs s_Weather___init__, defBody s_Weather___init__, defScope s_Weather___init__, [], []⟩
def d_common_divisor : He.DefD := ⟨("common_divisor", none), "common_divisor", "common_divisor", defArgs s_common_divisor, defBody s_common_divisor, defScope s_common_divisor, [], []⟩
def d_Weather___add : He.DefD := ⟨("Weather", some "__add__"), "__add__", "Weather.__add__", defArgs s_Weather___add__, defBody s_Weather___add__, defScope s_Weather___add__, [], []⟩
def d_Weather___mul : He.DefD := ⟨("Weather", some "__mul__"), "__mul__", "Weather.__mul__", defArgs s_Weather___mul__, defBody s_Weather___mul__, defScope s_Weather___mul__, [], []⟩
def d_law2_single : He.DefD := ⟨("_law_single", none), "_law_single", "_law_single", defArgs s__law_single, defBody s__law_single, defScope s__law_single, [], []⟩
def d_Weather___len : He.DefD := ⟨("Weather", some "__len__"), "__len__", "Weather.__len__", defArgs s_Weather___len__, defBody s_Weather___len__, defScope s_Weather___len__, [], []⟩
def d_law2_weather : He.DefD := ⟨("_law_weather", none), "_law_weather", "_law_weather", defArgs s__law_weather, defBody s__law_weather, defScope s__law_weather, [], []⟩
def d_law2_drawn : He.DefD := ⟨("_law_drawn", none), "_law_drawn", "_law_drawn", defArgs s__law_drawn, defBody s__law_drawn, defScope s__law_drawn, [], []⟩
def d_law2_changes : He.DefD := ⟨("_law_changes", none), "_law_changes", "_law_changes", defArgs s__law_changes, defBody s__law_changes, defScope s__law_changes, [], []⟩
def d_validate_number : He.DefD := ⟨("validate_number", none), "validate_number", "validate_number", defArgs s_validate_number, defBody s_validate_number, defScope s_validate_number, [], []⟩
def d_History_decide : He.DefD := ⟨("History", some "decide"), "decide", "History.decide", defArgs s_History_decide, defBody s_History_decide, defScope s_History_decide, [], []⟩
def d_Run_init : He.DefD := ⟨("Run", some "__init__"), "__init__", "Run.__init__", defArgs s_Run___init__, defBody s_Run___init__, defScope s_Run___init__, [], []⟩
def d_Run_first_beyond : He.DefD := ⟨("Run", some "first_beyond"), "first_beyond", "Run.first_beyond", defArgs s_Run_first_beyond, defBody s_Run_first_beyond, defScope s_Run_first_beyond, [], []⟩
def d_Run_at : He.DefD := ⟨("Run", some "at"), "at", "Run.at", defArgs s_Run_at, defBody s_Run_at, defScope s_Run_at, [], []⟩
def d_History_find_runs : He.DefD := ⟨("History", some "find_runs"), "find_runs", "History.find_runs", defArgs s_History_find_runs, defBody s_History_find_runs, defScope s_History_find_runs, [], []⟩
def d_History_init : He.DefD := ⟨("History", some "__init__"), "__init__", "History.__init__", defArgs s_History___init__, defBody s_History___init__, defScope s_History___init__, [], []⟩
def d_History_circle : He.DefD := ⟨("History", some "circle"), "circle", "History.circle", defArgs s_History_circle, defBody s_History_circle, defScope s_History_circle, [], []⟩
def d_repetition_of : He.DefD := ⟨("repetition_of", none), "repetition_of", "repetition_of", defArgs s_repetition_of, defBody s_repetition_of, defScope s_repetition_of, [], []⟩
def d_share_of : He.DefD := ⟨("share_of", none), "share_of", "share_of", defArgs s_share_of, defBody s_share_of, defScope s_share_of, [], []⟩
def d_Run_extreme : He.DefD := ⟨("Run", some "extreme"), "extreme", "Run.extreme", defArgs s_Run_extreme, defBody s_Run_extreme, defScope s_Run_extreme, [], []⟩
def d_extreme_of : He.DefD := ⟨("extreme_of", none), "extreme_of", "extreme_of", defArgs s_extreme_of, defBody s_extreme_of, defScope s_extreme_of, [], []⟩
def d_Room_init : He.DefD := ⟨("Room", some "__init__"), "__init__", "Room.__init__", defArgs s_Room___init__, defBody s_Room___init__, defScope s_Room___init__, [], [("on", .bl false)]⟩
def d_Heater_init : He.DefD := ⟨("Heater", some "__init__"), "__init__", "Heater.__init__", defArgs s_Heater___init__, defBody s_Heater___init__, defScope s_Heater___init__, [], []⟩
def d_Setting_thresholds : He.DefD := ⟨("Setting", some "thresholds"), "thresholds", "Setting.thresholds", defArgs s_Setting_thresholds, defBody s_Setting_thresholds, defScope s_Setting_thresholds, [], []⟩
def d_Setting_may_switch : He.DefD := ⟨("Setting", some "may_switch"), "may_switch", "Setting.may_switch", defArgs s_Setting_may_switch, defBody s_Setting_may_switch, defScope s_Setting_may_switch, [], []⟩
def d_RestSetting_may_switch : He.DefD := ⟨("RestSetting", some "may_switch"), "may_switch", "RestSetting.may_switch", defArgs s_RestSetting_may_switch, defBody s_RestSetting_may_switch, defScope s_RestSetting_may_switch, [], []⟩
def d_Setting___call : He.DefD := ⟨("Setting", some "__call__"), "__call__", "Setting.__call__", defArgs s_Setting___call__, defBody s_Setting___call__, defScope s_Setting___call__, [], []⟩
def d_Weather___getitem : He.DefD := ⟨("Weather", some "__getitem__"), "__getitem__", "Weather.__getitem__", defArgs s_Weather___getitem__, defBody s_Weather___getitem__, defScope s_Weather___getitem__, [], []⟩
def d_watch : He.DefD := ⟨("watch", none), "watch", "watch", defArgs s_watch, defBody s_watch, defScope s_watch, [], []⟩
def d_is_range : He.DefD := ⟨("is_range", none), "is_range", "is_range", defArgs s_is_range, defBody s_is_range, defScope s_is_range, [], []⟩
def d_Setting_init : He.DefD := ⟨("Setting", some "__init__"), "__init__", "Setting.__init__", defArgs s_Setting___init__, defBody s_Setting___init__, defScope s_Setting___init__, [], []⟩
def d_History_wrapped : He.DefD := ⟨("History", some "wrapped"), "wrapped", "History.wrapped", defArgs s_History_wrapped, defBody s_History_wrapped, defScope s_History_wrapped, [], []⟩
def d_History_run_at : He.DefD := ⟨("History", some "run_at"), "run_at", "History.run_at", defArgs s_History_run_at, defBody s_History_run_at, defScope s_History_run_at, [], []⟩
def d_Room_temperature : He.DefD := ⟨("Room", some "temperature"), "temperature", "Room.temperature", defArgs s_Room_temperature, defBody s_Room_temperature, defScope s_Room_temperature, [], []⟩
def d_Room_temperatures : He.DefD := ⟨("Room", some "temperatures"), "temperatures", "Room.temperatures", defArgs s_Room_temperatures, defBody s_Room_temperatures, defScope s_Room_temperatures, [], []⟩
def d_Room_is_on : He.DefD := ⟨("Room", some "is_on"), "is_on", "Room.is_on", defArgs s_Room_is_on, defBody s_Room_is_on, defScope s_Room_is_on, [], []⟩
def d_totals : He.DefD := ⟨("totals", none), "totals", "totals", defArgs s_totals, defBody s_totals, defScope s_totals, [], []⟩
def d_Room_heated_before : He.DefD := ⟨("Room", some "heated_before"), "heated_before", "Room.heated_before", defArgs s_Room_heated_before, defBody s_Room_heated_before, defScope s_Room_heated_before, [], []⟩
def d_Room_loop_begin : He.DefD := ⟨("Room", some "loop_begin"), "loop_begin", "Room.loop_begin", defArgs s_Room_loop_begin, defBody s_Room_loop_begin, defScope s_Room_loop_begin, [], []⟩
def d_Room_heating_ticks : He.DefD := ⟨("Room", some "heating_ticks"), "heating_ticks", "Room.heating_ticks", defArgs s_Room_heating_ticks, defBody s_Room_heating_ticks, defScope s_Room_heating_ticks, [], []⟩
def d_Room_switched_before : He.DefD := ⟨("Room", some "switched_before"), "switched_before", "Room.switched_before", defArgs s_Room_switched_before, defBody s_Room_switched_before, defScope s_Room_switched_before, [], []⟩
def d_Room_switchings : He.DefD := ⟨("Room", some "switchings"), "switchings", "Room.switchings", defArgs s_Room_switchings, defBody s_Room_switchings, defScope s_Room_switchings, [], []⟩
def d_law : He.DefD := ⟨("law", none), "law", "law", defArgs s_law, defBody s_law, defScope s_law, [], []⟩
def d_Weather_changes : PrpD := ⟨"Weather", "changes", "Weather.changes", defArgs s_Weather_changes, defBody s_Weather_changes, defScope s_Weather_changes⟩
def d_Heater_gain : PrpD := ⟨"Heater", "gain", "Heater.gain", defArgs s_Heater_gain, defBody s_Heater_gain, defScope s_Heater_gain⟩
def d_Heater_low : PrpD := ⟨"Heater", "low", "Heater.low", defArgs s_Heater_low, defBody s_Heater_low, defScope s_Heater_low⟩
def d_Heater_high : PrpD := ⟨"Heater", "high", "Heater.high", defArgs s_Heater_high, defBody s_Heater_high, defScope s_Heater_high⟩
def d_HourSetting_thresholds : SuqD := ⟨"HourSetting", "thresholds", "HourSetting.thresholds", defArgs s_HourSetting_thresholds, defBody s_HourSetting_thresholds, defScope s_HourSetting_thresholds⟩
def d_HourSetting_init : SuqD := ⟨"HourSetting", "__init__", "HourSetting.__init__", defArgs s_HourSetting___init__, defBody s_HourSetting___init__, defScope s_HourSetting___init__⟩
def d_RestSetting_init : SuqD := ⟨"RestSetting", "__init__", "RestSetting.__init__", defArgs s_RestSetting___init__, defBody s_RestSetting___init__, defScope s_RestSetting___init__⟩
def sus : List SuqD := [d_HourSetting_thresholds, d_HourSetting_init, d_RestSetting_init]
def fn : List He.DefD := [d_law2_start, d_Weather_init, d_common_divisor, d_Weather___add, d_Weather___mul, d_law2_single, d_Weather___len, d_law2_weather, d_law2_drawn, d_law2_changes, d_validate_number, d_History_decide, d_Run_init, d_Run_first_beyond, d_Run_at, d_History_find_runs, d_History_init, d_History_circle, d_repetition_of, d_share_of, d_Run_extreme, d_extreme_of, d_Room_init, d_Heater_init, d_Setting_thresholds, d_Setting_may_switch, d_RestSetting_may_switch, d_Setting___call, d_Weather___getitem, d_watch, d_is_range, d_Setting_init, d_History_wrapped, d_History_run_at, d_Room_temperature, d_Room_temperatures, d_Room_is_on, d_totals, d_Room_heated_before, d_Room_loop_begin, d_Room_heating_ticks, d_Room_switched_before, d_Room_switchings, d_law]
def fa : List He.Fa := [.free "len", .free "int", .free "min", .free "max", .free "sum", .free "range", .free "enumerate", .free "isinstance", .free "list", .free "tuple", .free "sorted", .free "abs", .free "str", .free "dict", .free "bool", .free "ValueError", .free "super", .glo "_law_start", .glo "common_divisor", .glo "_law_single", .glo "_law_weather", .glo "_law_drawn", .glo "_law_changes", .glo "validate_number", .glo "repetition_of", .glo "share_of", .glo "extreme_of", .glo "watch", .glo "is_range", .glo "totals", .glo "law", .int "MAX_DEGREES" 1000000000000, .int "MAX_GAIN" 200, .int "MAX_LISTED" 10000, .int "MAX_REST" 1000, .int "MAX_TICK" 1000000000000000000, .int "MAX_WATCHED" 10000, .glo "Weather", .cls "Weather", .noat "Weather" "pattern", .mkr "Weather", .glo "History", .cls "History", .noat "History" "shifts", .noat "History" "added", .noat "History" "floor", .noat "History" "ceiling", .noat "History" "was_heating", .noat "History" "runs", .noat "History" "loop", .mkr "History", .glo "Run", .cls "Run", .noat "Run" "begin", .noat "Run" "end", .noat "Run" "degrees", .noat "Run" "is_heating", .noat "Run" "sums", .noat "Run" "size", .noat "Run" "drift", .mkr "Run", .glo "Heater", .cls "Heater", .noat "Heater" "power", .noat "Heater" "below", .noat "Heater" "above", .mkr "Heater", .glo "Room", .cls "Room", .noat "Room" "outside", .noat "Room" "inside", .noat "Room" "begin_degrees", .noat "Room" "past", .noat "Room" "repeated", .noat "Room" "share", .noat "Room" "coldest", .noat "Room" "warmest", .mkr "Room", .glo "Setting", .cls "Setting", .noat "Setting" "least", .noat "Setting" "most", .mkr "Setting", .glo "HourSetting", .cls "HourSetting", .noat "HourSetting" "least", .noat "HourSetting" "most", .noat "HourSetting" "length", .noat "HourSetting" "hours", .mkr "HourSetting", .glo "RestSetting", .cls "RestSetting", .noat "RestSetting" "least", .noat "RestSetting" "most", .noat "RestSetting" "rest", .mkr "RestSetting", .meth "HourSetting" "__call__", .meth "HourSetting" "may_switch", .meth "RestSetting" "__call__", .meth "RestSetting" "thresholds", .meth "Weather" "__add__", .meth "Weather" "__mul__", .meth "Weather" "__len__", .meth "History" "decide", .meth "Run" "first_beyond", .meth "Run" "at", .meth "History" "find_runs", .meth "History" "circle", .meth "Run" "extreme", .meth "Setting" "thresholds", .meth "HourSetting" "thresholds", .meth "Setting" "may_switch", .meth "RestSetting" "may_switch", .meth "Setting" "__call__", .meth "Weather" "__getitem__", .meth "History" "wrapped", .meth "History" "run_at", .meth "Room" "temperature", .meth "Room" "temperatures", .meth "Room" "is_on", .meth "Room" "heated_before", .meth "Room" "loop_begin", .meth "Room" "heating_ticks", .meth "Room" "switched_before", .meth "Room" "switchings"]
def prs : List PrpD := [d_Weather_changes, d_Heater_gain, d_Heater_low, d_Heater_high]
def cms : List PrpD := []
def cvs (K : PySem.W.Frag) : Bool := cvB K "HourSetting" "MAX_LENGTH" (.int 24) && cvB K "Weather" "MAX_CHANGE" (.int 100) && cvB K "Weather" "MAX_TICKS" (.int 24) && PySem.W.selfFirst K (He.ga K "Weather") && mulB K (He.ga K "Weather") && supB K "HourSetting" "Setting" "__init__" && supB K "HourSetting" "Setting" "thresholds" && supB K "RestSetting" "Setting" "__init__" && decide (He.ma K (He.ga K "HourSetting") "__call__" = He.ma K (He.ga K "Setting") "__call__") && decide (He.ma K (He.ga K "HourSetting") "may_switch" = He.ma K (He.ga K "Setting") "may_switch") && decide (He.ma K (He.ga K "RestSetting") "__call__" = He.ma K (He.ga K "Setting") "__call__") && decide (He.ma K (He.ga K "RestSetting") "thresholds" = He.ma K (He.ga K "Setting") "thresholds")
def adsOf (P : Program) (w : World) (K : PySem.W.Frag) : Ads := { P := P, w := w, cWeather := He.ga K "Weather", cHistory := He.ga K "History", cRun := He.ga K "Run", cHeater := He.ga K "Heater", cRoom := He.ga K "Room", cSetting := He.ga K "Setting", cHourSetting := He.ga K "HourSetting", cRestSetting := He.ga K "RestSetting" }
theorem cls_Weather {P : Program} {w : World} {K : PySem.W.Frag} (c : He.SaysD fa fn K) : WeatherC K (adsOf P w K).cWeather := ⟨He.cls_ok (c.fact 38 (f := .cls "Weather") rfl), He.noat_ok (c.fact 39 (f := .noat "Weather" "pattern") rfl)⟩
theorem cls_History {P : Program} {w : World} {K : PySem.W.Frag} (c : He.SaysD fa fn K) : HistoryC K (adsOf P w K).cHistory := ⟨He.cls_ok (c.fact 42 (f := .cls "History") rfl), He.noat_ok (c.fact 43 (f := .noat "History" "shifts") rfl), He.noat_ok (c.fact 44 (f := .noat "History" "added") rfl), He.noat_ok (c.fact 45 (f := .noat "History" "floor") rfl), He.noat_ok (c.fact 46 (f := .noat "History" "ceiling") rfl), He.noat_ok (c.fact 47 (f := .noat "History" "was_heating") rfl), He.noat_ok (c.fact 48 (f := .noat "History" "runs") rfl), He.noat_ok (c.fact 49 (f := .noat "History" "loop") rfl)⟩
theorem cls_Run {P : Program} {w : World} {K : PySem.W.Frag} (c : He.SaysD fa fn K) : RunC K (adsOf P w K).cRun := ⟨He.cls_ok (c.fact 52 (f := .cls "Run") rfl), He.noat_ok (c.fact 53 (f := .noat "Run" "begin") rfl), He.noat_ok (c.fact 54 (f := .noat "Run" "end") rfl), He.noat_ok (c.fact 55 (f := .noat "Run" "degrees") rfl), He.noat_ok (c.fact 56 (f := .noat "Run" "is_heating") rfl), He.noat_ok (c.fact 57 (f := .noat "Run" "sums") rfl), He.noat_ok (c.fact 58 (f := .noat "Run" "size") rfl), He.noat_ok (c.fact 59 (f := .noat "Run" "drift") rfl)⟩
theorem cls_Heater {P : Program} {w : World} {K : PySem.W.Frag} (c : He.SaysD fa fn K) : HeaterC K (adsOf P w K).cHeater := ⟨He.cls_ok (c.fact 62 (f := .cls "Heater") rfl), He.noat_ok (c.fact 63 (f := .noat "Heater" "power") rfl), He.noat_ok (c.fact 64 (f := .noat "Heater" "below") rfl), He.noat_ok (c.fact 65 (f := .noat "Heater" "above") rfl)⟩
theorem cls_Room {P : Program} {w : World} {K : PySem.W.Frag} (c : He.SaysD fa fn K) : RoomC K (adsOf P w K).cRoom := ⟨He.cls_ok (c.fact 68 (f := .cls "Room") rfl), He.noat_ok (c.fact 69 (f := .noat "Room" "outside") rfl), He.noat_ok (c.fact 70 (f := .noat "Room" "inside") rfl), He.noat_ok (c.fact 71 (f := .noat "Room" "begin_degrees") rfl), He.noat_ok (c.fact 72 (f := .noat "Room" "past") rfl), He.noat_ok (c.fact 73 (f := .noat "Room" "repeated") rfl), He.noat_ok (c.fact 74 (f := .noat "Room" "share") rfl), He.noat_ok (c.fact 75 (f := .noat "Room" "coldest") rfl), He.noat_ok (c.fact 76 (f := .noat "Room" "warmest") rfl)⟩
theorem cls_Setting {P : Program} {w : World} {K : PySem.W.Frag} (c : He.SaysD fa fn K) : SettingC K (adsOf P w K).cSetting := ⟨He.cls_ok (c.fact 79 (f := .cls "Setting") rfl), He.noat_ok (c.fact 80 (f := .noat "Setting" "least") rfl), He.noat_ok (c.fact 81 (f := .noat "Setting" "most") rfl)⟩
theorem cls_HourSetting {P : Program} {w : World} {K : PySem.W.Frag} (c : He.SaysD fa fn K) : HourSettingC K (adsOf P w K).cHourSetting := ⟨He.cls_ok (c.fact 84 (f := .cls "HourSetting") rfl), He.noat_ok (c.fact 85 (f := .noat "HourSetting" "least") rfl), He.noat_ok (c.fact 86 (f := .noat "HourSetting" "most") rfl), He.noat_ok (c.fact 87 (f := .noat "HourSetting" "length") rfl), He.noat_ok (c.fact 88 (f := .noat "HourSetting" "hours") rfl)⟩
theorem cls_RestSetting {P : Program} {w : World} {K : PySem.W.Frag} (c : He.SaysD fa fn K) : RestSettingC K (adsOf P w K).cRestSetting := ⟨He.cls_ok (c.fact 91 (f := .cls "RestSetting") rfl), He.noat_ok (c.fact 92 (f := .noat "RestSetting" "least") rfl), He.noat_ok (c.fact 93 (f := .noat "RestSetting" "most") rfl), He.noat_ok (c.fact 94 (f := .noat "RestSetting" "rest") rfl)⟩
theorem facts {P : Program} {w : World} {K : PySem.W.Frag} {h : Heap} {mg : Str → Option Value} {f : Addr} (X : K.In h) (G : h.Ns mainGlobals mg) (hfa : mg ("law" : Str) = some (.ref f)) (c : He.SaysD fa fn K) (cp : SaysP prs K) (cc : cvs K = true) (cu : SaysU sus P K) :
    ∃ fd : FuncData, (∀ (s : Shared) (v : Value), BindsTo s fd ⟨[v], []⟩ [("_law_script", v)]) ∧ (((RoomCs K (adsOf P w K) ∧ SettingC K (adsOf P w K).cSetting) ∧ HourSettingC K (adsOf P w K).cHourSetting) ∧ RestSettingC K (adsOf P w K).cRestSetting) ∧ ∀ base : Heap, K.In base → base.Ns mainGlobals mg → FnOk P w K mg base CX0 8 f fd ["_law_script"] (sp_law K (adsOf P w K)) := by
  obtain ⟨fd_law2_start, F_law2_start⟩ := c.def_ 0 (d := d_law2_start) rfl
  obtain ⟨fd_Weather_init, F_Weather_init⟩ := c.def_ 1 (d := d_Weather_init) rfl
  obtain ⟨fd_common_divisor, F_common_divisor⟩ := c.def_ 2 (d := d_common_divisor) rfl
  obtain ⟨fd_Weather___add, F_Weather___add⟩ := c.def_ 3 (d := d_Weather___add) rfl
  obtain ⟨fd_Weather___mul, F_Weather___mul⟩ := c.def_ 4 (d := d_Weather___mul) rfl
  obtain ⟨fd_law2_single, F_law2_single⟩ := c.def_ 5 (d := d_law2_single) rfl
  obtain ⟨fd_Weather___len, F_Weather___len⟩ := c.def_ 6 (d := d_Weather___len) rfl
  obtain ⟨fd_law2_weather, F_law2_weather⟩ := c.def_ 7 (d := d_law2_weather) rfl
  obtain ⟨fd_law2_drawn, F_law2_drawn⟩ := c.def_ 8 (d := d_law2_drawn) rfl
  obtain ⟨fd_law2_changes, F_law2_changes⟩ := c.def_ 9 (d := d_law2_changes) rfl
  obtain ⟨fd_validate_number, F_validate_number⟩ := c.def_ 10 (d := d_validate_number) rfl
  obtain ⟨fd_History_decide, F_History_decide⟩ := c.def_ 11 (d := d_History_decide) rfl
  obtain ⟨fd_Run_init, F_Run_init⟩ := c.def_ 12 (d := d_Run_init) rfl
  obtain ⟨fd_Run_first_beyond, F_Run_first_beyond⟩ := c.def_ 13 (d := d_Run_first_beyond) rfl
  obtain ⟨fd_Run_at, F_Run_at⟩ := c.def_ 14 (d := d_Run_at) rfl
  obtain ⟨fd_History_find_runs, F_History_find_runs⟩ := c.def_ 15 (d := d_History_find_runs) rfl
  obtain ⟨fd_History_init, F_History_init⟩ := c.def_ 16 (d := d_History_init) rfl
  obtain ⟨fd_History_circle, F_History_circle⟩ := c.def_ 17 (d := d_History_circle) rfl
  obtain ⟨fd_repetition_of, F_repetition_of⟩ := c.def_ 18 (d := d_repetition_of) rfl
  obtain ⟨fd_share_of, F_share_of⟩ := c.def_ 19 (d := d_share_of) rfl
  obtain ⟨fd_Run_extreme, F_Run_extreme⟩ := c.def_ 20 (d := d_Run_extreme) rfl
  obtain ⟨fd_extreme_of, F_extreme_of⟩ := c.def_ 21 (d := d_extreme_of) rfl
  obtain ⟨fd_Room_init, F_Room_init⟩ := c.def_ 22 (d := d_Room_init) rfl
  obtain ⟨fd_Heater_init, F_Heater_init⟩ := c.def_ 23 (d := d_Heater_init) rfl
  obtain ⟨fd_Setting_thresholds, F_Setting_thresholds⟩ := c.def_ 24 (d := d_Setting_thresholds) rfl
  obtain ⟨fd_Setting_may_switch, F_Setting_may_switch⟩ := c.def_ 25 (d := d_Setting_may_switch) rfl
  obtain ⟨fd_RestSetting_may_switch, F_RestSetting_may_switch⟩ := c.def_ 26 (d := d_RestSetting_may_switch) rfl
  obtain ⟨fd_Setting___call, F_Setting___call⟩ := c.def_ 27 (d := d_Setting___call) rfl
  obtain ⟨fd_Weather___getitem, F_Weather___getitem⟩ := c.def_ 28 (d := d_Weather___getitem) rfl
  obtain ⟨fd_watch, F_watch⟩ := c.def_ 29 (d := d_watch) rfl
  obtain ⟨fd_is_range, F_is_range⟩ := c.def_ 30 (d := d_is_range) rfl
  obtain ⟨fd_Setting_init, F_Setting_init⟩ := c.def_ 31 (d := d_Setting_init) rfl
  obtain ⟨fd_History_wrapped, F_History_wrapped⟩ := c.def_ 32 (d := d_History_wrapped) rfl
  obtain ⟨fd_History_run_at, F_History_run_at⟩ := c.def_ 33 (d := d_History_run_at) rfl
  obtain ⟨fd_Room_temperature, F_Room_temperature⟩ := c.def_ 34 (d := d_Room_temperature) rfl
  obtain ⟨fd_Room_temperatures, F_Room_temperatures⟩ := c.def_ 35 (d := d_Room_temperatures) rfl
  obtain ⟨fd_Room_is_on, F_Room_is_on⟩ := c.def_ 36 (d := d_Room_is_on) rfl
  obtain ⟨fd_totals, F_totals⟩ := c.def_ 37 (d := d_totals) rfl
  obtain ⟨fd_Room_heated_before, F_Room_heated_before⟩ := c.def_ 38 (d := d_Room_heated_before) rfl
  obtain ⟨fd_Room_loop_begin, F_Room_loop_begin⟩ := c.def_ 39 (d := d_Room_loop_begin) rfl
  obtain ⟨fd_Room_heating_ticks, F_Room_heating_ticks⟩ := c.def_ 40 (d := d_Room_heating_ticks) rfl
  obtain ⟨fd_Room_switched_before, F_Room_switched_before⟩ := c.def_ 41 (d := d_Room_switched_before) rfl
  obtain ⟨fd_Room_switchings, F_Room_switchings⟩ := c.def_ 42 (d := d_Room_switchings) rfl
  obtain ⟨fd_law, F_law⟩ := c.def_ 43 (d := d_law) rfl
  obtain ⟨fd_HourSetting_thresholds, F_HourSetting_thresholds⟩ := cu.get (st := s_HourSetting_thresholds) (C := "HourSetting") (m := "thresholds") (q := "HourSetting.thresholds") 0 rfl
  obtain ⟨fd_HourSetting_init, F_HourSetting_init⟩ := cu.get (st := s_HourSetting___init__) (C := "HourSetting") (m := "__init__") (q := "HourSetting.__init__") 1 rfl
  obtain ⟨fd_RestSetting_init, F_RestSetting_init⟩ := cu.get (st := s_RestSetting___init__) (C := "RestSetting") (m := "__init__") (q := "RestSetting.__init__") 2 rfl
  have hsu : mg "super" = none := He.free_ok X G (c.fact 16 (f := .free "super") rfl)
  obtain ⟨P_Weather_changes, fd_Weather_changes, F_Weather_changes⟩ := cp.get 0 (d := d_Weather_changes) rfl
  obtain ⟨P_Heater_gain, fd_Heater_gain, F_Heater_gain⟩ := cp.get 1 (d := d_Heater_gain) rfl
  obtain ⟨P_Heater_low, fd_Heater_low, F_Heater_low⟩ := cp.get 2 (d := d_Heater_low) rfl
  obtain ⟨P_Heater_high, fd_Heater_high, F_Heater_high⟩ := cp.get 3 (d := d_Heater_high) rfl
  have e := hfa.symm.trans (He.glo_ok X G (c.fact 30 (f := .glo "law") rfl))
  cases e
  have bl := FunD.bindsA (ps := ["_law_script"]) F_law fun _ _ _ _ _ _ us hl => match us, hl with | [_], _ => rfl
  refine ⟨fd_law, fun s v => bl s [v] rfl, ⟨⟨⟨⟨cls_Weather c, cls_Heater c, cls_Room c, cls_History c, cls_Run c⟩, cls_Setting c⟩, cls_HourSetting c⟩, cls_RestSetting c⟩, fun base _ _ => ?_⟩
  have b : Blt mg := ⟨He.free_ok X G (c.fact 0 (f := .free "len") rfl), He.free_ok X G (c.fact 1 (f := .free "int") rfl), He.free_ok X G (c.fact 2 (f := .free "min") rfl), He.free_ok X G (c.fact 3 (f := .free "max") rfl), He.free_ok X G (c.fact 4 (f := .free "sum") rfl), He.free_ok X G (c.fact 5 (f := .free "range") rfl), He.free_ok X G (c.fact 6 (f := .free "enumerate") rfl), He.free_ok X G (c.fact 7 (f := .free "isinstance") rfl), He.free_ok X G (c.fact 8 (f := .free "list") rfl), He.free_ok X G (c.fact 9 (f := .free "tuple") rfl), He.free_ok X G (c.fact 10 (f := .free "sorted") rfl), He.free_ok X G (c.fact 11 (f := .free "abs") rfl), He.free_ok X G (c.fact 12 (f := .free "str") rfl), He.free_ok X G (c.fact 13 (f := .free "dict") rfl), He.free_ok X G (c.fact 14 (f := .free "bool") rfl), He.free_ok X G (c.fact 15 (f := .free "ValueError") rfl)⟩
  have k_MAX_DEGREES : ∃ u, mg "MAX_DEGREES" = some u ∧ RelV (.int 1000000000000) u := by
    obtain ⟨t, e⟩ := He.int_ok X G (c.fact 31 (f := .int "MAX_DEGREES" 1000000000000) rfl)
    exact ⟨_, e, t, rfl⟩
  have k_MAX_GAIN : ∃ u, mg "MAX_GAIN" = some u ∧ RelV (.int 200) u := by
    obtain ⟨t, e⟩ := He.int_ok X G (c.fact 32 (f := .int "MAX_GAIN" 200) rfl)
    exact ⟨_, e, t, rfl⟩
  have k_MAX_LISTED : ∃ u, mg "MAX_LISTED" = some u ∧ RelV (.int 10000) u := by
    obtain ⟨t, e⟩ := He.int_ok X G (c.fact 33 (f := .int "MAX_LISTED" 10000) rfl)
    exact ⟨_, e, t, rfl⟩
  have k_MAX_REST : ∃ u, mg "MAX_REST" = some u ∧ RelV (.int 1000) u := by
    obtain ⟨t, e⟩ := He.int_ok X G (c.fact 34 (f := .int "MAX_REST" 1000) rfl)
    exact ⟨_, e, t, rfl⟩
  have k_MAX_TICK : ∃ u, mg "MAX_TICK" = some u ∧ RelV (.int 1000000000000000000) u := by
    obtain ⟨t, e⟩ := He.int_ok X G (c.fact 35 (f := .int "MAX_TICK" 1000000000000000000) rfl)
    exact ⟨_, e, t, rfl⟩
  have k_MAX_WATCHED : ∃ u, mg "MAX_WATCHED" = some u ∧ RelV (.int 10000) u := by
    obtain ⟨t, e⟩ := He.int_ok X G (c.fact 36 (f := .int "MAX_WATCHED" 10000) rfl)
    exact ⟨_, e, t, rfl⟩
  have a_HourSetting : ∃ u, mg "HourSetting" = some u ∧ RelV (.ref (adsOf P w K).cHourSetting) u := ⟨_, He.glo_ok X G (c.fact 83 (f := .glo "HourSetting") rfl), rfl⟩
  have a_Weather : ∃ u, mg "Weather" = some u ∧ RelV (.ref (adsOf P w K).cWeather) u := ⟨_, He.glo_ok X G (c.fact 37 (f := .glo "Weather") rfl), rfl⟩
  have cv_HourSetting_MAX_LENGTH : CVC K (adsOf P w K).cHourSetting "MAX_LENGTH" (.int 24) := cvB_ok (K := K) (x := "HourSetting") (f := "MAX_LENGTH") (by have := cc; unfold cvs at this; simp only [Bool.and_eq_true] at this; exact this.1.1.1.1.1.1.1.1.1.1.1)
  have cv_Weather_MAX_CHANGE : CVC K (adsOf P w K).cWeather "MAX_CHANGE" (.int 100) := cvB_ok (K := K) (x := "Weather") (f := "MAX_CHANGE") (by have := cc; unfold cvs at this; simp only [Bool.and_eq_true] at this; exact this.1.1.1.1.1.1.1.1.1.1.2)
  have cv_Weather_MAX_TICKS : CVC K (adsOf P w K).cWeather "MAX_TICKS" (.int 24) := cvB_ok (K := K) (x := "Weather") (f := "MAX_TICKS") (by have := cc; unfold cvs at this; simp only [Bool.and_eq_true] at this; exact this.1.1.1.1.1.1.1.1.1.2)
  have sf_Weather : PySem.W.selfFirst K (adsOf P w K).cWeather = true := (by have := cc; unfold cvs at this; simp only [Bool.and_eq_true] at this; exact this.1.1.1.1.1.1.1.1.2)
  have ml_Weather : mulB K (adsOf P w K).cWeather = true := (by have := cc; unfold cvs at this; simp only [Bool.and_eq_true] at this; exact this.1.1.1.1.1.1.1.2)
  have b_law2_start : Binds K fd_law2_start ["_law_script"] [] := FunD.bindsN (ps := ["_law_script"]) F_law2_start fun _ _ _ _ _ _ us hl => match us, hl with | [_], _ => rfl
  have c_law2_start :  CalR P w K mg base CX0 1 "_law_start" (sp_law2_start K (adsOf P w K)) := ⟨_, Wm.FnOk.R (ok_law2_start (A := adsOf P w K) F_law2_start noE0 b ) b_law2_start, He.glo_ok X G (c.fact 17 (f := .glo "_law_start") rfl), F_law2_start.kp⟩
  have n_Weather :  MakR P w K mg base CX0 1 "Weather" (adsOf P w K).cWeather (sp_Weather_init K (adsOf P w K)) := ⟨_, ok_Weather_init (A := adsOf P w K) F_Weather_init noE0 b a_Weather cv_Weather_MAX_TICKS cv_Weather_MAX_CHANGE StX.cxUp_none, He.mkr_ok (c.fact 40 (f := .mkr "Weather") rfl), He.glo_ok X G (c.fact 37 (f := .glo "Weather") rfl)⟩
  have b_common_divisor : Binds K fd_common_divisor ["one", "other"] [] := FunD.bindsN (ps := ["one", "other"]) F_common_divisor fun _ _ _ _ _ _ us hl => match us, hl with | [_, _], _ => rfl
  have c_common_divisor :  CalR P w K mg base CX0 1 "common_divisor" (sp_common_divisor K (adsOf P w K)) := ⟨_, Wm.FnOk.R (ok_common_divisor (A := adsOf P w K) F_common_divisor noE0 b ) b_common_divisor, He.glo_ok X G (c.fact 18 (f := .glo "common_divisor") rfl), F_common_divisor.kp⟩
  have b_Weather___add : Binds K fd_Weather___add ["self", "other"] [] := FunD.bindsN (ps := ["self", "other"]) F_Weather___add fun _ _ _ _ _ _ us hl => match us, hl with | [_, _], _ => rfl
  have d_Weather___add__ :  DunR P w K mg base CX0 3 (adsOf P w K).cWeather "__add__" (sp_Weather___add K (adsOf P w K)) := ⟨_, Wm.FnOk.R (ok_Weather___add (A := adsOf P w K) F_Weather___add noE0 b c_common_divisor n_Weather) b_Weather___add, (He.meth_ok (c.fact 100 (f := .meth "Weather" "__add__") rfl)).at_, (He.meth_ok (c.fact 100 (f := .meth "Weather" "__add__") rfl)).fn, Wm.FunD.fnIn F_Weather___add⟩
  have b_Weather___mul : Binds K fd_Weather___mul ["self", "times"] [] := FunD.bindsN (ps := ["self", "times"]) F_Weather___mul fun _ _ _ _ _ _ us hl => match us, hl with | [_, _], _ => rfl
  have d_Weather___mul__ :  DunR P w K mg base CX0 3 (adsOf P w K).cWeather "__mul__" (sp_Weather___mul K (adsOf P w K)) := ⟨_, Wm.FnOk.R (ok_Weather___mul (A := adsOf P w K) F_Weather___mul noE0 b n_Weather) b_Weather___mul, (He.meth_ok (c.fact 101 (f := .meth "Weather" "__mul__") rfl)).at_, (He.meth_ok (c.fact 101 (f := .meth "Weather" "__mul__") rfl)).fn, Wm.FunD.fnIn F_Weather___mul⟩
  have b_law2_single : Binds K fd_law2_single ["_law_size", "_law_at"] [] := FunD.bindsN (ps := ["_law_size", "_law_at"]) F_law2_single fun _ _ _ _ _ _ us hl => match us, hl with | [_, _], _ => rfl
  have c_law2_single :  CalR P w K mg base CX0 3 "_law_single" (sp_law2_single K (adsOf P w K)) := ⟨_, Wm.FnOk.R (ok_law2_single (A := adsOf P w K) F_law2_single noE0 b n_Weather) b_law2_single, He.glo_ok X G (c.fact 19 (f := .glo "_law_single") rfl), F_law2_single.kp⟩
  have b_Weather___len : Binds K fd_Weather___len ["self"] [] := FunD.bindsN (ps := ["self"]) F_Weather___len fun _ _ _ _ _ _ us hl => match us, hl with | [_], _ => rfl
  have d_Weather___len__ :  DunR P w K mg base CX0 1 (adsOf P w K).cWeather "__len__" (sp_Weather___len K (adsOf P w K)) := ⟨_, Wm.FnOk.R (ok_Weather___len (A := adsOf P w K) F_Weather___len noE0 b ) b_Weather___len, (He.meth_ok (c.fact 102 (f := .meth "Weather" "__len__") rfl)).at_, (He.meth_ok (c.fact 102 (f := .meth "Weather" "__len__") rfl)).fn, Wm.FunD.fnIn F_Weather___len⟩
  have b_law2_weather : Binds K fd_law2_weather ["_law_changes_here"] [] := FunD.bindsN (ps := ["_law_changes_here"]) F_law2_weather fun _ _ _ _ _ _ us hl => match us, hl with | [_], _ => rfl
  have c_law2_weather :  CalR P w K mg base CX0 4 "_law_weather" (sp_law2_weather K (adsOf P w K)) := ⟨_, Wm.FnOk.R (ok_law2_weather (A := adsOf P w K) F_law2_weather noE0 b n_Weather d_Weather___add__ sf_Weather d_Weather___mul__ ml_Weather c_law2_single d_Weather___len__) b_law2_weather, He.glo_ok X G (c.fact 20 (f := .glo "_law_weather") rfl), F_law2_weather.kp⟩
  have b_law2_drawn : Binds K fd_law2_drawn ["_law_state", "_law_count"] [] := FunD.bindsN (ps := ["_law_state", "_law_count"]) F_law2_drawn fun _ _ _ _ _ _ us hl => match us, hl with | [_, _], _ => rfl
  have c_law2_drawn :  CalR P w K mg base CX0 1 "_law_drawn" (sp_law2_drawn K (adsOf P w K)) := ⟨_, Wm.FnOk.R (ok_law2_drawn (A := adsOf P w K) F_law2_drawn noE0 b ) b_law2_drawn, He.glo_ok X G (c.fact 21 (f := .glo "_law_drawn") rfl), F_law2_drawn.kp⟩
  have b_law2_changes : Binds K fd_law2_changes ["_law_state", "_law_most"] [] := FunD.bindsN (ps := ["_law_state", "_law_most"]) F_law2_changes fun _ _ _ _ _ _ us hl => match us, hl with | [_, _], _ => rfl
  have c_law2_changes :  CalR P w K mg base CX0 2 "_law_changes" (sp_law2_changes K (adsOf P w K)) := ⟨_, Wm.FnOk.R (ok_law2_changes (A := adsOf P w K) F_law2_changes noE0 b c_law2_drawn) b_law2_changes, He.glo_ok X G (c.fact 22 (f := .glo "_law_changes") rfl), F_law2_changes.kp⟩
  have b_validate_number : Binds K fd_validate_number ["number", "smallest", "largest"] [] := FunD.bindsN (ps := ["number", "smallest", "largest"]) F_validate_number fun _ _ _ _ _ _ us hl => match us, hl with | [_, _, _], _ => rfl
  have c_validate_number :  CalR P w K mg base CX0 1 "validate_number" (sp_validate_number K (adsOf P w K)) := ⟨_, Wm.FnOk.R (ok_validate_number (A := adsOf P w K) F_validate_number noE0 b ) b_validate_number, He.glo_ok X G (c.fact 23 (f := .glo "validate_number") rfl), F_validate_number.kp⟩
  have b_History_decide : Binds K fd_History_decide ["self", "degrees", "is_heating"] [] := FunD.bindsN (ps := ["self", "degrees", "is_heating"]) F_History_decide fun _ _ _ _ _ _ us hl => match us, hl with | [_, _, _], _ => rfl
  have m_History_decide :  MetR P w K mg base CX0 1 (adsOf P w K).cHistory "decide" (sp_History_decide K (adsOf P w K)) := ⟨_, Wm.FnOk.R (ok_History_decide (A := adsOf P w K) F_History_decide noE0 b ) b_History_decide, He.cls_ok (c.fact 42 (f := .cls "History") rfl), He.meth_ok (c.fact 103 (f := .meth "History" "decide") rfl)⟩
  have b_Run_init : Binds K fd_Run_init ["self", "begin", "degrees", "is_heating", "steps"] [] := FunD.bindsN (ps := ["self", "begin", "degrees", "is_heating", "steps"]) F_Run_init fun _ _ _ _ _ _ us hl => match us, hl with | [_, _, _, _, _], _ => rfl
  have n_Run :  MakR P w K mg base CX0 1 "Run" (adsOf P w K).cRun (sp_Run_init K (adsOf P w K)) := ⟨_, Wm.FnOk.R (ok_Run_init (A := adsOf P w K) F_Run_init noE0 b ) b_Run_init, He.mkr_ok (c.fact 60 (f := .mkr "Run") rfl), He.glo_ok X G (c.fact 51 (f := .glo "Run") rfl)⟩
  have b_Run_first_beyond : Binds K fd_Run_first_beyond ["self", "bound", "sign"] [] := FunD.bindsN (ps := ["self", "bound", "sign"]) F_Run_first_beyond fun _ _ _ _ _ _ us hl => match us, hl with | [_, _, _], _ => rfl
  have m_Run_first_beyond :  MetR P w K mg base CX0 1 (adsOf P w K).cRun "first_beyond" (sp_Run_first_beyond K (adsOf P w K)) := ⟨_, Wm.FnOk.R (ok_Run_first_beyond (A := adsOf P w K) F_Run_first_beyond noE0 b ) b_Run_first_beyond, He.cls_ok (c.fact 52 (f := .cls "Run") rfl), He.meth_ok (c.fact 104 (f := .meth "Run" "first_beyond") rfl)⟩
  have b_Run_at : Binds K fd_Run_at ["self", "tick"] [] := FunD.bindsN (ps := ["self", "tick"]) F_Run_at fun _ _ _ _ _ _ us hl => match us, hl with | [_, _], _ => rfl
  have m_Run_at :  MetR P w K mg base CX0 1 (adsOf P w K).cRun "at" (sp_Run_at K (adsOf P w K)) := ⟨_, Wm.FnOk.R (ok_Run_at (A := adsOf P w K) F_Run_at noE0 b ) b_Run_at, He.cls_ok (c.fact 52 (f := .cls "Run") rfl), He.meth_ok (c.fact 105 (f := .meth "Run" "at") rfl)⟩
  have b_History_find_runs : Binds K fd_History_find_runs ["self", "degrees", "is_heating"] [] := FunD.bindsN (ps := ["self", "degrees", "is_heating"]) F_History_find_runs fun _ _ _ _ _ _ us hl => match us, hl with | [_, _, _], _ => rfl
  have m_History_find_runs :  MetR P w K mg base CX0 3 (adsOf P w K).cHistory "find_runs" (sp_History_find_runs K (adsOf P w K)) := ⟨_, Wm.FnOk.R (ok_History_find_runs (A := adsOf P w K) F_History_find_runs noE0 b m_History_decide n_Run m_Run_first_beyond m_Run_at) b_History_find_runs, He.cls_ok (c.fact 42 (f := .cls "History") rfl), He.meth_ok (c.fact 106 (f := .meth "History" "find_runs") rfl)⟩
  have b_History_init : Binds K fd_History_init ["self", "changes", "gain", "low", "high", "start", "is_heating"] [] := FunD.bindsN (ps := ["self", "changes", "gain", "low", "high", "start", "is_heating"]) F_History_init fun _ _ _ _ _ _ us hl => match us, hl with | [_, _, _, _, _, _, _], _ => rfl
  have n_History :  MakR P w K mg base CX0 4 "History" (adsOf P w K).cHistory (sp_History_init K (adsOf P w K)) := ⟨_, Wm.FnOk.R (ok_History_init (A := adsOf P w K) F_History_init noE0 b m_History_find_runs) b_History_init, He.mkr_ok (c.fact 50 (f := .mkr "History") rfl), He.glo_ok X G (c.fact 41 (f := .glo "History") rfl)⟩
  have b_Weather_changes : Binds K fd_Weather_changes ["self"] [] := FunD.bindsN (ps := ["self"]) F_Weather_changes fun _ _ _ _ _ _ us hl => match us, hl with | [_], _ => rfl
  have p_Weather_changes :  PrpR P w K mg base CX0 1 (adsOf P w K).cWeather "changes" (sp_Weather_changes K (adsOf P w K)) := ⟨_, _, _, _, ok_Weather_changes (A := adsOf P w K) F_Weather_changes noE0 b , He.cls_ok (c.fact 38 (f := .cls "Weather") rfl), P_Weather_changes, b_Weather_changes⟩
  have b_Heater_gain : Binds K fd_Heater_gain ["self"] [] := FunD.bindsN (ps := ["self"]) F_Heater_gain fun _ _ _ _ _ _ us hl => match us, hl with | [_], _ => rfl
  have p_Heater_gain :  PrpR P w K mg base CX0 1 (adsOf P w K).cHeater "gain" (sp_Heater_gain K (adsOf P w K)) := ⟨_, _, _, _, ok_Heater_gain (A := adsOf P w K) F_Heater_gain noE0 b , He.cls_ok (c.fact 62 (f := .cls "Heater") rfl), P_Heater_gain, b_Heater_gain⟩
  have b_Heater_low : Binds K fd_Heater_low ["self"] [] := FunD.bindsN (ps := ["self"]) F_Heater_low fun _ _ _ _ _ _ us hl => match us, hl with | [_], _ => rfl
  have p_Heater_low :  PrpR P w K mg base CX0 1 (adsOf P w K).cHeater "low" (sp_Heater_low K (adsOf P w K)) := ⟨_, _, _, _, ok_Heater_low (A := adsOf P w K) F_Heater_low noE0 b , He.cls_ok (c.fact 62 (f := .cls "Heater") rfl), P_Heater_low, b_Heater_low⟩
  have b_Heater_high : Binds K fd_Heater_high ["self"] [] := FunD.bindsN (ps := ["self"]) F_Heater_high fun _ _ _ _ _ _ us hl => match us, hl with | [_], _ => rfl
  have p_Heater_high :  PrpR P w K mg base CX0 1 (adsOf P w K).cHeater "high" (sp_Heater_high K (adsOf P w K)) := ⟨_, _, _, _, ok_Heater_high (A := adsOf P w K) F_Heater_high noE0 b , He.cls_ok (c.fact 62 (f := .cls "Heater") rfl), P_Heater_high, b_Heater_high⟩
  have b_History_circle : Binds K fd_History_circle ["self"] [] := FunD.bindsN (ps := ["self"]) F_History_circle fun _ _ _ _ _ _ us hl => match us, hl with | [_], _ => rfl
  have m_History_circle :  MetR P w K mg base CX0 1 (adsOf P w K).cHistory "circle" (sp_History_circle K (adsOf P w K)) := ⟨_, Wm.FnOk.R (ok_History_circle (A := adsOf P w K) F_History_circle noE0 b ) b_History_circle, He.cls_ok (c.fact 42 (f := .cls "History") rfl), He.meth_ok (c.fact 107 (f := .meth "History" "circle") rfl)⟩
  have b_repetition_of : Binds K fd_repetition_of ["past"] [] := FunD.bindsN (ps := ["past"]) F_repetition_of fun _ _ _ _ _ _ us hl => match us, hl with | [_], _ => rfl
  have c_repetition_of :  CalR P w K mg base CX0 2 "repetition_of" (sp_repetition_of K (adsOf P w K)) := ⟨_, Wm.FnOk.R (ok_repetition_of (A := adsOf P w K) F_repetition_of noE0 b m_History_circle) b_repetition_of, He.glo_ok X G (c.fact 24 (f := .glo "repetition_of") rfl), F_repetition_of.kp⟩
  have b_share_of : Binds K fd_share_of ["past"] [] := FunD.bindsN (ps := ["past"]) F_share_of fun _ _ _ _ _ _ us hl => match us, hl with | [_], _ => rfl
  have c_share_of :  CalR P w K mg base CX0 2 "share_of" (sp_share_of K (adsOf P w K)) := ⟨_, Wm.FnOk.R (ok_share_of (A := adsOf P w K) F_share_of noE0 b c_common_divisor m_History_circle) b_share_of, He.glo_ok X G (c.fact 25 (f := .glo "share_of") rfl), F_share_of.kp⟩
  have b_Run_extreme : Binds K fd_Run_extreme ["self", "last", "sign"] [] := FunD.bindsN (ps := ["self", "last", "sign"]) F_Run_extreme fun _ _ _ _ _ _ us hl => match us, hl with | [_, _, _], _ => rfl
  have m_Run_extreme :  MetR P w K mg base CX0 2 (adsOf P w K).cRun "extreme" (sp_Run_extreme K (adsOf P w K)) := ⟨_, Wm.FnOk.R (ok_Run_extreme (A := adsOf P w K) F_Run_extreme noE0 b m_Run_at) b_Run_extreme, He.cls_ok (c.fact 52 (f := .cls "Run") rfl), He.meth_ok (c.fact 108 (f := .meth "Run" "extreme") rfl)⟩
  have b_extreme_of : Binds K fd_extreme_of ["past", "sign"] [] := FunD.bindsN (ps := ["past", "sign"]) F_extreme_of fun _ _ _ _ _ _ us hl => match us, hl with | [_, _], _ => rfl
  have c_extreme_of :  CalR P w K mg base CX0 3 "extreme_of" (sp_extreme_of K (adsOf P w K)) := ⟨_, Wm.FnOk.R (ok_extreme_of (A := adsOf P w K) F_extreme_of noE0 b m_Run_extreme) b_extreme_of, He.glo_ok X G (c.fact 26 (f := .glo "extreme_of") rfl), F_extreme_of.kp⟩
  obtain ⟨ds_Room, dv_Room, bd_Room⟩ := FunD.binds0 (ps := ["self", "weather", "heater", "start", "on"]) F_Room_init 4 (List.cons_ne_nil _ _) rfl (fun D doc pm an cdv ct us ks h1 h2 => match us, ks, h1, h2 with | [_, _, _, _], [_], _, _ => ⟨_, _, _, _, _, _, rfl, rfl, rfl⟩)
  have n_Room :  MakR P w K mg base CX0 6 "Room" (adsOf P w K).cRoom (spD [.bl false] (sp_Room_init K (adsOf P w K))) := ⟨_, FnOk.raw (ok_Room_init (A := adsOf P w K) F_Room_init noE0 b c_validate_number k_MAX_DEGREES n_History p_Weather_changes p_Heater_gain p_Heater_low p_Heater_high c_repetition_of c_share_of c_extreme_of) bd_Room dv_Room, He.mkr_ok (c.fact 77 (f := .mkr "Room") rfl), He.glo_ok X G (c.fact 67 (f := .glo "Room") rfl)⟩
  have b_Heater_init : Binds K fd_Heater_init ["self", "gain", "low", "high"] [] := FunD.bindsN (ps := ["self", "gain", "low", "high"]) F_Heater_init fun _ _ _ _ _ _ us hl => match us, hl with | [_, _, _, _], _ => rfl
  have n_Heater :  MakR P w K mg base CX0 1 "Heater" (adsOf P w K).cHeater (sp_Heater_init K (adsOf P w K)) := ⟨_, Wm.FnOk.R (ok_Heater_init (A := adsOf P w K) F_Heater_init noE0 b k_MAX_GAIN k_MAX_DEGREES) b_Heater_init, He.mkr_ok (c.fact 66 (f := .mkr "Heater") rfl), He.glo_ok X G (c.fact 61 (f := .glo "Heater") rfl)⟩
  have b_Setting_thresholds : Binds K fd_Setting_thresholds ["self", "tick"] [] := FunD.bindsN (ps := ["self", "tick"]) F_Setting_thresholds fun _ _ _ _ _ _ us hl => match us, hl with | [_, _], _ => rfl
  have m_RestSetting_thresholds :  MetR P w K mg base CX0 1 (adsOf P w K).cRestSetting "thresholds" (sp_Setting_thresholds K (adsOf P w K)) := by
    have h := He.meth_ok (c.fact 99 (f := .meth "RestSetting" "thresholds") rfl)
    rw [show He.ma K (He.ga K "RestSetting") "thresholds" = He.ma K (He.ga K "Setting") "thresholds" from of_decide_eq_true (by have := cc; unfold cvs at this; simp only [Bool.and_eq_true] at this; exact this.2)] at h
    exact ⟨_, Wm.FnOk.R (ok_Setting_thresholds (A := adsOf P w K) F_Setting_thresholds noE0 b ) b_Setting_thresholds, He.cls_ok (c.fact 91 (f := .cls "RestSetting") rfl), h⟩
  have m_Setting_thresholds :  MetR P w K mg base CX0 1 (adsOf P w K).cSetting "thresholds" (sp_Setting_thresholds K (adsOf P w K)) := ⟨_, Wm.FnOk.R (ok_Setting_thresholds (A := adsOf P w K) F_Setting_thresholds noE0 b ) b_Setting_thresholds, He.cls_ok (c.fact 79 (f := .cls "Setting") rfl), He.meth_ok (c.fact 109 (f := .meth "Setting" "thresholds") rfl)⟩
  have su_HourSetting_thresholds :  SupR P w K mg base CX0 1 (adsOf P w K).cHourSetting "thresholds" (sp_Setting_thresholds K (adsOf P w K)) := ⟨_, Wm.FnOk.R (ok_Setting_thresholds (A := adsOf P w K) F_Setting_thresholds noE0 b ) b_Setting_thresholds, supB_ok (by have := cc; unfold cvs at this; simp only [Bool.and_eq_true] at this; exact this.1.1.1.1.1.2)⟩
  have b_HourSetting_thresholds : Binds K fd_HourSetting_thresholds ["self", "tick"] [] := FunS.bindsN (ps := ["self", "tick"]) F_HourSetting_thresholds fun _ _ _ _ _ us hl => match us, hl with | [_, _], _ => rfl
  have m_HourSetting_thresholds :  MetR P w K mg base CX0 2 (adsOf P w K).cHourSetting "thresholds" (sp_HourSetting_thresholds K (adsOf P w K)) := ⟨_, Wm.FnOk.R (ok_HourSetting_thresholds (A := adsOf P w K) F_HourSetting_thresholds noE0 b hsu su_HourSetting_thresholds) b_HourSetting_thresholds, He.cls_ok (c.fact 84 (f := .cls "HourSetting") rfl), He.meth_ok (c.fact 110 (f := .meth "HourSetting" "thresholds") rfl)⟩
  have b_Setting_may_switch : Binds K fd_Setting_may_switch ["self", "since"] [] := FunD.bindsN (ps := ["self", "since"]) F_Setting_may_switch fun _ _ _ _ _ _ us hl => match us, hl with | [_, _], _ => rfl
  have m_HourSetting_may_switch :  MetR P w K mg base CX0 1 (adsOf P w K).cHourSetting "may_switch" (sp_Setting_may_switch K (adsOf P w K)) := by
    have h := He.meth_ok (c.fact 97 (f := .meth "HourSetting" "may_switch") rfl)
    rw [show He.ma K (He.ga K "HourSetting") "may_switch" = He.ma K (He.ga K "Setting") "may_switch" from of_decide_eq_true (by have := cc; unfold cvs at this; simp only [Bool.and_eq_true] at this; exact this.1.1.2)] at h
    exact ⟨_, Wm.FnOk.R (ok_Setting_may_switch (A := adsOf P w K) F_Setting_may_switch noE0 b ) b_Setting_may_switch, He.cls_ok (c.fact 84 (f := .cls "HourSetting") rfl), h⟩
  have m_Setting_may_switch :  MetR P w K mg base CX0 1 (adsOf P w K).cSetting "may_switch" (sp_Setting_may_switch K (adsOf P w K)) := ⟨_, Wm.FnOk.R (ok_Setting_may_switch (A := adsOf P w K) F_Setting_may_switch noE0 b ) b_Setting_may_switch, He.cls_ok (c.fact 79 (f := .cls "Setting") rfl), He.meth_ok (c.fact 111 (f := .meth "Setting" "may_switch") rfl)⟩
  have b_RestSetting_may_switch : Binds K fd_RestSetting_may_switch ["self", "since"] [] := FunD.bindsN (ps := ["self", "since"]) F_RestSetting_may_switch fun _ _ _ _ _ _ us hl => match us, hl with | [_, _], _ => rfl
  have m_RestSetting_may_switch :  MetR P w K mg base CX0 1 (adsOf P w K).cRestSetting "may_switch" (sp_RestSetting_may_switch K (adsOf P w K)) := ⟨_, Wm.FnOk.R (ok_RestSetting_may_switch (A := adsOf P w K) F_RestSetting_may_switch noE0 b ) b_RestSetting_may_switch, He.cls_ok (c.fact 91 (f := .cls "RestSetting") rfl), He.meth_ok (c.fact 112 (f := .meth "RestSetting" "may_switch") rfl)⟩
  have b_Setting___call : Binds K fd_Setting___call ["self", "tick", "warmth", "on", "since"] [] := FunD.bindsN (ps := ["self", "tick", "warmth", "on", "since"]) F_Setting___call fun _ _ _ _ _ _ us hl => match us, hl with | [_, _, _, _, _], _ => rfl
  have d_HourSetting___call__ :  DunR P w K mg base CX0 3 (adsOf P w K).cHourSetting "__call__" (sp_Setting___call K (adsOf P w K)) := by
    have h := He.meth_ok (c.fact 96 (f := .meth "HourSetting" "__call__") rfl)
    rw [show He.ma K (He.ga K "HourSetting") "__call__" = He.ma K (He.ga K "Setting") "__call__" from of_decide_eq_true (by have := cc; unfold cvs at this; simp only [Bool.and_eq_true] at this; exact this.1.1.1.2)] at h
    exact ⟨_, Wm.FnOk.R (ok_Setting___call (A := adsOf P w K) F_Setting___call noE0 b m_Setting_thresholds m_HourSetting_thresholds m_RestSetting_thresholds m_Setting_may_switch m_HourSetting_may_switch m_RestSetting_may_switch) b_Setting___call, h.at_, h.fn, Wm.FunD.fnIn F_Setting___call⟩
  have d_RestSetting___call__ :  DunR P w K mg base CX0 3 (adsOf P w K).cRestSetting "__call__" (sp_Setting___call K (adsOf P w K)) := by
    have h := He.meth_ok (c.fact 98 (f := .meth "RestSetting" "__call__") rfl)
    rw [show He.ma K (He.ga K "RestSetting") "__call__" = He.ma K (He.ga K "Setting") "__call__" from of_decide_eq_true (by have := cc; unfold cvs at this; simp only [Bool.and_eq_true] at this; exact this.1.2)] at h
    exact ⟨_, Wm.FnOk.R (ok_Setting___call (A := adsOf P w K) F_Setting___call noE0 b m_Setting_thresholds m_HourSetting_thresholds m_RestSetting_thresholds m_Setting_may_switch m_HourSetting_may_switch m_RestSetting_may_switch) b_Setting___call, h.at_, h.fn, Wm.FunD.fnIn F_Setting___call⟩
  have d_Setting___call__ :  DunR P w K mg base CX0 3 (adsOf P w K).cSetting "__call__" (sp_Setting___call K (adsOf P w K)) := ⟨_, Wm.FnOk.R (ok_Setting___call (A := adsOf P w K) F_Setting___call noE0 b m_Setting_thresholds m_HourSetting_thresholds m_RestSetting_thresholds m_Setting_may_switch m_HourSetting_may_switch m_RestSetting_may_switch) b_Setting___call, (He.meth_ok (c.fact 113 (f := .meth "Setting" "__call__") rfl)).at_, (He.meth_ok (c.fact 113 (f := .meth "Setting" "__call__") rfl)).fn, Wm.FunD.fnIn F_Setting___call⟩
  have b_Weather___getitem : Binds K fd_Weather___getitem ["self", "tick"] [] := FunD.bindsN (ps := ["self", "tick"]) F_Weather___getitem fun _ _ _ _ _ _ us hl => match us, hl with | [_, _], _ => rfl
  have d_Weather___getitem__ :  DunR P w K mg base CX0 2 (adsOf P w K).cWeather "__getitem__" (sp_Weather___getitem K (adsOf P w K)) := ⟨_, Wm.FnOk.R (ok_Weather___getitem (A := adsOf P w K) F_Weather___getitem noE0 b c_validate_number k_MAX_TICK) b_Weather___getitem, (He.meth_ok (c.fact 114 (f := .meth "Weather" "__getitem__") rfl)).at_, (He.meth_ok (c.fact 114 (f := .meth "Weather" "__getitem__") rfl)).fn, Wm.FunD.fnIn F_Weather___getitem⟩
  have b_watch : Binds K fd_watch ["weather", "gain", "setting", "start", "count"] [] := FunD.bindsN (ps := ["weather", "gain", "setting", "start", "count"]) F_watch fun _ _ _ _ _ _ us hl => match us, hl with | [_, _, _, _, _], _ => rfl
  have cw_watch :  CalW P w K mg base 4 "watch" (sp_watch K (adsOf P w K)) := ⟨_, _, _, ok_watch (A := adsOf P w K) F_watch noE0 b c_validate_number k_MAX_GAIN k_MAX_DEGREES k_MAX_WATCHED d_Setting___call__ d_HourSetting___call__ d_RestSetting___call__ d_Weather___getitem__, He.glo_ok X G (c.fact 27 (f := .glo "watch") rfl), F_watch.kp, b_watch⟩
  have b_is_range : Binds K fd_is_range ["low", "high"] [] := FunD.bindsN (ps := ["low", "high"]) F_is_range fun _ _ _ _ _ _ us hl => match us, hl with | [_, _], _ => rfl
  have c_is_range :  CalR P w K mg base CX0 1 "is_range" (sp_is_range K (adsOf P w K)) := ⟨_, Wm.FnOk.R (ok_is_range (A := adsOf P w K) F_is_range noE0 b k_MAX_DEGREES) b_is_range, He.glo_ok X G (c.fact 28 (f := .glo "is_range") rfl), F_is_range.kp⟩
  have b_Setting_init : Binds K fd_Setting_init ["self", "low", "high"] [] := FunD.bindsN (ps := ["self", "low", "high"]) F_Setting_init fun _ _ _ _ _ _ us hl => match us, hl with | [_, _, _], _ => rfl
  have n_Setting :  MakR P w K mg base CX0 2 "Setting" (adsOf P w K).cSetting (sp_Setting_init K (adsOf P w K)) := ⟨_, Wm.FnOk.R (ok_Setting_init (A := adsOf P w K) F_Setting_init noE0 b c_is_range) b_Setting_init, He.mkr_ok (c.fact 82 (f := .mkr "Setting") rfl), He.glo_ok X G (c.fact 78 (f := .glo "Setting") rfl)⟩
  have su_HourSetting___init__ :  SupR P w K mg base CX0 2 (adsOf P w K).cHourSetting "__init__" (sp_Setting_init K (adsOf P w K)) := ⟨_, Wm.FnOk.R (ok_Setting_init (A := adsOf P w K) F_Setting_init noE0 b c_is_range) b_Setting_init, supB_ok (by have := cc; unfold cvs at this; simp only [Bool.and_eq_true] at this; exact this.1.1.1.1.1.1.2)⟩
  have su_RestSetting___init__ :  SupR P w K mg base CX0 2 (adsOf P w K).cRestSetting "__init__" (sp_Setting_init K (adsOf P w K)) := ⟨_, Wm.FnOk.R (ok_Setting_init (A := adsOf P w K) F_Setting_init noE0 b c_is_range) b_Setting_init, supB_ok (by have := cc; unfold cvs at this; simp only [Bool.and_eq_true] at this; exact this.1.1.1.1.2)⟩
  have b_History_wrapped : Binds K fd_History_wrapped ["self", "tick"] [] := FunD.bindsN (ps := ["self", "tick"]) F_History_wrapped fun _ _ _ _ _ _ us hl => match us, hl with | [_, _], _ => rfl
  have m_History_wrapped :  MetR P w K mg base CX0 2 (adsOf P w K).cHistory "wrapped" (sp_History_wrapped K (adsOf P w K)) := ⟨_, Wm.FnOk.R (ok_History_wrapped (A := adsOf P w K) F_History_wrapped noE0 b m_History_circle) b_History_wrapped, He.cls_ok (c.fact 42 (f := .cls "History") rfl), He.meth_ok (c.fact 115 (f := .meth "History" "wrapped") rfl)⟩
  have b_History_run_at : Binds K fd_History_run_at ["self", "tick"] [] := FunD.bindsN (ps := ["self", "tick"]) F_History_run_at fun _ _ _ _ _ _ us hl => match us, hl with | [_, _], _ => rfl
  have m_History_run_at :  MetR P w K mg base CX0 1 (adsOf P w K).cHistory "run_at" (sp_History_run_at K (adsOf P w K)) := ⟨_, Wm.FnOk.R (ok_History_run_at (A := adsOf P w K) F_History_run_at noE0 b ) b_History_run_at, He.cls_ok (c.fact 42 (f := .cls "History") rfl), He.meth_ok (c.fact 116 (f := .meth "History" "run_at") rfl)⟩
  have b_Room_temperature : Binds K fd_Room_temperature ["self", "tick"] [] := FunD.bindsN (ps := ["self", "tick"]) F_Room_temperature fun _ _ _ _ _ _ us hl => match us, hl with | [_, _], _ => rfl
  have m_Room_temperature :  MetR P w K mg base CX0 3 (adsOf P w K).cRoom "temperature" (sp_Room_temperature K (adsOf P w K)) := ⟨_, Wm.FnOk.R (ok_Room_temperature (A := adsOf P w K) F_Room_temperature noE0 b c_validate_number k_MAX_TICK m_History_wrapped m_Run_at m_History_run_at) b_Room_temperature, He.cls_ok (c.fact 68 (f := .cls "Room") rfl), He.meth_ok (c.fact 117 (f := .meth "Room" "temperature") rfl)⟩
  have b_Room_temperatures : Binds K fd_Room_temperatures ["self", "first", "last"] [] := FunD.bindsN (ps := ["self", "first", "last"]) F_Room_temperatures fun _ _ _ _ _ _ us hl => match us, hl with | [_, _, _], _ => rfl
  have mw_Room_temperatures :  MetW P w K mg base 4 (adsOf P w K).cRoom "temperatures" (sp_Room_temperatures_w K (adsOf P w K)) := ⟨_, _, _, ok_Room_temperatures_w (A := adsOf P w K) F_Room_temperatures noE0 b c_validate_number k_MAX_TICK k_MAX_LISTED m_Room_temperature, He.cls_ok (c.fact 68 (f := .cls "Room") rfl), He.meth_ok (c.fact 118 (f := .meth "Room" "temperatures") rfl), b_Room_temperatures⟩
  have b_Room_is_on : Binds K fd_Room_is_on ["self", "tick"] [] := FunD.bindsN (ps := ["self", "tick"]) F_Room_is_on fun _ _ _ _ _ _ us hl => match us, hl with | [_, _], _ => rfl
  have m_Room_is_on :  MetR P w K mg base CX0 3 (adsOf P w K).cRoom "is_on" (sp_Room_is_on K (adsOf P w K)) := ⟨_, Wm.FnOk.R (ok_Room_is_on (A := adsOf P w K) F_Room_is_on noE0 b c_validate_number k_MAX_TICK m_History_run_at m_History_wrapped) b_Room_is_on, He.cls_ok (c.fact 68 (f := .cls "Room") rfl), He.meth_ok (c.fact 119 (f := .meth "Room" "is_on") rfl)⟩
  have b_totals : Binds K fd_totals ["weather", "gain", "setting", "start", "count"] [] := FunD.bindsN (ps := ["weather", "gain", "setting", "start", "count"]) F_totals fun _ _ _ _ _ _ us hl => match us, hl with | [_, _, _, _, _], _ => rfl
  have c_totals :  CalR P w K mg base CX0 7 "totals" (sp_totals K (adsOf P w K)) := ⟨_, Wm.FnOk.R (ok_totals (A := adsOf P w K) F_totals noE0 b cw_watch) b_totals, He.glo_ok X G (c.fact 29 (f := .glo "totals") rfl), F_totals.kp⟩
  have b_Room_heated_before : Binds K fd_Room_heated_before ["self", "tick"] [] := FunD.bindsN (ps := ["self", "tick"]) F_Room_heated_before fun _ _ _ _ _ _ us hl => match us, hl with | [_, _], _ => rfl
  have m_Room_heated_before :  MetR P w K mg base CX0 1 (adsOf P w K).cRoom "heated_before" (sp_Room_heated_before K (adsOf P w K)) := ⟨_, Wm.FnOk.R (ok_Room_heated_before (A := adsOf P w K) F_Room_heated_before noE0 b ) b_Room_heated_before, He.cls_ok (c.fact 68 (f := .cls "Room") rfl), He.meth_ok (c.fact 120 (f := .meth "Room" "heated_before") rfl)⟩
  have b_Room_loop_begin : Binds K fd_Room_loop_begin ["self"] [] := FunD.bindsN (ps := ["self"]) F_Room_loop_begin fun _ _ _ _ _ _ us hl => match us, hl with | [_], _ => rfl
  have m_Room_loop_begin :  MetR P w K mg base CX0 1 (adsOf P w K).cRoom "loop_begin" (sp_Room_loop_begin K (adsOf P w K)) := ⟨_, Wm.FnOk.R (ok_Room_loop_begin (A := adsOf P w K) F_Room_loop_begin noE0 b ) b_Room_loop_begin, He.cls_ok (c.fact 68 (f := .cls "Room") rfl), He.meth_ok (c.fact 121 (f := .meth "Room" "loop_begin") rfl)⟩
  have b_Room_heating_ticks : Binds K fd_Room_heating_ticks ["self", "count"] [] := FunD.bindsN (ps := ["self", "count"]) F_Room_heating_ticks fun _ _ _ _ _ _ us hl => match us, hl with | [_, _], _ => rfl
  have m_Room_heating_ticks :  MetR P w K mg base CX0 3 (adsOf P w K).cRoom "heating_ticks" (sp_Room_heating_ticks K (adsOf P w K)) := ⟨_, Wm.FnOk.R (ok_Room_heating_ticks (A := adsOf P w K) F_Room_heating_ticks noE0 b c_validate_number k_MAX_TICK m_History_wrapped m_Room_heated_before m_Room_loop_begin) b_Room_heating_ticks, He.cls_ok (c.fact 68 (f := .cls "Room") rfl), He.meth_ok (c.fact 122 (f := .meth "Room" "heating_ticks") rfl)⟩
  have b_Room_switched_before : Binds K fd_Room_switched_before ["self", "tick"] [] := FunD.bindsN (ps := ["self", "tick"]) F_Room_switched_before fun _ _ _ _ _ _ us hl => match us, hl with | [_, _], _ => rfl
  have m_Room_switched_before :  MetR P w K mg base CX0 1 (adsOf P w K).cRoom "switched_before" (sp_Room_switched_before K (adsOf P w K)) := ⟨_, Wm.FnOk.R (ok_Room_switched_before (A := adsOf P w K) F_Room_switched_before noE0 b ) b_Room_switched_before, He.cls_ok (c.fact 68 (f := .cls "Room") rfl), He.meth_ok (c.fact 123 (f := .meth "Room" "switched_before") rfl)⟩
  have b_Room_switchings : Binds K fd_Room_switchings ["self", "count"] [] := FunD.bindsN (ps := ["self", "count"]) F_Room_switchings fun _ _ _ _ _ _ us hl => match us, hl with | [_, _], _ => rfl
  have m_Room_switchings :  MetR P w K mg base CX0 3 (adsOf P w K).cRoom "switchings" (sp_Room_switchings K (adsOf P w K)) := ⟨_, Wm.FnOk.R (ok_Room_switchings (A := adsOf P w K) F_Room_switchings noE0 b c_validate_number k_MAX_TICK m_History_wrapped m_Room_switched_before) b_Room_switchings, He.cls_ok (c.fact 68 (f := .cls "Room") rfl), He.meth_ok (c.fact 124 (f := .meth "Room" "switchings") rfl)⟩
  have n_HourSetting :  MakR P w K mg base CX0 3 "HourSetting" (adsOf P w K).cHourSetting (sp_HourSetting_init K (adsOf P w K)) := ⟨_, ok_HourSetting_init (A := adsOf P w K) F_HourSetting_init noE0 b hsu a_HourSetting cv_HourSetting_MAX_LENGTH c_is_range su_HourSetting___init__ StX.cxUp_none, He.mkr_ok (c.fact 89 (f := .mkr "HourSetting") rfl), He.glo_ok X G (c.fact 83 (f := .glo "HourSetting") rfl)⟩
  have kb_RestSetting_kw := FunS.kbinds (ps := ["self", "low", "high", "rest"]) F_RestSetting_init 3 ["rest"] (fun kV doc pm an ct us ws h1 h2 => match us, ws, h1, h2 with | [_, _, _], [_], _, _ => rfl)
  have n_RestSetting_kw :  MakKR P w K mg base CX0 3 "RestSetting" (adsOf P w K).cRestSetting 2 ["rest"] (sp_RestSetting_init K (adsOf P w K)) := ⟨_, _, _, _, ok_RestSetting_init (A := adsOf P w K) F_RestSetting_init noE0 b hsu su_RestSetting___init__ k_MAX_REST, He.mkr_ok (c.fact 95 (f := .mkr "RestSetting") rfl), He.glo_ok X G (c.fact 90 (f := .glo "RestSetting") rfl), kb_RestSetting_kw⟩
  exact ok_law (A := adsOf P w K) F_law noE0 b c_law2_start c_law2_weather c_law2_changes c_law2_drawn n_Room n_Heater cw_watch n_Setting mw_Room_temperatures m_Room_is_on c_totals m_Room_heating_ticks m_Room_switchings n_HourSetting n_RestSetting_kw
end Wm
end

section
open PySem PySem.W PyProof.Rows
set_option maxRecDepth 100000 in
set_option maxHeartbeats 0 in
theorem PySem.Challenge.cw_warmswitch_k42_whole_plain_settings_and_holds : PySem.Challenge.rw_warmswitch_k42_whole_plain_settings_and.Holds := by
  refine k42_head ?_
  k_fill
  refine L2.walk_ofE (l := PySem.Challenge.rw_warmswitch_k42_whole_plain_settings_and) (n := 63) (k := 8) (x := "_law_script") (CX := L2.CX0) rfl (by decide) rfl ⟨rfl, by decide, by decide⟩ ?F (fun _ _ _ _ z => z)
  intro w mg fa h Y G hmg
  have KX := PySem.W.kIn_of Y
  obtain ⟨fd, hb, T, hF⟩ := Wm.facts (P := (PySem.Challenge.rw_warmswitch_k42_whole_plain_settings_and).prog) (w := w) KX G hmg (show _ = _ by kernel_rfl) (And.intro (by kernel_rfl) (by kernel_rfl)) (by kernel_rfl) (And.intro (by kernel_rfl) (by kernel_rfl))
  exact ⟨_, fd, _, KX, hb, fun H a ns hl _ hS => ⟨a, ns, rfl, T, hS, hl, fun _ => rfl⟩, hF⟩
end
