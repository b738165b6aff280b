/- What limiters of two buffered events, and their group, have, and answer, behind each call, is the document's: the law LimitPlays answers true, whatever its input, the tables being what the program's text lays. No other condition. -/
import Derived.Test.YtmpemhbfgbochaaGreatDoorCards
import Derived.Test.YtmpemhbfgbochaaGreatDoorTie
import Derived.OpenShut
import Derived.Deep.DeepHandedRow
import Derived.Lib.LaidTab
import Derived.Lib.SmallJoins
import Derived.Stop.LaidErr
import Derived.Test.YtmpemhbfgbochaaGreatDoorZLimitPlaysK
set_option linter.unusedSimpArgs false
set_option linter.unusedVariables false
set_option linter.unnecessarySimpa false
set_option maxRecDepth 8000
set_option maxHeartbeats 2000000
open Go.RX.Hd (yv y2 n1 fk sk sr tH callE heldK qo qk qn qt qz qv endH thenN slots)
namespace Go.Proofs.YtmpemhbfgbochaaGreatDoor
open Go.RX Go.ChangeShapes Go.WideShapes Go.ChangeAt Go.RowKit
theorem Tryz.own:ownKnob Tryz.prog.godebug=none:=by kernel_rfl
theorem Tryz.laidOut:laidOutB Tryz.prog=true:=by kernel_rfl
theorem LimitPlays_met {W:World} (h:laidMetH Tryz.prog Rows.limitPlaysRow.laid W):laidMet Tryz.prog Rows.limitPlaysRow.laid W:=h
theorem gTab1 : Tryz.prog.globalNamed "internal/strconv.uint64pow10" = some 1 := by kernel_rfl
theorem gTabType1:(Tryz.prog.globals[1]?).map (·.type)=some 324:=by kernel_rfl
theorem cellsT1:Tryz.prog.cellsOf 324=20:=by kernel_rfl
theorem cellsE1:Tryz.prog.cellsOf 29=1:=by kernel_rfl
theorem LimitPlays_pow {W : World} (h : laidMetH Tryz.prog Rows.limitPlaysRow.laid W) : Lib.TabIs Tryz.prog W "internal/strconv.uint64pow10" .u64 Lib.pow10Tab := by
 have h1:=laidMet.tail (laidMet.tail (show laidMet Tryz.prog (_::_::_::_::[]) W from LimitPlays_met h))
 exact Lib.tabIs_of_head (zs:=Lib.pow10Tab) gTab1 gTabType1 Tryz.underlying324 Tryz.underlying29 cellsE1 cellsT1 h1
theorem gTab0 : Tryz.prog.globalNamed "roundhouse/limit.flags" = some 0 := by kernel_rfl
theorem gTabType0:(Tryz.prog.globals[0]?).map (·.type)=some 263:=by kernel_rfl
theorem cellsT0:Tryz.prog.cellsOf 263=2:=by kernel_rfl
theorem cellsE0:Tryz.prog.cellsOf 3=1:=by kernel_rfl
theorem LimitPlays_tab {W : World} (h : laidMetH Tryz.prog Rows.limitPlaysRow.laid W) : Lib.TabIs Tryz.prog W "roundhouse/limit.flags" .i64 [2, 4] :=
 Lib.tabIs_of_head (rest:=[]) gTab0 gTabType0 Tryz.underlying263 Tryz.underlying3 cellsE0 cellsT0 (laidMet.tail (laidMet.tail (laidMet.tail (show laidMet Tryz.prog (_::_::_::_::[]) W from LimitPlays_met h))))
theorem LimitPlays_rd {W:World} (h:laidMetH Tryz.prog Rows.limitPlaysRow.laid W):Rd [Old W] 0 0 Lm.flV:=Rd.old .here (fun j v e=>by
 rcases j with _ | _ | j
 ·simp at e;subst e;exact (LimitPlays_tab h).cell gTab0 0 (by decide)
 ·simp at e;subst e;exact (LimitPlays_tab h).cell gTab0 1 (by decide)
 ·simp at e)
def layTab0:Obj→Obj
 | .cells _ t frozen=>.cells #[.int .u8 0,.int .u8 1,.int .u8 28,.int .u8 2,.int .u8 29,.int .u8 14,.int .u8 24,.int .u8 3,.int .u8 30,.int .u8 22,.int .u8 20,.int .u8 15,.int .u8 25,.int .u8 17,.int .u8 4,.int .u8 8,.int .u8 31,.int .u8 27,.int .u8 13,.int .u8 23,.int .u8 21,.int .u8 19,.int .u8 16,.int .u8 7,.int .u8 26,.int .u8 12,.int .u8 18,.int .u8 6,.int .u8 11,.int .u8 5,.int .u8 10,.int .u8 9] t frozen
 | o=>o
def layTab1:Obj→Obj
 | .cells _ t frozen=>.cells #[.int .u8 0,.int .u8 1,.int .u8 56,.int .u8 2,.int .u8 57,.int .u8 49,.int .u8 28,.int .u8 3,.int .u8 61,.int .u8 58,.int .u8 42,.int .u8 50,.int .u8 38,.int .u8 29,.int .u8 17,.int .u8 4,.int .u8 62,.int .u8 47,.int .u8 59,.int .u8 36,.int .u8 45,.int .u8 43,.int .u8 51,.int .u8 22,.int .u8 53,.int .u8 39,.int .u8 33,.int .u8 30,.int .u8 24,.int .u8 18,.int .u8 12,.int .u8 5,.int .u8 63,.int .u8 55,.int .u8 48,.int .u8 27,.int .u8 60,.int .u8 41,.int .u8 37,.int .u8 16,.int .u8 46,.int .u8 35,.int .u8 44,.int .u8 21,.int .u8 52,.int .u8 32,.int .u8 23,.int .u8 11,.int .u8 54,.int .u8 26,.int .u8 40,.int .u8 15,.int .u8 34,.int .u8 20,.int .u8 31,.int .u8 10,.int .u8 25,.int .u8 14,.int .u8 19,.int .u8 9,.int .u8 13,.int .u8 8,.int .u8 7,.int .u8 6] t frozen
 | o=>o
def layTab2:Obj→Obj
 | .cells _ t frozen=>.cells #[.int .u64 1,.int .u64 10,.int .u64 100,.int .u64 1000,.int .u64 10000,.int .u64 100000,.int .u64 1000000,.int .u64 10000000,.int .u64 100000000,.int .u64 1000000000,.int .u64 10000000000,.int .u64 100000000000,.int .u64 1000000000000,.int .u64 10000000000000,.int .u64 100000000000000,.int .u64 1000000000000000,.int .u64 10000000000000000,.int .u64 100000000000000000,.int .u64 1000000000000000000,.int .u64 10000000000000000000] t frozen
 | o=>o
def layTab3:Obj→Obj
 | .cells _ t frozen=>.cells #[.int .i64 2,.int .i64 4] t frozen
 | o=>o
noncomputable def laidWorld (os:Os):World :=
 { World.holding Tryz.prog os ⟨#[],#[],[]⟩ with heap:=(((((World.holding Tryz.prog os ⟨#[],#[],[]⟩).heap).modify 3 layTab0).modify 4 layTab1).modify 1 layTab2).modify 0 layTab3 }
theorem laid_met (os:Os):laidMet Tryz.prog Rows.limitPlaysRow.laid ((laidWorld os).forCall (fun _ _=>0) ⟨#[],#[.int .i64 0,.agg #[.int .i64 0,.int .u64 0,.int .i64 0],.agg #[.int .i64 0,.int .u64 0,.int .i64 0],.slice none 0 0],[]⟩).memory :=
 laidMet_of_run' 8 kq kq
set_option maxRecDepth 100000 in
theorem LimitPlays_contract (H:Type) (enc:TypeId×Value→H) (W:World) (base:Nat) (args:Array Value) (ds gs:List (DataW H)) (before:List MemPlace)
  (hval:∀ (j:Nat) t v,Tryz.f4.params[j]?=some t→args[j]?=some v→Value.okWide Tryz.prog W .any base t v)
  (hW:DataW.Whole enc Tryz.prog Tryz.f4.params.toList Rows.limitPlaysSpec.vars false W args.toList ds gs before) (hL:laidMetH Tryz.prog Rows.limitPlaysRow.laid W) :
  Calls Tryz.prog 4 args W fun e W'=>∃ v,e=.returned v∧Rows.limitPlaysSpec.post enc Tryz.prog Tryz.f4 false true false false W args v W':=by
 have hW':=hW
 obtain ⟨p,q,hA0,hV,rfl,hfz,hnd⟩:=hW
 have hA:DataW.TrodAll enc Tryz.prog W 0 (fun _=>true) true Tryz.f4.params.toList args.toList ds p:=hA0
 obtain ⟨rfl,rfl⟩:=trodVars_none hV
 simp only [List.append_nil] at hW'
 have hA1:=hA
 rw [Tryz.params4] at hA hval
 obtain ⟨v0,l0,d0,ds0,p0,q0,ha0,rfl,rfl,h0,hA⟩:=trodAll_cons hA
 obtain ⟨v1,l1,d1,ds1,p1,q1,rfl,rfl,rfl,h1,hA⟩:=trodAll_cons hA
 obtain ⟨v2,l2,d2,ds2,p2,q2,rfl,rfl,rfl,h2,hA⟩:=trodAll_cons hA
 obtain ⟨v3,l3,d3,ds3,p3,q3,rfl,rfl,rfl,h3,hA⟩:=trodAll_cons hA
 obtain ⟨rfl,rfl,rfl⟩:=trodAll_nil hA
 obtain rfl:args=#[v0,v1,v2,v3]:=by cases args;simp_all
 obtain ⟨x0,e0,o0⟩:=open_arg (s:=.int .i64) kq (hval 0 _ _ rfl rfl) h0
 have e0:=okW_one (s:=.int .i64) kq rfl (hval 0 _ _ rfl rfl) e0
 simp only [Sh.enc,List.cons.injEq,and_true] at e0;subst e0
 obtain ⟨x1,e1,o1⟩:=open_arg (s:=.struct (.fld (.int .i64) (.fld (.int .u64) (.fld (.int .i64) .nil)))) kq (hval 1 _ _ rfl rfl) h1
 have e1:=okW_agg (l:=(.fld (.int .i64) (.fld (.int .u64) (.fld (.int .i64) .nil)))) kq (hval 1 _ _ rfl rfl) e1
 subst e1
 obtain ⟨x2,e2,o2⟩:=open_arg (s:=.struct (.fld (.int .i64) (.fld (.int .u64) (.fld (.int .i64) .nil)))) kq (hval 2 _ _ rfl rfl) h2
 have e2:=okW_agg (l:=(.fld (.int .i64) (.fld (.int .u64) (.fld (.int .i64) .nil)))) kq (hval 2 _ _ rfl rfl) e2
 subst e2
 obtain ⟨x3,e3,o3⟩:=open_arg (s:=.slice shL) kq (hval 3 _ _ rfl rfl) h3
 have e3:=okW_one (s:=.slice shL) kq rfl (hval 3 _ _ rfl rfl) e3
 simp only [Sh.enc,List.cons.injEq,and_true] at e3;subst e3
 have hT:=Wo.tab_old (LimitPlays_pow hL)
 have hF:=LimitPlays_rd hL
 refine (law_calls (by have:=Lm.lplays_ct [Old W] hT hF x0 (cvR x1) (cvR x2) x3.ad x3.cap (x3.l.map cvL) (rd_sevens o3) (sevens_ok o3);rwa [List.length_map] at this)).mono fun e W' ⟨he,hb⟩=>?_
 subst he;exact ⟨_,rfl,law_post Tryz.laidOut rfl Tryz.underlying4 rfl rfl (of_decide_eq_true kq) hW' hA1 hb⟩
set_option maxRecDepth 100000 in
theorem LimitPlays_lifted (os:Os) (started:os.Started) (H:Type) (enc:TypeId×Value→H) (F:Stop.Interp) :
  ReturnsInHanded {} Tryz.checked os 4 .any ((OpenSpec.ofChange Rows.limitPlaysSpec).preRow enc Tryz.prog Tryz.f4 Rows.limitPlaysRow.domain false Rows.limitPlaysRow.laid) (((OpenSpec.ofChange Rows.limitPlaysSpec).at F).post enc Tryz.prog Tryz.f4 false true false false):=by
 have hsome:(DataW.whole enc Tryz.prog ((laidWorld os).forCall (fun _ _=>0) ⟨#[],#[.int .i64 0,.agg #[.int .i64 0,.int .u64 0,.int .i64 0],.agg #[.int .i64 0,.int .u64 0,.int .i64 0],.slice none 0 0],[]⟩).memory Tryz.f4.params.toList Rows.limitPlaysSpec.vars false (#[.int .i64 0,.agg #[.int .i64 0,.int .u64 0,.int .i64 0],.agg #[.int .i64 0,.int .u64 0,.int .i64 0],.slice none 0 0]:Array Value).toList 8).isSome=true:=by kernel_rfl
 obtain ⟨x0,hx⟩:=Option.isSome_iff_exists.1 hsome
 refine returnsInHanded_of_row (C:=Tryz.checked) (s:=OpenSpec.ofChange Rows.limitPlaysSpec) Tryz.own started kq Tryz.func4
  (witness_row_at (enc:=enc) (C:=Tryz.checked) false (laidWorld os) #[.int .i64 0,.agg #[.int .i64 0,.int .u64 0,.int .i64 0],.agg #[.int .i64 0,.int .u64 0,.int .i64 0],.slice none 0 0] rfl kq kq kq
   (OpenSpec.preRow_of_cond 8 hx rfl (fun k hk=>by cases hk) kq (laid_met os))) ?_
 intro W base args ds gs before hval hW _ _ _ hL _ _;exact LimitPlays_contract H enc W base args ds gs before hval hW hL
theorem LimitPlays_said:Rows.LimitPlaysSaid :=
 OpenClaim.holds_of_cond 4 Tryz.f4 rfl rfl rfl rfl rfl rfl rfl ⟨rfl,rfl,rfl,rfl,rfl⟩ rfl rfl rfl rfl rfl kq Tryz.func4 kq
  (of_decide_eq_true kq) (by unfold Func.isWrapper;first | (rw [if_pos (by decide +kernel)];kernel_rfl) | (rw [if_neg (by decide +kernel)];exact ⟨rfl,rfl⟩))
  (fun os started H enc _ F=>by rw [OpenClaim.pre_eq_preRow];exact LimitPlays_lifted os started H enc F)
theorem LimitPlays_plain (f : FuncId) (fn : Func) (hf : Tryz.pinned.checked.prog.funcNamed "roundhouse/roundhouselaw27.LimitPlays" = some f) (hfn : Tryz.pinned.checked.prog.funcs[f]? = some fn) :
  false=Tryz.pinned.checked.prog.looks []∧∀ (j:Nat) t,fn.params[j]?=some t→Tryz.pinned.checked.prog.wantsStandIn t=false:=by
 obtain rfl : f = 4 := Option.some.inj ((show Tryz.prog.funcNamed "roundhouse/roundhouselaw27.LimitPlays" = some 4 by kernel_rfl).symm.trans hf) |>.symm
 obtain rfl:fn=Tryz.f4:=(Option.some.inj (Tryz.func4.symm.trans hfn)).symm
 refine ⟨by kernel_rfl,fun j t ht=>?_⟩
 have hall:Tryz.f4.params.all (fun t=>!Tryz.prog.wantsStandIn t)=true:=by kernel_rfl
 have:=Array.all_eq_true.1 hall j (Array.getElem?_eq_some_iff.1 ht).1
 rw [(Array.getElem?_eq_some_iff.1 ht).2] at this
 have h2:Tryz.prog.wantsStandIn t=false:=by simpa using this
 exact h2
theorem LimitPlays_holds:Rows.LimitPlaysCardSaid :=
 Claim7.holds_tied_plain_at .later [] _ _ _ _ LimitPlays_said (fun _ h=>by cases h) kq (fun _ h=>by cases h) limitPlays_row_tie rfl ⟨rfl,rfl⟩ kq rfl LimitPlays_plain kq
end Go.Proofs.YtmpemhbfgbochaaGreatDoor
