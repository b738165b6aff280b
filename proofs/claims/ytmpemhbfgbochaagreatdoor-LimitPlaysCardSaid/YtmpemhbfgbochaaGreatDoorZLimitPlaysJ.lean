/-
  strconv.FormatUint at base 10 (numbers of functions and types: of this seat alone).
-/
import Derived.Lib.Walk
import Derived.Lib.ItoaMem
import Derived.WalkKit
import Derived.BigCall
import Derived.BigGuard
import Derived.Test.YtmpemhbfgbochaaGreatDoorZLimitPlaysI
set_option linter.unusedSimpArgs false
set_option linter.unusedVariables false
set_option linter.unnecessarySimpa false
set_option maxRecDepth 8000
set_option maxHeartbeats 2000000
open Go.RX.Hd (yv y2 n1 fk sk sr tH callE heldK qo qk qn qt qz qv endH thenN slots)
namespace Go.Proofs.YtmpemhbfgbochaaGreatDoor
open Go.Shelf Go.RowKit Go.Sort Go.Lib
theorem holds0 (w:World) (T:TypeId) (nd:Nat) (hs:nd≤24):Holds (fun (b:UInt8)=>Value.int .u8 (b.toNat:Int)) (w.alloc (.cells zeros24 T)) w.heap.size 0 (Array.replicate nd (0:UInt8)):=fun j hj=>by
  have hj':j < nd:=by simpa using hj
  refine ⟨?_,World.frozen?_alloc_new _ _ _ _⟩
  rw [World.cell?_alloc_new,zeros24_at _ (by omega),getElem!_pos _ j hj]
  simp
theorem fin0 (w:World) (o:Obj) (dk:Array UInt8) (k:Nat):∃ os,(putRow (fun (b:UInt8)=>Value.int .u8 (b.toNat:Int)) (w.alloc o) w.heap.size 0 dk).drewN k=grow (w.drewN k) os:=by
  rw [alloc_eq_grow]
  obtain ⟨os',_,e⟩:=putRow_grow_new (fun (b:UInt8)=>Value.int .u8 (b.toNat:Int)) w #[o] w.heap.size 0 dk (Nat.le_refl _)
  exact ⟨os',by rw [e];rfl⟩
set_option maxHeartbeats 6400000 in
set_option maxRecDepth 100000 in
theorem isFmtUint (u : Nat) (hu64 : u < 18446744073709551616) (w : World) (htab : Lib.TabIs Tryz.prog w "internal/strconv.uint64pow10" .u64 Lib.pow10Tab) :
    Calls Tryz.prog 216 #[.int .u64 (u:Int),.int .i64 10] w fun e w'=>e=.returned (.string ⟨(Lib.decDigits u).toArray⟩)∧∃ k os,w'=grow (w.drewN k) os:=by
  have e238:∀ args w,(callFunc 238 args).run Tryz.prog w=.ok (.enter 238 args) w:=enters_of Tryz.func238 (by kernel_rfl) rfl
  have e239:∀ args w,(callFunc 239 args).run Tryz.prog w=.ok (.enter 239 args) w:=enters_of Tryz.func239 (by kernel_rfl) rfl
  have e240:∀ args w,(callFunc 240 args).run Tryz.prog w=.ok (.enter 240 args) w:=enters_of Tryz.func240 (by kernel_rfl) rfl
  by_cases hs:u < 100
  · go_enter Tryz.func216,Tryz.ntmps216
    go_wp2_with (go_at_call 238;refine (Tryz.internal_strconv_small u hs _).mono ?_;rintro e w' ⟨rfl,rfl⟩)
    go_ret
    exact ⟨rfl,0,#[],by simp [World.drewN_zero]⟩
  · have hu1:1≤u:=by omega
    have hnd20:Lib.nDigits u≤20:=by have:=Lib.numDigits_eq u hu1 hu64;split at this<;>omega
    have hal:Tryz.prog.arrayLen 316=24:=by simp [Program.arrayLen,Tryz.underlying316]
    have hsl1:∀ W,(Instr.sliceAt 316 (.pointer (some ⟨w.heap.size,0,none⟩)) none (some (.int .i64 (Lib.nDigits u:Int))) none).run Tryz.prog W=.ok (.slice (some ⟨w.heap.size,0,none⟩) (Lib.nDigits u) 24) W:=fun W=>by
      rw [run_sliceAt_array_h W 316 ⟨w.heap.size,0,none⟩ (by simp [Program.arrayLen,Program.elem,Tryz.underlying316]) .i64 (Lib.nDigits u:Int) (by omega) (by rw [hal];omega)]
      go_simp
    have hH0:=holds0 w 316 (Lib.nDigits u) (by omega)
    have hfmt:=Tryz.internal_strconv_formatBase10 w.heap.size 0 24 u (Array.replicate (Lib.nDigits u) 0) (w.alloc (.cells Lib.zeros24 316)) hH0 (by rw [Array.size_replicate];exact Lib.lt_pow_nDigits u) hu64 (by rw [Array.size_replicate];omega)
    rw [Array.size_replicate] at hfmt
    have HH0:=Lib.hid hH0
    clear hH0 hal
    go_enter Tryz.func216,Tryz.ntmps216
    go_wp2_with (first
      | (go_at_call 239;refine (Tryz.internal_strconv_numDigits u hu1 hu64 _ (Lib.tabIs_alloc htab _)).mono ?_;rintro e w' ⟨rfl,rfl⟩))
    go_at_call 240
    refine hfmt.mono ?_
    rintro e w' ⟨rfl,k,v',dk,rfl,hF⟩
    have hcv:(convert 30 9 (.slice (some ⟨w.heap.size,0,none⟩) (Lib.nDigits u) 24)).run Tryz.prog ((putRow (fun (b:UInt8)=>Value.int .u8 (b.toNat:Int)) (w.alloc (.cells Lib.zeros24 316)) w.heap.size 0 dk).drewN k)=.ok (.string ⟨(Lib.decDigits u).toArray⟩) ((putRow (fun (b:UInt8)=>Value.int .u8 (b.toNat:Int)) (w.alloc (.cells Lib.zeros24 316)) w.heap.size 0 dk).drewN k):=by
      have h:=run_convert_bytes_back (P:=Tryz.prog) ((putRow (fun (b:UInt8)=>Value.int .u8 (b.toNat:Int)) (w.alloc (.cells Lib.zeros24 316)) w.heap.size 0 dk).drewN k) 30 9 5 ⟨w.heap.size,0,none⟩ 24 (Lib.decDigits u) Tryz.underlying30 Tryz.underlying5 Tryz.underlying9 (fun j hj=>by
        rw [Lib.row_is_numeral hF j hj,Lib.add_plain,World.cell?_drewN]
        exact cell?_putRow (fun (b:UInt8)=>Value.int .u8 (b.toNat:Int)) _ w.heap.size 0 _ dk HH0.out (by rw [hF.size,Array.size_replicate]) j (by rw [hF.size];rw [Lib.decDigits_length] at hj;exact hj))
      rw [Lib.decDigits_length] at h
      exact h
    go_wp2
    go_ret
    obtain ⟨os,eo⟩:=fin0 w (.cells Lib.zeros24 316) dk k
    exact ⟨rfl,k,os,eo⟩
theorem sFmtUint (u : Nat) (hu64 : u < 18446744073709551616) (w : World) (htab : Lib.TabIs Tryz.prog w "internal/strconv.uint64pow10" .u64 Lib.pow10Tab) :
    Calls Tryz.prog 165 #[.int .u64 (u:Int),.int .i64 10] w fun e w'=>e=.returned (.string ⟨(Lib.decDigits u).toArray⟩)∧∃ k os,w'=grow (w.drewN k) os:=by
  have e216:∀ args w,(callFunc 216 args).run Tryz.prog w=.ok (.enter 216 args) w:=enters_of Tryz.func216 (by kernel_rfl) rfl
  go_enter Tryz.func165,Tryz.ntmps165
  go_wp2_with (go_at_call 216;refine (isFmtUint u hu64 _ htab).mono ?_;rintro e w' ⟨rfl,k,os,rfl⟩)
  go_ret
  exact ⟨rfl,k,os,rfl⟩
end Go.Proofs.YtmpemhbfgbochaaGreatDoor
namespace Go.Proofs.YtmpemhbfgbochaaGreatDoor
open Go.RX Go.RowKit
namespace Wo
theorem hp_below {w w':World} (h:Below w.heap.size w w'):Sub (hp w) (hp w'):=fun k c e=>by
 unfold hp at e ⊢
 have hb:k.1 < w.heap.size:=Decidable.byContradiction fun h=>by
  rw [Array.getElem?_eq_none (by omega)] at e
  cases k.2<;>simp [hpo] at e
 rw [h.block _ hb];exact e
theorem satBelow {E w w':World} {L:List SP} (s:Sat E L w) (h:Below w.heap.size w w'):Sat E L w' :=
 ⟨⟨h.os.trans s.1.1,Nat.zero_le _⟩,h.tape.trans s.2.1,h.output.trans s.2.2.1,s.2.2.2.up (hp_below h)⟩
theorem growBelow {w:World} (k:Nat) (os:Array Obj):Below w.heap.size w (Go.Sort.grow (w.drewN k) os):=⟨rfl,rfl,rfl,by simp [Go.Sort.grow],fun b hb=>Array.getElem?_append_left hb⟩
def Tb (L : List SP) : Prop := ∀ w : World, sep L (hp w) → Lib.TabIs Tryz.prog w "internal/strconv.uint64pow10" .u64 Lib.pow10Tab
theorem Tb.mono {L M:List SP} (h:Tb L) (e:∀ k,sep M k→sep L k):Tb M:=fun w s=>h w (e _ s)
theorem itoa_ct (L:List SP) (hT:Tb L) (n:Nat) (hn:n≤9223372036854775807):Ct Tryz.prog 166 #[.int .i64 (n:Int)] L (fun _:Unit=>.string (str (dgB n))) (fun _=>L):=fun E w s =>
 Calls.mono (Tryz.strconv_Itoa (n:Int) (by omega) (by omega) w (hT w s.2.2.2)) fun e w' ⟨he,k,os,hw⟩=>⟨(),by rw [he,Lib.itoa_nonneg],by subst hw;exact satBelow s (growBelow k os)⟩
theorem fmtu_ct (L:List SP) (hT:Tb L) (n:Nat) (hn:n≤18446744073709551615):Ct Tryz.prog 165 #[.int .u64 (n:Int),.int .i64 10] L (fun _:Unit=>.string (str (dgB n))) (fun _=>L):=fun E w s =>
 Calls.mono (sFmtUint n (by omega) w (hT w s.2.2.2)) fun e w' ⟨he,k,os,hw⟩=>⟨(),he,by subst hw;exact satBelow s (growBelow k os)⟩
theorem hp_lt {w:World} {b:Nat} {q:Option Nat} {c:Ce} (h:hp w (b,q)=some c):b < w.heap.size:=Decidable.byContradiction fun hn=>by
 unfold hp at h;rw [Array.getElem?_eq_none (by show w.heap.size≤b;omega)] at h
 cases q<;>simp [hpo] at h
theorem join_ct (L:List SP) (ad:Option Addr) (c:Nat) (xs:List (List UInt8)) (sp:List UInt8) (hR:RdS L 1 ad xs.length (xs.map fun s=>Value.string (str s))) (h0:0 < xs.length) (hc:xs.length≤c) (hN:xs.length≤140737488355328) (hl:(Lib.join xs sp).length≤140737488355328) :
  Ct Tryz.prog 168 #[.slice ad xs.length c,.string (str sp)] L (fun _:Unit=>.string (str (Lib.join xs sp))) (fun _=>L):=fun E w s=>by
 obtain ⟨_,hv⟩:=hR _ s.2.2.2
 rcases hv with h | ⟨b,o,rfl,hv⟩
 ·omega
 have hcell:∀ (j:Nat) x,(xs.map str)[j]?=some x→w.cell? ⟨b,o + j,none⟩=some (.string x):=fun j x hx=>by
  rw [List.getElem?_map] at hx
  cases hj:xs[j]? with
  | none=>rw [hj] at hx;cases hx
  | some y =>
   rw [hj] at hx;simp only [Option.map_some,Option.some.injEq] at hx;subst hx
   obtain ⟨fr,hh⟩:=hv j (.string (str y)) (by rw [List.getElem?_map,hj];rfl)
   exact cell_hp hh
 have hb:b < w.heap.size:=by
  obtain ⟨fr,hh⟩:=hv 0 _ (by rw [List.getElem?_map,List.getElem?_eq_getElem h0];rfl)
  exact hp_lt hh
 have hm:(xs.map str).map (·.data.toList)=xs:=by
  rw [List.map_map];exact (List.map_congr_left fun x _=>by simp).trans (List.map_id' _)
 have:=Tryz.strings_Join b o c (xs.map str) (str sp) w hcell hb (by rw [List.length_map];exact hN) (by rw [List.length_map];exact hc) (by rw [hm];exact hl)
 rw [hm,List.length_map] at this;exact Calls.mono this fun e w' ⟨he,hw⟩=>⟨(),he,satBelow s hw⟩
end Wo
end Go.Proofs.YtmpemhbfgbochaaGreatDoor
namespace Go.Proofs.YtmpemhbfgbochaaGreatDoor
open Go.RX Fx
namespace Wo
open Rf
theorem end_eq {e:EndA} {q:Nat} (hq:e.what=(q:Int)) (p:Option Nat):encE e p=[.int .i64 (q:Int),.int .i64 e.fd,ptr p,.bool e.wr,.bool e.shut,.int .u64 e.inn,.int .u64 e.out]:=by rw [←hq]
theorem words_ct (L:List SP) (hT:Tb L) (e:EndA) (q:Nat) (hq:e.what=(q:Int)) (hq3:q≤3) (p:Option Nat) (hp:p.isSome=e.rd) (cap:Nat) (hc:cap≤65536) (hl:e.b.length≤cap):Ct Tryz.prog 167 #[.agg (encE e p).toArray] (RgO p cap e.b::L) (fun q_:Option Addr×Nat=>.slice q_.1 (wordsA e cap).length q_.2) (fun q_:Option Addr×Nat=>own 9 1 q_.1 (wordsA e cap).length q_.2 (VLs (wordsA e cap))::RgO p cap e.b::L):=by
 refine Ct.o1 Tryz.func167 ?_;intro E
 show Hd E 41 _ _ _ _
 rw [end_eq hq];refine sr fun _ K1=>?_
 refine Hd.box rfl rfl (fun b1=>?_);refine yv y_as<|fk [(1,_)] K1 ?_;refine sr fun _ K2=>?_
 refine Hd.bslice (vs:=[(0,_),(1,_),(2,_),(3,_)]) rfl (by exact bsS4 ..) (fun b4=>?_);refine yv (y_f 0 3 Tryz.underlying195 sz3)<|yv (y_l1 ag3 rfl)<|yv (y_idxS Tryz.underlying137 sz9 rfl rfl (by omega)) ?_;refine yv (y_load1 (v:=.string (str (kindB (q:Int)))) ag9 rfl (Rd.pt1 (cs:=kindsV) pkk (by rw [show (0 + q * 1)=q by omega];exact kinds_at hq3))) ?_;refine Hd.bslice (vs:=[(0,_)]) rfl (by exact bs167_9 ..) (fun b9=>?_);refine Hd.ptOwn (m:=1) pkk rfl (by decide) ?_;refine yv y_as<|fk [(1,_),(3,_)] K2 ?_
 obtain ⟨W1,hW1⟩:∃ W1,[kindB (q:Int)]++(if e.shut=true then [sShut] else [])=W1:=⟨_,rfl⟩
 have hW1l:W1.length≤2:=by rw [←hW1];split<;>simp
 refine Hd.cutK (ι:=Option Addr×Nat) [(1,_)] (fun s=>[(3,.slice s.1 W1.length s.2)]) (fun s=>own 9 1 s.1 W1.length s.2 (VLs W1)::pt b1 [.int .i64 (q:Int),.int .i64 e.fd,ptr p,.bool e.wr,.bool e.shut,.int .u64 e.inn,.int .u64 e.out] 195::RgO p cap e.b::L) ?_ ?_ ⟨rfl,trivial⟩
 ·refine sr fun _ K3=>?_
  refine yv (y_f 4 4 Tryz.underlying195 sz4)<|yv (y_l1 ag4 rfl)<|fk [(1,_),(3,_),(11,_)] K3 ?_;refine qz ?_ ?_<;>intro hc0<;>try simp only [hyZ] at hc0
  ·rw [if_pos hc0] at hW1
   refine Hd.region<|yv y_mv<|Hd.bslice (vs:=[(0,_)]) rfl (by exact bsS1 ..) (fun b13=>?_);refine Hd.append Tryz.underlying137 ty9 rfl rfl rfl pkk (by exact RdS.rd (Rd.pt pkk (fun j v e=>by simpa using e)) rfl) (by simp [Value.oneCell'];done) (by simp only [maxLen];omega) (by omega) (fun ad14 cap14=>?_);refine yv y_as<|Hd.nil<|slots [(1,_),(3,_)] sbq ?_;refine thenN ?_;exact Hd.meet (ad14,cap14) ⟨by rw [←hW1];rfl,by repeat (first | exact trivial | refine ⟨rfl,?_⟩)⟩ (Ent.sep (.eq pkk (own_eq3 (by rw [←hW1];rfl) rfl (by rw [←hW1];rfl)) enn))
  rw [if_neg (by simpa using hc0),List.append_nil] at hW1;refine Hd.skip<|thenN ?_;exact Hd.meet (some ⟨b9,0,none⟩,1) ⟨by rw [←hW1];rfl,by repeat (first | exact trivial | refine ⟨rfl,?_⟩)⟩ (Ent.sep (.eq pkk (own_eq3 (by rw [←hW1];rfl) rfl (by rw [←hW1];rfl)) enn))
 rintro ⟨ad,c⟩;dsimp only
 have hwa:wordsA e cap=W1++[ringB e cap]:=by unfold wordsA;rw [hq,←hW1];simp only [List.append_assoc]
 refine Hd.seq fun _ K4=>?_
 refine sr fun _ K5=>?_
 refine yv (y_f 2 193 Tryz.underlying195 sz193)<|yv (y_l1 ag193 rfl)<|yv (y_eql_pointer Tryz.underlying193 rfl rfl) ?_;refine fk [(1,_),(3,_),(17,_)] K5 ?_;refine qz ?_ ?_<;>intro hc1<;>try simp only [hyZ] at hc1
 ·have hpn:p=none:=by cases p with
   | none=>rfl
   | some _=>cases hc1
  have hrd:e.rd=false:=by rw [←hp,hpn];rfl
  have hrg:ringB e cap=[45]:=by unfold ringB;rw [if_neg (by rw [hrd];decide)]
  rw [hrg] at hwa;refine sr fun _ K6=>?_
  refine yv y_mv<|Hd.bslice (vs:=[(0,_)]) rfl (by exact bsS1 ..) (fun b19=>?_);refine Hd.append Tryz.underlying137 ty9 rfl rfl rfl pkk (by exact RdS.rd (Rd.pt pkk (fun j v e=>by simpa using e)) rfl) (by simp [Value.oneCell'];done) (by simp only [maxLen];omega) (by omega) (fun ad20 cap20=>?_);refine yv y_as<|fk [(2,_)] K6 ?_;refine Hd.ret<|Hd.thenRet<|Hd.ret1 rfl (ad20,cap20) (by rw [hwa,List.length_append];rfl) (Ent.sep ?_);exact .eq pkk (own_eq3 (by rw [hwa,List.length_append];rfl) rfl (by rw [hwa];exact vls_snoc rfl)) enn
 obtain ⟨rb,rfl⟩:∃ rb,p=some rb:=by cases p with
  | none=>cases hc1
  | some rb=>exact ⟨rb,rfl⟩
 have hrd:e.rd=true:=hp.symm
 rw [show RgO (some rb) cap e.b=Rg rb cap e.b from rfl]
 have hrg:ringB e cap=hexB e.b++([47]++dgB cap):=by unfold ringB;rw [if_pos hrd]
 rw [hrg] at hwa
 have hhl:=hexB_len e.b
 have hdl:=dg_20 (n:=cap) (by omega)
 have htk:e.b.take (Int.toNat (e.b.length:Int))=e.b:=by rw [Int.toNat_natCast,List.take_length]
 refine qv K4<|Hd.seq fun _ K7=>?_
 refine Hd.drawsH ([pt b1 [.int .i64 (q:Int),.int .i64 e.fd,ptr (some rb),.bool e.wr,.bool e.shut,.int .u64 e.inn,.int .u64 e.out] 195]) (fun _=>true) mixed ?_;simp only [List.length,Nat.zero_add,Nat.reduceAdd];refine tH 0 rfl y_mv<|tH 1 rfl (y_f 2 193 Tryz.underlying195 sz193)<|tH 2 rfl (y_l1 ag193 rfl)<|tH 3 rfl (y_f 2 193 Tryz.underlying195 sz193)<|tH 4 rfl (y_l1 ag193 rfl)<|tH 9 rfl (y_f 2 193 Tryz.underlying195 sz193)<|tH 10 rfl (y_l1 ag193 rfl)<|tH 12 rfl (y_f 2 193 Tryz.underlying195 sz193)<|tH 13 rfl (y_l1 ag193 rfl)<|qo 5 ?_;refine callE rfl fk150 (rlen_ct _ rb cap e.b) sq ?_;intro _;refine qk<|qo 6 ?_;refine callE rfl fk219 (rlook_ct _ rb cap e.b (e.b.length:Int)) sq ?_;rintro ⟨ba,bc⟩;dsimp only;rw [htk];refine qk<|qo 7 ?_;refine Hd.call rfl fk218 (hex_ct _ e.b (by omega) ba bc (by exact RdS.own pkk)) ?_
 intro _;refine qk<|tH 8 rfl (y_addstr rfl rfl (by simp;omega)) ?_;refine qo 11 ?_;refine callE rfl fk150 (rlen_ct _ rb cap e.b) sq ?_;intro _;refine qk<|qo 14 ?_;refine callE rfl fk151 (rroom_ct _ rb cap e.b) sq ?_;intro _;refine qk<|tH 15 rfl (y_to (v':=.int .i64 (cap:Int)) (y_addn rfl rfl (by simp only [InK];omega)) (by (refine congrArg (Value.int .i64) ?_;omega))) ?_;refine qo 16 ?_;refine Hd.call rfl fk166 (itoa_ct _ (by exact Tb.mono hT sq) cap (by omega)) ?_;intro _;refine qk<|tH 17 rfl (y_addstr rfl rfl (by simp;omega)) ?_;refine qo 18 ?_;refine Hd.bslice (vs:=[(0,_)]) rfl (by exact bs167_39 ..) (fun b39=>?_);refine qk<|qo 19 ?_;refine Hd.append Tryz.underlying137 ty9 rfl rfl rfl pkk (by exact RdS.rd (Rd.pt pkk (fun j v e=>by simpa using e)) rfl) (by simp [Value.oneCell'];done) (by simp only [maxLen];omega) (by omega) (fun ad40 cap40=>?_)
 refine qk<|tH 20 rfl y_as<|endH kq ?_;refine sk [(2,_)] K7 ?_;refine Hd.ret ?_;rw [show RgO (some rb) cap e.b=Rg rb cap e.b from rfl];refine Hd.ret1 rfl (ad40,cap40) (by rw [hwa,List.length_append];rfl) (Ent.sep ?_);exact .eq pkk (own_eq3 (by rw [hwa,List.length_append];rfl) rfl (by rw [hwa];exact vls_snoc (by rfl))) enn
theorem fdC_pl {t:Int→Option (Nat×Nat)} {k:Nat} (hk:k < 96):((fdC t).drop (k * 3)).take 3=plc (t (k:Int)):=by
 apply List.ext_getElem?;intro j
 by_cases hj:j < 3
 ·rw [List.getElem?_take_of_lt hj,List.getElem?_drop]
  obtain ⟨v,hv⟩:∃ v,(plc (t (k:Int)))[j]?=some v:=⟨_,List.getElem?_eq_getElem (by rw [plc_len];exact hj)⟩
  have:=fdC_at (tl:=[]) hk rfl hv
  rw [List.append_nil] at this;rw [this,hv]
 ·rw [List.getElem?_eq_none (by simp;omega),List.getElem?_eq_none (by rw [plc_len];omega)]
theorem plc_0 (o:Option (Nat×Nat)):(plc o)[0 + 0]?=some (.bool o.isSome):=by cases o<;>rfl
theorem wFds_ct (L:List SP) (wb:Nat) (w:WA):Ct Tryz.prog 80 #[.pointer (some ⟨wb,0,none⟩)] (WorldP wb w::L) (fun q_:Option Addr×Nat=>.slice q_.1 (fdsW w).length q_.2) (fun q_:Option Addr×Nat=>own 3 1 q_.1 (fdsW w).length q_.2 ((fdsW w).map (Value.int .i64))::WorldP wb w::L):=by
 refine Ct.o1 Tryz.func80 ?_;intro E
 show Hd E 25 _ _ _ _
 refine Hd.world .here (fun i hw hrs=>?_);refine sr fun _ K1=>?_
 refine yv y_as<|fk [(0,_)] K1 ?_;refine sr fun _ K2=>?_
 refine yv y_as<|fk [(0,_),(3,_)] K2 ?_;refine Hd.seq fun _ K3=>?_
 refine sr fun _ K4=>?_
 refine yv y_mv<|callE rfl fk114 (wnone_ct _ wb w.at w i.rs.length i) sq ?_;intro _;refine yv (y_not rfl)<|fk [(0,_),(3,_),(8,_)] K4 ?_;refine Hd.condT rfl ?_;refine sr fun _ K5=>?_
 refine yv y_mv<|yv y_np<|yv (y_f 0 183 Tryz.underlying186 sz183)<|yv (y_loadn (us:=fdC w.at) ag183 rfl (Rd.pt pkk (fun j v e=>by rw [Nat.zero_add];exact (List.getElem?_append_left (List.getElem?_eq_some_iff.1 e).1).trans e)) (by rw [fdC_len];exact sz183)) ?_;refine yv y_mv<|fk [(3,_),(12,_),(13,_)] K5 ?_;refine Hd.block<|Hd.loopK (ι:=Nat×Option Addr×Nat) [(12,_)] (fun q_=>[(3,.slice q_.2.1 (fdsN w q_.1).length q_.2.2),(13,.int .i64 (q_.1:Int))]) (fun q_=>pu (q_.1≤96)::own 3 1 q_.2.1 (fdsN w q_.1).length q_.2.2 ((fdsN w q_.1).map (Value.int .i64))::WoL wb w i L) (fun q_=>96 - q_.1) (0,none,0) sbq sbq (fun q t=>Ent.sep (.pure (Nat.zero_le _) (.ownNil enn)) q t) ?_;rintro ⟨k,ad,c⟩
 try dsimp only
 refine Hd.pure (fun hp0=>?_)
 try dsimp only at hp0
 refine sr fun _ K6=>?_
 refine yv (y_lss rfl rfl) ?_;refine fk [(3,_),(12,_),(13,_),(14,_)] K6 ?_;refine Hd.seq fun _ K7=>?_
 refine qz ?_ ?_<;>intro hc1<;>try simp only [hyZ] at hc1
 ·have hk:k < 96:=by omega
  have hs:=fdsN_succ w k
  have hl:=fdsN_le w k
  refine qv K7<|Hd.seq fun _ K8=>?_
  refine Hd.block<|sr fun _ K9=>?_
  refine yv y_mv<|yv (y_indexn (us:=plc (w.at (k:Int))) Tryz.underlying183 ag182 sz182 rfl rfl (by omega) (fdC_pl hk)) ?_;refine Hd.alloc zr182 (fun b5=>?_);refine yv y_as<|Hd.storeA (us:=plc (w.at (k:Int))) (by rw [plc_len];exact sz182) rfl rfl rfl (plc_one _) pkk (by rw [plc_len];rfl) ?_;refine fk [(3,_),(4,_),(5,_),(12,_),(13,_)] K9 ?_;refine sr fun _ K10=>?_
  refine yv (y_f 0 4 Tryz.underlying182 sz4)<|yv (y_load1 (v:=.bool (w.at (k:Int)).isSome) ag4 rfl (Rd.pt1 pkk (plc_0 _))) ?_;refine fk [(3,_),(4,_),(12,_),(13,_),(18,_)] K10 ?_;refine qz ?_ ?_<;>intro hc2<;>try simp only [hyZ] at hc2
  ·rw [if_pos hc2] at hs
   refine Hd.region<|yv y_mv<|yv y_mv<|Hd.bslice (vs:=[(0,_)]) rfl (by exact bs80_21 ..) (fun b21=>?_);refine Hd.append Tryz.underlying94 ty3 rfl rfl rfl pkk (by exact RdS.rd (Rd.pt pkk (fun j v e=>by simpa using e)) rfl) (by simp [Value.oneCell'];done) (by simp only [maxLen];omega) (by omega) (fun ad22 cap22=>?_);refine yv y_as<|Hd.nil<|slots [(3,_),(12,_),(13,_)] sbq ?_;refine Hd.inB<|Hd.toK K8 ?_;refine Hd.region<|yv (y_addn rfl rfl (by simp only [InK];omega)) ?_;refine yv y_mv<|Hd.nil<|slots [(3,_),(12,_),(13,_)] sbq ?_;refine thenN<|Hd.again (k + 1,ad22,cap22) (by show 96 - (k + 1) < 96 - k;omega) (by (try dsimp only);rw [hs,List.length_append];repeat (first | exact trivial | refine ⟨rfl,?_⟩)) (fun q t=>?_);rw [hs];exact Ent.sep (.pure (show k + 1≤96 by omega) (.eq pkk (own_eq3 (by rw [List.length_append];rfl) rfl (by rw [List.map_append];rfl)) enn)) q t
  rw [if_neg (by simpa using hc2),List.append_nil] at hs;refine Hd.skip<|Hd.inB<|Hd.toK K8 ?_;refine Hd.region<|yv (y_addn rfl rfl (by simp only [InK];omega)) ?_;refine yv y_mv<|Hd.nil<|slots [(3,_),(12,_),(13,_)] sbq ?_;refine thenN<|Hd.again (k + 1,ad,c) (by show 96 - (k + 1) < 96 - k;omega) (by (try dsimp only);rw [hs];repeat (first | exact trivial | refine ⟨rfl,?_⟩)) (fun q t=>?_);rw [hs];exact Ent.sep (.pure (show k + 1≤96 by omega) enn) q t
 obtain rfl:k=96:=by omega
 refine Hd.exit<|Hd.thenExit<|Hd.thenExit<|Hd.inBexit<|Hd.toK K3 ?_;refine sr fun _ K11=>?_
 refine yv y_mv<|yv y_as<|fk [(2,_)] K11 ?_;refine Hd.ret ?_;rw [show fdsW w=fdsN w 96 from rfl];refine Hd.ret1 rfl (ad,c) rfl (fun q s=>?_);exact Ent.sep (show Ent _ (own 3 1 ad (fdsN w 96).length c ((fdsN w 96).map (Value.int .i64))::WorldP wb w::L) from .pick pkk (.ex i (.pure ⟨hw,hrs⟩ enn))) q s
theorem sHandled_ct (L:List SP) (sb:Nat) (hd:List Bool) (ct:List Int) (hl:hd.length=32) (hcl:ct.length=32) (s:Nat) (h1:1≤s) (h2:s < 32):Ct Tryz.prog 169 #[.pointer (some ⟨sb,0,none⟩),.int .i64 (s:Int)] (SigP sb hd ct::L) (fun _:Unit=>.bool (hd.getD s false)) (fun _:Unit=>SigP sb hd ct::L):=by
 refine Ct.o2 Tryz.func169 ?_;intro E
 show Hd E 17 _ _ _ _
 have hm0:mayE (s:Int)=0:=mayE_0.2 (by omega)
 refine sr fun _ K1=>?_
 refine yv y_as<|fk [(0,_),(1,_)] K1 ?_;refine sr fun _ K2=>?_
 refine yv y_mv<|yv y_mv<|callE rfl fk215 (may_ct _ sb (s:Int)) sq ?_;intro _;rw [hm0];refine yv (y_to (v':=.bool true) (y_eqlT rfl rfl) (by rfl)) ?_;refine yv y_mv ?_;apply Hd.andg 7 9 16 [] rfl sbq
 ·intro hg1_9
  try simp only [hyZ] at hg1_9
  simp only [List.take];refine y2 y_mv<|y2 y_mv<|y2 y_np<|y2 (y_f 0 99 Tryz.underlying270 sz99)<|y2 (y_idxA Tryz.underlying99 sz4 rfl rfl (by omega)) ?_;refine y2 (y_load1 ag4 rfl (Rd.pt1 pkk (by exact sg_hd hl h2 (by omega)))) ?_;refine yv (y_pickT rfl rfl) ?_;exact Hd.mn
 ·intro hg1_9
  try simp only [hyZ] at hg1_9
  simp only [List.take];refine n1<|n1<|n1<|n1<|n1<|n1<|yv (y_pickF rfl rfl) ?_;exact Hd.mn
 simp only [List.drop];refine yv y_as<|fk [(4,_)] K2 ?_;refine Hd.ret ?_;exact Hd.ret1 rfl () (by rfl) sq
theorem joinO_ct (L L':List SP) (et:TypeId) (ad:Option Addr) (c:Nat) (xs:List (List UInt8)) (sp:List UInt8) (p:Pick L (own et 1 ad xs.length c (VLs xs)) L') (h0:0 < xs.length) (hN:xs.length≤140737488355328) (hl:(Lib.join xs sp).length≤140737488355328) :
  Ct Tryz.prog 168 #[.slice ad xs.length c,.string (str sp)] L (fun _:Unit=>.string (str (Lib.join xs sp))) (fun _=>L):=fun E w s=>by
 obtain ⟨h1,_,x⟩:=sep.one p s.2.2.2
 exact join_ct L ad c xs sp (RdS.own p) h0 (own_le x).1 hN hl E w s
theorem wireD_len {n:Nat} {x:WireA} (hn:n≤1000) (hx:WfW x) (hw:∀ m∈x.wt,m < 1000):(wireD n x).length≤300100:=by
 have hdn:=dg_20 (n:=n) (by omega)
 have he0:=endB_len hx.cap (Nat.le_trans (hx.le 0 (by decide)) hx.cap)
 have he1:=endB_len hx.cap (Nat.le_trans (hx.le 1 (by decide)) hx.cap)
 have hwl1:=wtB_len (l:=x.wt) fun m hm=>by have:=hw m hm;omega
 have hb2:=hx.bl
 have hdb:=dg_20 (n:=x.bl.toNat) (by omega)
 unfold wireD
 split<;>split<;>simp only [List.length_append,List.length_cons,List.length_nil]<;>omega
theorem wImage_ct (L:List SP) (hT:Tb L) (wb:Nat) (w:WA) (hn:InK .u64 w.now) (hb:∀ c∈w.ct,0≤c∧c≤2000000000):Ct Tryz.prog 87 #[.pointer (some ⟨wb,0,none⟩)] (WorldP wb w::L) (fun q_:Option Addr×Nat=>.slice q_.1 (imgW w).length q_.2) (fun q_:Option Addr×Nat=>own 9 1 q_.1 (imgW w).length q_.2 (VLs (imgW w))::WorldP wb w::L):=by
 refine Ct.o1 Tryz.func87 ?_;intro E
 show Hd E 180 _ _ _ _
 refine Hd.world .here (fun i hw hrs=>?_)
 obtain ⟨nw,hnw⟩:∃ n:Nat,w.now=(n:Int):=⟨w.now.toNat,by simp only [InK] at hn;omega⟩
 have hnb:nw≤18446744073709551615:=by simp only [InK] at hn;omega
 have hnt:w.now.toNat=nw:=by omega
 have hnl:=dg_20 hnb
 refine sr fun _ K1=>?_
 refine yv y_as<|fk [(0,_)] K1 ?_;refine Hd.seq fun _ K2=>?_
 refine sr fun _ K3=>?_
 refine yv y_mv<|callE rfl fk114 (wnone_ct _ wb w.at w i.rs.length i) sq ?_;intro _;refine fk [(0,_),(14,_)] K3 ?_;refine Hd.condF rfl ?_;refine qv K2<|sr fun _ K4=>?_
 refine yv y_mv<|yv y_np<|yv (y_f 290 29 Tryz.underlying186 sz29)<|yv (y_load1 (v:=.int .u64 (nw:Int)) ag29 rfl (Rd.pt1 pkk (woT_at (j:=2) (by omega) (by rw [←hnw];rfl)))) ?_;refine Hd.call rfl fk165 (fmtu_ct _ (by exact Tb.mono hT sq) nw hnb) ?_;intro _;refine yv (y_addstr rfl rfl (by simp;omega)) ?_;refine Hd.bslice (vs:=[(0,_)]) rfl (by exact bs87_21 ..) (fun b21=>?_);refine Hd.ptOwn (m:=1) pkk rfl (by decide) ?_;refine yv y_as<|fk [(0,_),(3,_)] K4 ?_;refine Hd.seq fun _ K5=>?_
 refine sr fun _ K6=>?_
 refine yv y_mv<|yv y_np<|yv (y_f 0 183 Tryz.underlying186 sz183)<|yv (y_loadn (us:=fdC w.at) ag183 rfl (Rd.pt pkk (fun j v e=>by rw [Nat.zero_add];exact (List.getElem?_append_left (List.getElem?_eq_some_iff.1 e).1).trans e)) (by rw [fdC_len];exact sz183)) ?_;refine yv y_mv<|fk [(0,_),(3,_),(25,_),(26,_)] K6 ?_;refine Hd.block<|Hd.loopK (ι:=Nat×Option Addr×Nat) [(0,_),(25,_)] (fun q_=>[(3,.slice q_.2.1 (imgF w q_.1).length q_.2.2),(26,.int .i64 (q_.1:Int))]) (fun q_=>pu (q_.1≤96)::own 9 1 q_.2.1 (imgF w q_.1).length q_.2.2 (VLs (imgF w q_.1))::WoL wb w i L) (fun q_=>96 - q_.1) (0,some ⟨b21,0,none⟩,1) sbq sbq (fun q t=>Ent.sep (.pure (Nat.zero_le _) (.eq (A:=own 9 1 (some ⟨b21,0,none⟩) 1 1 [.string (str ([110,111,119,32]++dgB nw))]) pkk (own_eq3 rfl rfl (by show _=VLs (imgF w 0);unfold imgF;rw [hnt];rfl)) enn)) q t) ?_
 rintro ⟨k,ad,c⟩
 try dsimp only
 refine Hd.pure (fun hp0=>?_)
 try dsimp only at hp0
 refine sr fun _ K7=>?_
 refine yv (y_lss rfl rfl) ?_;refine fk [(0,_),(3,_),(25,_),(26,_),(27,_)] K7 ?_;refine Hd.seq fun _ K8=>?_
 refine qz ?_ ?_<;>intro hc1<;>try simp only [hyZ] at hc1
 ·have hk:k < 96:=by omega
  have hs:=imgF_s w k
  have hl:=imgF_le w k
  refine qv K8<|Hd.seq fun _ K9=>?_
  refine Hd.block<|sr fun _ K10=>?_
  refine yv y_mv<|yv (y_indexn (us:=plc (w.at (k:Int))) Tryz.underlying183 ag182 sz182 rfl rfl (by omega) (fdC_pl hk)) ?_;refine Hd.alloc zr182 (fun b5=>?_);refine yv y_as<|Hd.storeA (us:=plc (w.at (k:Int))) (by rw [plc_len];exact sz182) rfl rfl rfl (plc_one _) pkk (by rw [plc_len];rfl) ?_;refine fk [(0,_),(3,_),(4,_),(5,_),(25,_),(26,_)] K10 ?_;refine sr fun _ K11=>?_
  refine yv (y_f 0 4 Tryz.underlying182 sz4)<|yv (y_load1 (v:=.bool (w.at (k:Int)).isSome) ag4 rfl (Rd.pt1 pkk (plc_0 _))) ?_;refine fk [(0,_),(3,_),(4,_),(5,_),(25,_),(26,_),(31,_)] K11 ?_;refine qz ?_ ?_<;>intro hc2<;>try simp only [hyZ] at hc2
  ·obtain ⟨n,kk,ho⟩:∃ n kk,w.at (k:Int)=some (n,kk):=by
    cases h:w.at (k:Int) with
    | none=>rw [h] at hc2;exact absurd hc2 (by simp)
    | some p=>exact ⟨p.1,p.2,rfl⟩
   obtain ⟨hkk,hn1,x,hx⟩:=at_open hw ho
   have hbl:=hw.wf x (List.mem_of_getElem? hx)
   have hK:fdK w n kk=if 0 < x.bl then 2 else kk:=by unfold fdK;rw [hx];rfl
   have hf:fdB w k=[sFd++(dgB k++(sWire2++(dgB n++(sEnd++dgB (fdK w n kk)))))]:=by unfold fdB;rw [ho]
   have hKb:fdK w n kk≤2:=by rw [hK];split<;>omega
   have h1l:=dg_20 (n:=k) (by omega)
   have h2l:=dg_20 (n:=n) (by omega)
   have h3l:=dg_20 (n:=fdK w n kk) (by omega)
   obtain ⟨xb,hxb⟩:=rs_at hrs hx
   have hil:n < i.rs.length:=(List.getElem?_eq_some_iff.1 hxb).1
   rw [hf] at hs;rw [ho];refine sr fun _ K12=>?_
   refine yv (y_f 2 3 Tryz.underlying182 sz3)<|yv (y_l1 ag3 rfl)<|yv y_as<|fk [(0,_),(3,_),(4,_),(5,_),(6,_),(25,_),(26,_)] K12 ?_;refine Hd.cutK (ι:=Unit) [(0,_),(3,_),(4,_),(5,_),(25,_),(26,_)] (fun _=>[(6,.int .i64 (fdK w n kk:Int))]) (fun _=>pt b5 (plc (some (n,kk))) 182::own 9 1 ad (imgF w k).length c (VLs (imgF w k))::WoL wb w i L) ?_ ?_ ⟨rfl,rfl,rfl,rfl,rfl,rfl,trivial⟩
   ·refine Hd.seq fun _ K13=>?_
    refine Hd.wOut pkk hxb ?_;refine Hd.wire .here 0 (by omega) (fun i2 hi2=>?_);refine Hd.drawsH ([pt b5 (plc (some (n,kk))) 182,WoH wb w.at w i.rs.length i,own 189 1 i.wa i.rs.length i.wc (pws i.rs),WireH xb x i2]) (fun _=>true) mixed ?_;simp only [List.length,Nat.zero_add,Nat.reduceAdd];refine tH 0 rfl y_mv<|tH 1 rfl y_np<|tH 2 rfl (y_f 288 184 Tryz.underlying186 sz184)<|tH 3 rfl (y_load1 ag184 rfl (Rd.pt1 pkk (by exact woT_at (j:=0) (by omega) rfl))) ?_;refine tH 4 rfl (y_f 1 3 Tryz.underlying182 sz3)<|tH 5 rfl (y_l1 ag3 rfl)<|tH 6 rfl (y_idxR Tryz.underlying184 sz189 rfl rfl (by omega) (by exact RdS.own pkk)) ?_;refine tH 7 rfl (y_loadR1 ag189 rfl (by exact RdS.own pkk) (by exact pws_at hxb)) ?_;refine tH 8 rfl y_np<|tH 9 rfl (y_f 15 3 Tryz.underlying198 sz3)<|tH 10 rfl (y_l1 ag3 rfl)<|tH 11 rfl (y_gtr rfl rfl) ?_
    refine endH kq ?_;refine sk [(0,_),(3,_),(4,_),(5,_),(6,_),(25,_),(26,_),(45,_)] K13 ?_;refine qz ?_ ?_<;>intro hc3<;>try simp only [hyZ] at hc3
    ·refine Hd.region ?_
     refine yv y_as<|Hd.nil<|slots [(0,_),(3,_),(4,_),(5,_),(6,_),(25,_),(26,_)] sbq ?_;refine thenN ?_;exact Hd.meet () ⟨by rw [hK,if_pos (by simpa using hc3)];rfl,by repeat (first | exact trivial | refine ⟨rfl,?_⟩)⟩ (fun q s=>Ent.sep enn q (wol_back (L:=pt b5 (plc (some (n,kk))) 182::own 9 1 ad (imgF w k).length c (VLs (imgF w k))::L) hxb q (wire_fold (k:=0) hi2 (by omega) q (Ent.sep enn q s))))
    refine Hd.skip<|thenN ?_;exact Hd.meet () ⟨by rw [hK,if_neg (by simpa using hc3)];rfl,by repeat (first | exact trivial | refine ⟨rfl,?_⟩)⟩ (fun q s=>Ent.sep enn q (wol_back (L:=pt b5 (plc (some (n,kk))) 182::own 9 1 ad (imgF w k).length c (VLs (imgF w k))::L) hxb q (wire_fold (k:=0) hi2 (by omega) q (Ent.sep enn q s))))
   intro _;refine Hd.drawsH ([pt b5 (plc (some (n,kk))) 182]) (fun _=>true) mixed ?_;simp only [List.length,Nat.zero_add,Nat.reduceAdd];refine tH 0 rfl y_mv<|tH 1 rfl y_mv<|tH 5 rfl (y_f 1 3 Tryz.underlying182 sz3)<|tH 6 rfl (y_l1 ag3 rfl)<|tH 10 rfl y_mv<|qo 2 ?_;refine Hd.call rfl fk166 (itoa_ct _ (by exact Tb.mono hT sq) k (by omega)) ?_;intro _;refine qk<|tH 3 rfl (y_addstr rfl rfl (by simp;omega)) ?_;refine tH 4 rfl (y_addstr rfl rfl (by simp;omega)) ?_;refine qo 7 ?_;refine Hd.call rfl fk166 (itoa_ct _ (by exact Tb.mono hT sq) n (by omega)) ?_;intro _;refine qk<|tH 8 rfl (y_addstr rfl rfl (by simp;omega)) ?_;refine tH 9 rfl (y_addstr rfl rfl (by simp;omega)) ?_;refine qo 11 ?_;refine Hd.call rfl fk166 (itoa_ct _ (by exact Tb.mono hT sq) (fdK w n kk) (by omega)) ?_;intro _;refine qk<|tH 12 rfl (y_addstr rfl rfl (by simp;omega)) ?_
   refine qo 13 ?_;refine Hd.bslice (vs:=[(0,_)]) rfl (by exact bs87_59 ..) (fun b59=>?_);refine qk<|qo 14 ?_;refine Hd.append Tryz.underlying137 ty9 rfl rfl rfl pkk (by exact RdS.rd (Rd.pt pkk (fun j v e=>by simpa using e)) rfl) (by simp [Value.oneCell'];done) (by simp only [maxLen];omega) (by omega) (fun ad60 cap60=>?_);refine qk<|tH 15 rfl y_as<|endH kq ?_;refine slots [(0,_),(3,_),(25,_),(26,_)] sbq ?_;refine Hd.inB<|Hd.toK K9 ?_;refine Hd.region<|yv (y_addn rfl rfl (by simp only [InK];omega)) ?_;refine yv y_mv<|Hd.nil<|slots [(0,_),(3,_),(25,_),(26,_)] sbq ?_;refine thenN<|Hd.again (k + 1,ad60,cap60) (by show 96 - (k + 1) < 96 - k;omega) (by (try dsimp only);rw [hs,List.length_append];repeat (first | exact trivial | refine ⟨rfl,?_⟩)) (fun q t=>?_);rw [hs];exact Ent.sep (.pure (show k + 1≤96 by omega) (.eq pkk (own_eq3 (by rw [List.length_append];rfl) rfl (by exact vls_snoc (by rfl))) enn)) q t
  have hf:fdB w k=[]:=by
   unfold fdB
   cases h:w.at (k:Int) with
   | none=>rfl
   | some p=>rw [h] at hc2;exact absurd hc2 (by simp)
  rw [hf,List.append_nil] at hs;refine Hd.skip<|Hd.inB<|Hd.toK K9 ?_;refine Hd.region<|yv (y_addn rfl rfl (by simp only [InK];omega)) ?_;refine yv y_mv<|Hd.nil<|slots [(0,_),(3,_),(25,_),(26,_)] sbq ?_;refine thenN<|Hd.again (k + 1,ad,c) (by show 96 - (k + 1) < 96 - k;omega) (by (try dsimp only);rw [hs];repeat (first | exact trivial | refine ⟨rfl,?_⟩)) (fun q t=>?_);rw [hs];exact Ent.sep (.pure (show k + 1≤96 by omega) enn) q t
 obtain rfl:k=96:=by omega
 refine Hd.exit<|Hd.thenExit<|Hd.thenExit<|Hd.inBexit<|Hd.toK K5 ?_;refine Hd.seq fun _ K14=>?_
 refine Hd.seq fun _ K15=>?_
 rw [imgN_0 w];refine Hd.region<|yv y_mv<|yv y_np<|yv (y_f 288 184 Tryz.underlying186 sz184)<|yv (y_load1 ag184 rfl (Rd.pt1 pkk (by exact woT_at (j:=0) (by omega) rfl))) ?_;refine yv (y_len Tryz.underlying184 rfl) ?_;refine yv y_mv<|fk [(0,_),(3,_),(65,_),(66,_),(67,_)] K15 ?_;refine Hd.block<|Hd.loopK (ι:=Nat×Option Addr×Nat) [(0,_),(65,_),(66,_)] (fun q_=>[(3,.slice q_.2.1 (imgN w q_.1).length q_.2.2),(67,.int .i64 (q_.1:Int))]) (fun q_=>pu (q_.1≤i.rs.length)::own 9 1 q_.2.1 (imgN w q_.1).length q_.2.2 (VLs (imgN w q_.1))::WoL wb w i L) (fun q_=>i.rs.length - q_.1) (0,ad,c) sbq sbq (Ent.sep (.pure (by omega) enn)) ?_;rintro ⟨n,ad,c⟩
 try dsimp only
 refine Hd.pure (fun hp1=>?_)
 try dsimp only at hp1
 refine sr fun _ K16=>?_
 refine yv (y_lss rfl rfl) ?_;refine fk [(0,_),(3,_),(65,_),(66,_),(67,_),(68,_)] K16 ?_;refine Hd.seq fun _ K17=>?_
 refine qz ?_ ?_<;>intro hc4<;>try simp only [hyZ] at hc4
 ·have hrl:i.rs.length=w.ws.length:=by rw [←hrs,List.length_map]
  have hwl:=hw.len
  have hn1:n < w.ws.length:=by omega
  obtain ⟨x,hx⟩:∃ x,w.ws[n]?=some x:=⟨_,List.getElem?_eq_getElem hn1⟩
  obtain ⟨xb,hxb⟩:=rs_at hrs hx
  have hxw:=hw.wf x (List.mem_of_getElem? hx)
  have hwt:=wt_bd hw hx
  have hl:=imgN_le w n
  have hs:=imgN_s w n
  have hdn:=dg_20 (n:=n) (by omega)
  have hwr:wr1L w n=[spJ (wireWs n x)]:=by unfold wr1L;rw [hx];rfl
  rw [hwr] at hs;refine qv K17<|Hd.seq fun _ K18=>?_
  refine Hd.block<|sr fun _ K19=>?_
  refine yv y_mv<|yv (y_idxR Tryz.underlying184 sz189 rfl rfl (by omega) (by exact RdS.own pkk)) ?_;refine yv (y_loadR1 (v:=ptr (some xb)) ag189 rfl (RdS.own pkk) (pws_at hxb)) ?_;refine yv y_as<|yv y_as<|fk [(0,_),(3,_),(7,_),(8,_),(65,_),(66,_),(67,_)] K19 ?_;refine sr fun _ K20=>?_
  refine yv y_mv<|Hd.call rfl fk166 (itoa_ct _ (by exact Tb.mono hT sq) n (by omega)) ?_;intro _;refine Hd.bslice (vs:=[(0,_),(1,_)]) rfl (by exact bsS2 ..) (fun b74=>?_);refine Hd.ptOwn (m:=2) pkk rfl (by decide) ?_;refine yv y_as<|fk [(0,_),(3,_),(8,_),(9,_),(65,_),(66,_),(67,_)] K20 ?_;refine Hd.wOut pkk hxb ?_;refine Hd.wire .here 0 (by omega) (fun i2 hi2=>?_)
  obtain ⟨W1,hW1⟩:∃ W1,[sWire,dgB n]++(if 0 < x.bl then [sListen,dgB x.bl.toNat]++x.wt.map dgB else wordsA (x.e 0) x.cap++wordsA (x.e 1) x.cap)=W1:=⟨_,rfl⟩
  have hwl2:∀ e:EndA,(wordsA e x.cap).length≤3:=fun e=>by unfold wordsA;simp only [List.length_append,List.length_singleton];split<;>simp
  have hb2:=hxw.bl
  have hW1l:W1.length≤100:=by
   have:=hwl2 (x.e 0)
   have:=hwl2 (x.e 1)
   rw [←hW1]
   split<;>simp only [List.length_append,List.length_cons,List.length_nil,List.length_map]<;>omega
  refine Hd.cutK (ι:=Option Addr×Nat) [(0,_),(3,_),(8,_),(65,_),(66,_),(67,_)] (fun s=>[(9,.slice s.1 W1.length s.2)]) (fun s=>own 9 1 s.1 W1.length s.2 (VLs W1)::WireL xb x i2 0 (WoR wb n w i (own 9 1 ad (imgN w n).length c (VLs (imgN w n))::L))) ?_ ?_ ⟨rfl,rfl,rfl,rfl,rfl,rfl,trivial⟩
  ·refine sr fun _ K21=>?_
   refine yv y_mv<|yv y_np<|yv (y_f 15 3 Tryz.underlying198 sz3)<|yv (y_l1 ag3 rfl)<|yv (y_gtr rfl rfl) ?_;refine fk [(0,_),(3,_),(8,_),(9,_),(65,_),(66,_),(67,_),(79,_)] K21 ?_;refine qz ?_ ?_<;>intro hc5<;>try simp only [hyZ] at hc5
   ·have hbt:x.bl=((x.bl.toNat:Nat):Int):=by omega
    rw [if_pos hc5] at hW1
    have hdb:=dg_20 (n:=x.bl.toNat) (by omega)
    refine sr fun _ K22=>?_
    refine yv y_mv<|yv y_mv<|yv y_np<|yv (y_f 15 3 Tryz.underlying198 sz3)<|yv (y_to (v':=.int .i64 ((x.bl.toNat:Nat):Int)) (y_l1 ag3 rfl) (by exact congrArg (Value.int .i64) hbt)) ?_;refine Hd.call rfl fk166 (itoa_ct _ (by exact Tb.mono hT sq) x.bl.toNat (by omega)) ?_;intro _;refine Hd.bslice (vs:=[(0,_),(1,_)]) rfl (by exact bsS2 ..) (fun b86=>?_);refine Hd.append Tryz.underlying137 ty9 rfl rfl rfl pkk (by exact RdS.rd (Rd.pt pkk (fun j v e=>by simpa using e)) rfl) (by simp [Value.oneCell'];done) (by simp only [maxLen];omega) (by omega) (fun ad87 cap87=>?_);refine yv y_as<|fk [(0,_),(3,_),(8,_),(9,_),(65,_),(66,_),(67,_)] K22 ?_;refine sr fun _ K23=>?_
    refine yv y_mv<|yv y_np<|yv (y_f 16 94 Tryz.underlying198 sz94)<|yv (y_l1 ag94 rfl)<|yv (y_len Tryz.underlying94 rfl) ?_;refine yv y_mv<|fk [(0,_),(3,_),(8,_),(9,_),(65,_),(66,_),(67,_),(91,_),(92,_),(93,_)] K23 ?_;refine Hd.block<|Hd.loopK (ι:=Nat×Option Addr×Nat) [(0,_),(3,_),(8,_),(65,_),(66,_),(67,_),(91,_),(92,_)] (fun q_=>[(9,.slice q_.2.1 (([sWire,dgB n]++[sListen,dgB x.bl.toNat]++(x.wt.take q_.1).map dgB)).length q_.2.2),(93,.int .i64 (q_.1:Int))]) (fun q_=>pu (q_.1≤x.wt.length)::own 9 1 q_.2.1 (([sWire,dgB n]++[sListen,dgB x.bl.toNat]++(x.wt.take q_.1).map dgB)).length q_.2.2 (VLs (([sWire,dgB n]++[sListen,dgB x.bl.toNat]++(x.wt.take q_.1).map dgB)))::WireL xb x i2 0 (WoR wb n w i (own 9 1 ad (imgN w n).length c (VLs (imgN w n))::L))) (fun q_=>x.wt.length - q_.1) (0,ad87,cap87) sbq sbq (fun q s=>Ent.sep (.pure (Nat.zero_le _) (.eq (A:=own 9 1 ad87 (2 + 2) cap87 ([.string (str sWire),.string (str (dgB n))]++[.string (str sListen),.string (str (dgB x.bl.toNat))])) pkk (own_eq3 rfl rfl rfl) enn)) q s) ?_
    rintro ⟨q,la,lc⟩
    try dsimp only
    refine Hd.pure (fun hp2=>?_)
    try dsimp only at hp2
    refine sr fun _ K24=>?_
    refine yv (y_lss rfl rfl) ?_;refine fk [(0,_),(3,_),(8,_),(9,_),(65,_),(66,_),(67,_),(91,_),(92,_),(93,_),(94,_)] K24 ?_;refine Hd.seq fun _ K25=>?_
    refine qz ?_ ?_<;>intro hc6<;>try simp only [hyZ] at hc6
    ·have hq:q < x.wt.length:=by omega
     obtain ⟨m,hm⟩:∃ m,x.wt[q]?=some m:=⟨_,List.getElem?_eq_getElem hq⟩
     have hmb:=hwt m (List.mem_of_getElem? hm)
     have hdm:=dg_20 (n:=m) (by omega)
     have htq:(x.wt.take (q + 1)).map dgB=(x.wt.take q).map dgB++[dgB m]:=by rw [List.take_add_one,hm,Option.toList_some,List.map_append];rfl
     have htl:(([sWire,dgB n]++[sListen,dgB x.bl.toNat]++(x.wt.take q).map dgB)).length=q + 4:=by simp only [List.length_append,List.length_map,List.length_take,List.length_cons,List.length_nil];omega
     have htn:(([sWire,dgB n]++[sListen,dgB x.bl.toNat]++(x.wt.take q).map dgB)++[dgB m]).length=(([sWire,dgB n]++[sListen,dgB x.bl.toNat]++(x.wt.take q).map dgB)).length + 1:=List.length_append
     refine qv K25<|Hd.seq fun _ K26=>?_
     refine Hd.block<|sr fun _ K27=>?_
     refine yv (y_idxR Tryz.underlying94 sz3 rfl rfl (by omega) (by exact RdS.own pkk)) ?_;refine yv (y_loadR1 (v:=.int .i64 (m:Int)) ag3 rfl (RdS.own pkk) (by rw [Nat.mul_one,List.getElem?_map,hm];rfl)) ?_;refine yv y_as<|fk [(0,_),(3,_),(8,_),(9,_),(11,_),(65,_),(66,_),(67,_),(91,_),(92,_),(93,_)] K27 ?_;refine Hd.region<|yv y_mv<|yv y_mv<|Hd.call rfl fk166 (itoa_ct _ (by exact Tb.mono hT sq) m (by omega)) ?_;intro _;refine Hd.bslice (vs:=[(0,_)]) rfl (by exact bs87_100 ..) (fun b100=>?_);refine Hd.append Tryz.underlying137 ty9 rfl rfl rfl pkk (by exact RdS.rd (Rd.pt pkk (fun j v e=>by simpa using e)) rfl) (by simp [Value.oneCell'];done) (by simp only [maxLen];omega) (by omega) (fun ad101 cap101=>?_);refine yv y_as<|Hd.nil<|slots [(0,_),(3,_),(8,_),(9,_),(65,_),(66,_),(67,_),(91,_),(92,_),(93,_)] sbq ?_;refine Hd.inB ?_
     refine Hd.toK K26 ?_;refine Hd.region<|yv (y_addn rfl rfl (by simp only [InK];omega)) ?_;refine yv y_mv<|Hd.nil<|slots [(0,_),(3,_),(8,_),(9,_),(65,_),(66,_),(67,_),(91,_),(92,_),(93,_)] sbq ?_;refine thenN<|Hd.again (q + 1,ad101,cap101) (by show x.wt.length - (q + 1) < x.wt.length - q;omega) (by (try dsimp only);rw [htq,←List.append_assoc,htn];repeat (first | exact trivial | refine ⟨rfl,?_⟩)) (fun q' s=>?_);rw [htq,←List.append_assoc];exact Ent.sep (.pure (show q + 1≤x.wt.length by omega) (.eq pkk (own_eq3 (by exact htn.symm) rfl (by exact vls_snoc rfl)) enn)) q' s
    obtain rfl:q=x.wt.length:=by omega
    rw [List.take_length]
    have hWe:([sWire,dgB n]++[sListen,dgB x.bl.toNat]++x.wt.map dgB)=W1:=by rw [←hW1];rfl
    refine Hd.exit<|Hd.thenExit<|Hd.thenExit<|Hd.inBexit<|thenN ?_;exact Hd.meet (la,lc) ⟨by rw [←hWe];rfl,by repeat (first | exact trivial | refine ⟨rfl,?_⟩)⟩ (Ent.sep (.eq pkk (own_eq3 (by rw [←hWe]) rfl (by rw [←hWe])) enn))
   rw [if_neg (by omega)] at hW1
   obtain ⟨w0,hw0⟩:∃ q:Nat,(x.e 0).what=(q:Int):=⟨(x.e 0).what.toNat,by have:=(hxw.what 0 (by decide)).1;omega⟩
   obtain ⟨w1,hw1⟩:∃ q:Nat,(x.e 1).what=(q:Int):=⟨(x.e 1).what.toNat,by have:=(hxw.what 1 (by decide)).1;omega⟩
   have hv0:w0≤3:=by have:=(hxw.what 0 (by decide)).2;omega
   have hv1:w1≤3:=by have:=(hxw.what 1 (by decide)).2;omega
   have hl20:=hwl2 (x.e 0)
   have hl21:=hwl2 (x.e (1 - 0))
   refine Hd.drawsH ([WireH xb x i2]) (fun _=>true) mixed ?_;simp only [List.length,Nat.zero_add,Nat.reduceAdd];refine tH 0 rfl y_mv<|tH 1 rfl y_mv<|tH 2 rfl y_np<|tH 3 rfl (y_f 0 196 Tryz.underlying198 sz196)<|tH 4 rfl (y_idxA Tryz.underlying196 sz195 rfl rfl (by decide)) ?_;refine tH 5 rfl (y_loadn (us:=[_,_,_,_,_,_,_]) ag195 rfl (Rd.pt pkk (by intro j v e;rcases j with _|_|_|_|_|_|_|_|_|_|_|_|j<;>first | exact e | exact absurd e (by simp))) (by exact sz195)) ?_;refine tH 8 rfl y_mv<|tH 9 rfl y_np<|tH 10 rfl (y_f 0 196 Tryz.underlying198 sz196)<|tH 11 rfl (y_idxA Tryz.underlying196 sz195 rfl rfl (by decide)) ?_;refine tH 12 rfl (y_loadn (us:=[_,_,_,_,_,_,_]) ag195 rfl (Rd.pt pkk (by intro j v e;rcases j with _|_|_|_|_|_|_|_|_|_|_|_|j<;>first | exact e | exact absurd e (by simp))) (by exact sz195)) ?_
   refine qo 6 ?_;refine callE rfl fk167 (words_ct _ ?hT1 (x.e 0) w0 hw0 hv0 (i2.p 0) (hi2.rd 0 (by decide)) x.cap hxw.cap (hxw.le 0 (by decide))) sq ?_
   case hT1=>exact Tb.mono hT sq
   rintro ⟨ea,ec⟩;dsimp only;refine qk<|qo 7 ?_;refine Hd.append Tryz.underlying137 ty9 rfl rfl rfl pkk (by exact RdS.own pkk) (by simp [Value.oneCell'];done) (by simp only [maxLen];omega) (by omega) (fun ad110 cap110=>?_);refine qk<|qo 13 ?_;refine callE rfl fk167 (words_ct _ ?hT2 (x.e (1 - 0)) w1 hw1 hv1 (i2.p (1 - 0)) (hi2.rd 1 (by decide)) x.cap hxw.cap (hxw.le 1 (by decide))) sq ?_
   case hT2=>exact Tb.mono hT sq
   rintro ⟨fa,fc⟩;dsimp only;refine qk<|qo 14 ?_;refine Hd.append Tryz.underlying137 ty9 rfl rfl rfl pkk (by exact RdS.own pkk) (by simp [Value.oneCell'];done) (by simp only [maxLen];omega) (by omega) (fun ad117 cap117=>?_);refine qk<|tH 15 rfl y_as<|endH kq ?_;refine slots [(0,_),(3,_),(8,_),(9,_),(65,_),(66,_),(67,_)] sbq ?_;refine thenN<|Hd.meet (ad117,cap117) ⟨?_,by repeat (first | exact trivial | refine ⟨rfl,?_⟩)⟩ (Ent.sep (.eq pkk (own_eq3 ?_ rfl ?_) enn))
   ·rw [←hW1];refine congrArg (fun z=>some (Value.slice ad117 z cap117)) ?_;simp only [List.length_append,List.length_cons,List.length_nil,Nat.sub_zero];omega
   ·rw [←hW1];simp only [List.length_append,List.length_cons,List.length_nil,Nat.sub_zero];omega
   ·rw [←hW1];simp
  rintro ⟨la,lc⟩;dsimp only
  obtain ⟨W2,hW2⟩:∃ W2,wireWs n x=W2:=⟨_,rfl⟩
  have hWW:W2=W1++if x.rs=true then [sReset] else []:=by rw [←hW2,←hW1];unfold wireWs;simp only [List.append_assoc]
  have hW2l:W2.length≤101:=by rw [hWW];split<;>simp only [List.length_append,List.length_cons,List.length_nil]<;>omega
  have hW2p:0 < W2.length:=by rw [←hW2];unfold wireWs;simp
  have hjl:(Lib.join W2 [32]).length≤140737488355328:=by
   have h1:=wireD_len (n:=n) (by omega) hxw hwt
   rw [←wireB_eq] at h1;rw [←hW2];exact Nat.le_trans h1 (by decide)
  rw [hW2] at hs;refine Hd.cutK (ι:=Option Addr×Nat) [(0,_),(3,_),(65,_),(66,_),(67,_)] (fun s=>[(9,.slice s.1 W2.length s.2)]) (fun s=>own 9 1 s.1 W2.length s.2 (VLs W2)::WireL xb x i2 0 (WoR wb n w i (own 9 1 ad (imgN w n).length c (VLs (imgN w n))::L))) ?_ ?_ ⟨rfl,rfl,rfl,rfl,rfl,trivial⟩
  ·refine sr fun _ K28=>?_
   refine yv y_mv<|yv y_np<|yv (y_f 14 4 Tryz.underlying198 sz4)<|yv (y_l1 ag4 rfl)<|fk [(0,_),(3,_),(9,_),(65,_),(66,_),(67,_),(121,_)] K28 ?_;refine qz ?_ ?_<;>intro hc7<;>try simp only [hyZ] at hc7
   ·rw [if_pos hc7] at hWW
    refine Hd.region<|yv y_mv<|Hd.bslice (vs:=[(0,_)]) rfl (by exact bsS1 ..) (fun b123=>?_);refine Hd.append Tryz.underlying137 ty9 rfl rfl rfl pkk (by exact RdS.rd (Rd.pt pkk (fun j v e=>by simpa using e)) rfl) (by simp [Value.oneCell'];done) (by simp only [maxLen];omega) (by omega) (fun ad124 cap124=>?_);refine yv y_as<|Hd.nil<|slots [(0,_),(3,_),(9,_),(65,_),(66,_),(67,_)] sbq ?_;refine thenN<|Hd.meet (ad124,cap124) ⟨by rw [hWW,List.length_append];rfl,by repeat (first | exact trivial | refine ⟨rfl,?_⟩)⟩ (Ent.sep (.eq pkk (own_eq3 (by rw [hWW,List.length_append];rfl) rfl (by rw [hWW];exact vls_snoc rfl)) enn))
   rw [if_neg (by simpa using hc7),List.append_nil] at hWW;refine Hd.skip<|thenN ?_;exact Hd.meet (la,lc) ⟨by rw [hWW];rfl,by repeat (first | exact trivial | refine ⟨rfl,?_⟩)⟩ (Ent.sep (.eq pkk (own_eq3 (by rw [hWW]) rfl (by rw [hWW])) enn))
  rintro ⟨ja,jc⟩;dsimp only;refine Hd.region<|yv y_mv<|yv y_mv<|Hd.call rfl fk168 (joinO_ct _ _ _ ja jc W2 [32] (by exact pkk) hW2p (by omega) hjl) ?_;intro _;refine Hd.bslice (vs:=[(0,_)]) rfl (by exact bs87_128 ..) (fun b128=>?_);refine Hd.append Tryz.underlying137 ty9 rfl rfl rfl pkk (by exact RdS.rd (Rd.pt pkk (fun j v e=>by simpa using e)) rfl) (by simp [Value.oneCell'];done) (by simp only [maxLen];omega) (by omega) (fun ad129 cap129=>?_);refine yv y_as<|Hd.nil<|slots [(0,_),(3,_),(65,_),(66,_),(67,_)] sbq ?_;refine Hd.inB<|Hd.toK K18 ?_;refine Hd.region<|yv (y_addn rfl rfl (by simp only [InK];omega)) ?_;refine yv y_mv<|Hd.nil<|slots [(0,_),(3,_),(65,_),(66,_),(67,_)] sbq ?_;refine thenN ?_
  have hfin:Lib.join W2 [32]=spJ W2:=rfl
  refine Hd.again (n + 1,ad129,cap129) (by show i.rs.length - (n + 1) < i.rs.length - n;omega) (by (try dsimp only);rw [hs,List.length_append];repeat (first | exact trivial | refine ⟨rfl,?_⟩)) (fun q s=>?_);rw [hs];exact Ent.sep (.pure (show n + 1≤i.rs.length by omega) (.eq (A:=own 9 1 ad129 ((imgN w n).length + 1) cap129 (VLs (imgN w n)++[.string (str (Lib.join W2 [32]))])) pkk (own_eq3 (by rw [List.length_append];rfl) rfl (by exact vls_snoc rfl)) enn)) q (wol_back (L:=own 9 1 ad129 ((imgN w n).length + 1) cap129 (VLs (imgN w n)++[.string (str (Lib.join W2 [32]))])::L) hxb q (wire_fold (k:=0) hi2 (by omega) q (Ent.sep enn q s)))
 have hrl:i.rs.length=w.ws.length:=by rw [←hrs,List.length_map]
 obtain rfl:n=i.rs.length:=by omega
 rw [hrl,imgS_0 w];refine Hd.exit<|Hd.thenExit<|Hd.thenExit<|Hd.inBexit<|Hd.toK K14 ?_;refine Hd.seq fun _ K29=>?_
 refine sr fun _ K30=>?_
 refine yv y_as<|fk [(0,_),(3,_),(12,_)] K30 ?_;refine Hd.block<|Hd.loopK (ι:=Nat×Option Addr×Nat) [(0,_)] (fun q_=>[(3,.slice q_.2.1 (imgS w q_.1).length q_.2.2),(12,.int .i64 ((q_.1 + 1:Nat):Int))]) (fun q_=>pu (q_.1≤31)::own 9 1 q_.2.1 (imgS w q_.1).length q_.2.2 (VLs (imgS w q_.1))::WoL wb w i L) (fun q_=>31 - q_.1) (0,ad,c) sbq sbq (Ent.sep (.pure (by omega) enn)) ?_;rintro ⟨s,ad,c⟩
 try dsimp only
 refine Hd.pure (fun hp3=>?_)
 try dsimp only at hp3
 refine Hd.seq fun _ K31=>?_
 refine sr fun _ K32=>?_
 refine yv y_mv<|yv (y_leq rfl rfl) ?_;refine fk [(0,_),(3,_),(12,_),(132,_)] K32 ?_;refine qz ?_ ?_<;>intro hc8<;>try simp only [hyZ] at hc8
 ·have hsk:s < 31:=by omega
  have hss:=imgS_s w s
  have hsl:=imgS_le w s
  have hwl:=hw.len
  have hhd:=hw.hdl
  have hcl:=hw.ctl
  have hcb:0≤w.ct.getD (s + 1) 0∧w.ct.getD (s + 1) 0≤2000000000:=by
   rw [List.getD_eq_getElem?_getD,List.getElem?_eq_getElem (show s + 1 < w.ct.length by omega)];exact hb _ (List.getElem_mem _)
  obtain ⟨ck,hck⟩:∃ ck:Nat,w.ct.getD (s + 1) 0=(ck:Int):=⟨(w.ct.getD (s + 1) 0).toNat,by omega⟩
  have hcn:(w.ct.getD (s + 1) 0).toNat=ck:=by omega
  have hcs:cntS w.ct ((s + 1:Nat):Int)=(ck:Int):=by
   rw [←hck];unfold cntS;rw [if_pos (by omega)]
   rfl
  have h1l:=dg_20 (n:=s + 1) (by omega)
  have h2l:=dg_20 (n:=ck) (by omega)
  refine qv K31<|Hd.seq fun _ K33=>?_
  refine Hd.block<|sr fun _ K34=>?_
  refine yv y_mv<|yv y_np<|yv (y_f 289 179 Tryz.underlying186 sz179)<|yv (y_load1 (v:=ptr (some i.sb)) ag179 rfl (Rd.pt1 pkk (woT_at (j:=1) (by omega) rfl))) ?_;refine yv y_mv<|callE rfl fk169 (sHandled_ct _ i.sb w.hd w.ct hhd hcl (s + 1) (by omega) (by omega)) sq ?_;intro _;refine fk [(0,_),(3,_),(12,_),(140,_)] K34 ?_;refine qz ?_ ?_<;>intro hc9<;>try simp only [hyZ] at hc9
  ·have hsg:sgB w (s + 1)=[sSignal++(dgB (s + 1)++([32]++dgB ck))]:=by unfold sgB;rw [if_pos hc9,hcn]
   rw [hsg] at hss;refine Hd.drawsH ([WoH wb w.at w i.rs.length i]) (fun _=>true) mixed ?_;simp only [List.length,Nat.zero_add,Nat.reduceAdd];refine tH 0 rfl y_mv<|tH 1 rfl y_mv<|tH 5 rfl y_mv<|tH 6 rfl y_np<|tH 7 rfl (y_f 289 179 Tryz.underlying186 sz179)<|tH 8 rfl (y_load1 (v:=ptr (some i.sb)) ag179 rfl (Rd.pt1 pkk (woT_at (j:=1) (by omega) rfl))) ?_;refine tH 9 rfl y_mv<|qo 2 ?_;refine Hd.call rfl fk166 (itoa_ct _ (by exact Tb.mono hT sq) (s + 1) (by omega)) ?_;intro _;refine qk<|tH 3 rfl (y_addstr rfl rfl (by simp;omega)) ?_;refine tH 4 rfl (y_addstr rfl rfl (by simp;omega)) ?_;refine qo 10 ?_;refine callE rfl fk164 (count_ct _ i.sb w.hd w.ct hhd hcl ((s + 1:Nat):Int)) sq ?_;intro _;rw [hcs];refine qk<|qo 11 ?_;refine Hd.call rfl fk166 (itoa_ct _ (by exact Tb.mono hT sq) ck (by omega)) ?_
   intro _;refine qk<|tH 12 rfl (y_addstr rfl rfl (by simp;omega)) ?_;refine qo 13 ?_;refine Hd.bslice (vs:=[(0,_)]) rfl (by exact bs87_154 ..) (fun b154=>?_);refine qk<|qo 14 ?_;refine Hd.append Tryz.underlying137 ty9 rfl rfl rfl pkk (by exact RdS.rd (Rd.pt pkk (fun j v e=>by simpa using e)) rfl) (by simp [Value.oneCell'];done) (by simp only [maxLen];omega) (by omega) (fun ad155 cap155=>?_);refine qk<|tH 15 rfl y_as<|endH kq ?_;refine slots [(0,_),(3,_),(12,_)] sbq ?_;refine Hd.inB<|Hd.toK K33 ?_;refine Hd.region<|yv y_mv<|yv (y_addn rfl rfl (by simp only [InK];omega)) ?_;refine yv y_as<|Hd.nil<|slots [(0,_),(3,_),(12,_)] sbq ?_;refine thenN<|Hd.again (s + 1,ad155,cap155) (by show 31 - (s + 1) < 31 - s;omega) (by (try dsimp only);rw [hss,List.length_append];repeat (first | exact trivial | refine ⟨rfl,?_⟩)) (fun q t=>?_)
   rw [hss];exact Ent.sep (.pure (show s + 1≤31 by omega) (.eq pkk (own_eq3 (by rw [List.length_append];rfl) rfl (by exact vls_snoc (by rfl))) enn)) q t
  have hsg:sgB w (s + 1)=[]:=by unfold sgB;rw [if_neg (by simpa using hc9)]
  rw [hsg,List.append_nil] at hss;refine Hd.skip<|Hd.inB<|Hd.toK K33 ?_;refine Hd.region<|yv y_mv<|yv (y_addn rfl rfl (by simp only [InK];omega)) ?_;refine yv y_as<|Hd.nil<|slots [(0,_),(3,_),(12,_)] sbq ?_;refine thenN<|Hd.again (s + 1,ad,c) (by show 31 - (s + 1) < 31 - s;omega) (by (try dsimp only);rw [hss];repeat (first | exact trivial | refine ⟨rfl,?_⟩)) (fun q t=>?_);rw [hss];exact Ent.sep (.pure (show s + 1≤31 by omega) enn) q t
 obtain rfl:s=31:=by omega
 have hall:=img_all w
 have hsl:=imgS_le w 31
 have hwl:=hw.len
 have hntw:=hw.nt
 obtain ⟨o,ho⟩:∃ o,w.nt=o:=⟨_,rfl⟩
 rw [ho] at hntw;refine Hd.exit<|Hd.thenExit<|Hd.thenExit<|Hd.inBexit<|Hd.toK K29 ?_;refine Hd.seq fun _ K35=>?_
 refine sr fun _ K36=>?_
 refine yv y_mv<|yv y_np<|yv (y_f 291 182 Tryz.underlying186 sz182)<|yv (y_f 0 4 Tryz.underlying182 sz4)<|yv (y_load1 (v:=.bool o.isSome) ag4 rfl (Rd.pt1 pkk (woT_nt (j:=0) (by omega) (by rw [ho];exact plc_0 o)))) ?_;refine fk [(0,_),(3,_),(160,_)] K36 ?_;refine qz ?_ ?_<;>intro hc10<;>try simp only [hyZ] at hc10
 ·obtain ⟨n,k,rfl⟩:∃ n k,o=some (n,k):=by
   cases o with
   | none=>cases hc10
   | some p=>exact ⟨p.1,p.2,rfl⟩
  obtain ⟨hk2,x,hx,_⟩:=hntw n k rfl
  have hn1:=(List.getElem?_eq_some_iff.1 hx).1
  have h1l:=dg_20 (n:=n) (by omega)
  have h2l:=dg_20 (n:=k) (by omega)
  have hnb2:ntB w=[sNotice++(dgB n++([32]++dgB k))]:=by unfold ntB;rw [ho]
  rw [hnb2] at hall;refine Hd.drawsH ([WoH wb w.at w i.rs.length i]) (fun _=>true) mixed ?_;simp only [List.length,Nat.zero_add,Nat.reduceAdd];refine tH 0 rfl y_mv<|tH 1 rfl y_mv<|tH 2 rfl y_np<|tH 3 rfl (y_f 291 182 Tryz.underlying186 sz182)<|tH 4 rfl (y_f 1 3 Tryz.underlying182 sz3)<|tH 5 rfl (y_load1 (v:=.int .i64 (n:Int)) ag3 rfl (Rd.pt1 pkk (woT_nt (j:=1) (by omega) (by rw [ho];rfl)))) ?_;refine tH 9 rfl y_mv<|tH 10 rfl y_np<|tH 11 rfl (y_f 291 182 Tryz.underlying186 sz182)<|tH 12 rfl (y_f 2 3 Tryz.underlying182 sz3)<|tH 13 rfl (y_load1 (v:=.int .i64 (k:Int)) ag3 rfl (Rd.pt1 pkk (woT_nt (j:=2) (by omega) (by rw [ho];rfl)))) ?_;refine qo 6 ?_;refine Hd.call rfl fk166 (itoa_ct _ (by exact Tb.mono hT sq) n (by omega)) ?_;intro _;refine qk<|tH 7 rfl (y_addstr rfl rfl (by simp;omega)) ?_
  refine tH 8 rfl (y_addstr rfl rfl (by simp;omega)) ?_;refine qo 14 ?_;refine Hd.call rfl fk166 (itoa_ct _ (by exact Tb.mono hT sq) k (by omega)) ?_;intro _;refine qk<|tH 15 rfl (y_addstr rfl rfl (by simp;omega)) ?_;refine qo 16 ?_;refine Hd.bslice (vs:=[(0,_)]) rfl (by exact bs87_177 ..) (fun b177=>?_);refine qk<|qo 17 ?_;refine Hd.append Tryz.underlying137 ty9 rfl rfl rfl pkk (by exact RdS.rd (Rd.pt pkk (fun j v e=>by simpa using e)) rfl) (by simp [Value.oneCell'];done) (by simp only [maxLen];omega) (by omega) (fun ad178 cap178=>?_);refine qk<|tH 18 rfl y_as<|endH kq ?_;refine sk [(3,_)] K35 ?_;refine sr fun _ K37=>?_
  refine yv y_mv<|yv y_as<|fk [(2,_)] K37 ?_;refine Hd.ret<|Hd.ret1 rfl (ad178,cap178) (by rw [hall,List.length_append];rfl) (fun q s=>?_);rw [hall];exact Ent.sep (show Ent _ (own 9 1 ad178 (imgS w 31++[sNotice++(dgB n++([32]++dgB k))]).length cap178 (VLs (imgS w 31++[sNotice++(dgB n++([32]++dgB k))]))::WorldP wb w::L) from .eq pkk (own_eq3 (by rw [List.length_append];rfl) rfl (by exact vls_snoc (by rfl))) (.ex i (.pure ⟨hw,hrs⟩ enn))) q s
 have hno:o=none:=by
  cases o with
  | none=>rfl
  | some p=>cases hc10
 have hnb2:ntB w=[]:=by unfold ntB;rw [ho,hno]
 rw [hnb2,List.append_nil] at hall;refine qv K35<|sr fun _ K38=>?_
 refine yv y_mv<|yv y_as<|fk [(2,_)] K38 ?_;refine Hd.ret<|Hd.ret1 rfl (ad,c) (by rw [hall];rfl) (fun q s=>?_);rw [hall];exact Ent.sep (show Ent _ (own 9 1 ad (imgS w 31).length c (VLs (imgS w 31))::WorldP wb w::L) from .pick pkk (.ex i (.pure ⟨hw,hrs⟩ enn))) q s
end Wo
end Go.Proofs.YtmpemhbfgbochaaGreatDoor
namespace Go.Proofs.YtmpemhbfgbochaaGreatDoor
open Go.RX Fx
namespace Wo
theorem wnow_ct (L:List SP) (wb:Nat) (w:WA):Ct Tryz.prog 82 #[.pointer (some ⟨wb,0,none⟩)] (WorldP wb w::L) (fun _:Unit=>.int .u64 w.now) (fun _:Unit=>WorldP wb w::L):=by
 refine Ct.o1 Tryz.func82 ?_;intro E
 show Hd E 9 _ _ _ _
 refine Hd.world .here (fun i hw hrs=>?_);refine sr fun _ K1=>?_
 refine yv y_as<|fk [(0,_)] K1 ?_;refine Hd.seq fun _ K2=>?_
 refine sr fun _ K3=>?_
 refine yv y_mv<|callE rfl fk114 (wnone_ct _ wb w.at w i.rs.length i) sq ?_;intro _;refine fk [(0,_),(4,_)] K3 ?_;refine Hd.condF rfl ?_;refine qv K2<|sr fun _ K4=>?_
 refine yv y_mv<|yv y_np<|yv (y_f 290 29 Tryz.underlying186 sz29)<|yv (y_load1 ag29 rfl (Rd.pt1 pkk (by exact woT_at (j:=2) (by omega) rfl))) ?_;refine yv y_as<|fk [(2,_)] K4 ?_;refine Hd.ret ?_;exact Hd.ret1 rfl () rfl (Ent.sep (.ex i (.pure ⟨hw,hrs⟩ enn)))
theorem wpend_ct (L:List SP) (wb:Nat) (w:WA) (hb:∀ c∈w.ct,0≤c∧c≤2000000000):Ct Tryz.prog 83 #[.pointer (some ⟨wb,0,none⟩)] (WorldP wb w::L) (fun _:Unit=>.int .i64 (pendN w)) (fun _:Unit=>WorldP wb w::L):=by
 refine Ct.o1 Tryz.func83 ?_;intro E
 show Hd E 10 _ _ _ _
 refine Hd.world .here (fun i hw hrs=>?_);refine sr fun _ K1=>?_
 refine yv y_as<|fk [(0,_)] K1 ?_;refine Hd.seq fun _ K2=>?_
 refine sr fun _ K3=>?_
 refine yv y_mv<|callE rfl fk114 (wnone_ct _ wb w.at w i.rs.length i) sq ?_;intro _;refine fk [(0,_),(4,_)] K3 ?_;refine Hd.condF rfl ?_;refine qv K2<|sr fun _ K4=>?_
 refine yv y_mv<|yv y_np<|yv (y_f 289 179 Tryz.underlying186 sz179)<|yv (y_load1 ag179 rfl (Rd.pt1 pkk (by exact woT_at (j:=1) (by omega) rfl))) ?_;refine callE rfl fk163 (pending_ct _ i.sb w.hd w.ct hw.hdl hw.ctl hb) sq ?_;intro _;refine yv y_as<|fk [(2,_)] K4 ?_;refine Hd.ret ?_;exact Hd.ret1 rfl () rfl (Ent.sep (.ex i (.pure ⟨hw,hrs⟩ enn)))
theorem wcount_ct (L:List SP) (wb:Nat) (w:WA) (s:Int):Ct Tryz.prog 85 #[.pointer (some ⟨wb,0,none⟩),.int .i64 s] (WorldP wb w::L) (fun _:Unit=>.int .i64 (cntS w.ct s)) (fun _:Unit=>WorldP wb w::L):=by
 refine Ct.o2 Tryz.func85 ?_;intro E
 show Hd E 13 _ _ _ _
 refine Hd.world .here (fun i hw hrs=>?_);refine sr fun _ K1=>?_
 refine yv y_as<|fk [(0,_),(1,_)] K1 ?_;refine Hd.seq fun _ K2=>?_
 refine sr fun _ K3=>?_
 refine yv y_mv<|callE rfl fk114 (wnone_ct _ wb w.at w i.rs.length i) sq ?_;intro _;refine fk [(0,_),(1,_),(6,_)] K3 ?_;refine Hd.condF rfl ?_;refine qv K2<|sr fun _ K4=>?_
 refine yv y_mv<|yv y_np<|yv (y_f 289 179 Tryz.underlying186 sz179)<|yv (y_load1 ag179 rfl (Rd.pt1 pkk (by exact woT_at (j:=1) (by omega) rfl))) ?_;refine yv y_mv<|callE rfl fk164 (count_ct _ i.sb w.hd w.ct hw.hdl hw.ctl s) sq ?_;intro _;refine yv y_as<|fk [(4,_)] K4 ?_;refine Hd.ret ?_;exact Hd.ret1 rfl () rfl (Ent.sep (.ex i (.pure ⟨hw,hrs⟩ enn)))
theorem sep_pu {p:Prop} {L:List SP} {k:PH} (h:sep (pu p::L) k):sep L k:=by
 obtain ⟨h1,h2,_,_,b,x,y⟩:=h
 exact y.up b
theorem rd_rw {L L':List SP} {b o:Nat} {w:WA} {us:List Value} (p:Pick L (Rf.RwP b w) L') (h:∀ n ad c j v,us[j]?=some v→(Rf.RwC w n ad c)[o + j]?=some v):Rd L b o us:=fun k s j v e=>by
 obtain ⟨h1,s1,i,x⟩:=sep.one p s
 have x2:=sep_pu x
 obtain ⟨fr,hh⟩:=Rd.pt (L:=Rf.RwL b w i []) (b:=b) (o:=o) (us:=us) Pick.here (fun j v e=>h _ _ _ j v e) h1 x2 j v e
 exact ⟨fr,s1 _ _ hh⟩
theorem rd_rwnow {L L':List SP} {b o:Nat} {w:WA} (p:Pick L (Rf.RwP b w) L') (ho:o=1):Rd L b o [.int .u64 w.now]:=rd_rw p fun n ad c j v e=>by
 subst ho
 cases j with
 | zero=>simpa using e
 | succ j=>simp at e
theorem rd_rwct {L L':List SP} {b o s:Nat} {w:WA} (p:Pick L (Rf.RwP b w) L') (hw:WOk w) (hs:s < 32) (ho:o=34 + s):Rd L b o [.int .i64 (w.ct.getD s 0)]:=rd_rw p fun n ad c j v e=>by
 cases j with
 | zero =>
  simp only [List.getElem?_cons_zero,Option.some.injEq] at e;subst e;exact Rf.rc_ct hw.hdl hw.ctl hs (by omega)
 | succ j=>simp at e
theorem imgW_len {w:WA} (hw:WOk w):(imgW w).length≤1000000:=by
 rw [img_all,List.length_append]
 have h1:=imgS_le w 31
 have h2:=hw.len
 have h3:(ntB w).length≤1:=by unfold ntB;split<;>simp
 omega
theorem alike_ct (L:List SP) (hT:Tb L) (pb wb rb:Nat) (w:WA) (hw:WOk w) (hn:InK .u64 w.now) (hb:∀ c∈w.ct,0≤c∧c≤2000000000):Ct Tryz.prog 37 #[.pointer (some ⟨pb,0,none⟩)] (BoP pb wb rb::WorldP wb w::Rf.RwP rb w::L) (fun _:Unit=>.bool true) (fun _:Unit=>BoP pb wb rb::WorldP wb w::Rf.RwP rb w::L):=by
 refine Ct.o1 Tryz.func37 ?_;intro E
 show Hd E 125 _ _ _ _
 have hfl:(fdsW w).length≤96:=by unfold fdsW;rw [List.length_map];exact Nat.le_trans (List.length_filter_le _ _) (by simp)
 refine sr fun _ K1=>?_
 refine yv y_as<|fk [(0,_)] K1 ?_;refine sr fun _ K2=>?_
 refine yv y_mv<|yv y_np<|yv (y_f 0 37 Tryz.underlying40 sz37)<|yv (y_l1 ag37 rfl)<|callE rfl fk80 (wFds_ct _ wb w) sq ?_;rintro ⟨la,lc⟩;dsimp only;refine yv y_as<|fk [(0,_),(3,_)] K2 ?_;refine sr fun _ K3=>?_
 refine yv y_mv<|yv y_np<|yv (y_f 1 38 Tryz.underlying40 sz38)<|yv (y_l1 ag38 rfl)<|callE rfl fk81 (Rf.rFds_ct _ rb w hw) sq ?_;rintro ⟨ma,mc⟩;dsimp only;refine yv y_as<|fk [(0,_),(3,_),(4,_)] K3 ?_;refine Hd.seq fun _ K4=>?_
 refine Hd.seq fun _ K5=>?_
 refine Hd.quiet mixed kq ?_;refine Hq.yv y_mv ?_;refine Hq.yv (y_len Tryz.underlying94 rfl) ?_;refine Hq.yv y_mv ?_;refine Hq.yv (y_len Tryz.underlying94 rfl) ?_;refine Hq.yv (y_to (v':=.bool false) (y_neq rfl rfl) (by (simp))) ?_;refine Hq.yv y_mv ?_;refine Hq.yg rfl rfl y_mv ?_;refine Hq.yg rfl rfl y_np ?_;refine Hq.yg rfl rfl (y_f 0 37 Tryz.underlying40 sz37) ?_;refine Hq.yg rfl rfl (y_l1 ag37 rfl) ?_;refine Hq.unguard rfl rfl ?_;refine Hq.call rfl fk82 ((wnow_ct _ wb w).swap sq sq) ?_;refine Hq.yg rfl rfl y_mv ?_;refine Hq.yg rfl rfl y_np ?_;refine Hq.yg rfl rfl (y_f 1 38 Tryz.underlying40 sz38) ?_;refine Hq.yg rfl rfl (y_l1 ag38 rfl) ?_;refine Hq.yg rfl rfl y_np ?_;refine Hq.yg rfl rfl (y_f 1 29 Tryz.underlying102 sz29) ?_;refine Hq.yg rfl rfl (y_load1 ag29 rfl (rd_rwnow pkk rfl)) ?_;refine Hq.yg rfl rfl (y_to (v':=.bool false) (y_neq rfl rfl) (by (simp))) ?_
 refine Hq.yv (y_pickF rfl rfl) ?_;refine Hq.yv y_mv ?_;refine Hq.yg rfl rfl y_mv ?_;refine Hq.yg rfl rfl y_np ?_;refine Hq.yg rfl rfl (y_f 0 37 Tryz.underlying40 sz37) ?_;refine Hq.yg rfl rfl (y_l1 ag37 rfl) ?_;refine Hq.unguard rfl rfl ?_;refine Hq.call rfl fk83 ((wpend_ct _ wb w hb).swap sq sq) ?_;refine Hq.yg rfl rfl y_mv ?_;refine Hq.yg rfl rfl y_np ?_;refine Hq.yg rfl rfl (y_f 1 38 Tryz.underlying40 sz38) ?_;refine Hq.yg rfl rfl (y_l1 ag38 rfl) ?_;refine Hq.unguard rfl rfl ?_;refine Hq.call rfl fk84 ((Rf.rPending_ct _ rb w hw hb).swap sq sq) ?_;refine Hq.yg rfl rfl (y_to (v':=.bool false) (y_neq rfl rfl) (by (simp))) ?_;refine Hq.yv (y_pickF rfl rfl) ?_;refine Hq.nil ?_;refine sk [(0,_),(3,_),(4,_),(50,_)] K5 ?_;refine Hd.condF rfl ?_;refine qv K4<|Hd.seq fun _ K6=>?_
 refine sr fun _ K7=>?_
 refine yv y_as<|fk [(0,_),(3,_),(4,_),(5,_)] K7 ?_;refine Hd.block<|Hd.loopK (ι:=Nat) [(0,_),(3,_),(4,_)] (fun s=>[(5,.int .i64 ((s:Int) - 1))]) (fun s=>pu (s≤34)::own 3 1 la (fdsW w).length lc ((fdsW w).map (Value.int .i64))::own 3 1 ma (fdsW w).length mc ((fdsW w).map (Value.int .i64))::BoP pb wb rb::WorldP wb w::Rf.RwP rb w::L) (fun s=>34 - s) 0 sbq sbq (Ent.sep (.pure (by omega) enn)) ?_;intro s
 try dsimp only
 refine Hd.pure (fun hp0=>?_)
 try dsimp only at hp0
 refine Hd.seq fun _ K8=>?_
 refine sr fun _ K9=>?_
 refine yv y_mv<|yv (y_leq rfl rfl) ?_;refine fk [(0,_),(3,_),(4,_),(5,_),(52,_)] K9 ?_;refine qz ?_ ?_<;>intro hc1<;>try simp only [hyZ] at hc1
 ·refine qv K8 ?_
  refine Hd.seq fun _ K10=>?_
  refine Hd.block<|sr fun _ K11=>?_
  refine yv y_as<|fk [(0,_),(3,_),(4,_),(5,_),(6,_)] K11 ?_;refine Hd.cutK (ι:=Unit) [(0,_),(3,_),(4,_),(5,_)] (fun _=>[(6,.int .i64 (cntS w.ct ((s:Int) - 1)))]) (fun _=>own 3 1 la (fdsW w).length lc ((fdsW w).map (Value.int .i64))::own 3 1 ma (fdsW w).length mc ((fdsW w).map (Value.int .i64))::BoP pb wb rb::WorldP wb w::Rf.RwP rb w::L) ?_ ?_ ⟨rfl,rfl,rfl,rfl,trivial⟩
  ·refine sr fun _ K12=>?_
   refine yv y_mv<|yv (y_gtr rfl rfl) ?_;refine yv y_mv ?_;apply Hd.andg 3 57 60 [(0,_),(3,_),(4,_),(5,_),(6,_)] rfl sbq
   ·intro hg9_57
    try simp only [hyZ] at hg9_57
    simp only [List.take];refine y2 y_mv<|y2 (y_leq rfl rfl) ?_;refine yv (y_pickT rfl rfl) ?_;exact Hd.mn
   ·intro hg9_57
    try simp only [hyZ] at hg9_57
    simp only [List.take];refine n1<|n1<|yv (y_pickF rfl rfl) ?_;exact Hd.mn
   simp only [List.drop];refine fk [(0,_),(3,_),(4,_),(5,_),(6,_),(60,_)] K12 ?_;refine qz ?_ ?_<;>intro hc2<;>try simp only [hyZ] at hc2
   ·obtain ⟨k,hk⟩:∃ k:Nat,(s:Int) - 1=(k:Int):=⟨s - 1,by omega⟩
    rw [hk];rw [hk] at hc2;refine Hd.region<|yv y_mv<|yv y_np<|yv (y_f 1 38 Tryz.underlying40 sz38)<|yv (y_l1 ag38 rfl)<|yv y_mv<|yv y_np<|yv (y_f 34 100 Tryz.underlying102 sz100)<|yv (y_idxA Tryz.underlying100 sz3 rfl rfl (by omega)) ?_;refine yv (y_load1 ag3 rfl (rd_rwct pkk hw (s:=k) (by omega) (by omega))) ?_;refine yv y_as<|Hd.nil<|slots [(0,_),(3,_),(4,_),(5,_),(6,_)] sbq ?_;refine thenN ?_;exact Hd.meet () ⟨congrArg (fun z=>some (Value.int .i64 z)) (by unfold cntS;rw [if_pos (by omega),Int.toNat_natCast]),by repeat (first | exact trivial | refine ⟨rfl,?_⟩)⟩ sq
   refine Hd.skip<|thenN ?_;exact Hd.meet () ⟨congrArg (fun z=>some (Value.int .i64 z)) (by unfold cntS;rw [if_neg (by omega)]),by repeat (first | exact trivial | refine ⟨rfl,?_⟩)⟩ sq
  intro _;refine sr fun _ K13=>?_
  refine yv y_mv<|yv y_np<|yv (y_f 0 37 Tryz.underlying40 sz37)<|yv (y_l1 ag37 rfl)<|yv y_mv<|callE rfl fk85 (wcount_ct _ wb w ((s:Int) - 1)) sq ?_;intro _;refine yv y_mv<|yv (y_to (v':=.bool false) (y_neq rfl rfl) (by (simp))) ?_;refine fk [(0,_),(3,_),(4,_),(5,_),(77,_)] K13 ?_;refine Hd.condF rfl ?_;refine Hd.skip<|Hd.inB<|Hd.toK K10 ?_;refine Hd.region<|yv y_mv<|yv (y_to (v':=.int .i64 (((s + 1:Nat):Int) - 1)) (y_add rfl rfl) (by (congr 1;rw [wrap_i64];omega))) ?_;refine yv y_as<|Hd.nil<|slots [(0,_),(3,_),(4,_),(5,_)] sbq ?_;refine thenN ?_;exact Hd.again (s + 1) (by omega) sbq (Ent.sep (.pure (by omega) enn))
 refine Hd.exit<|Hd.thenExit<|Hd.thenExit<|Hd.inBexit<|Hd.toK K6 ?_;refine Hd.seq fun _ K14=>?_
 refine sr fun _ K15=>?_
 refine yv y_mv<|yv (y_len Tryz.underlying94 rfl) ?_;refine yv y_mv<|fk [(0,_),(3,_),(4,_),(79,_),(80,_)] K15 ?_;refine Hd.block<|Hd.loopK (ι:=Nat) [(0,_),(3,_),(4,_),(79,_)] (fun k=>[(80,.int .i64 (k:Int))]) (fun k=>pu (k≤(fdsW w).length)::own 3 1 la (fdsW w).length lc ((fdsW w).map (Value.int .i64))::own 3 1 ma (fdsW w).length mc ((fdsW w).map (Value.int .i64))::BoP pb wb rb::WorldP wb w::Rf.RwP rb w::L) (fun k=>(fdsW w).length - k) 0 sbq sbq (Ent.sep (.pure (by omega) enn)) ?_;intro k
 try dsimp only
 refine Hd.pure (fun hp1=>?_)
 try dsimp only at hp1
 refine sr fun _ K16=>?_
 refine yv (y_lss rfl rfl) ?_;refine fk [(0,_),(3,_),(4,_),(79,_),(80,_),(81,_)] K16 ?_;refine Hd.seq fun _ K17=>?_
 refine qz ?_ ?_<;>intro hc4<;>try simp only [hyZ] at hc4
 ·have hk:k < (fdsW w).length:=by omega
  obtain ⟨f,hf⟩:∃ f,(fdsW w)[k]?=some f:=⟨_,List.getElem?_eq_getElem hk⟩
  have hfd:((fdsW w).map (Value.int .i64))[k * 1]?=some (.int .i64 f):=by rw [Nat.mul_one,List.getElem?_map,hf];rfl
  refine qv K17<|Hd.seq fun _ K18=>?_
  refine Hd.block<|sr fun _ K19=>?_
  refine yv y_mv<|yv y_as<|fk [(0,_),(3,_),(4,_),(7,_),(79,_),(80,_)] K19 ?_;refine Hd.seq fun _ K20=>?_
  refine Hd.quiet mixed kq ?_;refine Hq.yv y_mv ?_;refine Hq.yv y_mv ?_;refine Hq.yv (y_idxR Tryz.underlying94 sz3 rfl rfl (by omega) (by exact RdS.own pkk)) ?_;refine Hq.yv (y_loadR1 ag3 rfl (by exact RdS.own pkk) (by exact hfd)) ?_;refine Hq.yv y_mv ?_;refine Hq.yv y_mv ?_;refine Hq.yv (y_idxR Tryz.underlying94 sz3 rfl rfl (by omega) (by exact RdS.own pkk)) ?_;refine Hq.yv (y_loadR1 ag3 rfl (by exact RdS.own pkk) (by exact hfd)) ?_;refine Hq.yv (y_to (v':=.bool false) (y_neq rfl rfl) (by (simp))) ?_;refine Hq.yv y_mv ?_;refine Hq.yg rfl rfl y_mv ?_;refine Hq.yg rfl rfl y_np ?_;refine Hq.yg rfl rfl (y_f 0 37 Tryz.underlying40 sz37) ?_;refine Hq.yg rfl rfl (y_l1 ag37 rfl) ?_;refine Hq.yg rfl rfl y_mv ?_;refine Hq.yg rfl rfl y_mv ?_;refine Hq.yg rfl rfl (y_idxR Tryz.underlying94 sz3 rfl rfl (by omega) (by exact RdS.own pkk)) ?_;refine Hq.yg rfl rfl (y_loadR1 ag3 rfl (by exact RdS.own pkk) (by exact hfd)) ?_
  refine Hq.unguard rfl rfl ?_;refine Hq.call rfl fk62 ((wready_ct _ wb w f).swap sq sq) ?_;refine Hq.yg rfl rfl y_mv ?_;refine Hq.yg rfl rfl y_np ?_;refine Hq.yg rfl rfl (y_f 1 38 Tryz.underlying40 sz38) ?_;refine Hq.yg rfl rfl (y_l1 ag38 rfl) ?_;refine Hq.yg rfl rfl y_mv ?_;refine Hq.yg rfl rfl y_mv ?_;refine Hq.yg rfl rfl (y_idxR Tryz.underlying94 sz3 rfl rfl (by omega) (by exact RdS.own pkk)) ?_;refine Hq.yg rfl rfl (y_loadR1 ag3 rfl (by exact RdS.own pkk) (by exact hfd)) ?_;refine Hq.unguard rfl rfl ?_;refine Hq.call rfl fk63 ((Rf.rReady_ct _ rb w hw f).swap sq sq) ?_;refine Hq.yg rfl rfl (y_to (v':=.bool false) (y_neq_agg rfl rfl eqt112 rfl ⟨rfl,rfl⟩) (by (simp [allEq,eqv]))) ?_;refine Hq.yv (y_pickF rfl rfl) ?_;refine Hq.nil ?_;refine sk [(0,_),(3,_),(4,_),(79,_),(80,_),(112,_)] K20 ?_;refine Hd.condF rfl ?_;refine Hd.skip<|Hd.inB<|Hd.toK K18 ?_
  refine Hd.region<|yv (y_addn rfl rfl (by simp only [InK];omega)) ?_;refine yv y_mv<|Hd.nil<|slots [(0,_),(3,_),(4,_),(79,_),(80,_)] sbq ?_;refine thenN ?_;exact Hd.again (k + 1) (by omega) sbq (Ent.sep (.pure (by omega) enn))
 refine Hd.exit<|Hd.thenExit<|Hd.thenExit<|Hd.inBexit<|Hd.toK K14 ?_;refine Hd.seq fun _ K21=>?_
 refine Hd.drawsH ([BoP pb wb rb]) (fun _=>true) mixed ?_;simp only [List.length,Nat.zero_add,Nat.reduceAdd];refine tH 0 rfl y_mv<|tH 1 rfl y_np<|tH 2 rfl (y_f 0 37 Tryz.underlying40 sz37)<|tH 3 rfl (y_l1 ag37 rfl)<|tH 5 rfl y_mv<|tH 6 rfl y_np<|tH 7 rfl (y_f 1 38 Tryz.underlying40 sz38)<|tH 8 rfl (y_l1 ag38 rfl)<|qo 4 ?_;refine callE rfl fk87 (wImage_ct _ ?hT1 wb w hn hb) sq ?_
 case hT1=>exact Tb.mono hT sq
 rintro ⟨ia,ic⟩;dsimp only;refine qk<|qo 9 ?_;refine callE rfl fk88 (Rf.rImage_ct _ rb w hw hn hb) sq ?_;rintro ⟨ja,jc⟩;dsimp only;refine qk<|qo 10 ?_;refine callE rfl fk86 (Rf.rSameS_ct _ ia ic (imgW w) ?h1 (imgW_len hw) ja jc (imgW w) ?h2 (imgW_len hw)) sq ?_
 case h1=>exact RdS.own (ad:=ia) (us:=Rf.VLs (imgW w)) pkk
 case h2=>exact RdS.own (ad:=ja) (us:=Rf.VLs (imgW w)) pkk
 intro _;refine qk<|tH 11 rfl y_as<|endH kq ?_;refine sk [(2,_)] K21 ?_;refine Hd.ret ?_;exact Hd.ret1 rfl () (by simp;rfl) sq
end Wo
end Go.Proofs.YtmpemhbfgbochaaGreatDoor
namespace Go.Proofs.YtmpemhbfgbochaaGreatDoor
open Go.RX Fx
namespace Lm
open Wo
open Bu
abbrev rts (a b:RtA):Nat→RtA:=fun k=>if k=0 then a else if k=1 then b else ⟨0,0,0⟩
theorem rts_far (a b:RtA):∀ k,2≤k→rz (rts a b k)=true:=fun k hk=>by
 unfold rts;rw [if_neg (by omega),if_neg (by omega)];rfl
theorem gv_con {s:Nat→Option Nat} {x:Nat→BkA} (h:∀ k,BkOk (x k)) {now:Int} (hn:InK .u64 now) {r:Nat→RtA} (hr:mayB r=true) (hd:∀ k,2≤k→rz (r k)=true):∀ k,BkOk (gvX s x now r k):=fun k=>by
 by_cases hk:k < 2
 ·exact gv_ok h hn hr hk
 ·unfold gvX;rw [if_pos (hd k (by omega))];exact h k
theorem rel_gv {p p2:Nat→Option Nat} {x:Nat→BkA} {s:SlA} {j:Nat} {r:Nat→RtA} {now:Int} (hn:InK .u64 now) (hm:mayR (r j)=true) (h:Rel (p j) (x j) s) (h2:(p2 j).isSome=!rz (r j)):Rel (p2 j) (gvX p x now r j) (gvS now (r j) s):=by
 refine ⟨?_,fun hp=>?_,gvS_ok hn hm h.ok⟩
 ·unfold gvS
  cases hz:rz (r j)
  ·rw [hz] at h2
   rw [if_neg (by decide),h2]
   split
   ·rename_i hi;exact hi
   ·rfl
  ·rw [hz] at h2
   rw [if_pos rfl,h2];rfl
 ·have hz:rz (r j)=false:=by rw [h2] at hp;simpa using hp
  unfold gvS gvX;simp only [hz,Bool.false_eq_true,if_false,h.i]
  cases hq:(p j).isSome
  ·simp only [Bool.false_eq_true,if_false]
  ·simp only [if_true];rw [h.b hq]
theorem lsetA_ct (L:List SP) (lb:Nat) (l:LmA) (x:Nat→BkA) (hx:∀ k,BkOk (x k)) (s:Nat→SlA) (hs:∀ j,j < 2→Rel (l.b j) (x j) (s j)) (r0 r1:RtA) (now:Int) (hn:InK .u64 now) :
  Ct Tryz.prog 93 #[.pointer (some ⟨lb,0,none⟩),.int .u64 now,.agg (encRt r0).toArray,.agg (encRt r1).toArray] (LmH lb l::SlB (l.b 0) (x 0)::SlB (l.b 1) (x 1)::L) (fun _:(Nat→Option Nat)×(Nat→BkA)=>.int .i64 (gvE (mayR r0 && mayR r1)))
   (fun i=>pu ((∀ j,j < 2→Rel (i.1 j) (i.2 j) (gvA (mayR r0 && mayR r1) now (rts r0 r1 j) (s j)))∧∀ j,BkOk (i.2 j))::LmH lb { l with b:=i.1 }::SlB (i.1 0) (i.2 0)::SlB (i.1 1) (i.2 1)::L):=by
 have hb:mayB (rts r0 r1)=(mayR r0 && mayR r1):=rfl
 cases hm:(mayR r0 && mayR r1)
 ·exact (lset_bad (SlB (l.b 0) (x 0)::SlB (l.b 1) (x 1)::L) lb l (rts r0 r1) (hb.trans hm) now).to (fun k s=>s) fun _=>⟨(l.b,x),rfl,fun k s=>Ent.sep (.pure ⟨hs,hx⟩ enn) k s⟩
 ·refine (lset_ct L lb l x hx (rts r0 r1) (hb.trans hm) now hn).to (fun k s=>s) fun s2=>⟨(s2,gvX l.b x now (rts r0 r1)),rfl,fun k s=>?_⟩
  obtain ⟨h2,s'⟩:=sep_pure s
  have hmm:=hm
  rw [Bool.and_eq_true] at hmm;refine Ent.sep (.pure ⟨fun j hj=>?_,gv_con hx hn (hb.trans hm) (rts_far r0 r1)⟩ enn) k s';refine rel_gv hn ?_ (hs j hj) (h2 j hj)
  rcases (show j=0∨j=1 by omega) with rfl | rfl
  ·exact hmm.1
  ·exact hmm.2
theorem newgA_ct (L:List SP) (r0 r1:RtA) (now:Int) (hn:InK .u64 now) :
  Ct Tryz.prog 90 #[.int .u64 now,.agg (encRt r0).toArray,.agg (encRt r1).toArray] L (fun i:Option Nat×GrA×(Nat→BkA)=>.tuple #[pN i.1,.int .i64 (gvE (mayR r0 && mayR r1))])
   (fun i=>pu (i.1.isSome=(mayR r0 && mayR r1)∧i.2.1.many=0∧(∀ j,j < 2→Rel (gsl i.1 i.2.1 j) (i.2.2 j) (gvA (mayR r0 && mayR r1) now (rts r0 r1 j) noSl))∧∀ j,BkOk (i.2.2 j))::GpP i.1 i.2.1 i.2.2 L):=by
 have hb:mayB (rts r0 r1)=(mayR r0 && mayR r1):=rfl
 have hd:∀ k:Nat,BkOk (dmX k):=fun _=>dum_ok
 cases hm:(mayR r0 && mayR r1)
 ·exact (newg_bad L (rts r0 r1) (hb.trans hm) now).to (fun k s=>s) fun _=>⟨(none,⟨noS,0⟩,dmX),rfl,fun k s=>Ent.sep (.pure ⟨rfl,rfl,fun j hj=>rel_none _,hd⟩ (.pure trivial (.pure trivial (.pure trivial enn)))) k s⟩
 ·refine (newg_ct L (rts r0 r1) (hb.trans hm) now hn).to (fun k s=>s) fun i=>⟨(some i.1,⟨i.2,0⟩,ngX now (rts r0 r1)),rfl,fun k s=>?_⟩
  obtain ⟨h2,s'⟩:=sep_pure s
  have hmm:=hm
  rw [Bool.and_eq_true] at hmm;refine Ent.sep (.pure ⟨rfl,rfl,fun j hj=>?_,gv_con hd hn (hb.trans hm) (rts_far r0 r1)⟩ enn) k s';refine rel_gv (p:=noS) (p2:=i.2) hn ?_ (rel_none _) (h2 j hj)
  rcases (show j=0∨j=1 by omega) with rfl | rfl
  ·exact hmm.1
  ·exact hmm.2
abbrev b2i (b:Bool):Int:=if b=true then 1 else 0
theorem joinA_ct (L:List SP) (lb:Nat) (l:LmA) (m:Bool) (gp:Option Nat) (hl:l.g=gpM m gp) (hg:m=true→gp.isSome=true) (G:GrA) (h0:0≤G.many) (h1:G.many≤1000) :
  Ct Tryz.prog 94 #[.pointer (some ⟨lb,0,none⟩),pN gp] (LmH lb l::GoH gp G::L) (fun _:Unit=>.int .i64 (if gp.isSome=true∧m=false then 0 else 270))
   (fun _=>LmH lb { l with g:=gpM (m || gp.isSome) gp }::GoH gp { G with many:=G.many + b2i (gp.isSome && !m) }::L):=by
 cases gp with
 | none =>
  cases m
  ·have e:{ l with g:=gpM (false || (none:Option Nat).isSome) none }=l:=by cases l;simp only [LmA.mk.injEq,true_and] at hl ⊢;exact hl.symm
   rw [e];exact (join_nil (GoH none G::L) lb l).to (fun k s=>s) fun _=>⟨(),rfl,fun k s=>s⟩
  ·exact absurd (hg rfl) (by decide)
 | some gb =>
  cases m
  ·refine (join_ct L lb gb l hl G h0 h1).to (fun k s=>s) fun _=>⟨(),rfl,fun k s=>s⟩
  ·have e:{ l with g:=gpM (true || (some gb).isSome) (some gb) }=l:=by cases l;simp only [LmA.mk.injEq,true_and] at hl ⊢;exact hl.symm
   rw [e]
   have e2:({ G with many:=G.many + b2i ((some gb).isSome && !true) }:GrA)=G:=by cases G;simp [b2i]
   rw [e2];exact (join_in L lb gb gb l hl G).to (fun k s=>s) fun _=>⟨(),rfl,fun k s=>s⟩
theorem quitA_ct (L:List SP) (lb:Nat) (l:LmA) (m:Bool) (gp:Option Nat) (hl:l.g=gpM m gp) (hg:m=true→gp.isSome=true) (G:GrA) (h0:0≤G.many) (h1:G.many≤1000) :
  Ct Tryz.prog 95 #[.pointer (some ⟨lb,0,none⟩)] (LmH lb l::GoH gp G::L) (fun _:Unit=>.int .i64 (if m=true then 0 else 270))
   (fun _=>LmH lb { l with g:=none }::GoH gp { G with many:=G.many - b2i m }::L):=by
 cases m
 ·have hn:l.g=none:=hl
  have e:{ l with g:=none }=l:=by cases l;simp only [LmA.mk.injEq,true_and] at hn ⊢;exact hn.symm
  have e2:({ G with many:=G.many - b2i false }:GrA)=G:=by cases G;simp [b2i]
  rw [e,e2];exact (quit_no (GoH gp G::L) lb l hn).to (fun k s=>s) fun _=>⟨(),rfl,fun k s=>s⟩
 ·cases gp with
  | none=>exact absurd (hg rfl) (by decide)
  | some gb =>
   have e:IntKind.i64.wrap (G.many - 1)=G.many - b2i true:=by rw [wrap_i64];show _=G.many - 1;omega
   rw [←e];exact (quit_ct L lb gb l hl G (by omega)).to (fun k s=>s) fun _=>⟨(),rfl,fun k s=>s⟩
end Lm
end Go.Proofs.YtmpemhbfgbochaaGreatDoor
namespace Go.Proofs.YtmpemhbfgbochaaGreatDoor
open Go.RX Fx
namespace Lm
open Bu Wo
theorem rdN_le (s:SdA) (most:Int):rdN s most≤1048576 - (s.c.length:Int)∧rdN s most≤most∧rdN s most≤4096∧(s.high > 0→rdN s most≤s.high - (s.c.length:Int)):=by
 unfold rdN;split<;>omega
theorem offA_pre (s:SdA) (much:Int):offA s much=s.c.take (min much 4096).toNat:=by
 unfold offA Bc.cpy
 split
 ·rw [show (min much 4096).toNat=0 by omega];rfl
 ·rfl
theorem readR_n (w:WA) (fd n:Int):(readR w fd n).1.1.length≤n.toNat:=by
 unfold readR
 repeat' split
 all_goals first
  | (simp only [List.length_nil];omega)
  | (rw [List.length_take];omega)
theorem writeR_0 (w:WA) (fd:Int) (bs:List UInt8):0≤(writeR w fd bs).1.1:=by
 unfold writeR
 repeat' split
 all_goals first
  | (dsimp only;omega)
theorem readS_io {X:BfA} {w:WA} {t:ToA} (now most:Int):(readS ⟨X,w,t⟩ now most).t.o=t.o∧((readS ⟨X,w,t⟩ now most).t.i=t.i∨(0≤(readS ⟨X,w,t⟩ now most).t.i∧(readS ⟨X,w,t⟩ now most).t.i≤max 0 most∧(readS ⟨X,w,t⟩ now most).t.i≤4096)):=by
 unfold readS;dsimp only
 split
 ·exact ⟨rfl,.inl rfl⟩
 ·have hn:=rdN_le (X.s 0) most
  have hr:=readR_n w X.fd (rdN (X.s 0) most)
  unfold rdP
  repeat' split
  all_goals first
   | exact ⟨rfl,.inl rfl⟩
   | (refine ⟨rfl,.inr ?_⟩;dsimp only;omega)
theorem writeS_io {X:BfA} {w:WA} {t:ToA} (now much:Int):(writeS ⟨X,w,t⟩ now much).t.i=t.i∧((writeS ⟨X,w,t⟩ now much).t.o=t.o∨(0≤(writeS ⟨X,w,t⟩ now much).t.o∧(writeS ⟨X,w,t⟩ now much).t.o≤4096)):=by
 unfold writeS;dsimp only
 split
 ·exact ⟨rfl,.inl rfl⟩
 ·have h0:=writeR_0 w X.fd (offA (X.s 1) much)
  have h1:=writeR_le w X.fd (offA (X.s 1) much)
  have h2:(offA (X.s 1) much).length≤4096:=by rw [offA_pre,List.length_take];omega
  unfold wrP
  repeat' split
  all_goals first
   | exact ⟨rfl,.inl rfl⟩
   | (refine ⟨rfl,.inr ?_⟩;dsimp only;omega)
theorem step_io (X:BfA) (w:WA) (now flags most much:Int):0≤(stepS X w now flags most much).t.i∧(stepS X w now flags most much).t.i≤max 0 most∧(stepS X w now flags most much).t.i≤4096∧0≤(stepS X w now flags most much).t.o∧(stepS X w now flags most much).t.o≤4096:=by
 have hR:0≤(stepR X w now flags most).t.i∧(stepR X w now flags most).t.i≤max 0 most∧(stepR X w now flags most).t.i≤4096∧(stepR X w now flags most).t.o=0:=by
  unfold stepR
  split
  ·have h:=readS_io (X:=X) (w:=w) (t:=noT) now most
   have h0:noT.i=0:=rfl
   have h1:noT.o=0:=rfl
   rw [h0,h1] at h;omega
  ·show (0:Int)≤0∧(0:Int)≤max 0 most∧(0:Int)≤4096∧(0:Int)=0
   omega
 unfold stepS
 split
 ·have h:=writeS_io (X:=(stepR X w now flags most).x) (w:=(stepR X w now flags most).w) (t:=(stepR X w now flags most).t) now much
  have e:(⟨(stepR X w now flags most).x,(stepR X w now flags most).w,(stepR X w now flags most).t⟩:StA)=stepR X w now flags most:=rfl
  rw [e] at h;omega
 ·omega
end Lm
end Go.Proofs.YtmpemhbfgbochaaGreatDoor
namespace Go.Proofs.YtmpemhbfgbochaaGreatDoor
open Go.RX Fx
namespace Lm
open Wo
open Bu
structure C7 where
 kk:Int
 k:Int
 now:Int
 fl:Int
 n:Int
 ad:Option Addr
 c:Nat
 d:List UInt8
 r:RtA
 w:RtA
abbrev encC7 (o:C7):List Value:=[.int .i64 o.kk,.int .i64 o.k,.int .u64 o.now,.int .i64 o.fl,.int .i64 o.n,.slice o.ad o.d.length o.c,.int .i64 o.r.many,.int .u64 o.r.every,.int .i64 o.r.burst,.int .i64 o.w.many,.int .u64 o.w.every,.int .i64 o.w.burst]
structure C7Ok (L:List SP) (o:C7):Prop where
 rd:RdS L 1 o.ad o.d.length (bsl o.d)
 c:o.d.length≤o.c
 kk:InK .i64 o.kk
 now:InK .u64 o.now
 fl:InK .i64 o.fl
 n:InK .i64 o.n
structure Li where
 l:LmA
 x:Nat→BkA
 cb:Nat
 ad:Option Addr
 c:Nat
 s:Nat→SlA
 X:BfA
 m:Bool
abbrev LiL (wb lb q:Nat) (i:Li) (L:List SP):List SP:=LmH lb i.l::SlB (i.l.b 0) (i.x 0)::SlB (i.l.b 1) (i.x 1)::LqH q i.cb i.ad i.c (gI i.m)::Ow2 i.ad i.c (i.s 0) (i.s 1)::BufP i.l.buf wb i.X::RbP i.cb i.X::L
def LiP (wb lb q:Nat) (i:Li):SP:=RX.ex fun _:Unit=>LiL wb lb q i []
structure Tw where
 gp:Option Nat
 G:GrA
 y:Nat→BkA
 sa:Option Addr
 sc:Nat
 u:Nat→SlA
 w:WA
 li:Nat→Li
structure Pl where
 tb:Nat
 pb:Nat
 wb:Nat
 rb:Nat
 la:Option Addr
 lc:Nat
 qa:Option Addr
 qc:Nat
 lb:Nat→Nat
 q:Nat→Nat
abbrev TwF (P:Pl) (T:Tw) (L:List SP):List SP:=TwH P.tb P.pb P.la P.lc P.qa P.qc T.gp T.sa T.sc::OwL P.la P.lc P.lb::OwQ P.qa P.qc P.q::BoP P.pb P.wb P.rb::WorldP P.wb T.w::Rf.RwP P.rb T.w::GoH T.gp T.G::SlB (gsl T.gp T.G 0) (T.y 0)::SlB (gsl T.gp T.G 1) (T.y 1)::Ow2 T.sa T.sc (T.u 0) (T.u 1)::L
abbrev TwL (P:Pl) (T:Tw) (L:List SP):List SP:=TwF P T (LiP P.wb (P.lb 0) (P.q 0) (T.li 0)::LiP P.wb (P.lb 1) (P.q 1) (T.li 1)::L)
abbrev TwO (P:Pl) (T:Tw) (k:Nat) (i j:Li) (L:List SP):List SP:=TwF P T (LiL P.wb (P.lb k) (P.q k) i (LiP P.wb (P.lb (1 - k)) (P.q (1 - k)) j::L))
theorem li_open {wb lb q:Nat} {i:Li} {L:List SP}:∀ h,sep (LiP wb lb q i::L) h→sep (LiL wb lb q i L) h:=fun h s=>by
 obtain ⟨k1,k2,d,a,b,⟨_,x⟩,z⟩:=s
 exact sep_join d a b x z
theorem li_close {wb lb q:Nat} {i:Li} {L:List SP}:∀ h,sep (LiL wb lb q i L) h→sep (LiP wb lb q i::L) h:=fun h s =>
 Ent.sep (.ex () (show Ent _ ([LmH lb i.l,SlB (i.l.b 0) (i.x 0),SlB (i.l.b 1) (i.x 1),LqH q i.cb i.ad i.c (gI i.m),Ow2 i.ad i.c (i.s 0) (i.s 1),BufP i.l.buf wb i.X,RbP i.cb i.X]++L) from enn)) h s
theorem tw_close {P:Pl} {T:Tw} {k:Nat} (hk:k < 2) {i j:Li} {L:List SP} (h1:T.li k=i) (h2:T.li (1 - k)=j):∀ h,sep (TwO P T k i j L) h→sep (TwL P T L) h:=fun h s=>by
 subst h1;subst h2
 have s2:sep (LiP P.wb (P.lb k) (P.q k) (T.li k)::LiP P.wb (P.lb (1 - k)) (P.q (1 - k)) (T.li (1 - k))::TwF P T L) h:=li_close h (Ent.sep enn h s)
 rcases (show k=0∨k=1 by omega) with rfl | rfl
 ·exact Ent.sep (show Ent (LiP P.wb (P.lb 0) (P.q 0) (T.li 0)::LiP P.wb (P.lb 1) (P.q 1) (T.li 1)::TwF P T L) (TwL P T L) from enn) h s2
 ·exact Ent.sep (show Ent (LiP P.wb (P.lb 1) (P.q 1) (T.li 1)::LiP P.wb (P.lb 0) (P.q 0) (T.li 0)::TwF P T L) (TwL P T L) from enn) h s2
theorem tw_open {P:Pl} {T:Tw} {k:Nat} (hk:k < 2) {L:List SP}:∀ h,sep (TwL P T L) h→sep (TwO P T k (T.li k) (T.li (1 - k)) L) h:=fun h s=>by
 have s2:sep (LiP P.wb (P.lb k) (P.q k) (T.li k)::LiP P.wb (P.lb (1 - k)) (P.q (1 - k)) (T.li (1 - k))::TwF P T L) h:=by
  rcases (show k=0∨k=1 by omega) with rfl | rfl
  ·exact Ent.sep (show Ent (TwL P T L) (LiP P.wb (P.lb 0) (P.q 0) (T.li 0)::LiP P.wb (P.lb 1) (P.q 1) (T.li 1)::TwF P T L) from enn) h s
  ·exact Ent.sep (show Ent (TwL P T L) (LiP P.wb (P.lb 1) (P.q 1) (T.li 1)::LiP P.wb (P.lb 0) (P.q 0) (T.li 0)::TwF P T L) from enn) h s
 exact Ent.sep enn h (li_open h s2)
structure LiOk (gp:Option Nat) (i:Li):Prop where
 g:i.l.g=gpM i.m gp
 rel:∀ j,j < 2→Rel (i.l.b j) (i.x j) (i.s j)
 x:∀ j,BkOk (i.x j)
 X:BOk i.X
 h:(i.X.s 1).high=0
 m:i.m=true→gp.isSome=true
structure TwOk (K:Nat) (T:Tw):Prop where
 ok:WOk T.w
 lo:Lo K T.w
 l:∀ k,k < 2→LiOk T.gp (T.li k)
 rel:∀ j,j < 2→Rel (gsl T.gp T.G j) (T.y j) (T.u j)
 y:∀ j,BkOk (T.y j)
 many:T.G.many=b2i (T.li 0).m + b2i (T.li 1).m
abbrev upL (f:Nat→Li) (k:Nat) (i:Li):Nat→Li:=fun j=>if j=k then i else f j
theorem upL_at (f:Nat→Li) (k:Nat) (i:Li):upL f k i k=i:=if_pos rfl
theorem upL_ne (f:Nat→Li) {k:Nat} (hk:k < 2) (i:Li):upL f k i (1 - k)=f (1 - k):=if_neg (by omega)
theorem up_all {P:Li→Prop} {f:Nat→Li} {k:Nat} {i:Li} (h:∀ j,j < 2→P (f j)) (hi:P i):∀ j,j < 2→P (upL f k i j):=fun j hj=>by
 show P (if j=k then i else f j)
 split
 ·exact hi
 ·exact h j hj
theorem many_up {f:Nat→Li} {k:Nat} (hk:k < 2) (i:Li):b2i (upL f k i 0).m + b2i (upL f k i 1).m=b2i i.m + b2i (f (1 - k)).m:=by
 rcases (show k=0∨k=1 by omega) with rfl | rfl
 ·show b2i i.m + b2i (f 1).m=_
  rfl
 ·show b2i (f 0).m + b2i i.m=_
  exact Int.add_comm _ _
theorem many_k {K:Nat} {T:Tw} (h:TwOk K T) {k:Nat} (hk:k < 2):T.G.many=b2i (T.li k).m + b2i (T.li (1 - k)).m:=by
 rw [h.many]
 rcases (show k=0∨k=1 by omega) with rfl | rfl
 ·rfl
 ·exact Int.add_comm _ _
theorem b2i_in (b:Bool):0≤b2i b∧b2i b≤1:=by cases b<;>decide
theorem gsl_many (gp:Option Nat) (G:GrA) (n:Int) (j:Nat):gsl gp { G with many:=n } j=gsl gp G j:=by cases gp<;>rfl
theorem TwOk.one {K:Nat} {T:Tw} (h:TwOk K T) {k:Nat} (hk:k < 2) {i:Li} (hi:LiOk T.gp i) (hm:i.m=(T.li k).m):TwOk K { T with li:=upL T.li k i } :=
 ⟨h.ok,h.lo,up_all h.l hi,h.rel,h.y,by show T.G.many=_;rw [many_up hk,hm];exact many_k h hk⟩
theorem two_b (x:Int):-1≤Int.tmod x 2∧Int.tmod x 2≤1:=by
 rcases Int.le_total 0 x with h | h
 ·have h1:=Int.tmod_nonneg 2 h
  have h2:=Int.tmod_lt_of_pos x (b:=2) (by decide)
  omega
 ·obtain ⟨m,rfl⟩:∃ m,x=-m:=⟨-x,by omega⟩
  rw [Int.neg_tmod]
  have h1:=Int.tmod_nonneg 2 (show 0≤m by omega)
  have h2:=Int.tmod_lt_of_pos m (b:=2) (by decide)
  omega
theorem TwOk.mono {K:Nat} {T:Tw} (h:TwOk K T):TwOk (K + 100) T:=⟨h.ok,h.lo.mono (by omega),h.l,h.rel,h.y,h.many⟩
theorem rel_vM {K:Nat} {T:Tw} (hT:TwOk K T) {i:Li} (hi:LiOk T.gp i):∀ j,j < 2→Rel (gsl i.l.g T.G j) (T.y j) (vM i.m T.u j):=fun j hj=>by
 rw [hi.g];unfold vM gpM
 cases i.m
 ·exact rel_none _
 ·exact hT.rel j hj
def tkF (now:Int) (t:ToA) (s:Nat→SlA):Nat→SlA:=fun j=>tkS now (if j=0 then t.i else t.o) (cmS now (s j))
def cmF (now:Int) (s:Nat→SlA):Nat→SlA:=fun j=>cmS now (s j)
theorem st_rel (l:LmA) (G:GrA) (x y:Nat→BkA) (X:BfA) (w:WA) {now:Int} (flags:Int) (hn:InK .u64 now) {s0 s1 u0 u1:SlA} (h0:Rel (l.b 0) (x 0) s0) (h1:Rel (l.b 1) (x 1) s1) (g0:Rel (gsl l.g G 0) (y 0) u0) (g1:Rel (gsl l.g G 1) (y 1) u1) :
  lsS l G x y X w now flags=sQ X w now flags s0 s1 u0 u1:=by
 have e0:lvA l G (cmA now x) (cmA now y) 0=lv0 now s0 u0:=lv_rel (rel_cm h0 hn) (rel_cm g0 hn)
 have e1:lvA l G (cmA now x) (cmA now y) 1=lv0 now s1 u1:=lv_rel (rel_cm h1 hn) (rel_cm g1 hn)
 unfold lsS;rw [lwK_2,e0,e1,lw_rel (wants_six X) (lvQ_in _ _).1 (lvQ_in _ _).1]
theorem rel_yu {K:Nat} {T:Tw} (hT:TwOk K T) {m:Bool} {y':Nat→BkA} {v:Nat→SlA} (h:m=true→∀ j,j < 2→Rel (gsl T.gp T.G j) (y' j) (v j)):∀ j,j < 2→Rel (gsl T.gp T.G j) (yM m T.y y' j) (uM m T.u v j):=fun j hj=>by
 unfold yM uM
 cases m
 ·exact hT.rel j hj
 ·exact h rfl j hj
theorem ok_yM {m:Bool} {y y':Nat→BkA} (h:∀ j,BkOk (y j)) (h':∀ j,BkOk (y' j)):∀ j,BkOk (yM m y y' j):=fun j=>by
 unfold yM
 split
 ·exact h' j
 ·exact h j
theorem rd_no {m:Bool} (hm:m=false) (sa:Option Addr) (sc:Nat) (u:Nat→SlA) (ad:Option Addr) (c:Nat) {L:List SP}:∀ k,sep (RdP m sa sc u ad c::L) k→sep (Ow2 sa sc (u 0) (u 1)::L) k:=fun k h=>by
 subst hm
 obtain ⟨k1,k2,d,a,b,⟨_,x⟩,z⟩:=h
 have x2:sep [Ow2 sa sc (u 0) (u 1)] k1:=x
 exact sep_join d a b x2 z
theorem two_k (x:Int):∃ k:Nat,k < 2∧Int.tmod (Int.tmod x 2 + 2) 2=(k:Int):=by
 have hb:-1≤Int.tmod x 2∧Int.tmod x 2≤1:=by
  rcases Int.le_total 0 x with h | h
  ·have h1:=Int.tmod_nonneg 2 h
   have h2:=Int.tmod_lt_of_pos x (b:=2) (by decide)
   omega
  ·obtain ⟨m,rfl⟩:∃ m,x=-m:=⟨-x,by omega⟩
   rw [Int.neg_tmod]
   have h1:=Int.tmod_nonneg 2 (show 0≤m by omega)
   have h2:=Int.tmod_lt_of_pos m (b:=2) (by decide)
   omega
 have h1:=Int.tmod_nonneg 2 (show 0≤Int.tmod x 2 + 2 by omega)
 have h2:=Int.tmod_lt_of_pos (Int.tmod x 2 + 2) (b:=2) (by decide)
 exact ⟨(Int.tmod (Int.tmod x 2 + 2) 2).toNat,by omega,by omega⟩
theorem step27_ct (L:List SP) (hF:Rd L 0 0 flV) (P:Pl) (T:Tw) (K:Nat) (hK:K≤100000000) (hT:TwOk K T) (o:C7) (ho:C7Ok L o) (hd:o.d.length≤300):Ct Tryz.prog 40 #[.pointer (some ⟨P.tb,0,none⟩),.agg (encC7 o).toArray] (TwL P T L) (fun T2:{q:Tw // TwOk (K + 100) q}=>.bool true) (fun T2:{q:Tw // TwOk (K + 100) q}=>TwL P T2.1 L):=by
 refine Ct.o2 Tryz.func40 ?_;intro E
 show Hd E 288 _ _ _ _
 obtain ⟨k,hk,hkv⟩:=two_k o.kk
 have hkb:=two_b o.kk
 refine Hd.heap _ (tw_open hk) ?_
 have hi:=hT.l k hk
 have hmk:=many_k hT hk
 have hnow:=ho.now
 obtain ⟨i,hie⟩:∃ i,T.li k=i:=⟨_,rfl⟩
 rw [hie] at hi hmk;rw [hie]
 have hmb:=b2i_in i.m
 have hmb2:=b2i_in (T.li (1 - k)).m
 have hX:=hi.X
 refine Hd.bufLe (b:=i.l.buf) pkk (fun hcl=>?_);refine sr fun _ K1=>?_
 refine Hd.box rfl rfl (fun b3=>?_);refine yv y_as<|fk [(0,_),(3,_)] K1 ?_;refine sr fun _ K2=>?_
 refine yv (y_f 0 3 Tryz.underlying84 sz3)<|yv (y_l1 ag3 rfl)<|yv (y_rem rfl rfl (by omega)) ?_;refine yv (y_addn rfl rfl (by simp only [InK];omega)) ?_;refine yv (y_to (v':=.int .i64 (k:Int)) (y_rem rfl rfl (by decide)) (by exact congrArg (Value.int .i64) hkv)) ?_;refine yv y_as<|fk [(0,_),(3,_),(5,_)] K2 ?_;refine sr fun _ K3=>?_
 refine yv y_mv<|yv y_np<|yv (y_f 1 139 Tryz.underlying144 sz139)<|yv (y_l1 ag139 rfl)<|yv y_mv<|yv (y_idxR Tryz.underlying139 sz145 rfl rfl (by omega) (by exact RdS.own pkk)) ?_;refine yv (y_loadR1 ag145 rfl (RdS.own (ad:=P.la) (us:=ptr2 P.lb) pkk) (ptr2_at P.lb hk)) ?_;refine yv y_as<|fk [(0,_),(3,_),(5,_),(6,_)] K3 ?_;refine sr fun _ K4=>?_
 refine yv y_mv<|yv y_np<|yv (y_f 2 140 Tryz.underlying144 sz140)<|yv (y_l1 ag140 rfl)<|yv y_mv<|yv (y_idxR Tryz.underlying140 sz148 rfl rfl (by omega) (by exact RdS.own pkk)) ?_;refine yv (y_loadR1 ag148 rfl (RdS.own (ad:=P.qa) (us:=ptr2 P.q) pkk) (ptr2_at P.q hk)) ?_;refine yv y_as<|fk [(0,_),(3,_),(5,_),(6,_),(7,_)] K4 ?_;refine Hd.seq fun _ K5=>?_
 refine sr fun _ K6=>?_
 refine yv (y_f 1 3 Tryz.underlying84 sz3)<|yv (y_l1 ag3 rfl)<|fk [(0,_),(3,_),(5,_),(6,_),(7,_),(38,_)] K6 ?_;refine Hd.block<|sr fun _ K7=>?_
 refine yv (y_eql rfl rfl) ?_;refine yv y_as<|fk [(0,_),(3,_),(5,_),(6,_),(7,_),(38,_),(39,_)] K7 ?_;refine qz ?_ ?_<;>intro hc0<;>try simp only [hyZ] at hc0
 ·refine sr fun _ K8=>?_
  refine yv y_mv<|yv (y_f 2 29 Tryz.underlying84 sz29)<|yv (y_l1 ag29 rfl)<|yv (y_f 6 76 Tryz.underlying84 sz76)<|yv (y_loadn (us:=[_,_,_]) ag76 rfl (Rd.pt pkk (by intro j v e;rcases j with _|_|_|_|_|_|_|_|_|_|_|_|j<;>first | exact e | exact absurd e (by simp))) (by exact sz76)) ?_;refine yv (y_f 9 76 Tryz.underlying84 sz76)<|yv (y_loadn (us:=[_,_,_]) ag76 rfl (Rd.pt pkk (by (first | (intro j v e;rcases j with _|_|_|_|_|_|_|_|_|_|_|_|j<;>first | exact e | exact absurd e (by simp))))) (by exact sz76)) ?_;refine callE rfl fk93 (lsetA_ct _ (P.lb k) i.l i.x hi.x i.s hi.rel o.r o.w o.now hnow) sq ?_;rintro ⟨p2,x2⟩;dsimp only;refine Hd.pure fun hset=>?_
  refine yv y_as<|fk [(3,_),(7,_),(8,_)] K8 ?_;refine Hd.seq fun _ K9=>?_
  refine Hd.drawsH ([LqH (P.q k) i.cb i.ad i.c (gI i.m),pt b3 (encC7 o) 84]) (fun _=>true) mixed ?_;simp only [List.length,Nat.zero_add,Nat.reduceAdd];refine tH 0 rfl y_mv<|tH 1 rfl y_np<|tH 2 rfl (y_f 1 142 Tryz.underlying150 sz142)<|tH 3 rfl (y_l1 ag142 rfl)<|tH 4 rfl (y_f 2 29 Tryz.underlying84 sz29)<|tH 5 rfl (y_l1 ag29 rfl)<|tH 6 rfl (y_f 6 76 Tryz.underlying84 sz76)<|tH 7 rfl (y_loadn (us:=[_,_,_]) ag76 rfl (Rd.pt pkk (by intro j v e;rcases j with _|_|_|_|_|_|_|_|_|_|_|_|j<;>first | exact e | exact absurd e (by simp))) (by exact sz76)) ?_;refine tH 9 rfl (y_f 9 76 Tryz.underlying84 sz76)<|tH 10 rfl (y_loadn (us:=[_,_,_]) ag76 rfl (Rd.pt pkk (by (first | (intro j v e;rcases j with _|_|_|_|_|_|_|_|_|_|_|_|j<;>first | exact e | exact absurd e (by simp))))) (by exact sz76)) ?_;refine qo 8 ?_
  refine callE rfl fk92 (rate_ct _ o.r) sq ?_;intro _;refine qk<|qo 11 ?_;refine callE rfl fk92 (rate_ct _ o.w) sq ?_;intro _;refine qk<|qo 12 ?_;refine Hd.bslice (vs:=[(0,_),(1,_)]) rfl (by exact bs40_62 ..) (fun b62=>?_);refine qk<|qo 13 ?_;refine callE rfl fk91 (qgive_ct _ i.ad i.c (i.s 0) (i.s 1) (hi.rel 0 (by decide)).ok (hi.rel 1 (by decide)).ok o.now hnow (some ⟨b62,0,none⟩) 2 o.r o.w ?hR) sq ?_
  case hR=>exact RdS.rd (Rd.pt (us:=e6 o.r o.w) pkk (fun j v e=>by rw [Nat.zero_add];exact e)) rfl
  rintro ⟨a2,c2⟩;dsimp only;refine qk<|tH 14 rfl y_mv<|tH 15 rfl y_ex<|tH 16 rfl y_ex<|tH 17 rfl y_as<|tH 18 rfl y_as<|endH kq ?_;refine sk [(7,_),(8,_),(9,_),(10,_)] K9 ?_;refine sr fun _ K10=>?_
  refine yv y_mv<|yv y_mv<|yv y_np<|yv (y_f 1 142 Tryz.underlying150 sz142)<|Hd.store1 sz142 rfl rfl rfl pkk (by simp;done) ?_
  try simp only [hyS]
  refine fk [(8,_),(10,_)] K10 ?_;refine Hd.seq fun _ K11=>?_
  refine Hd.heap (Ow2 a2 c2 (gvA (mayR o.r && mayR o.w) o.now (rts o.r o.w 0) (i.s 0)) (gvA (mayR o.r && mayR o.w) o.now (rts o.r o.w 1) (i.s 1))::_) (fun q z=>Ent.sep (.eq (A:=Ow2 a2 c2 _ _) pkk (by rfl) .same) q z) ?_;refine Hd.heap (LqH (P.q k) i.cb a2 c2 (gI i.m)::_) (fun q z=>Ent.sep (.eq (A:=pt (P.q k) _ _) pkk (pt_eq (by rfl)) .same) q z) ?_;refine Hd.region<|yv y_mv<|yv y_mv<|yv (y_eqlT rfl rfl) ?_;refine yv y_as<|fk [(4,_)] K11 ?_;refine Hd.ret<|Hd.inBret<|Hd.thenRet ?_;exact Hd.ret1 rfl (⟨{ T with li:=upL T.li k (⟨{ i.l with b:=p2 },x2,i.cb,a2,c2,fun j=>gvA (mayR o.r && mayR o.w) o.now (rts o.r o.w j) (i.s j),i.X,i.m⟩:Li) },(hT.one hk (i:=(⟨{ i.l with b:=p2 },x2,i.cb,a2,c2,fun j=>gvA (mayR o.r && mayR o.w) o.now (rts o.r o.w j) (i.s j),i.X,i.m⟩:Li)) ⟨hi.g,hset.1,hset.2,hi.X,hi.h,hi.m⟩ (by rw [hie])).mono⟩:{q:Tw // TwOk (K + 100) q}) (by rfl) (fun q z=>tw_close (P:=P) (T:={ T with li:=upL T.li k (⟨{ i.l with b:=p2 },x2,i.cb,a2,c2,fun j=>gvA (mayR o.r && mayR o.w) o.now (rts o.r o.w j) (i.s j),i.X,i.m⟩:Li) }) hk (i:=(⟨{ i.l with b:=p2 },x2,i.cb,a2,c2,fun j=>gvA (mayR o.r && mayR o.w) o.now (rts o.r o.w j) (i.s j),i.X,i.m⟩:Li)) (j:=T.li (1 - k)) (upL_at _ _ _) (upL_ne _ hk _) q (Ent.sep enn q z))
 refine sr fun _ K12=>?_
 refine yv (y_eql rfl rfl) ?_;refine yv y_as<|fk [(0,_),(3,_),(5,_),(6,_),(7,_),(38,_),(73,_)] K12 ?_;refine qz ?_ ?_<;>intro hc1<;>try simp only [hyZ] at hc1
 ·refine sr fun _ K13=>?_
  refine yv y_mv<|yv y_mv<|yv y_np<|yv (y_f 3 141 Tryz.underlying144 sz141)<|yv (y_l1 ag141 rfl)<|callE rfl fk94 (joinA_ct _ (P.lb k) i.l i.m T.gp hi.g hi.m T.G (by omega) (by omega)) sq ?_;intro _;refine yv y_as<|fk [(0,_),(7,_),(11,_)] K13 ?_;refine Hd.seq fun _ K14=>?_
  refine sr fun _ K15=>?_
  refine yv y_mv<|yv y_np<|yv (y_f 3 141 Tryz.underlying144 sz141)<|yv (y_l1 ag141 rfl)<|yv (y_to (v':=.bool (!T.gp.isSome)) (y_eql_pointer Tryz.underlying141 rfl rfl) (by (cases T.gp<;>rfl))) ?_;refine yv y_mv ?_;apply Hd.org 6 86 92 [(7,_),(11,_)] rfl sbq
  ·intro hg12_86
   try simp only [hyZ] at hg12_86
   simp only [List.take];refine n1<|n1<|n1<|n1<|n1<|yv (y_pickT rfl rfl) ?_;exact Hd.mn
  ·intro hg12_86
   try simp only [hyZ] at hg12_86
   simp only [List.take];refine y2 y_mv<|y2 y_np<|y2 (y_f 2 3 Tryz.underlying150 sz3)<|y2 (y_l1 ag3 rfl)<|y2 (y_geq rfl rfl) ?_;refine yv (y_pickF rfl rfl) ?_;exact Hd.mn
  simp only [List.drop];refine fk [(7,_),(11,_),(92,_)] K15 ?_;refine qz ?_ ?_<;>intro hc2<;>try simp only [hyZ] at hc2
  ·have hj:(i.m || T.gp.isSome)=i.m:=by
    rcases hc2 with h | h
    ·rw [show T.gp.isSome=false from h,Bool.or_false]
    ·have:i.m=true:=by
      cases hm:i.m
      ·rw [hm] at h;exact absurd h (by decide)
      ·rfl
     rw [this];rfl
   have hv:¬ (T.gp.isSome=true∧i.m=false):=by
    rintro ⟨h1,h2⟩;rw [h1,h2] at hj;exact absurd hj (by decide)
   rw [if_neg hv];refine sr fun _ K16=>?_
   refine yv y_mv<|yv (y_eqlT rfl rfl) ?_;refine yv y_as<|fk [(4,_)] K16 ?_;refine Hd.ret<|Hd.thenRet<|Hd.inBret<|Hd.thenRet ?_
   have jm_h:(i.m || T.gp.isSome)=true→T.gp.isSome=true:=by
    intro h
    cases hm:i.m
    ·rw [hm] at h;exact h
    ·exact hi.m hm
   have jm_n:b2i i.m + b2i (T.li (1 - k)).m + b2i (T.gp.isSome && !i.m)=b2i (i.m || T.gp.isSome) + b2i (T.li (1 - k)).m:=by
    have:b2i i.m + b2i (T.gp.isSome && !i.m)=b2i (i.m || T.gp.isSome):=by cases i.m<;>cases T.gp.isSome<;>rfl
    omega
   refine Hd.heap (LqH (P.q k) i.cb i.ad i.c (gI (i.m || T.gp.isSome))::_) (fun q z=>Ent.sep (.eq (A:=pt (P.q k) _ _) pkk (pt_eq (by rw [hj];done)) .same) q z) ?_;refine Hd.heap (SlB (gsl T.gp { T.G with many:=T.G.many + b2i (T.gp.isSome && !i.m) } 0) (T.y 0)::SlB (gsl T.gp { T.G with many:=T.G.many + b2i (T.gp.isSome && !i.m) } 1) (T.y 1)::_) (fun q z=>Ent.sep (.eq (A:=SlB (gsl T.gp T.G 0) (T.y 0)) pkk (congrArg (fun p=>SlB p (T.y 0)) (gsl_many T.gp T.G _ 0).symm) (.eq (A:=SlB (gsl T.gp T.G 1) (T.y 1)) pkk (congrArg (fun p=>SlB p (T.y 1)) (gsl_many T.gp T.G _ 1).symm) .same)) q z) ?_;exact Hd.ret1 rfl (⟨{ T with G:={ T.G with many:=T.G.many + b2i (T.gp.isSome && !i.m) },li:=upL T.li k (⟨{ i.l with g:=gpM (i.m || T.gp.isSome) T.gp },i.x,i.cb,i.ad,i.c,i.s,i.X,(i.m || T.gp.isSome)⟩:Li) },(TwOk.mono ⟨hT.ok,hT.lo,up_all hT.l (i:=(⟨{ i.l with g:=gpM (i.m || T.gp.isSome) T.gp },i.x,i.cb,i.ad,i.c,i.s,i.X,(i.m || T.gp.isSome)⟩:Li)) ⟨rfl,hi.rel,hi.x,hi.X,hi.h,jm_h⟩,fun j hj=>by rw [gsl_many];exact hT.rel j hj,hT.y,by show T.G.many + _=_;rw [many_up hk,hmk];exact jm_n⟩)⟩:{q:Tw // TwOk (K + 100) q}) (by rfl) (fun q z=>tw_close (P:=P) (T:={ T with G:={ T.G with many:=T.G.many + b2i (T.gp.isSome && !i.m) },li:=upL T.li k (⟨{ i.l with g:=gpM (i.m || T.gp.isSome) T.gp },i.x,i.cb,i.ad,i.c,i.s,i.X,(i.m || T.gp.isSome)⟩:Li) }) hk (i:=(⟨{ i.l with g:=gpM (i.m || T.gp.isSome) T.gp },i.x,i.cb,i.ad,i.c,i.s,i.X,(i.m || T.gp.isSome)⟩:Li)) (j:=T.li (1 - k)) (upL_at _ _ _) (upL_ne _ hk _) q (Ent.sep enn q z))
  have h1:T.gp.isSome=true:=hc2.1
  have h2:i.m=false:=by
   cases hm:i.m
   ·rfl
   ·have:=hc2.2;rw [hm] at this;exact absurd this (by decide)
  have hj:(i.m || T.gp.isSome)=true:=by rw [h1,Bool.or_true]
  rw [if_pos ⟨h1,h2⟩];refine qv K14<|sr fun _ K17=>?_
  refine yv y_mv<|yv y_np<|yv (y_f 2 3 Tryz.underlying150 sz3)<|Hd.store1 sz3 rfl rfl rfl pkk (by simp;done) ?_
  try simp only [hyS]
  refine fk [(11,_)] K17 ?_;refine Hd.seq fun _ K18=>?_
  refine Hd.heap (LqH (P.q k) i.cb i.ad i.c 0::_) (fun q z=>Ent.sep (.eq (A:=pt (P.q k) _ _) pkk (pt_eq (by rfl)) .same) q z) ?_;refine Hd.region<|yv y_mv<|yv (y_eqlT rfl rfl) ?_;refine yv y_as<|fk [(4,_)] K18 ?_;refine Hd.ret<|Hd.inBret<|Hd.thenRet ?_
  have jm_h:(i.m || T.gp.isSome)=true→T.gp.isSome=true:=by
   intro h
   cases hm:i.m
   ·rw [hm] at h;exact h
   ·exact hi.m hm
  have jm_n:b2i i.m + b2i (T.li (1 - k)).m + b2i (T.gp.isSome && !i.m)=b2i (i.m || T.gp.isSome) + b2i (T.li (1 - k)).m:=by
   have:b2i i.m + b2i (T.gp.isSome && !i.m)=b2i (i.m || T.gp.isSome):=by cases i.m<;>cases T.gp.isSome<;>rfl
   omega
  refine Hd.heap (LqH (P.q k) i.cb i.ad i.c (gI (i.m || T.gp.isSome))::_) (fun q z=>Ent.sep (.eq (A:=pt (P.q k) _ _) pkk (pt_eq (by rw [hj];rfl)) .same) q z) ?_;refine Hd.heap (SlB (gsl T.gp { T.G with many:=T.G.many + b2i (T.gp.isSome && !i.m) } 0) (T.y 0)::SlB (gsl T.gp { T.G with many:=T.G.many + b2i (T.gp.isSome && !i.m) } 1) (T.y 1)::_) (fun q z=>Ent.sep (.eq (A:=SlB (gsl T.gp T.G 0) (T.y 0)) pkk (congrArg (fun p=>SlB p (T.y 0)) (gsl_many T.gp T.G _ 0).symm) (.eq (A:=SlB (gsl T.gp T.G 1) (T.y 1)) pkk (congrArg (fun p=>SlB p (T.y 1)) (gsl_many T.gp T.G _ 1).symm) .same)) q z) ?_;exact Hd.ret1 rfl (⟨{ T with G:={ T.G with many:=T.G.many + b2i (T.gp.isSome && !i.m) },li:=upL T.li k (⟨{ i.l with g:=gpM (i.m || T.gp.isSome) T.gp },i.x,i.cb,i.ad,i.c,i.s,i.X,(i.m || T.gp.isSome)⟩:Li) },(TwOk.mono ⟨hT.ok,hT.lo,up_all hT.l (i:=(⟨{ i.l with g:=gpM (i.m || T.gp.isSome) T.gp },i.x,i.cb,i.ad,i.c,i.s,i.X,(i.m || T.gp.isSome)⟩:Li)) ⟨rfl,hi.rel,hi.x,hi.X,hi.h,jm_h⟩,fun j hj=>by rw [gsl_many];exact hT.rel j hj,hT.y,by show T.G.many + _=_;rw [many_up hk,hmk];exact jm_n⟩)⟩:{q:Tw // TwOk (K + 100) q}) (by rfl) (fun q z=>tw_close (P:=P) (T:={ T with G:={ T.G with many:=T.G.many + b2i (T.gp.isSome && !i.m) },li:=upL T.li k (⟨{ i.l with g:=gpM (i.m || T.gp.isSome) T.gp },i.x,i.cb,i.ad,i.c,i.s,i.X,(i.m || T.gp.isSome)⟩:Li) }) hk (i:=(⟨{ i.l with g:=gpM (i.m || T.gp.isSome) T.gp },i.x,i.cb,i.ad,i.c,i.s,i.X,(i.m || T.gp.isSome)⟩:Li)) (j:=T.li (1 - k)) (upL_at _ _ _) (upL_ne _ hk _) q (Ent.sep enn q z))
 refine sr fun _ K19=>?_
 refine yv (y_eql rfl rfl) ?_;refine yv y_as<|fk [(0,_),(3,_),(5,_),(6,_),(7,_),(38,_),(100,_)] K19 ?_;refine qz ?_ ?_<;>intro hc3<;>try simp only [hyZ] at hc3
 ·refine sr fun _ K20=>?_
  refine yv y_mv<|callE rfl fk95 (quitA_ct _ (P.lb k) i.l i.m T.gp hi.g hi.m T.G (by omega) (by omega)) sq ?_;intro _;refine yv y_as<|fk [(7,_),(12,_)] K20 ?_;refine Hd.seq fun _ K21=>?_
  refine sr fun _ K22=>?_
  refine yv y_mv<|yv y_np<|yv (y_f 2 3 Tryz.underlying150 sz3)<|yv (y_l1 ag3 rfl)<|yv (y_lss rfl rfl) ?_;refine fk [(7,_),(12,_),(108,_)] K22 ?_;refine qz ?_ ?_<;>intro hc4<;>try simp only [hyZ] at hc4
  ·have hm:i.m=false:=by
    cases hm:i.m
    ·rfl
    ·rw [hm] at hc4;exact absurd hc4 (by decide)
   rw [if_neg (by rw [hm];decide)];refine sr fun _ K23=>?_
   refine yv y_mv<|yv (y_eqlT rfl rfl) ?_;refine yv y_as<|fk [(4,_)] K23 ?_;refine Hd.ret<|Hd.thenRet<|Hd.inBret<|Hd.thenRet<|Hd.heap (LqH (P.q k) i.cb i.ad i.c (gI false)::_) (fun q z=>Ent.sep (.eq (A:=pt (P.q k) _ _) pkk (pt_eq (by rw [hm])) .same) q z) ?_;refine Hd.heap (SlB (gsl T.gp { T.G with many:=T.G.many - b2i i.m } 0) (T.y 0)::SlB (gsl T.gp { T.G with many:=T.G.many - b2i i.m } 1) (T.y 1)::_) (fun q z=>Ent.sep (.eq (A:=SlB (gsl T.gp T.G 0) (T.y 0)) pkk (congrArg (fun p=>SlB p (T.y 0)) (gsl_many T.gp T.G _ 0).symm) (.eq (A:=SlB (gsl T.gp T.G 1) (T.y 1)) pkk (congrArg (fun p=>SlB p (T.y 1)) (gsl_many T.gp T.G _ 1).symm) .same)) q z) ?_;exact Hd.ret1 rfl (⟨{ T with G:={ T.G with many:=T.G.many - b2i i.m },li:=upL T.li k (⟨{ i.l with g:=none },i.x,i.cb,i.ad,i.c,i.s,i.X,false⟩:Li) },(TwOk.mono ⟨hT.ok,hT.lo,up_all hT.l (i:=(⟨{ i.l with g:=none },i.x,i.cb,i.ad,i.c,i.s,i.X,false⟩:Li)) ⟨rfl,hi.rel,hi.x,hi.X,hi.h,fun h=>(by cases h)⟩,fun j hj=>by rw [gsl_many];exact hT.rel j hj,hT.y,by show T.G.many - _=_;rw [many_up hk,hmk];show _=b2i false + _;rw [show b2i false=0 from rfl];omega⟩)⟩:{q:Tw // TwOk (K + 100) q}) (by rfl) (fun q z=>tw_close (P:=P) (T:={ T with G:={ T.G with many:=T.G.many - b2i i.m },li:=upL T.li k (⟨{ i.l with g:=none },i.x,i.cb,i.ad,i.c,i.s,i.X,false⟩:Li) }) hk (i:=(⟨{ i.l with g:=none },i.x,i.cb,i.ad,i.c,i.s,i.X,false⟩:Li)) (j:=T.li (1 - k)) (upL_at _ _ _) (upL_ne _ hk _) q (Ent.sep enn q z))
  have hm:i.m=true:=by
   cases hm:i.m
   ·rw [hm] at hc4;exact absurd (show gI false < 0 by decide) (by omega)
   ·rfl
  rw [if_pos hm];refine qv K21<|sr fun _ K24=>?_
  refine yv y_mv<|yv y_np<|yv (y_f 2 3 Tryz.underlying150 sz3)<|Hd.store1 sz3 rfl rfl rfl pkk (by simp;done) ?_
  try simp only [hyS]
  refine fk [(12,_)] K24 ?_;refine sr fun _ K25=>?_
  refine yv y_mv<|yv (y_eqlT rfl rfl) ?_;refine yv y_as<|fk [(4,_)] K25 ?_;refine Hd.ret<|Hd.inBret<|Hd.thenRet<|Hd.heap (LqH (P.q k) i.cb i.ad i.c (gI false)::_) (fun q z=>Ent.sep (.eq (A:=pt (P.q k) _ _) pkk (pt_eq (by rfl)) .same) q z) ?_;refine Hd.heap (SlB (gsl T.gp { T.G with many:=T.G.many - b2i i.m } 0) (T.y 0)::SlB (gsl T.gp { T.G with many:=T.G.many - b2i i.m } 1) (T.y 1)::_) (fun q z=>Ent.sep (.eq (A:=SlB (gsl T.gp T.G 0) (T.y 0)) pkk (congrArg (fun p=>SlB p (T.y 0)) (gsl_many T.gp T.G _ 0).symm) (.eq (A:=SlB (gsl T.gp T.G 1) (T.y 1)) pkk (congrArg (fun p=>SlB p (T.y 1)) (gsl_many T.gp T.G _ 1).symm) .same)) q z) ?_;exact Hd.ret1 rfl (⟨{ T with G:={ T.G with many:=T.G.many - b2i i.m },li:=upL T.li k (⟨{ i.l with g:=none },i.x,i.cb,i.ad,i.c,i.s,i.X,false⟩:Li) },(TwOk.mono ⟨hT.ok,hT.lo,up_all hT.l (i:=(⟨{ i.l with g:=none },i.x,i.cb,i.ad,i.c,i.s,i.X,false⟩:Li)) ⟨rfl,hi.rel,hi.x,hi.X,hi.h,fun h=>(by cases h)⟩,fun j hj=>by rw [gsl_many];exact hT.rel j hj,hT.y,by show T.G.many - _=_;rw [many_up hk,hmk];show _=b2i false + _;rw [show b2i false=0 from rfl];omega⟩)⟩:{q:Tw // TwOk (K + 100) q}) (by rfl) (fun q z=>tw_close (P:=P) (T:={ T with G:={ T.G with many:=T.G.many - b2i i.m },li:=upL T.li k (⟨{ i.l with g:=none },i.x,i.cb,i.ad,i.c,i.s,i.X,false⟩:Li) }) hk (i:=(⟨{ i.l with g:=none },i.x,i.cb,i.ad,i.c,i.s,i.X,false⟩:Li)) (j:=T.li (1 - k)) (upL_at _ _ _) (upL_ne _ hk _) q (Ent.sep enn q z))
 refine sr fun _ K26=>?_
 refine yv (y_eql rfl rfl) ?_;refine yv y_as<|fk [(0,_),(3,_),(5,_),(6,_),(7,_),(38,_),(116,_)] K26 ?_;refine qz ?_ ?_<;>intro hc5<;>try simp only [hyZ] at hc5
 ·refine Hd.seq fun _ K27=>?_
  refine Hd.heap (GpP (gpM i.m T.gp) T.G T.y (RpP i.m T.gp T.G T.y::_)) (fun q z=>gp_open i.m T.gp T.G T.y q (by exact Ent.sep enn q z)) ?_;rw [show gpM i.m T.gp=i.l.g from hi.g.symm]
  have hv:=rel_vM hT hi
  obtain ⟨σ,hσ⟩:∃ σ,lsS i.l T.G i.x T.y i.X T.w o.now o.fl=σ:=⟨_,rfl⟩
  have hσQ:sQ i.X T.w o.now o.fl (i.s 0) (i.s 1) (vM i.m T.u 0) (vM i.m T.u 1)=σ:=by
   rw [←hσ];exact (st_rel i.l T.G i.x T.y i.X T.w o.fl hnow (hi.rel 0 (by decide)) (hi.rel 1 (by decide)) (hv 0 (by decide)) (hv 1 (by decide))).symm
  have hio:=step_io i.X T.w o.now (bits .and .i64 o.fl (lwQ (wantsA i.X) (lv0 o.now (i.s 0) (vM i.m T.u 0)) (lv0 o.now (i.s 1) (vM i.m T.u 1)))) (lv0 o.now (i.s 0) (vM i.m T.u 0)) (lv0 o.now (i.s 1) (vM i.m T.u 1))
  have hbs:=bok_step hX hnow T.w (bits .and .i64 o.fl (lwQ (wantsA i.X) (lv0 o.now (i.s 0) (vM i.m T.u 0)) (lv0 o.now (i.s 1) (vM i.m T.u 1)))) (lv0 o.now (i.s 0) (vM i.m T.u 0)) (lv0 o.now (i.s 1) (vM i.m T.u 1))
  have hbh:=step_h i.X T.w o.now (bits .and .i64 o.fl (lwQ (wantsA i.X) (lv0 o.now (i.s 0) (vM i.m T.u 0)) (lv0 o.now (i.s 1) (vM i.m T.u 1)))) (lv0 o.now (i.s 0) (vM i.m T.u 0)) (lv0 o.now (i.s 1) (vM i.m T.u 1))
  have hst:=step_stp hT.ok i.X o.now (bits .and .i64 o.fl (lwQ (wantsA i.X) (lv0 o.now (i.s 0) (vM i.m T.u 0)) (lv0 o.now (i.s 1) (vM i.m T.u 1)))) (lv0 o.now (i.s 0) (vM i.m T.u 0)) (lv0 o.now (i.s 1) (vM i.m T.u 1)) K (by omega) hT.lo
  rw [show stepS i.X T.w o.now (bits .and .i64 o.fl (lwQ (wantsA i.X) (lv0 o.now (i.s 0) (vM i.m T.u 0)) (lv0 o.now (i.s 1) (vM i.m T.u 1)))) (lv0 o.now (i.s 0) (vM i.m T.u 0)) (lv0 o.now (i.s 1) (vM i.m T.u 1))=σ from hσQ] at hio hbs hbh hst
  have hii:InK .i64 σ.t.i:=by simp only [InK];omega
  have hoo:InK .i64 σ.t.o:=by simp only [InK];omega
  refine Hd.region<|yv y_mv<|yv (y_f 2 29 Tryz.underlying84 sz29)<|yv (y_l1 ag29 rfl)<|yv (y_f 3 3 Tryz.underlying84 sz3)<|yv (y_l1 ag3 rfl)<|callE rfl fk96 (lstep_ct _ (P.lb k) P.wb i.l T.G i.x T.y ⟨hi.x,hT.y⟩ i.X hX T.w o.now o.fl hnow ?hF σ hσ hii hoo) sq ?_
  case hF=>exact Rd.mono hF sq
  intro _;refine Hd.alloc zr58 (fun b13=>?_);refine Hd.storeA (us:=encT σ.t) sz58 rfl rfl rfl (by simp [Value.oneCell']) pkk (by exact rfl) ?_;refine fk [(0,_),(3,_),(5,_),(7,_),(13,_)] K27 ?_;refine sr fun _ K28=>?_
  refine yv y_mv<|yv y_mv<|callE rfl fk97 (group27_ct _ P.tb P.pb P.la P.lc P.qa P.qc T.gp T.sa T.sc P.q k hk i.m i.cb i.ad i.c T.u) sq ?_;rintro ⟨a2,c2⟩;dsimp only;refine yv y_as<|fk [(0,_),(3,_),(7,_),(13,_),(14,_)] K28 ?_;refine Hd.cutK (ι:=Nat×Nat×Nat) [(0,_),(7,_),(13,_)] (fun d=>[(15,.pointer (some ⟨d.1,0,none⟩)),(16,.slice (some ⟨d.2.2,0,none⟩) 2 2)]) (fun d=>TwH P.tb P.pb P.la P.lc P.qa P.qc T.gp T.sa T.sc::OwL P.la P.lc P.lb::OwQ P.qa P.qc P.q::BoP P.pb P.wb P.rb::WorldP P.wb σ.w::Rf.RwP P.rb σ.w::LmH (P.lb k) i.l::SlB (i.l.b 0) ((stX o.now σ.t i.x) 0)::SlB (i.l.b 1) ((stX o.now σ.t i.x) 1)::GpP i.l.g T.G (stX o.now σ.t T.y) (RpP i.m T.gp T.G T.y::LqH (P.q k) i.cb (some ⟨d.2.1,0,none⟩) 2 (gI i.m)::Ow2 (some ⟨d.2.1,0,none⟩) 2 ((tkF o.now σ.t i.s) 0) ((tkF o.now σ.t i.s) 1)::Ow2 (some ⟨d.2.2,0,none⟩) 2 ((tkF o.now σ.t (vM i.m T.u)) 0) ((tkF o.now σ.t (vM i.m T.u)) 1)::RdP i.m T.sa T.sc T.u a2 c2::BufP i.l.buf P.wb σ.x::RbP i.cb σ.x::LiP P.wb (P.lb (1 - k)) (P.q (1 - k)) (T.li (1 - k))::pt b13 (encT σ.t) 58::pt d.1 (encT σ.t) 62::L)) ?_ ?_ ⟨rfl,rfl,rfl,trivial⟩
  ·refine Hd.drawsH ([TwH P.tb P.pb P.la P.lc P.qa P.qc T.gp T.sa T.sc,BoP P.pb P.wb P.rb,pt b3 (encC7 o) 84]) (fun j=>!([18].contains j)) mixed ?_
   simp only [List.length,Nat.zero_add,Nat.reduceAdd];refine tH 0 rfl y_mv<|tH 1 rfl y_mv<|tH 2 rfl y_np<|tH 3 rfl (y_f 0 26 Tryz.underlying144 sz26)<|tH 4 rfl (y_l1 ag26 rfl)<|tH 5 rfl y_np<|tH 6 rfl (y_f 1 38 Tryz.underlying40 sz38)<|tH 7 rfl (y_l1 ag38 rfl)<|tH 8 rfl y_mv<|tH 9 rfl (y_f 2 29 Tryz.underlying84 sz29)<|tH 10 rfl (y_l1 ag29 rfl)<|tH 11 rfl (y_f 3 3 Tryz.underlying84 sz3)<|tH 12 rfl (y_l1 ag3 rfl)<|Hd.eitherH 13 17 rfl rfl kq ?_ ?_
   ·refine callE rfl fk98 (qstep_ct _ (P.q k) i.cb P.rb i.ad i.c (gI i.m) (i.s 0) (i.s 1) a2 c2 (vM i.m T.u 0) (vM i.m T.u 1) (hi.rel 0 (by decide)).ok (hi.rel 1 (by decide)).ok (hv 0 (by decide)).ok (hv 1 (by decide)).ok o.now hnow i.X hX hcl T.w hT.ok o.fl σ hσQ hii hoo) sq ?_
    rintro ⟨d1,d2⟩;dsimp only;refine qk<|tH 14 rfl y_mv<|tH 15 rfl y_ex<|Hd.eitherH 16 17 rfl rfl kq ?_ ?_
    ·refine yv y_ex ?_
     refine qk<|qo 17 ?_;refine Hd.alloc zr62 (fun b15=>?_);refine qk<|qo 18 ?_;refine Hd.storeA (us:=encT σ.t) sz62 rfl rfl rfl (by simp [Value.oneCell']) pkk (by exact rfl) ?_;refine qn<|qo 19 ?_;refine yv y_as<|qk<|endH kq ?_;refine slots [(0,_),(7,_),(13,_),(15,_),(16,_)] sbq ?_;refine thenN<|Hd.heap (Ow2 (some ⟨d1,0,none⟩) 2 ((tkF o.now σ.t i.s) 0) ((tkF o.now σ.t i.s) 1)::_) (fun q z=>Ent.sep (.eq (A:=Ow2 (some ⟨d1,0,none⟩) 2 _ _) pkk (by rfl) .same) q z) ?_;refine Hd.heap (Ow2 (some ⟨d2,0,none⟩) 2 ((tkF o.now σ.t (vM i.m T.u)) 0) ((tkF o.now σ.t (vM i.m T.u)) 1)::_) (fun q z=>Ent.sep (.eq (A:=Ow2 (some ⟨d2,0,none⟩) 2 _ _) pkk (by rfl) .same) q z) ?_;refine Hd.heap (pt b15 (encT σ.t) 62::_) (fun q z=>Ent.sep (.eq (A:=pt b15 _ _) pkk (pt_eq (by rfl)) .same) q z) ?_;exact Hd.meet (b15,d1,d2) sbq sq
    refine Hd.alloc zr62 (fun b15=>?_);refine qk<|Hd.eitherH 16 18 rfl rfl kq ?_ ?_
    ·refine yv y_ex ?_
     refine qk<|qo 18 ?_;refine Hd.storeA (us:=encT σ.t) sz62 rfl rfl rfl (by simp [Value.oneCell']) pkk (by exact rfl) ?_;refine qn<|qo 19 ?_;refine yv y_as<|qk<|endH kq ?_;refine slots [(0,_),(7,_),(13,_),(15,_),(16,_)] sbq ?_;refine thenN<|Hd.heap (Ow2 (some ⟨d1,0,none⟩) 2 ((tkF o.now σ.t i.s) 0) ((tkF o.now σ.t i.s) 1)::_) (fun q z=>Ent.sep (.eq (A:=Ow2 (some ⟨d1,0,none⟩) 2 _ _) pkk (by rfl) .same) q z) ?_;refine Hd.heap (Ow2 (some ⟨d2,0,none⟩) 2 ((tkF o.now σ.t (vM i.m T.u)) 0) ((tkF o.now σ.t (vM i.m T.u)) 1)::_) (fun q z=>Ent.sep (.eq (A:=Ow2 (some ⟨d2,0,none⟩) 2 _ _) pkk (by rfl) .same) q z) ?_;refine Hd.heap (pt b15 (encT σ.t) 62::_) (fun q z=>Ent.sep (.eq (A:=pt b15 _ _) pkk (pt_eq (by rfl)) .same) q z) ?_;exact Hd.meet (b15,d1,d2) sbq sq
    refine Hd.storeA (us:=encT σ.t) sz62 rfl rfl rfl (by simp [Value.oneCell']) pkk (by exact rfl) ?_;refine qn<|qo 16 ?_;refine yv y_ex<|qk<|qo 19 ?_;refine yv y_as<|qk<|endH kq ?_;refine slots [(0,_),(7,_),(13,_),(15,_),(16,_)] sbq ?_;refine thenN<|Hd.heap (Ow2 (some ⟨d1,0,none⟩) 2 ((tkF o.now σ.t i.s) 0) ((tkF o.now σ.t i.s) 1)::_) (fun q z=>Ent.sep (.eq (A:=Ow2 (some ⟨d1,0,none⟩) 2 _ _) pkk (by rfl) .same) q z) ?_;refine Hd.heap (Ow2 (some ⟨d2,0,none⟩) 2 ((tkF o.now σ.t (vM i.m T.u)) 0) ((tkF o.now σ.t (vM i.m T.u)) 1)::_) (fun q z=>Ent.sep (.eq (A:=Ow2 (some ⟨d2,0,none⟩) 2 _ _) pkk (by rfl) .same) q z) ?_;refine Hd.heap (pt b15 (encT σ.t) 62::_) (fun q z=>Ent.sep (.eq (A:=pt b15 _ _) pkk (pt_eq (by rfl)) .same) q z) ?_;exact Hd.meet (b15,d1,d2) sbq sq
   refine Hd.alloc zr62 (fun b15=>?_);refine qk<|qo 13 ?_;refine callE rfl fk98 (qstep_ct _ (P.q k) i.cb P.rb i.ad i.c (gI i.m) (i.s 0) (i.s 1) a2 c2 (vM i.m T.u 0) (vM i.m T.u 1) (hi.rel 0 (by decide)).ok (hi.rel 1 (by decide)).ok (hv 0 (by decide)).ok (hv 1 (by decide)).ok o.now hnow i.X hX hcl T.w hT.ok o.fl σ hσQ hii hoo) sq ?_;rintro ⟨d1,d2⟩;dsimp only;refine qk<|tH 14 rfl y_mv<|tH 15 rfl y_ex<|Hd.eitherH 16 18 rfl rfl kq ?_ ?_
   ·refine yv y_ex ?_
    refine qk<|qo 18 ?_;refine Hd.storeA (us:=encT σ.t) sz62 rfl rfl rfl (by simp [Value.oneCell']) pkk (by exact rfl) ?_;refine qn<|qo 19 ?_;refine yv y_as<|qk<|endH kq ?_;refine slots [(0,_),(7,_),(13,_),(15,_),(16,_)] sbq ?_;refine thenN<|Hd.heap (Ow2 (some ⟨d1,0,none⟩) 2 ((tkF o.now σ.t i.s) 0) ((tkF o.now σ.t i.s) 1)::_) (fun q z=>Ent.sep (.eq (A:=Ow2 (some ⟨d1,0,none⟩) 2 _ _) pkk (by rfl) .same) q z) ?_;refine Hd.heap (Ow2 (some ⟨d2,0,none⟩) 2 ((tkF o.now σ.t (vM i.m T.u)) 0) ((tkF o.now σ.t (vM i.m T.u)) 1)::_) (fun q z=>Ent.sep (.eq (A:=Ow2 (some ⟨d2,0,none⟩) 2 _ _) pkk (by rfl) .same) q z) ?_;refine Hd.heap (pt b15 (encT σ.t) 62::_) (fun q z=>Ent.sep (.eq (A:=pt b15 _ _) pkk (pt_eq (by rfl)) .same) q z) ?_;exact Hd.meet (b15,d1,d2) sbq sq
   refine Hd.storeA (us:=encT σ.t) sz62 rfl rfl rfl (by simp [Value.oneCell']) pkk (by exact rfl) ?_;refine qn<|qo 16 ?_;refine yv y_ex<|qk<|qo 19 ?_;refine yv y_as<|qk<|endH kq ?_;refine slots [(0,_),(7,_),(13,_),(15,_),(16,_)] sbq ?_;refine thenN<|Hd.heap (Ow2 (some ⟨d1,0,none⟩) 2 ((tkF o.now σ.t i.s) 0) ((tkF o.now σ.t i.s) 1)::_) (fun q z=>Ent.sep (.eq (A:=Ow2 (some ⟨d1,0,none⟩) 2 _ _) pkk (by rfl) .same) q z) ?_;refine Hd.heap (Ow2 (some ⟨d2,0,none⟩) 2 ((tkF o.now σ.t (vM i.m T.u)) 0) ((tkF o.now σ.t (vM i.m T.u)) 1)::_) (fun q z=>Ent.sep (.eq (A:=Ow2 (some ⟨d2,0,none⟩) 2 _ _) pkk (by rfl) .same) q z) ?_;refine Hd.heap (pt b15 (encT σ.t) 62::_) (fun q z=>Ent.sep (.eq (A:=pt b15 _ _) pkk (pt_eq (by rfl)) .same) q z) ?_;exact Hd.meet (b15,d1,d2) sbq sq
  rintro ⟨b15,d1,d2⟩;dsimp only;refine Hd.wokW (w:=σ.w) pkk (fun hw2=>?_);refine Hd.seq fun _ K29=>?_
  refine sr fun _ K30=>?_
  refine yv y_mv<|yv y_np<|yv (y_f 2 3 Tryz.underlying150 sz3)<|yv (y_l1 ag3 rfl)<|yv (y_geq rfl rfl) ?_;refine fk [(0,_),(13,_),(15,_),(16,_),(148,_)] K30 ?_;refine qz ?_ ?_<;>intro hc6<;>try simp only [hyZ] at hc6
  ·have hm:i.m=true:=by
    cases hm:i.m
    ·rw [hm] at hc6;exact absurd hc6 (by decide)
    ·rfl
   refine Hd.region<|yv y_mv<|yv y_mv<|yv y_np<|yv (y_f 4 142 Tryz.underlying144 sz142)<|Hd.store1 sz142 rfl rfl rfl pkk (by simp;done) ?_
   try simp only [hyS]
   refine fk [(13,_),(15,_)] K29 ?_;refine Hd.seq fun _ K31=>?_
   rw [hi.g];refine Hd.heap (GpP T.gp T.G (yM i.m T.y (stX o.now σ.t T.y)) _) (fun q z=>gp_close i.m T.gp T.G T.y (stX o.now σ.t T.y) q (by exact Ent.sep enn q z)) ?_;refine Hd.region<|yv (y_f 0 4 Tryz.underlying58 sz4)<|yv (y_l1 ag4 rfl)<|yv (y_f 0 4 Tryz.underlying62 sz4)<|yv (y_l1 ag4 rfl)<|yv (y_eqlb Tryz.underlying4 rfl rfl) ?_;refine yv y_mv ?_;apply Hd.andg 6 158 164 [(13,_),(15,_)] rfl sbq
   ·intro hg28_158
    try simp only [hyZ] at hg28_158
    simp only [List.take];refine y2 (y_f 1 4 Tryz.underlying58 sz4)<|y2 (y_l1 ag4 rfl)<|y2 (y_f 1 4 Tryz.underlying62 sz4)<|y2 (y_l1 ag4 rfl)<|y2 (y_eqlb Tryz.underlying4 rfl rfl) ?_;refine yv (y_pickT rfl rfl) ?_;exact Hd.mn
   ·intro hg28_158
    try simp only [hyZ] at hg28_158
    simp only [List.take];refine n1<|n1<|n1<|n1<|n1<|yv (y_pickF rfl rfl) ?_;exact Hd.mn
   simp only [List.drop];refine yv y_mv ?_;apply Hd.andg 6 165 171 [(13,_),(15,_)] rfl sbq
   ·intro hg28_165
    try simp only [hyZ] at hg28_165
    simp only [List.take];refine y2 (y_f 2 3 Tryz.underlying58 sz3)<|y2 (y_l1 ag3 rfl)<|y2 (y_f 2 3 Tryz.underlying62 sz3)<|y2 (y_l1 ag3 rfl)<|y2 (y_eqlT rfl rfl) ?_;refine yv (y_pickT rfl rfl) ?_;exact Hd.mn
   ·intro hg28_165
    try simp only [hyZ] at hg28_165
    simp only [List.take];refine n1<|n1<|n1<|n1<|n1<|yv (y_pickF rfl rfl) ?_;exact Hd.mn
   simp only [List.drop];refine yv y_mv ?_;apply Hd.andg 6 172 178 [(13,_),(15,_)] rfl sbq
   ·intro hg28_172
    try simp only [hyZ] at hg28_172
    simp only [List.take];refine y2 (y_f 3 34 Tryz.underlying58 sz34)<|y2 (y_l1 ag34 rfl)<|y2 (y_f 3 3 Tryz.underlying62 sz3)<|y2 (y_l1 ag3 rfl)<|y2 (y_eqlT rfl rfl) ?_;refine yv (y_pickT rfl rfl) ?_;exact Hd.mn
   ·intro hg28_172
    try simp only [hyZ] at hg28_172
    simp only [List.take];refine n1<|n1<|n1<|n1<|n1<|yv (y_pickF rfl rfl) ?_;exact Hd.mn
   simp only [List.drop];refine yv y_mv ?_;apply Hd.andg 6 179 185 [(13,_),(15,_)] rfl sbq
   ·intro hg28_179
    try simp only [hyZ] at hg28_179
    simp only [List.take];refine y2 (y_f 4 3 Tryz.underlying58 sz3)<|y2 (y_l1 ag3 rfl)<|y2 (y_f 4 3 Tryz.underlying62 sz3)<|y2 (y_l1 ag3 rfl)<|y2 (y_eqlT rfl rfl) ?_;refine yv (y_pickT rfl rfl) ?_;exact Hd.mn
   ·intro hg28_179
    try simp only [hyZ] at hg28_179
    simp only [List.take];refine n1<|n1<|n1<|n1<|n1<|yv (y_pickF rfl rfl) ?_;exact Hd.mn
   simp only [List.drop];refine yv y_mv ?_;apply Hd.andg 6 186 192 [] rfl sbq
   ·intro hg28_186
    try simp only [hyZ] at hg28_186
    simp only [List.take];refine y2 (y_f 5 3 Tryz.underlying58 sz3)<|y2 (y_l1 ag3 rfl)<|y2 (y_f 5 3 Tryz.underlying62 sz3)<|y2 (y_l1 ag3 rfl)<|y2 (y_eqlT rfl rfl) ?_;refine yv (y_pickT rfl rfl) ?_;exact Hd.mn
   ·intro hg28_186
    try simp only [hyZ] at hg28_186
    simp only [List.take];refine n1<|n1<|n1<|n1<|n1<|yv (y_pickF rfl rfl) ?_;exact Hd.mn
   simp only [List.drop];refine yv y_as<|fk [(4,_)] K31 ?_;refine Hd.ret<|Hd.inBret<|Hd.thenRet<|Hd.heap (TwH P.tb P.pb P.la P.lc P.qa P.qc T.gp (some ⟨d2,0,none⟩) 2::_) (fun q z=>Ent.sep (.eq (A:=pt P.tb _ _) pkk (pt_eq (by rfl)) .same) q z) ?_;refine Hd.heap (Ow2 (some ⟨d2,0,none⟩) 2 (uM i.m T.u (tkF o.now σ.t (vM i.m T.u)) 0) (uM i.m T.u (tkF o.now σ.t (vM i.m T.u)) 1)::_) (fun q z=>Ent.sep (.eq (A:=Ow2 (some ⟨d2,0,none⟩) 2 _ _) pkk (by unfold uM;rw [hm];rfl) .same) q z) ?_
   exact Hd.ret1 rfl (⟨{ T with y:=yM i.m T.y (stX o.now σ.t T.y),sa:=some ⟨d2,0,none⟩,sc:=2,u:=uM i.m T.u (tkF o.now σ.t (vM i.m T.u)),w:=σ.w,li:=upL T.li k (⟨i.l,stX o.now σ.t i.x,i.cb,some ⟨d1,0,none⟩,2,(tkF o.now σ.t i.s),σ.x,i.m⟩:Li) },⟨hw2,hst.1.mono (by omega),up_all hT.l (i:=(⟨i.l,stX o.now σ.t i.x,i.cb,some ⟨d1,0,none⟩,2,(tkF o.now σ.t i.s),σ.x,i.m⟩:Li)) ⟨hi.g,fun j hj=>rel_tk (hi.rel j hj) (hi.x j) hnow _,fun j=>tak_ok (hi.x j) hnow _,hbs,hbh.trans hi.h,hi.m⟩,rel_yu hT (fun hmm j hj=>by
    show Rel _ (stX o.now σ.t T.y j) (tkS o.now (if j=0 then σ.t.i else σ.t.o) (cmS o.now (vM i.m T.u j)))
    rw [show vM i.m T.u j=T.u j from if_pos hmm]
    exact rel_tk (hT.rel j hj) (hT.y j) hnow _),ok_yM hT.y (fun j=>tak_ok (hT.y j) hnow _),by show T.G.many=_;rw [many_up hk,hmk]⟩⟩:{q:Tw // TwOk (K + 100) q}) (by simp;rfl) (fun q z=>tw_close (P:=P) (T:={ T with y:=yM i.m T.y (stX o.now σ.t T.y),sa:=some ⟨d2,0,none⟩,sc:=2,u:=uM i.m T.u (tkF o.now σ.t (vM i.m T.u)),w:=σ.w,li:=upL T.li k (⟨i.l,stX o.now σ.t i.x,i.cb,some ⟨d1,0,none⟩,2,(tkF o.now σ.t i.s),σ.x,i.m⟩:Li) }) hk (i:=(⟨i.l,stX o.now σ.t i.x,i.cb,some ⟨d1,0,none⟩,2,(tkF o.now σ.t i.s),σ.x,i.m⟩:Li)) (j:=T.li (1 - k)) (upL_at _ _ _) (upL_ne _ hk _) q (Ent.sep enn q z))
  have hm:i.m=false:=by
   cases hm:i.m
   ·rfl
   ·rw [hm] at hc6;exact absurd (show (0:Int)≤gI true by decide) (by omega)
  refine qv K29<|Hd.seq fun _ K32=>?_
  rw [hi.g];refine Hd.heap (GpP T.gp T.G (yM i.m T.y (stX o.now σ.t T.y)) _) (fun q z=>gp_close i.m T.gp T.G T.y (stX o.now σ.t T.y) q (by exact Ent.sep enn q z)) ?_;refine Hd.region<|yv (y_f 0 4 Tryz.underlying58 sz4)<|yv (y_l1 ag4 rfl)<|yv (y_f 0 4 Tryz.underlying62 sz4)<|yv (y_l1 ag4 rfl)<|yv (y_eqlb Tryz.underlying4 rfl rfl) ?_;refine yv y_mv ?_;apply Hd.andg 6 158 164 [(13,_),(15,_)] rfl sbq
  ·intro hg28_158
   try simp only [hyZ] at hg28_158
   simp only [List.take];refine y2 (y_f 1 4 Tryz.underlying58 sz4)<|y2 (y_l1 ag4 rfl)<|y2 (y_f 1 4 Tryz.underlying62 sz4)<|y2 (y_l1 ag4 rfl)<|y2 (y_eqlb Tryz.underlying4 rfl rfl) ?_;refine yv (y_pickT rfl rfl) ?_;exact Hd.mn
  ·intro hg28_158
   try simp only [hyZ] at hg28_158
   simp only [List.take];refine n1<|n1<|n1<|n1<|n1<|yv (y_pickF rfl rfl) ?_;exact Hd.mn
  simp only [List.drop];refine yv y_mv ?_;apply Hd.andg 6 165 171 [(13,_),(15,_)] rfl sbq
  ·intro hg28_165
   try simp only [hyZ] at hg28_165
   simp only [List.take];refine y2 (y_f 2 3 Tryz.underlying58 sz3)<|y2 (y_l1 ag3 rfl)<|y2 (y_f 2 3 Tryz.underlying62 sz3)<|y2 (y_l1 ag3 rfl)<|y2 (y_eqlT rfl rfl) ?_;refine yv (y_pickT rfl rfl) ?_;exact Hd.mn
  ·intro hg28_165
   try simp only [hyZ] at hg28_165
   simp only [List.take];refine n1<|n1<|n1<|n1<|n1<|yv (y_pickF rfl rfl) ?_;exact Hd.mn
  simp only [List.drop];refine yv y_mv ?_;apply Hd.andg 6 172 178 [(13,_),(15,_)] rfl sbq
  ·intro hg28_172
   try simp only [hyZ] at hg28_172
   simp only [List.take];refine y2 (y_f 3 34 Tryz.underlying58 sz34)<|y2 (y_l1 ag34 rfl)<|y2 (y_f 3 3 Tryz.underlying62 sz3)<|y2 (y_l1 ag3 rfl)<|y2 (y_eqlT rfl rfl) ?_;refine yv (y_pickT rfl rfl) ?_;exact Hd.mn
  ·intro hg28_172
   try simp only [hyZ] at hg28_172
   simp only [List.take];refine n1<|n1<|n1<|n1<|n1<|yv (y_pickF rfl rfl) ?_;exact Hd.mn
  simp only [List.drop];refine yv y_mv ?_;apply Hd.andg 6 179 185 [(13,_),(15,_)] rfl sbq
  ·intro hg28_179
   try simp only [hyZ] at hg28_179
   simp only [List.take];refine y2 (y_f 4 3 Tryz.underlying58 sz3)<|y2 (y_l1 ag3 rfl)<|y2 (y_f 4 3 Tryz.underlying62 sz3)<|y2 (y_l1 ag3 rfl)<|y2 (y_eqlT rfl rfl) ?_;refine yv (y_pickT rfl rfl) ?_;exact Hd.mn
  ·intro hg28_179
   try simp only [hyZ] at hg28_179
   simp only [List.take];refine n1<|n1<|n1<|n1<|n1<|yv (y_pickF rfl rfl) ?_;exact Hd.mn
  simp only [List.drop];refine yv y_mv ?_;apply Hd.andg 6 186 192 [] rfl sbq
  ·intro hg28_186
   try simp only [hyZ] at hg28_186
   simp only [List.take];refine y2 (y_f 5 3 Tryz.underlying58 sz3)<|y2 (y_l1 ag3 rfl)<|y2 (y_f 5 3 Tryz.underlying62 sz3)<|y2 (y_l1 ag3 rfl)<|y2 (y_eqlT rfl rfl) ?_;refine yv (y_pickT rfl rfl) ?_;exact Hd.mn
  ·intro hg28_186
   try simp only [hyZ] at hg28_186
   simp only [List.take];refine n1<|n1<|n1<|n1<|n1<|yv (y_pickF rfl rfl) ?_;exact Hd.mn
  simp only [List.drop];refine yv y_as<|fk [(4,_)] K32 ?_;refine Hd.ret<|Hd.inBret<|Hd.thenRet<|Hd.heap (Ow2 T.sa T.sc (T.u 0) (T.u 1)::_) (fun q z=>rd_no hm T.sa T.sc T.u a2 c2 q (by exact Ent.sep enn q z)) ?_;refine Hd.heap (Ow2 T.sa T.sc (uM i.m T.u (tkF o.now σ.t (vM i.m T.u)) 0) (uM i.m T.u (tkF o.now σ.t (vM i.m T.u)) 1)::_) (fun q z=>Ent.sep (.eq (A:=Ow2 T.sa T.sc (T.u 0) (T.u 1)) pkk (by unfold uM;rw [hm];rfl) .same) q z) ?_
  exact Hd.ret1 rfl (⟨{ T with y:=yM i.m T.y (stX o.now σ.t T.y),u:=uM i.m T.u (tkF o.now σ.t (vM i.m T.u)),w:=σ.w,li:=upL T.li k (⟨i.l,stX o.now σ.t i.x,i.cb,some ⟨d1,0,none⟩,2,(tkF o.now σ.t i.s),σ.x,i.m⟩:Li) },⟨hw2,hst.1.mono (by omega),up_all hT.l (i:=(⟨i.l,stX o.now σ.t i.x,i.cb,some ⟨d1,0,none⟩,2,(tkF o.now σ.t i.s),σ.x,i.m⟩:Li)) ⟨hi.g,fun j hj=>rel_tk (hi.rel j hj) (hi.x j) hnow _,fun j=>tak_ok (hi.x j) hnow _,hbs,hbh.trans hi.h,hi.m⟩,rel_yu hT (fun hmm j hj=>by
   show Rel _ (stX o.now σ.t T.y j) (tkS o.now (if j=0 then σ.t.i else σ.t.o) (cmS o.now (vM i.m T.u j)))
   rw [show vM i.m T.u j=T.u j from if_pos hmm]
   exact rel_tk (hT.rel j hj) (hT.y j) hnow _),ok_yM hT.y (fun j=>tak_ok (hT.y j) hnow _),by show T.G.many=_;rw [many_up hk,hmk]⟩⟩:{q:Tw // TwOk (K + 100) q}) (by simp;rfl) (fun q z=>tw_close (P:=P) (T:={ T with y:=yM i.m T.y (stX o.now σ.t T.y),u:=uM i.m T.u (tkF o.now σ.t (vM i.m T.u)),w:=σ.w,li:=upL T.li k (⟨i.l,stX o.now σ.t i.x,i.cb,some ⟨d1,0,none⟩,2,(tkF o.now σ.t i.s),σ.x,i.m⟩:Li) }) hk (i:=(⟨i.l,stX o.now σ.t i.x,i.cb,some ⟨d1,0,none⟩,2,(tkF o.now σ.t i.s),σ.x,i.m⟩:Li)) (j:=T.li (1 - k)) (upL_at _ _ _) (upL_ne _ hk _) q (Ent.sep enn q z))
 refine sr fun _ K33=>?_
 refine yv (y_eql rfl rfl) ?_;refine yv y_as<|fk [(0,_),(3,_),(5,_),(6,_),(7,_),(38,_),(193,_)] K33 ?_;refine qz ?_ ?_<;>intro hc7<;>try simp only [hyZ] at hc7
 ·refine Hd.seq fun _ K34=>?_
  refine Hd.heap (GpP (gpM i.m T.gp) T.G T.y (RpP i.m T.gp T.G T.y::_)) (fun q z=>gp_open i.m T.gp T.G T.y q (by exact Ent.sep enn q z)) ?_;rw [show gpM i.m T.gp=i.l.g from hi.g.symm]
  have hv:=rel_vM hT hi
  have hwq:=wh_rel i.l T.G i.x T.y i.X hnow (hi.rel 0 (by decide)) (hi.rel 1 (by decide)) (hv 0 (by decide)) (hv 1 (by decide))
  refine Hd.region<|yv y_mv<|yv y_mv<|callE rfl fk97 (group27_ct _ P.tb P.pb P.la P.lc P.qa P.qc T.gp T.sa T.sc P.q k hk i.m i.cb i.ad i.c T.u) sq ?_;rintro ⟨a2,c2⟩;dsimp only;refine yv y_as<|fk [(3,_),(6,_),(7,_),(17,_)] K34 ?_;refine Hd.seq fun _ K35=>?_
  refine Hd.drawsH ([pt b3 (encC7 o) 84]) (fun _=>true) mixed ?_;simp only [List.length,Nat.zero_add,Nat.reduceAdd];refine tH 0 rfl y_mv<|tH 1 rfl (y_f 2 29 Tryz.underlying84 sz29)<|tH 2 rfl (y_l1 ag29 rfl)<|tH 4 rfl y_mv<|tH 5 rfl y_mv<|tH 6 rfl (y_f 2 29 Tryz.underlying84 sz29)<|tH 7 rfl (y_l1 ag29 rfl)<|qo 3 ?_;refine callE rfl fk99 (lwhen_ct _ (P.lb k) P.wb i.l T.G i.x T.y ⟨hi.x,hT.y⟩ i.X o.now hnow ?hF) sq ?_
  case hF=>exact Rd.mono hF sq
  intro _;rw [hwq];refine qk<|qo 8 ?_;refine callE rfl fk100 (qwhenl_ct _ (P.q k) i.cb i.ad i.c (gI i.m) (i.s 0) (i.s 1) a2 c2 (vM i.m T.u 0) (vM i.m T.u 1) (hi.rel 0 (by decide)).ok (hi.rel 1 (by decide)).ok (hv 0 (by decide)).ok (hv 1 (by decide)).ok o.now hnow i.X) sq ?_;intro _;refine qk<|tH 9 rfl (y_eqlT rfl rfl) ?_;refine tH 10 rfl y_as<|endH kq ?_;refine sk [(4,_)] K35 ?_;refine Hd.ret<|Hd.inBret<|Hd.thenRet ?_;rw [hi.g];refine Hd.heap (Ow2 i.ad i.c (cmF o.now i.s 0) (cmF o.now i.s 1)::_) (fun q z=>Ent.sep (.eq (A:=Ow2 i.ad i.c _ _) pkk (by rfl) .same) q z) ?_;refine Hd.heap (GpP T.gp T.G (yM i.m T.y (cmA o.now T.y)) _) (fun q z=>gp_close i.m T.gp T.G T.y (cmA o.now T.y) q (by exact Ent.sep enn q z)) ?_;refine Hd.heap (Ow2 T.sa T.sc (uM i.m T.u (cmF o.now (vM i.m T.u)) 0) (uM i.m T.u (cmF o.now (vM i.m T.u)) 1)::_) (fun q z=>gd_close i.m T.sa T.sc T.u (cmF o.now (vM i.m T.u)) a2 c2 q (Ent.sep (.eq (A:=Ow2 a2 c2 _ _) pkk (by rfl) (.pick pkk .same)) q z)) ?_
  exact Hd.ret1 rfl (⟨{ T with y:=yM i.m T.y (cmA o.now T.y),u:=uM i.m T.u (cmF o.now (vM i.m T.u)),li:=upL T.li k (⟨i.l,cmA o.now i.x,i.cb,i.ad,i.c,cmF o.now i.s,i.X,i.m⟩:Li) },TwOk.mono ⟨hT.ok,hT.lo,up_all hT.l (i:=(⟨i.l,cmA o.now i.x,i.cb,i.ad,i.c,cmF o.now i.s,i.X,i.m⟩:Li)) ⟨hi.g,fun j hj=>rel_cm (hi.rel j hj) hnow,fun j=>come_ok (hi.x j) hnow,hi.X,hi.h,hi.m⟩,rel_yu hT (fun hmm j hj=>by
   show Rel _ (come (T.y j) o.now) (cmS o.now (vM i.m T.u j))
   rw [show vM i.m T.u j=T.u j from if_pos hmm]
   exact rel_cm (hT.rel j hj) hnow),ok_yM hT.y (fun j=>come_ok (hT.y j) hnow),by show T.G.many=_;rw [many_up hk,hmk]⟩⟩:{q:Tw // TwOk (K + 100) q}) (by rfl) (fun q z=>tw_close (P:=P) (T:={ T with y:=yM i.m T.y (cmA o.now T.y),u:=uM i.m T.u (cmF o.now (vM i.m T.u)),li:=upL T.li k (⟨i.l,cmA o.now i.x,i.cb,i.ad,i.c,cmF o.now i.s,i.X,i.m⟩:Li) }) hk (i:=(⟨i.l,cmA o.now i.x,i.cb,i.ad,i.c,cmF o.now i.s,i.X,i.m⟩:Li)) (j:=T.li (1 - k)) (upL_at _ _ _) (upL_ne _ hk _) q (Ent.sep enn q z))
 refine sr fun _ K36=>?_
 refine yv (y_eql rfl rfl) ?_;refine yv y_as<|fk [(0,_),(3,_),(5,_),(6,_),(7,_),(38,_),(208,_)] K36 ?_;refine qz ?_ ?_<;>intro hc8<;>try simp only [hyZ] at hc8
 ·refine Hd.seq fun _ K37=>?_
  refine Hd.drawsH ([LqH (P.q k) i.cb i.ad i.c (gI i.m),pt b3 (encC7 o) 84]) (fun _=>true) mixed ?_;simp only [List.length,Nat.zero_add,Nat.reduceAdd];refine tH 0 rfl y_mv<|tH 2 rfl (y_f 2 29 Tryz.underlying84 sz29)<|tH 3 rfl (y_l1 ag29 rfl)<|qo 1 ?_;refine callE rfl fk101 (lbuf_ct _ (P.lb k) i.l) sq ?_;intro _;refine qk<|qo 4 ?_;refine callE rfl fk12 (enable_ct _ i.l.buf P.wb i.X hX.tm o.now 6 hnow) sq ?_;intro _;rw [show enE 6=0 by decide];refine qk<|tH 5 rfl (y_to (v':=.bool true) (y_eqlT rfl rfl) (by (simp))) ?_;refine tH 6 rfl y_mv<|Hd.takegH 7 rfl kq kq kq kq rfl rfl y_mv fq sq ?_;refine Hd.takegH 8 rfl kq kq kq kq rfl rfl y_np fq sq ?_;refine Hd.takegH 9 rfl kq kq kq kq rfl rfl (y_f 0 42 Tryz.underlying150 sz42) fq sq ?_;refine Hd.takegH 10 rfl kq kq kq kq rfl rfl (y_l1 ag42 rfl) fq sq ?_;refine Hd.takegH 11 rfl kq kq kq kq rfl rfl (y_f 2 29 Tryz.underlying84 sz29) fq sq ?_
  refine Hd.takegH 12 rfl kq kq kq kq rfl rfl (y_l1 ag29 rfl) fq sq ?_;refine qo 13 ?_;refine Hd.unguard rfl rfl ?_;refine callE rfl fk13 (renable_ct _ i.cb i.X hX.tm o.now 6 hnow (by simp [InK])) sq ?_;intro _;rw [show enE 6=0 by decide];refine qk<|Hd.takegH 14 rfl kq kq kq kq rfl rfl (y_eqlT rfl rfl) fq sq ?_;refine tH 15 rfl (y_pickT rfl rfl) ?_;refine tH 16 rfl y_as<|endH kq ?_;refine sk [(4,_)] K37 ?_;refine Hd.ret<|Hd.inBret<|Hd.thenRet ?_;exact Hd.ret1 rfl (⟨{ T with li:=upL T.li k (⟨i.l,i.x,i.cb,i.ad,i.c,i.s,enB i.X o.now 6,i.m⟩:Li) },(hT.one hk (i:=(⟨i.l,i.x,i.cb,i.ad,i.c,i.s,enB i.X o.now 6,i.m⟩:Li)) ⟨hi.g,hi.rel,hi.x,bok_en hX hnow 6,(en_h i.X o.now 6).trans hi.h,hi.m⟩ (by rw [hie])).mono⟩:{q:Tw // TwOk (K + 100) q}) (by rfl) (fun q z=>tw_close (P:=P) (T:={ T with li:=upL T.li k (⟨i.l,i.x,i.cb,i.ad,i.c,i.s,enB i.X o.now 6,i.m⟩:Li) }) hk (i:=(⟨i.l,i.x,i.cb,i.ad,i.c,i.s,enB i.X o.now 6,i.m⟩:Li)) (j:=T.li (1 - k)) (upL_at _ _ _) (upL_ne _ hk _) q (Ent.sep enn q z))
 refine sr fun _ K38=>?_
 refine yv (y_eql rfl rfl) ?_;refine yv y_as<|fk [(0,_),(3,_),(5,_),(6,_),(7,_),(38,_),(226,_)] K38 ?_;refine qz ?_ ?_<;>intro hc9<;>try simp only [hyZ] at hc9
 ·refine Hd.seq fun _ K39=>?_
  refine Hd.drawsH ([LqH (P.q k) i.cb i.ad i.c (gI i.m),pt b3 (encC7 o) 84]) (fun _=>true) mixed ?_;simp only [List.length,Nat.zero_add,Nat.reduceAdd];refine tH 0 rfl y_mv<|tH 2 rfl (y_f 2 29 Tryz.underlying84 sz29)<|tH 3 rfl (y_l1 ag29 rfl)<|tH 4 rfl (y_f 5 30 Tryz.underlying84 sz30)<|tH 5 rfl (y_l1 ag30 rfl)<|tH 7 rfl y_mv<|tH 8 rfl y_np<|tH 9 rfl (y_f 0 42 Tryz.underlying150 sz42)<|tH 10 rfl (y_l1 ag42 rfl)<|tH 11 rfl (y_f 2 29 Tryz.underlying84 sz29)<|tH 12 rfl (y_l1 ag29 rfl)<|tH 13 rfl (y_f 5 30 Tryz.underlying84 sz30)<|tH 14 rfl (y_l1 ag30 rfl)<|qo 1 ?_;refine callE rfl fk101 (lbuf_ct _ (P.lb k) i.l) sq ?_;intro _;refine qk<|qo 6 ?_;refine callE rfl fk20 (bwrite_ct _ i.l.buf P.wb i.X hX.tm o.now hnow o.ad o.d.length o.c o.d rfl ?hD ho.c (by omega)) sq ?_
  case hD=>exact RdS.mono ho.rd sq
  intro _;refine qk<|qo 15 ?_;refine callE rfl fk21 (rbwrite_ct _ i.cb i.X hX.tm (hcl 1 (by decide)) o.now hnow o.ad o.c o.d ?hD ho.c (by omega)) sq ?_
  case hD=>exact RdS.mono ho.rd sq
  intro _;refine qk<|tH 16 rfl (y_eqlT rfl rfl) ?_;refine tH 17 rfl y_as<|endH kq ?_;refine sk [(4,_)] K39 ?_;refine Hd.ret<|Hd.inBret<|Hd.thenRet ?_;exact Hd.ret1 rfl (⟨{ T with li:=upL T.li k (⟨i.l,i.x,i.cb,i.ad,i.c,i.s,wrB i.X o.now o.d,i.m⟩:Li) },(hT.one hk (i:=(⟨i.l,i.x,i.cb,i.ad,i.c,i.s,wrB i.X o.now o.d,i.m⟩:Li)) ⟨hi.g,hi.rel,hi.x,bok_put hX hnow o.d,(wr_h i.X o.now o.d).trans hi.h,hi.m⟩ (by rw [hie])).mono⟩:{q:Tw // TwOk (K + 100) q}) (by rfl) (fun q z=>tw_close (P:=P) (T:={ T with li:=upL T.li k (⟨i.l,i.x,i.cb,i.ad,i.c,i.s,wrB i.X o.now o.d,i.m⟩:Li) }) hk (i:=(⟨i.l,i.x,i.cb,i.ad,i.c,i.s,wrB i.X o.now o.d,i.m⟩:Li)) (j:=T.li (1 - k)) (upL_at _ _ _) (upL_ne _ hk _) q (Ent.sep enn q z))
 refine sr fun _ K40=>?_
 refine yv (y_eql rfl rfl) ?_;refine yv y_as<|fk [(0,_),(3,_),(5,_),(6,_),(7,_),(38,_),(245,_)] K40 ?_;refine qz ?_ ?_<;>intro hc10<;>try simp only [hyZ] at hc10
 ·refine Hd.seq fun _ K41=>?_
  refine Hd.drawsH ([LqH (P.q k) i.cb i.ad i.c (gI i.m),pt b3 (encC7 o) 84]) (fun _=>true) mixed ?_;simp only [List.length,Nat.zero_add,Nat.reduceAdd];refine tH 0 rfl y_mv<|tH 2 rfl (y_f 4 3 Tryz.underlying84 sz3)<|tH 3 rfl (y_l1 ag3 rfl)<|tH 6 rfl y_mv<|tH 7 rfl y_np<|tH 8 rfl (y_f 0 42 Tryz.underlying150 sz42)<|tH 9 rfl (y_l1 ag42 rfl)<|tH 10 rfl (y_f 4 3 Tryz.underlying84 sz3)<|tH 11 rfl (y_l1 ag3 rfl)<|qo 1 ?_;refine callE rfl fk101 (lbuf_ct _ (P.lb k) i.l) sq ?_;intro _;refine qk<|qo 4 ?_;refine callE rfl fk22 (bread_ct _ i.l.buf P.wb i.X o.n (by have:=ho.n;simp only [InK] at this;omega)) sq ?_;rintro ⟨ra,rc⟩;dsimp only;refine qk<|Hd.eitherH 5 12 rfl rfl kq ?_ ?_
  ·refine yv (y_strOf (l:=_) kq Tryz.underlying9 rfl (by exact RdS.own pkk)) ?_
   refine qk<|qo 12 ?_;refine callE rfl fk23 (rbread_ct _ i.cb i.X o.n) sq ?_;rintro ⟨sa,sc⟩;dsimp only;refine qk<|qo 13 ?_;refine yv (y_strOf (l:=_) kq Tryz.underlying9 rfl (by exact RdS.own pkk)) ?_;refine qk<|tH 14 rfl (y_eqlstr rfl rfl) ?_;refine tH 15 rfl y_as<|endH kq ?_;refine sk [(4,_)] K41 ?_;refine Hd.ret<|Hd.inBret<|Hd.thenRet ?_;exact Hd.ret1 rfl (⟨{ T with li:=upL T.li k (⟨i.l,i.x,i.cb,i.ad,i.c,i.s,readB i.X o.n,i.m⟩:Li) },(hT.one hk (i:=(⟨i.l,i.x,i.cb,i.ad,i.c,i.s,readB i.X o.n,i.m⟩:Li)) ⟨hi.g,hi.rel,hi.x,bok_get hX o.n,(rd_h i.X o.n).trans hi.h,hi.m⟩ (by rw [hie])).mono⟩:{q:Tw // TwOk (K + 100) q}) (by simp;rfl) (fun q z=>tw_close (P:=P) (T:={ T with li:=upL T.li k (⟨i.l,i.x,i.cb,i.ad,i.c,i.s,readB i.X o.n,i.m⟩:Li) }) hk (i:=(⟨i.l,i.x,i.cb,i.ad,i.c,i.s,readB i.X o.n,i.m⟩:Li)) (j:=T.li (1 - k)) (upL_at _ _ _) (upL_ne _ hk _) q (Ent.sep enn q z))
  refine callE rfl fk23 (rbread_ct _ i.cb i.X o.n) sq ?_;rintro ⟨sa,sc⟩;dsimp only;refine qk<|Hd.eitherH 5 13 rfl rfl kq ?_ ?_
  ·refine yv (y_strOf (l:=_) kq Tryz.underlying9 rfl (by exact RdS.own pkk)) ?_
   refine qk<|qo 13 ?_;refine yv (y_strOf (l:=_) kq Tryz.underlying9 rfl (by exact RdS.own pkk)) ?_;refine qk<|tH 14 rfl (y_eqlstr rfl rfl) ?_;refine tH 15 rfl y_as<|endH kq ?_;refine sk [(4,_)] K41 ?_;refine Hd.ret<|Hd.inBret<|Hd.thenRet ?_;exact Hd.ret1 rfl (⟨{ T with li:=upL T.li k (⟨i.l,i.x,i.cb,i.ad,i.c,i.s,readB i.X o.n,i.m⟩:Li) },(hT.one hk (i:=(⟨i.l,i.x,i.cb,i.ad,i.c,i.s,readB i.X o.n,i.m⟩:Li)) ⟨hi.g,hi.rel,hi.x,bok_get hX o.n,(rd_h i.X o.n).trans hi.h,hi.m⟩ (by rw [hie])).mono⟩:{q:Tw // TwOk (K + 100) q}) (by simp;rfl) (fun q z=>tw_close (P:=P) (T:={ T with li:=upL T.li k (⟨i.l,i.x,i.cb,i.ad,i.c,i.s,readB i.X o.n,i.m⟩:Li) }) hk (i:=(⟨i.l,i.x,i.cb,i.ad,i.c,i.s,readB i.X o.n,i.m⟩:Li)) (j:=T.li (1 - k)) (upL_at _ _ _) (upL_ne _ hk _) q (Ent.sep enn q z))
  refine yv (y_strOf (l:=_) kq Tryz.underlying9 rfl (by exact RdS.own pkk)) ?_;refine qk<|qo 5 ?_;refine yv (y_strOf (l:=_) kq Tryz.underlying9 rfl (by exact RdS.own pkk)) ?_;refine qk<|tH 14 rfl (y_eqlstr rfl rfl) ?_;refine tH 15 rfl y_as<|endH kq ?_;refine sk [(4,_)] K41 ?_;refine Hd.ret<|Hd.inBret<|Hd.thenRet ?_;exact Hd.ret1 rfl (⟨{ T with li:=upL T.li k (⟨i.l,i.x,i.cb,i.ad,i.c,i.s,readB i.X o.n,i.m⟩:Li) },(hT.one hk (i:=(⟨i.l,i.x,i.cb,i.ad,i.c,i.s,readB i.X o.n,i.m⟩:Li)) ⟨hi.g,hi.rel,hi.x,bok_get hX o.n,(rd_h i.X o.n).trans hi.h,hi.m⟩ (by rw [hie])).mono⟩:{q:Tw // TwOk (K + 100) q}) (by simp;rfl) (fun q z=>tw_close (P:=P) (T:={ T with li:=upL T.li k (⟨i.l,i.x,i.cb,i.ad,i.c,i.s,readB i.X o.n,i.m⟩:Li) }) hk (i:=(⟨i.l,i.x,i.cb,i.ad,i.c,i.s,readB i.X o.n,i.m⟩:Li)) (j:=T.li (1 - k)) (upL_at _ _ _) (upL_ne _ hk _) q (Ent.sep enn q z))
 refine sr fun _ K42=>?_
 refine yv (y_eql rfl rfl) ?_;refine yv y_as<|fk [(0,_),(3,_),(5,_),(38,_),(262,_)] K42 ?_;refine qz ?_ ?_<;>intro hc11<;>try simp only [hyZ] at hc11
 ·refine Hd.seq fun _ K43=>?_
  refine Hd.drawsH ([TwH P.tb P.pb P.la P.lc P.qa P.qc T.gp T.sa T.sc,pt b3 (encC7 o) 84]) (fun _=>true) mixed ?_;simp only [List.length,Nat.zero_add,Nat.reduceAdd];refine tH 0 rfl y_mv<|tH 1 rfl y_np<|tH 2 rfl (y_f 0 26 Tryz.underlying144 sz26)<|tH 3 rfl (y_l1 ag26 rfl)<|tH 4 rfl y_mv<|tH 5 rfl (y_muln rfl rfl (by simp only [InK];omega)) ?_;refine tH 6 rfl (y_addn rfl rfl (by simp only [InK];omega)) ?_;refine tH 7 rfl (y_f 5 30 Tryz.underlying84 sz30)<|tH 8 rfl (y_l1 ag30 rfl)<|tH 9 rfl (y_build (vs:=[(0,_),(1,_),(4,_)]) rfl (by exact bd40_273 ..)) ?_;refine qo 10 ?_;refine callE rfl fk8 (do6_ct _ P.pb P.wb P.rb T.w K hK hT.lo (⟨6,2 * (k:Int) + 1,0,0,o.ad,o.c,o.d⟩:Ov) rfl (by simp [InK]) hd ?hD ho.c) sq ?_
  case hD=>exact RdS.mono ho.rd sq
  intro _;refine qk<|tH 11 rfl y_as<|endH kq ?_;refine sk [(4,_)] K43 ?_;refine Hd.ret<|Hd.inBret<|Hd.thenRet<|Hd.wokW (wb:=P.wb) (w:=doA T.w (⟨6,2 * (k:Int) + 1,0,0,o.ad,o.c,o.d⟩:Ov)) pkk (fun hw2=>?_);exact Hd.ret1 rfl (⟨{ T with w:=doA T.w (⟨6,2 * (k:Int) + 1,0,0,o.ad,o.c,o.d⟩:Ov) },⟨hw2,(do_stp hT.ok (⟨6,2 * (k:Int) + 1,0,0,o.ad,o.c,o.d⟩:Ov) (show (0:Int)≤0 by decide) K (by omega) hT.lo).1,hT.l,hT.rel,hT.y,hT.many⟩⟩:{q:Tw // TwOk (K + 100) q}) (by rfl) (fun q z=>tw_close (P:=P) (T:={ T with w:=doA T.w (⟨6,2 * (k:Int) + 1,0,0,o.ad,o.c,o.d⟩:Ov) }) hk (i:=i) (j:=T.li (1 - k)) hie rfl q (Ent.sep enn q z))
 refine sr fun _ K44=>?_
 refine yv (y_eql rfl rfl) ?_;refine yv y_as<|fk [(0,_),(3,_),(5,_),(275,_)] K44 ?_;refine qz ?_ ?_<;>intro hc12<;>try simp only [hyZ] at hc12
 ·refine Hd.seq fun _ K45=>?_
  refine Hd.drawsH ([TwH P.tb P.pb P.la P.lc P.qa P.qc T.gp T.sa T.sc,pt b3 (encC7 o) 84]) (fun _=>true) mixed ?_;simp only [List.length,Nat.zero_add,Nat.reduceAdd];refine tH 0 rfl y_mv<|tH 1 rfl y_np<|tH 2 rfl (y_f 0 26 Tryz.underlying144 sz26)<|tH 3 rfl (y_l1 ag26 rfl)<|tH 4 rfl y_mv<|tH 5 rfl (y_muln rfl rfl (by simp only [InK];omega)) ?_;refine tH 6 rfl (y_addn rfl rfl (by simp only [InK];omega)) ?_;refine tH 7 rfl (y_f 4 3 Tryz.underlying84 sz3)<|tH 8 rfl (y_l1 ag3 rfl)<|tH 9 rfl (y_build (vs:=[(0,_),(1,_),(2,_)]) rfl (by exact bd40_286 ..)) ?_;refine qo 10 ?_;refine callE rfl fk8 (do5_ct _ P.pb P.wb P.rb T.w K hK hT.lo (⟨5,2 * (k:Int) + 1,o.n,0,none,0,[]⟩:Ov) rfl (by simp [InK]) (show (0:Nat)≤300 by decide) ?hD (Nat.le_refl 0)) sq ?_
  case hD=>exact RdS.none _ _ _
  intro _;refine qk<|tH 11 rfl y_as<|endH kq ?_;refine sk [(4,_)] K45 ?_;refine Hd.ret<|Hd.inBret<|Hd.thenRet<|Hd.wokW (wb:=P.wb) (w:=doA T.w (⟨5,2 * (k:Int) + 1,o.n,0,none,0,[]⟩:Ov)) pkk (fun hw2=>?_);exact Hd.ret1 rfl (⟨{ T with w:=doA T.w (⟨5,2 * (k:Int) + 1,o.n,0,none,0,[]⟩:Ov) },⟨hw2,(do_stp hT.ok (⟨5,2 * (k:Int) + 1,o.n,0,none,0,[]⟩:Ov) (show (0:Int)≤0 by decide) K (by omega) hT.lo).1,hT.l,hT.rel,hT.y,hT.many⟩⟩:{q:Tw // TwOk (K + 100) q}) (by rfl) (fun q z=>tw_close (P:=P) (T:={ T with w:=doA T.w (⟨5,2 * (k:Int) + 1,o.n,0,none,0,[]⟩:Ov) }) hk (i:=i) (j:=T.li (1 - k)) hie rfl q (Ent.sep enn q z))
 refine Hd.skip<|Hd.inB<|Hd.toK K5 ?_;refine sr fun _ K46=>?_
 refine yv y_as<|fk [(4,_)] K46 ?_;refine Hd.ret ?_;exact Hd.ret1 rfl (⟨T,hT.mono⟩:{q:Tw // TwOk (K + 100) q}) rfl (fun q z=>tw_close (P:=P) (T:=T) hk (i:=i) (j:=T.li (1 - k)) hie rfl q (Ent.sep enn q z))
end Lm
end Go.Proofs.YtmpemhbfgbochaaGreatDoor
