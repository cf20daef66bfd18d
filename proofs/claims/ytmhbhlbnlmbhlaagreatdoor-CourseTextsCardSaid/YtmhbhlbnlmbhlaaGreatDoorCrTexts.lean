import Derived.Test.YtmhbhlbnlmbhlaaGreatDoorCrLaw
import Derived.Test.YtmhbhlbnlmbhlaaGreatDoorCrK
import Derived.LaidMore
import Derived.Test.YtmhbhlbnlmbhlaaGreatDoorCtE
section
namespace Go.Pd
open Go Go.Proofs Go.RowKit
set_option maxRecDepth 100000
theorem RV(cs:List (List D))(h:BA Tryz.prog 12 Tryz.f14.params.toList cs)(hb:∀cs' g m c,(ic Tryz.prog Tryz.f14.params.toList cs)[0]?=some (.agg cs')→cs'[6]?=some (.slc g m c)→m*40≤reachBytes):CallOK Tryz.prog ig 14 (ic Tryz.prog Tryz.f14.params.toList cs) (.bool true):=by
 rw[Tryz.params14] at h hb ⊢;obtain⟨c1,c2,rfl,h1,h2⟩:=IN h;obtain⟨hl,rfl⟩:=JX h1;obtain⟨s,rfl,_⟩:=BI Tryz.underlying9 h2;have e:ic Tryz.prog #[27,9].toList [hl.cells,[.str s]]=[bQ hl,.str s]:=by
  simp[ic,pU,eQ,Tryz.underlying27,Tryz.underlying9,Hl.cells]
 rw[e] at hb ⊢;have h40:=hb _ _ _ _ rfl rfl;exact VO hl (zd0 (Nat.lt_of_le_of_lt h40 reachBytes_lt)) s
end Go.Pd
namespace Go.Proofs.YtmhbhlbnlmbhlaaGreatDoor.courseTexts
set_option maxRecDepth 100000
open Go Go.Pd Go.ChangeShapes Go.WideShapes Go.ChangeAt Go.RowKit
noncomputable def qf(os:Os):World:=Gq "unicode/utf8.first" Rows.laid_unicode_utf8_first (World.doorLaid Tryz.prog 100 os)
theorem Gz:("niblick/course.order",Rows.laid_niblick_course_order)∈Rows.courseTextsRow.laid∧("internal/strconv.uint64pow10",Rows.laid_internal_strconv_uint64pow10)∈Rows.courseTextsRow.laid:=⟨List.mem_iff_getElem?.2 ⟨6,rfl⟩,List.mem_iff_getElem?.2 ⟨2,rfl⟩⟩
theorem GA(os:Os)(args:Array Value):laidMet Tryz.prog Rows.courseTextsRow.laid ((qf os).forCall (fun _ _=>0) ⟨#[],args,[]⟩).memory:=
 laidMet_of_run' 8 (by kernel_rfl) (by kernel_rfl)
theorem GB(H:Type)(enc:TypeId×Value→H)(W:World)(args:Array Value)(ds gs:List (DataW H))(before:List MemPlace)
  (hval:∀(j:Nat) t v,Tryz.f14.params[j]?=some t→args[j]?=some v→Value.okWide Tryz.prog W .any 0 t v)
  (hW:DataW.Whole enc Tryz.prog Tryz.f14.params.toList Rows.courseTextsSpec.vars false W args.toList ds gs before) (hm:laidMet Tryz.prog Rows.courseTextsRow.laid W)
  (hw:(DataW.weightsEach Tryz.prog (Tryz.f14.params.toList++(OpenSpec.ofChange Rows.courseTextsSpec).bare.plain.varTypes Tryz.prog) (ds++gs)).all (· ≤reachBytes)=true):
  Calls Tryz.prog 14 args W fun e W'=>∃v,e= .returned v∧Rows.courseTextsSpec.post enc Tryz.prog Tryz.f14 false true false false W args v W':=
 B2 (tb:=4) JY Tryz.underlying4 (by kernel_rfl) (zd9.1 (by kernel_rfl:Tryz.f14.params.toList.all (uW Tryz.prog)=true)) enc rfl (fun ds hl=>by
  rw[Tryz.params14] at hl
  match ds,hl with
  |[d1,d2],_=>rfl) W args ds gs before hval hW (RR Gz hm) fun cs hcs ⟨p,hA⟩ hr=>RV cs hcs fun cs' g m c hd hc6=>by
   rw[show Tryz.f14.params.toList=[27,9] by rw[Tryz.params14]] at hA;obtain⟨v,vs1,d,ds1,p1,q1,hvs,hds,_,hv,_⟩:=trodAll_cons hA;have hrel:=hr 0 _ v hd (by rw[hvs];rfl);have hb:=B1 (j:=4) Tryz.underlying27 rfl Tryz.underlying25 (by kernel_rfl) hv (fun k hk=>by
    have:=zd9.1 hw k (DataW.weights_mem_each (j:=0) (t:=27) (d:=d) (by rw[Tryz.params14];rfl) (by rw[hds];rfl) k hk);simpa using this) hrel hc6
   rw[show Tryz.prog.bytesOf 84=40 by kernel_rfl] at hb;exact hb
theorem RW(os:Os){H:Type}(enc:TypeId×Value→H):DataW.whole enc Tryz.prog ((qf os).forCall (fun _ _=>0) ⟨#[],#[.agg #[.string ⟨#[]⟩,.int .i64 0,.int .i64 0,.int .i64 0,.int .i64 0,.slice none 0 0,.slice none 0 0],.string ⟨#[]⟩],[]⟩).memory Tryz.f14.params.toList Rows.courseTextsSpec.vars false (#[.agg #[.string ⟨#[]⟩,.int .i64 0,.int .i64 0,.int .i64 0,.int .i64 0,.slice none 0 0,.slice none 0 0],.string ⟨#[]⟩]:Array Value).toList 8=some ([.agg [.lit (.string []),.agg [.lit (.int .i64 0),.lit (.int .i64 0)],.agg [.lit (.int .i64 0),.lit (.int .i64 0)],.nil,.nil],.lit (.string [])],[],[]):=by kernel_rfl
theorem NR(os:Os)(started:os.Started)(H:Type)(enc:TypeId×Value→H)(F:Stop.Interp):
  ReturnsInHanded {} Tryz.checked os 14 .any ((OpenSpec.ofChange Rows.courseTextsSpec).preRow enc Tryz.prog Tryz.f14 Rows.courseTextsRow.domain false Rows.courseTextsRow.laid) (((OpenSpec.ofChange Rows.courseTextsSpec).at F).post enc Tryz.prog Tryz.f14 false true false false):=by
 refine returnsInHanded_of_row (C:=Tryz.checked) (s:=OpenSpec.ofChange Rows.courseTextsSpec) own started (by kernel_rfl) Tryz.func14
  (witness_row_at (enc:=enc) (C:=Tryz.checked) false (qf os) #[.agg #[.string ⟨#[]⟩,.int .i64 0,.int .i64 0,.int .i64 0,.int .i64 0,.slice none 0 0,.slice none 0 0],.string ⟨#[]⟩] rfl (by kernel_rfl) (by kernel_rfl) (by kernel_rfl)
   (OpenSpec.preRow_of_cond 8 (RW os enc) (by kernel_rfl) (fun k hk=>by cases hk) (by kernel_rfl) (GA os _))) ?_
 intro W base args ds gs before hval hW _ _ hw hm _ _;exact GB H enc W args ds gs before (fun j t v ht hv=>hval j t v ht hv) hW hm hw
theorem jName:Tryz.pinned.checked.prog.funcNamed Rows.courseTextsRow.func=some 14:=by kernel_rfl
theorem Wg:Tryz.pinned.checked.prog.inPlace 14=Rows.courseTextsRow.inPlace:=by kernel_rfl
theorem Wh:Tryz.pinned.checked.prog.unfollowed 14=Rows.courseTextsRow.unfollowed:=by kernel_rfl
theorem Wi:Tryz.pinned.checked.prog.recurses 14=Rows.courseTextsRow.recurses:=by kernel_rfl
theorem Wj:Tryz.pinned.checked.prog.varsNamed 14=Rows.courseTextsRow.named:=by kernel_rfl
theorem jAll:joinedFacts Tryz.pinned.checked.prog 14 Tryz.f14 (OpenSpec.ofChange Rows.courseTextsSpec).bare Rows.courseTextsRow=true:=by
 unfold joinedFacts;rw[Wg,Wh,Wi,Wj]
 kernel_rfl
theorem RX:Tryz.f14.isInstance Tryz.pinned.checked.prog Rows.courseTextsRow.origin Rows.courseTextsRow.targs:=of_decide_eq_true (by kernel_rfl)
theorem RY:Tryz.f14.isWrapper Tryz.pinned.checked.prog Rows.courseTextsRow.wrapper Rows.courseTextsRow.mainSum:=by unfold Func.isWrapper;first|(rw[if_pos (by decide+kernel)];kernel_rfl)|(rw[if_neg (by decide+kernel)];exact⟨rfl,rfl⟩)
theorem Vz:Rows.CourseTextsSaid:=
 OpenClaim.holds_of_cond 14 Tryz.f14 rfl rfl rfl rfl rfl rfl rfl ⟨rfl,rfl,rfl,rfl,rfl⟩ rfl rfl rfl rfl rfl jName Tryz.func14 jAll RX RY
  (fun os started H enc _ F=>by rw[OpenClaim.pre_eq_preRow];exact NR os started H enc F)
theorem plain(f:FuncId)(fn:Func)(hf:Tryz.pinned.checked.prog.funcNamed Rows.courseTextsRow.func=some f)(hfn:Tryz.pinned.checked.prog.funcs[f]?=some fn):
  true=Tryz.pinned.checked.prog.looks []∧∀(j:Nat) t,fn.params[j]?=some t→Tryz.pinned.checked.prog.wantsStandIn t=false:=by
 obtain rfl:f=14:=Option.some.inj (jName.symm.trans hf)|>.symm;obtain rfl:fn=Tryz.f14:=(Option.some.inj (Tryz.func14.symm.trans hfn)).symm;refine⟨NM,fun j t ht=> ?_⟩;have hall:Tryz.f14.params.toList.all (fun t=> !Tryz.prog.wantsStandIn t)=true:=by kernel_rfl
 have:=zd9.1 hall t (by simpa using Array.mem_of_getElem? ht);exact(by simpa using this:Tryz.prog.wantsStandIn t=false)
theorem RZ:Rows.courseTextsRow.wfByText (OpenSpec.ofChange Rows.courseTextsSpec)=true:=by kernel_rfl
theorem R0:false=Rows.courseTextsRow.goesBy Tryz.pinned.checked.prog:=by kernel_rfl
theorem card:Rows.CourseTextsCardSaid:=
 Claim7.holds_tied_plain_at .later [] _ _ _ _ Vz (fun _ h=>by cases h) RZ (fun _ h=>by cases h) courseTexts_row_tie rfl ⟨rfl,rfl⟩ RQ rfl plain R0
end Go.Proofs.YtmhbhlbnlmbhlaaGreatDoor.courseTexts
end
