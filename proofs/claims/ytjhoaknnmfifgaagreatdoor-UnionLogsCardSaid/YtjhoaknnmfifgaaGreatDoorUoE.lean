import Derived.Test.YtjhoaknnmfifgaaGreatDoorUnK
section
namespace Go.Proofs.YtjhoaknnmfifgaaGreatDoor.unionLogs
set_option maxRecDepth 100000
open Go Go.Pd Go.ChangeShapes Go.WideShapes Go.ChangeAt Go.RowKit
theorem Ei:("internal/strconv.uint64pow10",Rows.laid_internal_strconv_uint64pow10)∈Rows.unionLogsRow.laid∧("math/bits.deBruijn64tab",Rows.laid_math_bits_deBruijn64tab)∈Rows.unionLogsRow.laid:=⟨List.mem_iff_getElem?.2 ⟨2,rfl⟩,List.mem_iff_getElem?.2 ⟨1,rfl⟩⟩
theorem Ej(os:Os)(args:Array Value):laidMet Tryz.prog Rows.unionLogsRow.laid ((nc os).forCall (fun _ _=>0) ⟨#[],args,[]⟩).memory:=
 laidMet_of_run' 8 (by kernel_rfl) (by kernel_rfl)
def qU:Prop:=∀(H:Type) (enc:TypeId×Value→H) (W:World) (args:Array Value) (ds gs:List (DataW H)) (before:List MemPlace)
  (_:∀(j:Nat) t v,Tryz.f9.params[j]?=some t→args[j]?=some v→Value.okWide Tryz.prog W .any 0 t v)
  (_:DataW.Whole enc Tryz.prog Tryz.f9.params.toList Rows.unionLogsSpec.vars false W args.toList ds gs before) (_:laidMet Tryz.prog Rows.unionLogsRow.laid W)
  (_:(DataW.weightsEach Tryz.prog (Tryz.f9.params.toList++(OpenSpec.ofChange Rows.unionLogsSpec).bare.plain.varTypes Tryz.prog) (ds++gs)).all (· ≤reachBytes)=true),
  Calls Tryz.prog 9 args W fun e W'=>∃v,e= .returned v∧Rows.unionLogsSpec.post enc Tryz.prog Tryz.f9 false true false false W args v W'
theorem N7(os:Os){H:Type}(enc:TypeId×Value→H):DataW.whole enc Tryz.prog ((nc os).forCall (fun _ _=>0) ⟨#[],#[.agg #[.int .i64 0,.string ⟨#[]⟩,.slice none 0 0,.slice none 0 0,.string ⟨#[]⟩],.string ⟨#[]⟩],[]⟩).memory Tryz.f9.params.toList Rows.unionLogsSpec.vars false (#[.agg #[.int .i64 0,.string ⟨#[]⟩,.slice none 0 0,.slice none 0 0,.string ⟨#[]⟩],.string ⟨#[]⟩]:Array Value).toList 8=some ([.agg [.lit (.int .i64 0),.lit (.string []),.nil,.nil,.lit (.string [])],.lit (.string [])],[],[]):=by kernel_rfl
theorem Kv(hc:qU)(os:Os)(started:os.Started)(H:Type)(enc:TypeId×Value→H)(F:Stop.Interp):
  ReturnsInHanded {} Tryz.checked os 9 .any ((OpenSpec.ofChange Rows.unionLogsSpec).preRow enc Tryz.prog Tryz.f9 Rows.unionLogsRow.domain false Rows.unionLogsRow.laid) (((OpenSpec.ofChange Rows.unionLogsSpec).at F).post enc Tryz.prog Tryz.f9 false true false false):=by
 refine returnsInHanded_of_row (C:=Tryz.checked) (s:=OpenSpec.ofChange Rows.unionLogsSpec) own started (by kernel_rfl) Tryz.func9
  (witness_row_at (enc:=enc) (C:=Tryz.checked) false (nc os) #[.agg #[.int .i64 0,.string ⟨#[]⟩,.slice none 0 0,.slice none 0 0,.string ⟨#[]⟩],.string ⟨#[]⟩] rfl (by kernel_rfl) (by kernel_rfl) (by kernel_rfl)
   (OpenSpec.preRow_of_cond 8 (N7 os enc) (by kernel_rfl) (fun k hk=>by cases hk) (by kernel_rfl) (Ej os _))) ?_
 intro W base args ds gs before hval hW _ _ hw hm _ _;exact hc H enc W args ds gs before (fun j t v ht hv=>hval j t v ht hv) hW hm hw
theorem jName:Tryz.pinned.checked.prog.funcNamed Rows.unionLogsRow.func=some 9:=by kernel_rfl
theorem QB:Tryz.pinned.checked.prog.inPlace 9=Rows.unionLogsRow.inPlace:=by kernel_rfl
theorem QC:Tryz.pinned.checked.prog.unfollowed 9=Rows.unionLogsRow.unfollowed:=by kernel_rfl
theorem QD:Tryz.pinned.checked.prog.recurses 9=Rows.unionLogsRow.recurses:=by kernel_rfl
theorem QE:Tryz.pinned.checked.prog.varsNamed 9=Rows.unionLogsRow.named:=by kernel_rfl
theorem jAll:joinedFacts Tryz.pinned.checked.prog 9 Tryz.f9 (OpenSpec.ofChange Rows.unionLogsSpec).bare Rows.unionLogsRow=true:=by
 unfold joinedFacts;rw[QB,QC,QD,QE]
 kernel_rfl
theorem N8:Tryz.f9.isInstance Tryz.pinned.checked.prog Rows.unionLogsRow.origin Rows.unionLogsRow.targs:=of_decide_eq_true (by kernel_rfl)
theorem Oa:Tryz.f9.isWrapper Tryz.pinned.checked.prog Rows.unionLogsRow.wrapper Rows.unionLogsRow.mainSum:=by unfold Func.isWrapper;first|(rw[if_pos (by decide+kernel)];kernel_rfl)|(rw[if_neg (by decide+kernel)];exact⟨rfl,rfl⟩)
theorem PP(hc:qU):Rows.UnionLogsSaid:=
 OpenClaim.holds_of_cond 9 Tryz.f9 rfl rfl rfl rfl rfl rfl rfl ⟨rfl,rfl,rfl,rfl,rfl⟩ rfl rfl rfl rfl rfl jName Tryz.func9 jAll N8 Oa
  (fun os started H enc _ F=>by rw[OpenClaim.pre_eq_preRow];exact Kv hc os started H enc F)
theorem plain(f:FuncId)(fn:Func)(hf:Tryz.pinned.checked.prog.funcNamed Rows.unionLogsRow.func=some f)(hfn:Tryz.pinned.checked.prog.funcs[f]?=some fn):
  true=Tryz.pinned.checked.prog.looks []∧∀(j:Nat) t,fn.params[j]?=some t→Tryz.pinned.checked.prog.wantsStandIn t=false:=by
 obtain rfl:f=9:=Option.some.inj (jName.symm.trans hf)|>.symm;obtain rfl:fn=Tryz.f9:=(Option.some.inj (Tryz.func9.symm.trans hfn)).symm;refine⟨Jv,fun j t ht=> ?_⟩;have hall:Tryz.f9.params.toList.all (fun t=> !Tryz.prog.wantsStandIn t)=true:=by kernel_rfl
 have:=zd7.1 hall t (by simpa using Array.mem_of_getElem? ht);exact(by simpa using this:Tryz.prog.wantsStandIn t=false)
theorem Oc:Rows.unionLogsRow.wfByText (OpenSpec.ofChange Rows.unionLogsSpec)=true:=by kernel_rfl
theorem Od:false=Rows.unionLogsRow.goesBy Tryz.pinned.checked.prog:=by kernel_rfl
theorem Oe(hc:qU):Rows.UnionLogsCardSaid:=
 Claim7.holds_tied_plain_at .later [] _ _ _ _ (PP hc) (fun _ h=>by cases h) Oc (fun _ h=>by cases h) unionLogs_row_tie rfl ⟨rfl,rfl⟩ MH rfl plain Od
end Go.Proofs.YtjhoaknnmfifgaaGreatDoor.unionLogs
end
