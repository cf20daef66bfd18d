import Derived.Test.YtjhoaknnmfifgaaGreatDoorUnK
section
namespace Go.Proofs.YtjhoaknnmfifgaaGreatDoor.unionArrives
set_option maxRecDepth 100000
open Go Go.Pd Go.ChangeShapes Go.WideShapes Go.ChangeAt Go.RowKit
theorem BV:("internal/strconv.uint64pow10",Rows.laid_internal_strconv_uint64pow10)∈Rows.unionArrivesRow.laid∧("math/bits.deBruijn64tab",Rows.laid_math_bits_deBruijn64tab)∈Rows.unionArrivesRow.laid:=⟨List.mem_iff_getElem?.2 ⟨2,rfl⟩,List.mem_iff_getElem?.2 ⟨1,rfl⟩⟩
theorem BW(os:Os)(args:Array Value):laidMet Tryz.prog Rows.unionArrivesRow.laid ((mw os).forCall (fun _ _=>0) ⟨#[],args,[]⟩).memory:=
 laidMet_of_run' 8 (by kernel_rfl) (by kernel_rfl)
def pD:Prop:=∀(H:Type) (enc:TypeId×Value→H) (W:World) (args:Array Value) (ds gs:List (DataW H)) (before:List MemPlace)
  (_:∀(j:Nat) t v,Tryz.f12.params[j]?=some t→args[j]?=some v→Value.okWide Tryz.prog W .any 0 t v)
  (_:DataW.Whole enc Tryz.prog Tryz.f12.params.toList Rows.unionArrivesSpec.vars false W args.toList ds gs before) (_:laidMet Tryz.prog Rows.unionArrivesRow.laid W)
  (_:(DataW.weightsEach Tryz.prog (Tryz.f12.params.toList++(OpenSpec.ofChange Rows.unionArrivesSpec).bare.plain.varTypes Tryz.prog) (ds++gs)).all (· ≤reachBytes)=true),
  Calls Tryz.prog 12 args W fun e W'=>∃v,e= .returned v∧Rows.unionArrivesSpec.post enc Tryz.prog Tryz.f12 false true false false W args v W'
theorem JK(os:Os){H:Type}(enc:TypeId×Value→H):DataW.whole enc Tryz.prog ((mw os).forCall (fun _ _=>0) ⟨#[],#[.slice none 0 0,.slice none 0 0,.agg #[.int .u8 0,.int .u8 0]],[]⟩).memory Tryz.f12.params.toList Rows.unionArrivesSpec.vars false (#[.slice none 0 0,.slice none 0 0,.agg #[.int .u8 0,.int .u8 0]]:Array Value).toList 8=some ([.nil,.nil,.agg [.lit (.int .u8 0),.lit (.int .u8 0)]],[],[]):=by kernel_rfl
theorem GE(hc:pD)(os:Os)(started:os.Started)(H:Type)(enc:TypeId×Value→H)(F:Stop.Interp):
  ReturnsInHanded {} Tryz.checked os 12 .any ((OpenSpec.ofChange Rows.unionArrivesSpec).preRow enc Tryz.prog Tryz.f12 Rows.unionArrivesRow.domain false Rows.unionArrivesRow.laid) (((OpenSpec.ofChange Rows.unionArrivesSpec).at F).post enc Tryz.prog Tryz.f12 false true false false):=by
 refine returnsInHanded_of_row (C:=Tryz.checked) (s:=OpenSpec.ofChange Rows.unionArrivesSpec) own started (by kernel_rfl) Tryz.func12
  (witness_row_at (enc:=enc) (C:=Tryz.checked) false (mw os) #[.slice none 0 0,.slice none 0 0,.agg #[.int .u8 0,.int .u8 0]] rfl (by kernel_rfl) (by kernel_rfl) (by kernel_rfl)
   (OpenSpec.preRow_of_cond 8 (JK os enc) (by kernel_rfl) (fun k hk=>by cases hk) (by kernel_rfl) (BW os _))) ?_
 intro W base args ds gs before hval hW _ _ hw hm _ _;exact hc H enc W args ds gs before (fun j t v ht hv=>hval j t v ht hv) hW hm hw
theorem jName:Tryz.pinned.checked.prog.funcNamed Rows.unionArrivesRow.func=some 12:=by kernel_rfl
theorem LO:Tryz.pinned.checked.prog.inPlace 12=Rows.unionArrivesRow.inPlace:=by kernel_rfl
theorem LP:Tryz.pinned.checked.prog.unfollowed 12=Rows.unionArrivesRow.unfollowed:=by kernel_rfl
theorem LQ:Tryz.pinned.checked.prog.recurses 12=Rows.unionArrivesRow.recurses:=by kernel_rfl
theorem LR:Tryz.pinned.checked.prog.varsNamed 12=Rows.unionArrivesRow.named:=by kernel_rfl
theorem jAll:joinedFacts Tryz.pinned.checked.prog 12 Tryz.f12 (OpenSpec.ofChange Rows.unionArrivesSpec).bare Rows.unionArrivesRow=true:=by
 unfold joinedFacts;rw[LO,LP,LQ,LR]
 kernel_rfl
theorem JL:Tryz.f12.isInstance Tryz.pinned.checked.prog Rows.unionArrivesRow.origin Rows.unionArrivesRow.targs:=of_decide_eq_true (by kernel_rfl)
theorem JM:Tryz.f12.isWrapper Tryz.pinned.checked.prog Rows.unionArrivesRow.wrapper Rows.unionArrivesRow.mainSum:=by unfold Func.isWrapper;first|(rw[if_pos (by decide+kernel)];kernel_rfl)|(rw[if_neg (by decide+kernel)];exact⟨rfl,rfl⟩)
theorem La(hc:pD):Rows.UnionArrivesSaid:=
 OpenClaim.holds_of_cond 12 Tryz.f12 rfl rfl rfl rfl rfl rfl rfl ⟨rfl,rfl,rfl,rfl,rfl⟩ rfl rfl rfl rfl rfl jName Tryz.func12 jAll JL JM
  (fun os started H enc _ F=>by rw[OpenClaim.pre_eq_preRow];exact GE hc os started H enc F)
theorem plain(f:FuncId)(fn:Func)(hf:Tryz.pinned.checked.prog.funcNamed Rows.unionArrivesRow.func=some f)(hfn:Tryz.pinned.checked.prog.funcs[f]?=some fn):
  true=Tryz.pinned.checked.prog.looks []∧∀(j:Nat) t,fn.params[j]?=some t→Tryz.pinned.checked.prog.wantsStandIn t=false:=by
 obtain rfl:f=12:=Option.some.inj (jName.symm.trans hf)|>.symm;obtain rfl:fn=Tryz.f12:=(Option.some.inj (Tryz.func12.symm.trans hfn)).symm;refine⟨F7,fun j t ht=> ?_⟩;have hall:Tryz.f12.params.toList.all (fun t=> !Tryz.prog.wantsStandIn t)=true:=by kernel_rfl
 have:=zd4.1 hall t (by simpa using Array.mem_of_getElem? ht);exact(by simpa using this:Tryz.prog.wantsStandIn t=false)
theorem JN:Rows.unionArrivesRow.wfByText (OpenSpec.ofChange Rows.unionArrivesSpec)=true:=by kernel_rfl
theorem JO:false=Rows.unionArrivesRow.goesBy Tryz.pinned.checked.prog:=by kernel_rfl
theorem JP(hc:pD):Rows.UnionArrivesCardSaid:=
 Claim7.holds_tied_plain_at .later [] _ _ _ _ (La hc) (fun _ h=>by cases h) JN (fun _ h=>by cases h) unionArrives_row_tie rfl ⟨rfl,rfl⟩ I8 rfl plain JO
end Go.Proofs.YtjhoaknnmfifgaaGreatDoor.unionArrives
end
