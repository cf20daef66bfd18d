import Derived.Test.YtjhoaknnmfifgaaGreatDoorUnK
section
namespace Go.Proofs.YtjhoaknnmfifgaaGreatDoor.unionOrdered
set_option maxRecDepth 100000
open Go Go.Pd Go.ChangeShapes Go.WideShapes Go.ChangeAt Go.RowKit
theorem EJ:("internal/strconv.uint64pow10",Rows.laid_internal_strconv_uint64pow10)∈Rows.unionOrderedRow.laid∧("math/bits.deBruijn64tab",Rows.laid_math_bits_deBruijn64tab)∈Rows.unionOrderedRow.laid:=⟨List.mem_iff_getElem?.2 ⟨2,rfl⟩,List.mem_iff_getElem?.2 ⟨1,rfl⟩⟩
theorem EK(os:Os)(args:Array Value):laidMet Tryz.prog Rows.unionOrderedRow.laid ((oK os).forCall (fun _ _=>0) ⟨#[],args,[]⟩).memory:=
 laidMet_of_run' 8 (by kernel_rfl) (by kernel_rfl)
def sA:Prop:=∀(H:Type) (enc:TypeId×Value→H) (W:World) (args:Array Value) (ds gs:List (DataW H)) (before:List MemPlace)
  (_:∀(j:Nat) t v,Tryz.f6.params[j]?=some t→args[j]?=some v→Value.okWide Tryz.prog W .any 0 t v)
  (_:DataW.Whole enc Tryz.prog Tryz.f6.params.toList Rows.unionOrderedSpec.vars false W args.toList ds gs before) (_:laidMet Tryz.prog Rows.unionOrderedRow.laid W)
  (_:(DataW.weightsEach Tryz.prog (Tryz.f6.params.toList++(OpenSpec.ofChange Rows.unionOrderedSpec).bare.plain.varTypes Tryz.prog) (ds++gs)).all (· ≤reachBytes)=true),
  Calls Tryz.prog 6 args W fun e W'=>∃v,e= .returned v∧Rows.unionOrderedSpec.post enc Tryz.prog Tryz.f6 false true false false W args v W'
theorem Oo(os:Os){H:Type}(enc:TypeId×Value→H):DataW.whole enc Tryz.prog ((oK os).forCall (fun _ _=>0) ⟨#[],#[.agg #[.slice none 0 0,.slice none 0 0,.slice none 0 0,.slice none 0 0,.slice none 0 0,.slice none 0 0],.int .u8 0],[]⟩).memory Tryz.f6.params.toList Rows.unionOrderedSpec.vars false (#[.agg #[.slice none 0 0,.slice none 0 0,.slice none 0 0,.slice none 0 0,.slice none 0 0,.slice none 0 0],.int .u8 0]:Array Value).toList 8=some ([.agg [.nil,.nil,.nil,.nil,.nil,.nil],.lit (.int .u8 0)],[],[]):=by kernel_rfl
theorem KT(hc:sA)(os:Os)(started:os.Started)(H:Type)(enc:TypeId×Value→H)(F:Stop.Interp):
  ReturnsInHanded {} Tryz.checked os 6 .any ((OpenSpec.ofChange Rows.unionOrderedSpec).preRow enc Tryz.prog Tryz.f6 Rows.unionOrderedRow.domain false Rows.unionOrderedRow.laid) (((OpenSpec.ofChange Rows.unionOrderedSpec).at F).post enc Tryz.prog Tryz.f6 false true false false):=by
 refine returnsInHanded_of_row (C:=Tryz.checked) (s:=OpenSpec.ofChange Rows.unionOrderedSpec) own started (by kernel_rfl) Tryz.func6
  (witness_row_at (enc:=enc) (C:=Tryz.checked) false (oK os) #[.agg #[.slice none 0 0,.slice none 0 0,.slice none 0 0,.slice none 0 0,.slice none 0 0,.slice none 0 0],.int .u8 0] rfl (by kernel_rfl) (by kernel_rfl) (by kernel_rfl)
   (OpenSpec.preRow_of_cond 8 (Oo os enc) (by kernel_rfl) (fun k hk=>by cases hk) (by kernel_rfl) (EK os _))) ?_
 intro W base args ds gs before hval hW _ _ hw hm _ _;exact hc H enc W args ds gs before (fun j t v ht hv=>hval j t v ht hv) hW hm hw
theorem jName:Tryz.pinned.checked.prog.funcNamed Rows.unionOrderedRow.func=some 6:=by kernel_rfl
theorem QQ:Tryz.pinned.checked.prog.inPlace 6=Rows.unionOrderedRow.inPlace:=by kernel_rfl
theorem QR:Tryz.pinned.checked.prog.unfollowed 6=Rows.unionOrderedRow.unfollowed:=by kernel_rfl
theorem QS:Tryz.pinned.checked.prog.recurses 6=Rows.unionOrderedRow.recurses:=by kernel_rfl
theorem QT:Tryz.pinned.checked.prog.varsNamed 6=Rows.unionOrderedRow.named:=by kernel_rfl
theorem jAll:joinedFacts Tryz.pinned.checked.prog 6 Tryz.f6 (OpenSpec.ofChange Rows.unionOrderedSpec).bare Rows.unionOrderedRow=true:=by
 unfold joinedFacts;rw[QQ,QR,QS,QT]
 kernel_rfl
theorem Oq:Tryz.f6.isInstance Tryz.pinned.checked.prog Rows.unionOrderedRow.origin Rows.unionOrderedRow.targs:=of_decide_eq_true (by kernel_rfl)
theorem Or:Tryz.f6.isWrapper Tryz.pinned.checked.prog Rows.unionOrderedRow.wrapper Rows.unionOrderedRow.mainSum:=by unfold Func.isWrapper;first|(rw[if_pos (by decide+kernel)];kernel_rfl)|(rw[if_neg (by decide+kernel)];exact⟨rfl,rfl⟩)
theorem Qg(hc:sA):Rows.UnionOrderedSaid:=
 OpenClaim.holds_of_cond 6 Tryz.f6 rfl rfl rfl rfl rfl rfl rfl ⟨rfl,rfl,rfl,rfl,rfl⟩ rfl rfl rfl rfl rfl jName Tryz.func6 jAll Oq Or
  (fun os started H enc _ F=>by rw[OpenClaim.pre_eq_preRow];exact KT hc os started H enc F)
theorem plain(f:FuncId)(fn:Func)(hf:Tryz.pinned.checked.prog.funcNamed Rows.unionOrderedRow.func=some f)(hfn:Tryz.pinned.checked.prog.funcs[f]?=some fn):
  true=Tryz.pinned.checked.prog.looks []∧∀(j:Nat) t,fn.params[j]?=some t→Tryz.pinned.checked.prog.wantsStandIn t=false:=by
 obtain rfl:f=6:=Option.some.inj (jName.symm.trans hf)|>.symm;obtain rfl:fn=Tryz.f6:=(Option.some.inj (Tryz.func6.symm.trans hfn)).symm;refine⟨Kz,fun j t ht=> ?_⟩;have hall:Tryz.f6.params.toList.all (fun t=> !Tryz.prog.wantsStandIn t)=true:=by kernel_rfl
 have:=zd5.1 hall t (by simpa using Array.mem_of_getElem? ht);exact(by simpa using this:Tryz.prog.wantsStandIn t=false)
theorem Ot:Rows.unionOrderedRow.wfByText (OpenSpec.ofChange Rows.unionOrderedSpec)=true:=by kernel_rfl
theorem Ou:false=Rows.unionOrderedRow.goesBy Tryz.pinned.checked.prog:=by kernel_rfl
theorem Ov(hc:sA):Rows.UnionOrderedCardSaid:=
 Claim7.holds_tied_plain_at .later [] _ _ _ _ (Qg hc) (fun _ h=>by cases h) Ot (fun _ h=>by cases h) unionOrdered_row_tie rfl ⟨rfl,rfl⟩ NU rfl plain Ou
end Go.Proofs.YtjhoaknnmfifgaaGreatDoor.unionOrdered
end
