import Derived.Test.YtjhoaknnmfifgaaGreatDoorUnK
section
namespace Go.Proofs.YtjhoaknnmfifgaaGreatDoor.unionSigns
set_option maxRecDepth 100000
open Go Go.Pd Go.ChangeShapes Go.WideShapes Go.ChangeAt Go.RowKit
theorem C0:("internal/strconv.uint64pow10",Rows.laid_internal_strconv_uint64pow10)∈Rows.unionSignsRow.laid∧("math/bits.deBruijn64tab",Rows.laid_math_bits_deBruijn64tab)∈Rows.unionSignsRow.laid:=⟨List.mem_iff_getElem?.2 ⟨2,rfl⟩,List.mem_iff_getElem?.2 ⟨1,rfl⟩⟩
theorem C2(os:Os)(args:Array Value):laidMet Tryz.prog Rows.unionSignsRow.laid ((nV os).forCall (fun _ _=>0) ⟨#[],args,[]⟩).memory:=
 laidMet_of_run' 8 (by kernel_rfl) (by kernel_rfl)
def rp:Prop:=∀(H:Type) (enc:TypeId×Value→H) (W:World) (args:Array Value) (ds gs:List (DataW H)) (before:List MemPlace)
  (_:∀(j:Nat) t v,Tryz.f5.params[j]?=some t→args[j]?=some v→Value.okWide Tryz.prog W .any 0 t v)
  (_:DataW.Whole enc Tryz.prog Tryz.f5.params.toList Rows.unionSignsSpec.vars false W args.toList ds gs before) (_:laidMet Tryz.prog Rows.unionSignsRow.laid W)
  (_:(DataW.weightsEach Tryz.prog (Tryz.f5.params.toList++(OpenSpec.ofChange Rows.unionSignsSpec).bare.plain.varTypes Tryz.prog) (ds++gs)).all (· ≤reachBytes)=true),
  Calls Tryz.prog 5 args W fun e W'=>∃v,e= .returned v∧Rows.unionSignsSpec.post enc Tryz.prog Tryz.f5 false true false false W args v W'
theorem LJ(os:Os){H:Type}(enc:TypeId×Value→H):DataW.whole enc Tryz.prog ((nV os).forCall (fun _ _=>0) ⟨#[],#[.agg #[.slice none 0 0,.slice none 0 0,.slice none 0 0,.slice none 0 0,.slice none 0 0,.slice none 0 0],.int .u8 0],[]⟩).memory Tryz.f5.params.toList Rows.unionSignsSpec.vars false (#[.agg #[.slice none 0 0,.slice none 0 0,.slice none 0 0,.slice none 0 0,.slice none 0 0,.slice none 0 0],.int .u8 0]:Array Value).toList 8=some ([.agg [.nil,.nil,.nil,.nil,.nil,.nil],.lit (.int .u8 0)],[],[]):=by kernel_rfl
theorem Is(hc:rp)(os:Os)(started:os.Started)(H:Type)(enc:TypeId×Value→H)(F:Stop.Interp):
  ReturnsInHanded {} Tryz.checked os 5 .any ((OpenSpec.ofChange Rows.unionSignsSpec).preRow enc Tryz.prog Tryz.f5 Rows.unionSignsRow.domain false Rows.unionSignsRow.laid) (((OpenSpec.ofChange Rows.unionSignsSpec).at F).post enc Tryz.prog Tryz.f5 false true false false):=by
 refine returnsInHanded_of_row (C:=Tryz.checked) (s:=OpenSpec.ofChange Rows.unionSignsSpec) own started (by kernel_rfl) Tryz.func5
  (witness_row_at (enc:=enc) (C:=Tryz.checked) false (nV os) #[.agg #[.slice none 0 0,.slice none 0 0,.slice none 0 0,.slice none 0 0,.slice none 0 0,.slice none 0 0],.int .u8 0] rfl (by kernel_rfl) (by kernel_rfl) (by kernel_rfl)
   (OpenSpec.preRow_of_cond 8 (LJ os enc) (by kernel_rfl) (fun k hk=>by cases hk) (by kernel_rfl) (C2 os _))) ?_
 intro W base args ds gs before hval hW _ _ hw hm _ _;exact hc H enc W args ds gs before (fun j t v ht hv=>hval j t v ht hv) hW hm hw
theorem jName:Tryz.pinned.checked.prog.funcNamed Rows.unionSignsRow.func=some 5:=by kernel_rfl
theorem NY:Tryz.pinned.checked.prog.inPlace 5=Rows.unionSignsRow.inPlace:=by kernel_rfl
theorem NZ:Tryz.pinned.checked.prog.unfollowed 5=Rows.unionSignsRow.unfollowed:=by kernel_rfl
theorem N1:Tryz.pinned.checked.prog.recurses 5=Rows.unionSignsRow.recurses:=by kernel_rfl
theorem N2:Tryz.pinned.checked.prog.varsNamed 5=Rows.unionSignsRow.named:=by kernel_rfl
theorem jAll:joinedFacts Tryz.pinned.checked.prog 5 Tryz.f5 (OpenSpec.ofChange Rows.unionSignsSpec).bare Rows.unionSignsRow=true:=by
 unfold joinedFacts;rw[NY,NZ,N1,N2]
 kernel_rfl
theorem LK:Tryz.f5.isInstance Tryz.pinned.checked.prog Rows.unionSignsRow.origin Rows.unionSignsRow.targs:=of_decide_eq_true (by kernel_rfl)
theorem LM:Tryz.f5.isWrapper Tryz.pinned.checked.prog Rows.unionSignsRow.wrapper Rows.unionSignsRow.mainSum:=by unfold Func.isWrapper;first|(rw[if_pos (by decide+kernel)];kernel_rfl)|(rw[if_neg (by decide+kernel)];exact⟨rfl,rfl⟩)
theorem Ns(hc:rp):Rows.UnionSignsSaid:=
 OpenClaim.holds_of_cond 5 Tryz.f5 rfl rfl rfl rfl rfl rfl rfl ⟨rfl,rfl,rfl,rfl,rfl⟩ rfl rfl rfl rfl rfl jName Tryz.func5 jAll LK LM
  (fun os started H enc _ F=>by rw[OpenClaim.pre_eq_preRow];exact Is hc os started H enc F)
theorem plain(f:FuncId)(fn:Func)(hf:Tryz.pinned.checked.prog.funcNamed Rows.unionSignsRow.func=some f)(hfn:Tryz.pinned.checked.prog.funcs[f]?=some fn):
  true=Tryz.pinned.checked.prog.looks []∧∀(j:Nat) t,fn.params[j]?=some t→Tryz.pinned.checked.prog.wantsStandIn t=false:=by
 obtain rfl:f=5:=Option.some.inj (jName.symm.trans hf)|>.symm;obtain rfl:fn=Tryz.f5:=(Option.some.inj (Tryz.func5.symm.trans hfn)).symm;refine⟨Iq,fun j t ht=> ?_⟩;have hall:Tryz.f5.params.toList.all (fun t=> !Tryz.prog.wantsStandIn t)=true:=by kernel_rfl
 have:=zd1.1 hall t (by simpa using Array.mem_of_getElem? ht);exact(by simpa using this:Tryz.prog.wantsStandIn t=false)
theorem LN:Rows.unionSignsRow.wfByText (OpenSpec.ofChange Rows.unionSignsSpec)=true:=by kernel_rfl
theorem LO:false=Rows.unionSignsRow.goesBy Tryz.pinned.checked.prog:=by kernel_rfl
theorem LP(hc:rp):Rows.UnionSignsCardSaid:=
 Claim7.holds_tied_plain_at .later [] _ _ _ _ (Ns hc) (fun _ h=>by cases h) LN (fun _ h=>by cases h) unionSigns_row_tie rfl ⟨rfl,rfl⟩ LE rfl plain LO
end Go.Proofs.YtjhoaknnmfifgaaGreatDoor.unionSigns
end
