import Derived.Test.YtjhoaknnmfifgaaGreatDoorUnK
section
namespace Go.Proofs.YtjhoaknnmfifgaaGreatDoor.unionCards
set_option maxRecDepth 100000
open Go Go.Pd Go.ChangeShapes Go.WideShapes Go.ChangeAt Go.RowKit
theorem Cw:("internal/strconv.uint64pow10",Rows.laid_internal_strconv_uint64pow10)∈Rows.unionCardsRow.laid∧("math/bits.deBruijn64tab",Rows.laid_math_bits_deBruijn64tab)∈Rows.unionCardsRow.laid:=⟨List.mem_iff_getElem?.2 ⟨2,rfl⟩,List.mem_iff_getElem?.2 ⟨1,rfl⟩⟩
theorem Cx(os:Os)(args:Array Value):laidMet Tryz.prog Rows.unionCardsRow.laid ((nG os).forCall (fun _ _=>0) ⟨#[],args,[]⟩).memory:=
 laidMet_of_run' 8 (by kernel_rfl) (by kernel_rfl)
def qT:Prop:=∀(H:Type) (enc:TypeId×Value→H) (W:World) (args:Array Value) (ds gs:List (DataW H)) (before:List MemPlace)
  (_:∀(j:Nat) t v,Tryz.f3.params[j]?=some t→args[j]?=some v→Value.okWide Tryz.prog W .any 0 t v)
  (_:DataW.Whole enc Tryz.prog Tryz.f3.params.toList Rows.unionCardsSpec.vars false W args.toList ds gs before) (_:laidMet Tryz.prog Rows.unionCardsRow.laid W)
  (_:(DataW.weightsEach Tryz.prog (Tryz.f3.params.toList++(OpenSpec.ofChange Rows.unionCardsSpec).bare.plain.varTypes Tryz.prog) (ds++gs)).all (· ≤reachBytes)=true),
  Calls Tryz.prog 3 args W fun e W'=>∃v,e= .returned v∧Rows.unionCardsSpec.post enc Tryz.prog Tryz.f3 false true false false W args v W'
theorem Lf(os:Os){H:Type}(enc:TypeId×Value→H):DataW.whole enc Tryz.prog ((nG os).forCall (fun _ _=>0) ⟨#[],#[.agg #[.slice none 0 0,.slice none 0 0,.slice none 0 0,.slice none 0 0,.slice none 0 0,.slice none 0 0],.string ⟨#[]⟩],[]⟩).memory Tryz.f3.params.toList Rows.unionCardsSpec.vars false (#[.agg #[.slice none 0 0,.slice none 0 0,.slice none 0 0,.slice none 0 0,.slice none 0 0,.slice none 0 0],.string ⟨#[]⟩]:Array Value).toList 8=some ([.agg [.nil,.nil,.nil,.nil,.nil,.nil],.lit (.string [])],[],[]):=by kernel_rfl
theorem HM(hc:qT)(os:Os)(started:os.Started)(H:Type)(enc:TypeId×Value→H)(F:Stop.Interp):
  ReturnsInHanded {} Tryz.checked os 3 .any ((OpenSpec.ofChange Rows.unionCardsSpec).preRow enc Tryz.prog Tryz.f3 Rows.unionCardsRow.domain false Rows.unionCardsRow.laid) (((OpenSpec.ofChange Rows.unionCardsSpec).at F).post enc Tryz.prog Tryz.f3 false true false false):=by
 refine returnsInHanded_of_row (C:=Tryz.checked) (s:=OpenSpec.ofChange Rows.unionCardsSpec) own started (by kernel_rfl) Tryz.func3
  (witness_row_at (enc:=enc) (C:=Tryz.checked) false (nG os) #[.agg #[.slice none 0 0,.slice none 0 0,.slice none 0 0,.slice none 0 0,.slice none 0 0,.slice none 0 0],.string ⟨#[]⟩] rfl (by kernel_rfl) (by kernel_rfl) (by kernel_rfl)
   (OpenSpec.preRow_of_cond 8 (Lf os enc) (by kernel_rfl) (fun k hk=>by cases hk) (by kernel_rfl) (Cx os _))) ?_
 intro W base args ds gs before hval hW _ _ hw hm _ _;exact hc H enc W args ds gs before (fun j t v ht hv=>hval j t v ht hv) hW hm hw
theorem jName:Tryz.pinned.checked.prog.funcNamed Rows.unionCardsRow.func=some 3:=by kernel_rfl
theorem ND:Tryz.pinned.checked.prog.inPlace 3=Rows.unionCardsRow.inPlace:=by kernel_rfl
theorem NE:Tryz.pinned.checked.prog.unfollowed 3=Rows.unionCardsRow.unfollowed:=by kernel_rfl
theorem NF:Tryz.pinned.checked.prog.recurses 3=Rows.unionCardsRow.recurses:=by kernel_rfl
theorem NG:Tryz.pinned.checked.prog.varsNamed 3=Rows.unionCardsRow.named:=by kernel_rfl
theorem jAll:joinedFacts Tryz.pinned.checked.prog 3 Tryz.f3 (OpenSpec.ofChange Rows.unionCardsSpec).bare Rows.unionCardsRow=true:=by
 unfold joinedFacts;rw[ND,NE,NF,NG]
 kernel_rfl
theorem Lg:Tryz.f3.isInstance Tryz.pinned.checked.prog Rows.unionCardsRow.origin Rows.unionCardsRow.targs:=of_decide_eq_true (by kernel_rfl)
theorem Lh:Tryz.f3.isWrapper Tryz.pinned.checked.prog Rows.unionCardsRow.wrapper Rows.unionCardsRow.mainSum:=by unfold Func.isWrapper;first|(rw[if_pos (by decide+kernel)];kernel_rfl)|(rw[if_neg (by decide+kernel)];exact⟨rfl,rfl⟩)
theorem M5(hc:qT):Rows.UnionCardsSaid:=
 OpenClaim.holds_of_cond 3 Tryz.f3 rfl rfl rfl rfl rfl rfl rfl ⟨rfl,rfl,rfl,rfl,rfl⟩ rfl rfl rfl rfl rfl jName Tryz.func3 jAll Lg Lh
  (fun os started H enc _ F=>by rw[OpenClaim.pre_eq_preRow];exact HM hc os started H enc F)
theorem plain(f:FuncId)(fn:Func)(hf:Tryz.pinned.checked.prog.funcNamed Rows.unionCardsRow.func=some f)(hfn:Tryz.pinned.checked.prog.funcs[f]?=some fn):
  true=Tryz.pinned.checked.prog.looks []∧∀(j:Nat) t,fn.params[j]?=some t→Tryz.pinned.checked.prog.wantsStandIn t=false:=by
 obtain rfl:f=3:=Option.some.inj (jName.symm.trans hf)|>.symm;obtain rfl:fn=Tryz.f3:=(Option.some.inj (Tryz.func3.symm.trans hfn)).symm;refine⟨HL,fun j t ht=> ?_⟩;have hall:Tryz.f3.params.toList.all (fun t=> !Tryz.prog.wantsStandIn t)=true:=by kernel_rfl
 have:=zd1.1 hall t (by simpa using Array.mem_of_getElem? ht);exact(by simpa using this:Tryz.prog.wantsStandIn t=false)
theorem Li:Rows.unionCardsRow.wfByText (OpenSpec.ofChange Rows.unionCardsSpec)=true:=by kernel_rfl
theorem Lj:false=Rows.unionCardsRow.goesBy Tryz.pinned.checked.prog:=by kernel_rfl
theorem Lk(hc:qT):Rows.UnionCardsCardSaid:=
 Claim7.holds_tied_plain_at .later [] _ _ _ _ (M5 hc) (fun _ h=>by cases h) Li (fun _ h=>by cases h) unionCards_row_tie rfl ⟨rfl,rfl⟩ Ld rfl plain Lj
end Go.Proofs.YtjhoaknnmfifgaaGreatDoor.unionCards
end
