import Derived.Test.YtjhoaknnmfifgaaGreatDoorUnK
section
namespace Go.Proofs.YtjhoaknnmfifgaaGreatDoor.unionFollowers
set_option maxRecDepth 100000
open Go Go.Pd Go.ChangeShapes Go.WideShapes Go.ChangeAt Go.RowKit
theorem By:("internal/strconv.uint64pow10",Rows.laid_internal_strconv_uint64pow10)∈Rows.unionFollowersRow.laid∧("math/bits.deBruijn64tab",Rows.laid_math_bits_deBruijn64tab)∈Rows.unionFollowersRow.laid:=⟨List.mem_iff_getElem?.2 ⟨2,rfl⟩,List.mem_iff_getElem?.2 ⟨1,rfl⟩⟩
theorem Bz(os:Os)(args:Array Value):laidMet Tryz.prog Rows.unionFollowersRow.laid ((mo os).forCall (fun _ _=>0) ⟨#[],args,[]⟩).memory:=
 laidMet_of_run' 8 (by kernel_rfl) (by kernel_rfl)
def pF:Prop:=∀(H:Type) (enc:TypeId×Value→H) (W:World) (args:Array Value) (ds gs:List (DataW H)) (before:List MemPlace)
  (_:∀(j:Nat) t v,Tryz.f11.params[j]?=some t→args[j]?=some v→Value.okWide Tryz.prog W .any 0 t v)
  (_:DataW.Whole enc Tryz.prog Tryz.f11.params.toList Rows.unionFollowersSpec.vars false W args.toList ds gs before) (_:laidMet Tryz.prog Rows.unionFollowersRow.laid W)
  (_:(DataW.weightsEach Tryz.prog (Tryz.f11.params.toList++(OpenSpec.ofChange Rows.unionFollowersSpec).bare.plain.varTypes Tryz.prog) (ds++gs)).all (· ≤reachBytes)=true),
  Calls Tryz.prog 11 args W fun e W'=>∃v,e= .returned v∧Rows.unionFollowersSpec.post enc Tryz.prog Tryz.f11 false true false false W args v W'
theorem IR(os:Os){H:Type}(enc:TypeId×Value→H):DataW.whole enc Tryz.prog ((mo os).forCall (fun _ _=>0) ⟨#[],#[.agg #[.slice none 0 0],.agg #[.slice none 0 0],.agg #[.string ⟨#[]⟩,.int .i64 0,.string ⟨#[]⟩,.int .i64 0,.int .i64 0,.string ⟨#[]⟩]],[]⟩).memory Tryz.f11.params.toList Rows.unionFollowersSpec.vars false (#[.agg #[.slice none 0 0],.agg #[.slice none 0 0],.agg #[.string ⟨#[]⟩,.int .i64 0,.string ⟨#[]⟩,.int .i64 0,.int .i64 0,.string ⟨#[]⟩]]:Array Value).toList 8=some ([.agg [.nil],.agg [.nil],.agg [.lit (.string []),.lit (.int .i64 0),.lit (.string []),.lit (.int .i64 0),.agg [.lit (.int .i64 0),.lit (.string [])]]],[],[]):=by kernel_rfl
theorem FS(hc:pF)(os:Os)(started:os.Started)(H:Type)(enc:TypeId×Value→H)(F:Stop.Interp):
  ReturnsInHanded {} Tryz.checked os 11 .any ((OpenSpec.ofChange Rows.unionFollowersSpec).preRow enc Tryz.prog Tryz.f11 Rows.unionFollowersRow.domain false Rows.unionFollowersRow.laid) (((OpenSpec.ofChange Rows.unionFollowersSpec).at F).post enc Tryz.prog Tryz.f11 false true false false):=by
 refine returnsInHanded_of_row (C:=Tryz.checked) (s:=OpenSpec.ofChange Rows.unionFollowersSpec) own started (by kernel_rfl) Tryz.func11
  (witness_row_at (enc:=enc) (C:=Tryz.checked) false (mo os) #[.agg #[.slice none 0 0],.agg #[.slice none 0 0],.agg #[.string ⟨#[]⟩,.int .i64 0,.string ⟨#[]⟩,.int .i64 0,.int .i64 0,.string ⟨#[]⟩]] rfl (by kernel_rfl) (by kernel_rfl) (by kernel_rfl)
   (OpenSpec.preRow_of_cond 8 (IR os enc) (by kernel_rfl) (fun k hk=>by cases hk) (by kernel_rfl) (Bz os _))) ?_
 intro W base args ds gs before hval hW _ _ hw hm _ _;exact hc H enc W args ds gs before (fun j t v ht hv=>hval j t v ht hv) hW hm hw
theorem jName:Tryz.pinned.checked.prog.funcNamed Rows.unionFollowersRow.func=some 11:=by kernel_rfl
theorem Lb:Tryz.pinned.checked.prog.inPlace 11=Rows.unionFollowersRow.inPlace:=by kernel_rfl
theorem Lc:Tryz.pinned.checked.prog.unfollowed 11=Rows.unionFollowersRow.unfollowed:=by kernel_rfl
theorem Ld:Tryz.pinned.checked.prog.recurses 11=Rows.unionFollowersRow.recurses:=by kernel_rfl
theorem Le:Tryz.pinned.checked.prog.varsNamed 11=Rows.unionFollowersRow.named:=by kernel_rfl
theorem jAll:joinedFacts Tryz.pinned.checked.prog 11 Tryz.f11 (OpenSpec.ofChange Rows.unionFollowersSpec).bare Rows.unionFollowersRow=true:=by
 unfold joinedFacts;rw[Lb,Lc,Ld,Le]
 kernel_rfl
theorem IS:Tryz.f11.isInstance Tryz.pinned.checked.prog Rows.unionFollowersRow.origin Rows.unionFollowersRow.targs:=of_decide_eq_true (by kernel_rfl)
theorem IT:Tryz.f11.isWrapper Tryz.pinned.checked.prog Rows.unionFollowersRow.wrapper Rows.unionFollowersRow.mainSum:=by unfold Func.isWrapper;first|(rw[if_pos (by decide+kernel)];kernel_rfl)|(rw[if_neg (by decide+kernel)];exact⟨rfl,rfl⟩)
theorem Kz(hc:pF):Rows.UnionFollowersSaid:=
 OpenClaim.holds_of_cond 11 Tryz.f11 rfl rfl rfl rfl rfl rfl rfl ⟨rfl,rfl,rfl,rfl,rfl⟩ rfl rfl rfl rfl rfl jName Tryz.func11 jAll IS IT
  (fun os started H enc _ F=>by rw[OpenClaim.pre_eq_preRow];exact FS hc os started H enc F)
theorem plain(f:FuncId)(fn:Func)(hf:Tryz.pinned.checked.prog.funcNamed Rows.unionFollowersRow.func=some f)(hfn:Tryz.pinned.checked.prog.funcs[f]?=some fn):
  true=Tryz.pinned.checked.prog.looks []∧∀(j:Nat) t,fn.params[j]?=some t→Tryz.pinned.checked.prog.wantsStandIn t=false:=by
 obtain rfl:f=11:=Option.some.inj (jName.symm.trans hf)|>.symm;obtain rfl:fn=Tryz.f11:=(Option.some.inj (Tryz.func11.symm.trans hfn)).symm;refine⟨Fm,fun j t ht=> ?_⟩;have hall:Tryz.f11.params.toList.all (fun t=> !Tryz.prog.wantsStandIn t)=true:=by kernel_rfl
 have:=zd3.1 hall t (by simpa using Array.mem_of_getElem? ht);exact(by simpa using this:Tryz.prog.wantsStandIn t=false)
theorem IU:Rows.unionFollowersRow.wfByText (OpenSpec.ofChange Rows.unionFollowersSpec)=true:=by kernel_rfl
theorem IV:false=Rows.unionFollowersRow.goesBy Tryz.pinned.checked.prog:=by kernel_rfl
theorem IW(hc:pF):Rows.UnionFollowersCardSaid:=
 Claim7.holds_tied_plain_at .later [] _ _ _ _ (Kz hc) (fun _ h=>by cases h) IU (fun _ h=>by cases h) unionFollowers_row_tie rfl ⟨rfl,rfl⟩ Ij rfl plain IV
end Go.Proofs.YtjhoaknnmfifgaaGreatDoor.unionFollowers
end
