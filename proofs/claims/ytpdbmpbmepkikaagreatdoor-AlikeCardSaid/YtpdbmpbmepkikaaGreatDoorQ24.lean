/- Alike, for every input: the call returns true on every schedule; nothing that was there is changed. Conditions: the listed variables of the library hold what its text lays. -/
import Derived.LaidSub
import Derived.LaidOnce
import Derived.Test.YtpdbmpbmepkikaaGreatDoorCards
import Derived.Test.YtpdbmpbmepkikaaGreatDoorQ18
import Derived.Test.YtpdbmpbmepkikaaGreatDoorQ23
set_option maxRecDepth 100000
set_option maxHeartbeats 400000
set_option linter.all false
open Go.Proofs.Tryz
open Go.Value renaming int->V
open Option renaming some->U
namespace Go.Proofs.YtpdbmpbmepkikaaGreatDoor.alike
open Go.ChangeShapes Go.WideShapes Go.ChangeAt Go.RowKit Go.Conc
theorem Oa:iQ[4]?=some f4:=(oy (by decide) (by decide)<|by decide).trans func4
theorem body:∃c,f4.body=some c:=⟨_,rfl⟩
theorem OS(H:Type)(enc:TypeId×Value->H)(W:World)(base:Nat)(args:Array Value)(ds gs:List<|DataW H)(before:List MemPlace)(B:∀(j:Nat)t v,f4.params[j]?=some t->args[j]?=some v->Value.okWide prog W .any base t v)(hW:DataW.Whole enc prog f4.params.toList Rows.alikeSpec.vars false W args.toList ds gs before)(hz:(DataW.weightsEach prog (f4.params.toList++(OpenSpec.ofChange Rows.alikeSpec).bare.plain.varTypes prog)<|ds++gs).all (.<=reachBytes)=true)(hL:laidMetH prog Laid W)(mD:W.ShapedOpen prog):∃M last o w' E,runNT prog (M+1) (solo (G (Frame.enter prog 4 args .normal) []) W) #[]=(.ended o w',E)/\runN prog M (solo (G (Frame.enter prog 4 args .normal) []) W)=.next last/\step prog last=.ended o w'/\Conc.Good prog (λv W'=>Rows.alikeSpec.post enc prog f4 false true false false W args v W') last o w' E:=by
 have J:=hW;obtain⟨p,q,Es,hV,rfl,Nt,jX⟩:=hW;have hA:DataW.TrodAll enc prog W 0 (λ_=>true) true f4.params.toList args.toList ds p:=Es;rw[Tryz.params4]at hA B;obtain⟨v0,v1,d0,d1,p0,p1,rfl,rfl,rfl,h0,h1⟩:=trodAll_two hA;obtain⟨rfl,rfl⟩:=trodVars_none hV;clear Es;simp only[List.append_nil]at J;have MY:∀a∈d0.weights prog 22,a<=reachBytes:=λa hn=>by rw[List.all_eq_true]at hz;have:=hz a (by rw[Tryz.params4];exact List.mem_append_left _ hn);simpa using this
 obtain⟨l,hS,hl,kK,hI⟩:=Xp (B 0 22 v0 rfl rfl) h0 MY;obtain⟨i,rfl,hi⟩:=Rj underlying3 h1<|B 1 3 v1 rfl rfl;have lq:∀x∈p0++p1,x.block<W.heap.size:=λx hx=>J.lt x hx;obtain⟨c,hc⟩:=body;obtain⟨N,last,o,w',E,e1,e2,e3,e4⟩:=aaS abx Vf func4 Oa hc (by decide) (by decide) (rest:=#[.int .i64 i]) (by simp[n]) (by decide) λj hj=>by cases j with|zero=>exact absurd hj<|by decide|succ j=>simp hS (E6.of mD) (aaQ hL) (VK hL) λW v hE hT hB hF=>aEf v l i W hE hl kK hI hi hT hB hF;refine⟨N,last,o,w',E,e1,e2,e3,e4.mono λx hx=>?_⟩;obtain⟨rfl,hb⟩:=hx;have A:=hb.below;have k0:=DataW.Trod.of_heap (w:={w' with tape:=W.tape}) (w':=w') rfl<|Below.trod zR Xe Xh h0 A λx hx=>lq x<|List.mem_append_left _ hx;have k1:=DataW.Trod.of_heap (w:={w' with tape:=W.tape}) (w':=w') rfl<|Below.trod zR Rc Re h1 A λx hx=>lq x<|List.mem_append_right _ hx;have kf:=A.frame λp=>p∈p0++p1/\(p∈[]\/p∈p0++p1\/p∈[]);exact⟨_,_,_,[],_,[],J,trodAll_mk1<|shut_bool underlying4 true,trodAll_mk2 k0 k1,rfl,kf,λh=>by cases h⟩
theorem Ln(os:Os):((oQ os).forCall (λ_ _=>0) ⟨#[],#[.slice none 0 0,.int .i64 0],[]⟩).variablesB Tryz.checked.prog=true:=by kernel_rfl
theorem Lm(os:Os):(((oQ os).forCall (λ_ _=>0) ⟨#[],#[.slice none 0 0,.int .i64 0],[]⟩).heap.toList.drop Tryz.checked.prog.globals.size).take ((begin Tryz.checked.prog (λ_ _=>0) default).world.heap.size-Tryz.checked.prog.globals.size)=(begin Tryz.checked.prog (λ_ _=>0) default).world.heap.toList.drop Tryz.checked.prog.globals.size:=by kernel_rfl
theorem Ll(os:Os):Input.okWideB Tryz.checked.prog ((oQ os).forCall (λ_ _=>0) ⟨#[],#[.slice none 0 0,.int .i64 0],[]⟩) 4 ⟨#[],#[.slice none 0 0,.int .i64 0],[]⟩=true:=by kernel_rfl
theorem Lj(os:Os)(H:Type)(enc:TypeId×Value->H):DataW.whole enc prog ((oQ os).forCall (λ_ _=>0) ⟨#[],#[.slice none 0 0,.int .i64 0],[]⟩).memory f4.params.toList Rows.alikeSpec.vars false #[Value.slice none 0 0,.int .i64 0].toList 8=some ([.nil,.lit<|.int .i64 0],[],[]):=by kernel_rfl
theorem Li(os:Os)(H:Type)(enc:TypeId×Value->H):(OpenSpec.ofChange Rows.alikeSpec).bare.sizedB enc prog f4 false ((oQ os).forCall (λ_ _=>0) ⟨#[],#[.slice none 0 0,.int .i64 0],[]⟩).memory #[Value.slice none 0 0,.int .i64 0] 8=true:=by kernel_rfl
theorem lifted(os:Os)(started:os.Started)(H:Type)(enc:TypeId×Value->H)(F:Stop.Interp):ReturnsInLeavingWide {} Tryz.checked os 4 .any ((OpenSpec.ofChange Rows.alikeSpec).preRow enc prog f4 Rows.alikeRow.domain false Rows.alikeRow.laid)<|((OpenSpec.ofChange Rows.alikeSpec).at F).post enc prog f4 false true false false:=by refine WJ (C:=Tryz.checked) (s:=OpenSpec.ofChange Rows.alikeSpec) own started func4 (witness_row_at (enc:=enc) (C:=Tryz.checked) false (oQ os) #[.slice none 0 0,.int .i64 0] rfl (Ln os) (Lm os) (Ll os)<|OpenSpec.preRow_of_cond (x:=([.nil,.lit<|.int .i64 0],[],[])) 8 (Lj os H enc) rfl (λk V=>by cases V) (Li os H enc)<|Yn os _) ?_;intro W base args ds gs E J hW _ hz hL U;exact OS H enc W base args ds gs E J hW hz hL U
theorem said:Rows.AlikeSaid:=OpenClaim.holds_of_wide_leaving 4 f4 rfl rfl rfl rfl rfl rfl rfl ⟨rfl,rfl,rfl,rfl,rfl⟩ rfl rfl rfl rfl rfl named func4 closed inst wrap λos started H enc _=>by rw[OpenClaim.pre_eq_preRow];exact lifted os started H enc default
theorem goes:true=Rows.alikeRow.goesBy prog:=by kernel_rfl
theorem Lp:Rows.alikeRow.wfByText (OpenSpec.ofChange Rows.alikeSpec)=true:=by kernel_rfl
theorem plain(f:FuncId)(fn:Func)(hf:Tryz.pinned.checked.prog.funcNamed Rows.alikeRow.func=some f)(E:Tryz.pinned.checked.prog.funcs[f]?=some fn):true=Tryz.pinned.checked.prog.looks []/\∀(j:Nat)t,fn.params[j]?=some t->Tryz.pinned.checked.prog.wantsStandIn t=false:=by
 obtain rfl:f=4:=Option.some.inj ((show prog.funcNamed Rows.alikeRow.func=some 4 from named).symm.trans hf)|>.symm;obtain rfl:fn=f4:=(Option.some.inj<|func4.symm.trans E).symm;refine⟨looks,λj t ht=>?_⟩;rw[Tryz.params4]at ht;have:=Array.mem_of_getElem? ht;simp only[List.mem_toArray,List.mem_cons,List.not_mem_nil,or_false]at this;rcases this with rfl|rfl;.exact Ve
 .exact PR
theorem LV:Rows.alikeRow.laidByTextAt .later Tryz.pinned [.data,.data,.data,.data,.handle,.pinned] true:=OpenClaim.laidByTextAt_pinned rfl rfl (Program.laidByTextLater_by_one 41 8 65 (by kernel_rfl) (by kernel_rfl) (by kernel_rfl) (by kernel_rfl) (by kernel_rfl) (by kernel_rfl) λ_ _=>by kernel_rfl) rfl rfl rfl rfl (λy hy e=>by simp only[Rows.alikeRow,List.zip_cons_cons,List.zip_nil_right,List.mem_cons,List.mem_nil_iff,or_false]at hy;rcases hy with rfl|rfl|rfl|rfl|rfl|rfl<;>first|(cases e;done)|exact⟨by kernel_rfl,by kernel_rfl⟩)<|by unfold Program.listedFits;rw[show Tryz.pinned.checked.prog.headLifts.contains "ownunsafe"=false by kernel_rfl];kernel_rfl
theorem proved:Rows.AlikeCardSaid:=abj said Lp LV rfl ⟨rfl,rfl⟩ mainIs rfl plain goes
end Go.Proofs.YtpdbmpbmepkikaaGreatDoor.alike
