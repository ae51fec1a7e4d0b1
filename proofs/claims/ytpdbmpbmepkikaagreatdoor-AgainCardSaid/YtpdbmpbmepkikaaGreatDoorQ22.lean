/- Again, for every input: the call returns true on every schedule; nothing that was there is changed. Conditions: the listed variables of the library hold what its text lays. -/
import Derived.LaidSub
import Derived.LaidOnce
import Derived.Test.YtpdbmpbmepkikaaGreatDoorCards
import Derived.Test.YtpdbmpbmepkikaaGreatDoorQ17
import Derived.Test.YtpdbmpbmepkikaaGreatDoorQ21
set_option maxRecDepth 100000
set_option maxHeartbeats 400000
set_option linter.all false
open Go.Proofs.Tryz
open Go.Value renaming int->V
open Option renaming some->U
namespace Go.Proofs.YtpdbmpbmepkikaaGreatDoor.again
open Go.ChangeShapes Go.WideShapes Go.ChangeAt Go.RowKit Go.Conc
theorem Oa:iQ[5]?=some f5:=(oy (by decide) (by decide)<|by decide).trans func5
theorem body:∃c,f5.body=some c:=⟨_,rfl⟩
theorem OS(H:Type)(enc:TypeId×Value->H)(W:World)(base:Nat)(args:Array Value)(ds gs:List<|DataW H)(before:List MemPlace)(B:∀(j:Nat)t v,f5.params[j]?=some t->args[j]?=some v->Value.okWide prog W .any base t v)(hW:DataW.Whole enc prog f5.params.toList Rows.againSpec.vars false W args.toList ds gs before)(hz:(DataW.weightsEach prog (f5.params.toList++(OpenSpec.ofChange Rows.againSpec).bare.plain.varTypes prog)<|ds++gs).all (.<=reachBytes)=true)(hL:laidMetH prog Laid W)(mD:W.ShapedOpen prog):∃M last o w' E,runNT prog (M+1) (solo (G (Frame.enter prog 5 args .normal) []) W) #[]=(.ended o w',E)/\runN prog M (solo (G (Frame.enter prog 5 args .normal) []) W)=.next last/\step prog last=.ended o w'/\Conc.Good prog (λv W'=>Rows.againSpec.post enc prog f5 false true false false W args v W') last o w' E:=by
 have J:=hW;obtain⟨p,q,Es,hV,rfl,Nt,jX⟩:=hW;have hA:DataW.TrodAll enc prog W 0 (λ_=>true) true f5.params.toList args.toList ds p:=Es;rw[Tryz.params5]at hA B;obtain⟨v0,v1,d0,d1,p0,p1,rfl,rfl,rfl,h0,h1⟩:=trodAll_two hA;obtain⟨rfl,rfl⟩:=trodVars_none hV;clear Es;simp only[List.append_nil]at J;have MY:∀a∈d0.weights prog 22,a<=reachBytes:=λa hn=>by rw[List.all_eq_true]at hz;have:=hz a (by rw[Tryz.params5];exact List.mem_append_left _ hn);simpa using this
 obtain⟨l,hS,hl,kK,hI⟩:=Xp (B 0 22 v0 rfl rfl) h0 MY;obtain⟨i,rfl,hi⟩:=Rj underlying3 h1<|B 1 3 v1 rfl rfl;have lq:∀x∈p0++p1,x.block<W.heap.size:=λx hx=>J.lt x hx;obtain⟨c,hc⟩:=body;obtain⟨N,last,o,w',E,e1,e2,e3,e4⟩:=aaS abx Vf func5 Oa hc (by decide) (by decide) (rest:=#[.int .i64 i]) (by simp[n]) (by decide) λj hj=>by cases j with|zero=>exact absurd hj<|by decide|succ j=>simp hS (E6.of mD) (aaQ hL) (VK hL) λW v hE hT hB hF=>aEi v l i W hE hl kK hI hi hT hB hF;refine⟨N,last,o,w',E,e1,e2,e3,e4.mono λx hx=>?_⟩;obtain⟨rfl,hb⟩:=hx;have A:=hb.below;have k0:=DataW.Trod.of_heap (w:={w' with tape:=W.tape}) (w':=w') rfl<|Below.trod zR Xe Xh h0 A λx hx=>lq x<|List.mem_append_left _ hx;have k1:=DataW.Trod.of_heap (w:={w' with tape:=W.tape}) (w':=w') rfl<|Below.trod zR Rc Re h1 A λx hx=>lq x<|List.mem_append_right _ hx;have kf:=A.frame λp=>p∈p0++p1/\(p∈[]\/p∈p0++p1\/p∈[]);exact⟨_,_,_,[],_,[],J,trodAll_mk1<|shut_bool underlying4 true,trodAll_mk2 k0 k1,rfl,kf,λh=>by cases h⟩
theorem Ln(os:Os):((oQ os).forCall (λ_ _=>0) ⟨#[],#[.slice none 0 0,.int .i64 0],[]⟩).variablesB Tryz.checked.prog=true:=by kernel_rfl
theorem Lm(os:Os):(((oQ os).forCall (λ_ _=>0) ⟨#[],#[.slice none 0 0,.int .i64 0],[]⟩).heap.toList.drop Tryz.checked.prog.globals.size).take ((begin Tryz.checked.prog (λ_ _=>0) default).world.heap.size-Tryz.checked.prog.globals.size)=(begin Tryz.checked.prog (λ_ _=>0) default).world.heap.toList.drop Tryz.checked.prog.globals.size:=by kernel_rfl
theorem Ll(os:Os):Input.okWideB Tryz.checked.prog ((oQ os).forCall (λ_ _=>0) ⟨#[],#[.slice none 0 0,.int .i64 0],[]⟩) 5 ⟨#[],#[.slice none 0 0,.int .i64 0],[]⟩=true:=by kernel_rfl
theorem Lj(os:Os)(H:Type)(enc:TypeId×Value->H):DataW.whole enc prog ((oQ os).forCall (λ_ _=>0) ⟨#[],#[.slice none 0 0,.int .i64 0],[]⟩).memory f5.params.toList Rows.againSpec.vars false #[Value.slice none 0 0,.int .i64 0].toList 8=some ([.nil,.lit<|.int .i64 0],[],[]):=by kernel_rfl
theorem Li(os:Os)(H:Type)(enc:TypeId×Value->H):(OpenSpec.ofChange Rows.againSpec).bare.sizedB enc prog f5 false ((oQ os).forCall (λ_ _=>0) ⟨#[],#[.slice none 0 0,.int .i64 0],[]⟩).memory #[Value.slice none 0 0,.int .i64 0] 8=true:=by kernel_rfl
theorem lifted(os:Os)(started:os.Started)(H:Type)(enc:TypeId×Value->H)(F:Stop.Interp):ReturnsInLeavingWide {} Tryz.checked os 5 .any ((OpenSpec.ofChange Rows.againSpec).preRow enc prog f5 Rows.againRow.domain false Rows.againRow.laid)<|((OpenSpec.ofChange Rows.againSpec).at F).post enc prog f5 false true false false:=by refine WJ (C:=Tryz.checked) (s:=OpenSpec.ofChange Rows.againSpec) own started func5 (witness_row_at (enc:=enc) (C:=Tryz.checked) false (oQ os) #[.slice none 0 0,.int .i64 0] rfl (Ln os) (Lm os) (Ll os)<|OpenSpec.preRow_of_cond (x:=([.nil,.lit<|.int .i64 0],[],[])) 8 (Lj os H enc) rfl (λk V=>by cases V) (Li os H enc)<|Yn os _) ?_;intro W base args ds gs E J hW _ hz hL U;exact OS H enc W base args ds gs E J hW hz hL U
theorem said:Rows.AgainSaid:=OpenClaim.holds_of_wide_leaving 5 f5 rfl rfl rfl rfl rfl rfl rfl ⟨rfl,rfl,rfl,rfl,rfl⟩ rfl rfl rfl rfl rfl named func5 closed inst wrap λos started H enc _=>by rw[OpenClaim.pre_eq_preRow];exact lifted os started H enc default
theorem goes:true=Rows.againRow.goesBy prog:=by kernel_rfl
theorem Lp:Rows.againRow.wfByText (OpenSpec.ofChange Rows.againSpec)=true:=by kernel_rfl
theorem plain(f:FuncId)(fn:Func)(hf:Tryz.pinned.checked.prog.funcNamed Rows.againRow.func=some f)(E:Tryz.pinned.checked.prog.funcs[f]?=some fn):true=Tryz.pinned.checked.prog.looks []/\∀(j:Nat)t,fn.params[j]?=some t->Tryz.pinned.checked.prog.wantsStandIn t=false:=by
 obtain rfl:f=5:=Option.some.inj ((show prog.funcNamed Rows.againRow.func=some 5 from named).symm.trans hf)|>.symm;obtain rfl:fn=f5:=(Option.some.inj<|func5.symm.trans E).symm;refine⟨looks,λj t ht=>?_⟩;rw[Tryz.params5]at ht;have:=Array.mem_of_getElem? ht;simp only[List.mem_toArray,List.mem_cons,List.not_mem_nil,or_false]at this;rcases this with rfl|rfl;.exact Ve
 .exact PR
theorem LV:Rows.againRow.laidByTextAt .later Tryz.pinned [.data,.data,.data,.data,.handle,.pinned] true:=OpenClaim.laidByTextAt_pinned rfl rfl (Program.laidByTextLater_by_one 41 8 65 (by kernel_rfl) (by kernel_rfl) (by kernel_rfl) (by kernel_rfl) (by kernel_rfl) (by kernel_rfl) λ_ _=>by kernel_rfl) rfl rfl rfl rfl (λy hy e=>by simp only[Rows.againRow,List.zip_cons_cons,List.zip_nil_right,List.mem_cons,List.mem_nil_iff,or_false]at hy;rcases hy with rfl|rfl|rfl|rfl|rfl|rfl<;>first|(cases e;done)|exact⟨by kernel_rfl,by kernel_rfl⟩)<|by unfold Program.listedFits;rw[show Tryz.pinned.checked.prog.headLifts.contains "ownunsafe"=false by kernel_rfl];kernel_rfl
theorem proved:Rows.AgainCardSaid:=abj said Lp LV rfl ⟨rfl,rfl⟩ mainIs rfl plain goes
end Go.Proofs.YtpdbmpbmepkikaaGreatDoor.again
