/- Digests, for every input: the call returns true on every schedule; nothing that was there is changed. Conditions: the listed variables of the library hold what its text lays. -/
import Derived.LaidSub
import Derived.LaidOnce
import Derived.Test.YtpdbmpbmepkikaaGreatDoorCards
import Derived.Test.YtpdbmpbmepkikaaGreatDoorP17
set_option maxRecDepth 100000
set_option maxHeartbeats 400000
set_option linter.all false
open Go.Proofs.Tryz
open Bool renaming true->Z,false->ai
open Go renaming World->av,Value->ay,TypeId->dZ
open Go.IntKind renaming i64->aH,u64->cK
open Go.Lib renaming pow10Tab->Xn,TabIs->x6
open Go.Obj renaming cells->aF
open Go.Proofs.Tryz renaming prog->aC
open Go.RowKit renaming Below->bC
open Go.Value renaming cells->AV,okWide->Qo,int->Y,pointer->aE,agg->bN,iface->iv
open List renaming range->lW
open Option renaming some->U,none->V
namespace Go.Proofs.YtpdbmpbmepkikaaGreatDoor.digests
open Go.ChangeShapes Go.WideShapes Go.ChangeAt Go.RowKit Go.Conc
theorem fsw:iV[3]? =some f3:=(pA (by decide) (by decide) (by decide)).trans func3
theorem body:∃c,f3.body=some c:=⟨_,rfl⟩
theorem azf(H:Type)(enc:TypeId×Value->H)(W:World)(base:Nat)(args:Array Value)(ds gs:List (DataW H))(before:List MemPlace)
  (Kw:∀(j:Nat) t v,f3.params[j]? =some t->args[j]? =some v->Value.okWide prog W .any base t v)
  (hW:DataW.Whole enc prog f3.params.toList Rows.digestsSpec.vars false W args.toList ds gs before)
  (hz:(DataW.weightsEach prog (f3.params.toList++(OpenSpec.ofChange Rows.digestsSpec).bare.plain.varTypes prog) (ds++gs)).all (· <=reachBytes)=true) (hL:laidMetH prog Laid W) (tS:W.ShapedOpen prog):
  ∃M last o w' J,runNT prog (M+1) (solo (G (Frame.enter prog 3 args .normal) []) W) #[]=(.ended o w',J)∧runN prog M (solo (G (Frame.enter prog 3 args .normal) []) W)=.next last∧
   step prog last=.ended o w'∧Conc.Good prog (λv W'=>Rows.digestsSpec.post enc prog f3 false true false false W args v W') last o w' J:=by
 have Wm:=hW;obtain⟨p,q,E,hV,rfl,VV,jX⟩:=hW;have hA:DataW.TrodAll enc prog W 0 (λ_=>true) true f3.params.toList args.toList ds p:=E;rw[Tryz.params3] at hA Kw;obtain⟨v0,v1,d0,d1,C,A,rfl,rfl,rfl,h0,h1⟩:=trodAll_two hA;obtain⟨rfl,rfl⟩:=trodVars_none hV;clear E;simp only[List.append_nil] at Wm;have B:∀a∈d0.weights prog 22,a<=reachBytes:=λa hn=>by
  rw[List.all_eq_true] at hz;have:=hz a (by rw[Tryz.params3];exact List.mem_append_left _ hn)
  simpa using this
 obtain⟨l,hS,hl,hls,hI⟩:=aqS (Kw 0 22 v0 rfl rfl) h0 B;obtain⟨i,rfl,hi⟩:=aqR underlying3 h1 (Kw 1 3 v1 rfl rfl);have pq:∀x∈C++A,x.block<W.heap.size:=λx hx=>Wm.lt x hx;obtain⟨c,hc⟩:=body;obtain⟨N,last,o,w',J,e1,e2,e3,e4⟩:=ayi aA8 ajo func3 fsw hc (by decide) (by decide) (rest:= #[.int .i64 i]) (by simp[n]) (by decide) (λj hj=>by cases j with|zero=>exact absurd hj (by decide)|succ j=>simp) hS (IT.of tS) (ayb hL) (al9 hL)
  (λW v hE hT hB hF=>ayI v l i W hE hl hls hI hi hT hB hF)
 refine⟨N,last,o,w',J,e1,e2,e3,e4.mono λx hx=>?_⟩;obtain⟨rfl,hb⟩:=hx;have K7:=hb.below;have k0:=DataW.Trod.of_heap (w:={w' with tape:=W.tape}) (w':=w') rfl (Below.trod Tu aqt aqx h0 K7 (λx hx=>pq x (List.mem_append_left _ hx)));have k1:=DataW.Trod.of_heap (w:={w' with tape:=W.tape}) (w':=w') rfl (Below.trod Tu aqs aqw h1 K7 (λx hx=>pq x (List.mem_append_right _ hx)));have kf:=K7.frame (λp=>p∈C++A∧(p∈[]∨p∈C++A∨p∈[]));exact⟨_,_,_,[],_,[],Wm,trodAll_mk1 (shut_bool underlying4 true),trodAll_mk2 k0 k1,rfl,kf,λh=>by cases h⟩
theorem ai7(os:Os):((Eg os).forCall (λ_ _=>0) ⟨#[], #[.slice none 0 0,.int .i64 0],[]⟩).variablesB Tryz.checked.prog=true:=by kernel_rfl
theorem ai6(os:Os):(((Eg os).forCall (λ_ _=>0) ⟨#[], #[.slice none 0 0,.int .i64 0],[]⟩).heap.toList.drop Tryz.checked.prog.globals.size).take ((begin Tryz.checked.prog (λ_ _=>0) default).world.heap.size-Tryz.checked.prog.globals.size)=
  (begin Tryz.checked.prog (λ_ _=>0) default).world.heap.toList.drop Tryz.checked.prog.globals.size:=by kernel_rfl
theorem ai5(os:Os):Input.okWideB Tryz.checked.prog ((Eg os).forCall (λ_ _=>0) ⟨#[], #[.slice none 0 0,.int .i64 0],[]⟩) 3 ⟨#[], #[.slice none 0 0,.int .i64 0],[]⟩=true:=by kernel_rfl
theorem ai4(os:Os)(H:Type)(enc:TypeId×Value->H):DataW.whole enc prog ((Eg os).forCall (λ_ _=>0) ⟨#[], #[.slice none 0 0,.int .i64 0],[]⟩).memory f3.params.toList Rows.digestsSpec.vars false #[Value.slice none 0 0,.int .i64 0].toList 8=some ([.nil,.lit (.int .i64 0)],[],[]):=by kernel_rfl
theorem ai3(os:Os)(H:Type)(enc:TypeId×Value->H):(OpenSpec.ofChange Rows.digestsSpec).bare.sizedB enc prog f3 false ((Eg os).forCall (λ_ _=>0) ⟨#[], #[.slice none 0 0,.int .i64 0],[]⟩).memory #[Value.slice none 0 0,.int .i64 0] 8=true:=by kernel_rfl
theorem lifted(os:Os)(started:os.Started)(H:Type)(enc:TypeId×Value->H)(F:Stop.Interp):
  ReturnsInLeavingWide {} Tryz.checked os 3 .any ((OpenSpec.ofChange Rows.digestsSpec).preRow enc prog f3 Rows.digestsRow.domain false Rows.digestsRow.laid) (((OpenSpec.ofChange Rows.digestsSpec).at F).post enc prog f3 false true false false):=by
 refine apx (C:=Tryz.checked) (s:=OpenSpec.ofChange Rows.digestsSpec) own started func3
  (witness_row_at (enc:=enc) (C:=Tryz.checked) false (Eg os) #[.slice none 0 0,.int .i64 0] rfl (ai7 os) (ai6 os) (ai5 os)
   (OpenSpec.preRow_of_cond (x:=([.nil,.lit (.int .i64 0)],[],[])) 8 (ai4 os H enc) rfl (λk U=>by cases U) (ai3 os H enc) (as0 os _))) ?_
 intro W base args ds gs E Kw V _ hz Z J;exact azf H enc W base args ds gs E Kw V hz Z J
theorem said:Rows.DigestsSaid:=
 OpenClaim.holds_of_wide_leaving 3 f3 rfl rfl rfl rfl rfl rfl rfl ⟨rfl,rfl,rfl,rfl,rfl⟩ rfl rfl rfl rfl rfl named func3 closed inst wrap
  (λos started H enc _=>by rw[OpenClaim.pre_eq_preRow];exact lifted os started H enc default)
theorem goes:true=Rows.digestsRow.goesBy prog:=by kernel_rfl
theorem wft:Rows.digestsRow.wfByText (OpenSpec.ofChange Rows.digestsSpec)=true:=by kernel_rfl
theorem plain(f:FuncId)(fn:Func)(hf:Tryz.pinned.checked.prog.funcNamed Rows.digestsRow.func=some f)(E:Tryz.pinned.checked.prog.funcs[f]? =some fn):
  true=Tryz.pinned.checked.prog.looks []∧∀(j:Nat) t,fn.params[j]? =some t->Tryz.pinned.checked.prog.wantsStandIn t=false:=by
 obtain rfl:f=3:=Option.some.inj ((show prog.funcNamed Rows.digestsRow.func=some 3 from named).symm.trans hf)|>.symm;obtain rfl:fn=f3:=(Option.some.inj (func3.symm.trans E)).symm;refine⟨looks,λj t ht=>?_⟩;rw[Tryz.params3] at ht;have:=Array.mem_of_getElem? ht;simp only[List.mem_toArray,List.mem_cons,List.not_mem_nil,or_false] at this;rcases this with rfl|rfl
 ·exact ajf
 ·exact aje
theorem apf:Rows.digestsRow.laidByTextAt .later Tryz.pinned [.data,.data,.data,.data,.handle,.pinned] true:=
 OpenClaim.laidByTextAt_pinned rfl rfl (Program.laidByTextLater_by_one 41 8 65 (by kernel_rfl) (by kernel_rfl) (by kernel_rfl) (by kernel_rfl) (by kernel_rfl) (by kernel_rfl) (λ_ _=>by kernel_rfl)) rfl rfl rfl rfl (λy hy e=>by
  simp only[Rows.digestsRow,List.zip_cons_cons,List.zip_nil_right,List.mem_cons,List.mem_nil_iff,or_false] at hy;rcases hy with rfl|rfl|rfl|rfl|rfl|rfl<;>first|(cases e;done)|exact⟨by kernel_rfl,by kernel_rfl⟩) (by
  unfold Program.listedFits;rw[show Tryz.pinned.checked.prog.headLifts.contains "ownunsafe"=false by kernel_rfl]
  kernel_rfl)
theorem proved:Rows.DigestsCardSaid:=
 azF said wft apf rfl ⟨rfl,rfl⟩ mainIs rfl plain goes
end Go.Proofs.YtpdbmpbmepkikaaGreatDoor.digests
