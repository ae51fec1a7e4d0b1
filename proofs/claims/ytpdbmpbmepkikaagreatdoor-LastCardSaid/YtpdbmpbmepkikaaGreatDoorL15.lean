/- Laws. -/
import Derived.Test.YtpdbmpbmepkikaaGreatDoorL12
set_option maxRecDepth 100000
set_option maxHeartbeats 400000
set_option linter.all false
open Go.Proofs.Tryz
open Bool renaming true->Z
open Go renaming reachBytes->IB,World->ax,Value->az,Program->bZ,TypeId->dV
open Go.DataW renaming weights->abU
open Go.Value renaming cells->A8,okWide->IC,string->aE
open Option renaming some->U,none->V
namespace Go.Proofs.YtpdbmpbmepkikaaGreatDoor
section
open Go.ChangeShapes Go.WideShapes Go.RowKit
theorem agN{H:Type}{enc:dV×az->H}{P:bZ}{w:ax}{base:Nat}{spare:Nat->Bool}{held:Bool}{r:_root_.Go.Reach}{Z:Nat}{t:dV}{v:az}{d:DataW H}{p:List MemPlace}(hu:P.underlying t=U .string)(h:DataW.Trod enc P w base spare held t v d p)(hv:IC P w r Z t v)(hz:∀n∈d.weights P t,n<=IB):∃s:ByteArray,v=aE s/\s.size<=140737488355328:=by
 obtain⟨s,rfl⟩:=awH hu hv;obtain⟨fuel,hf⟩:=h;obtain⟨s',e,V,wf⟩:=SM hu hf;have e:s=s':=by simpa[A8]using e
 subst e;have A:d=.lit (.string s.data.toList):=(Nq V).1;have hs:s.data.toList.length=s.size:=rfl;have E:s.size<=IB:=hz s.size (by rw[A];simp[abU]);exact⟨s,rfl,bC E<|show 140737488351232<=140737488355328 by decide⟩
end
end Go.Proofs.YtpdbmpbmepkikaaGreatDoor
