import Derived.Test.YthdipcbjhhopaaaRows
import Derived.Test.YthdipcbjhhopaaaUb
import Derived.ChangeBook
import Derived.WalkKit
import Derived.ProofKit
import Derived.OpenShut
import Derived.JoinedOf
/- Rows.FnMemFullSaid, at the bench. -/
namespace Go.Proofs.Ythdipcbjhhopaaa.fnMemFull
open Go.ChangeShapes Go.WideShapes Go.ChangeAt Go.RowKit Go.Cq.D Go.Qm
theorem own:ownKnob Try.prog.godebug=none:=by kernel_rfl
def lH:List Char:=([104,97,114,110,101,115,115]:List Nat).map Char.ofNat
def lS:List Char:=([97,49,56,51,48,56,51,100,56,102,51,50,48,53,51,50,52,100,98,52,97,56,101,102,56,56,101,51,98,49,98,99,51,56,52,53,51,50,55,49,48,55,49,52,49,49,55,51,100,56,101,52,98,100,102,50,98,100,49,97,98,55,101,50]:List Nat).map Char.ofNat
def lC:List Char:=([99,117,116]:List Nat).map Char.ofNat
def lT:List Char:=([97,116,32,108,111,111,112,46,101,120,97,109,112,108,101,47,113,117,97,114,116,101,114,100,101,99,107,47,108,97,119,115,46,70,110,69,120,97,99,116,77,101,109,67,117,116,32,108,111,111,112,46,101,120,97,109,112,108,101,47,113,117,97,114,116,101,114,100,101,99,107,47,108,97,119,115,46,70,110,77,101,109,80,108,97,99,101,115,32,108,111,111,112,46,101,120,97,109,112,108,101,47,113,117,97,114,116,101,114,100,101,99,107,47,108,97,119,115,46,70,110,77,101,109,80,114,101,115,115,117,114,101,32,108,111,111,112,46,101,120,97,109,112,108,101,47,113,117,97,114,116,101,114,100,101,99,107,47,108,97,119,115,46,70,110,77,101,109,70,117,108,108,32,108,111,111,112,46,101,120,97,109,112,108,101,47,113,117,97,114,116,101,114,100,101,99,107,47,108,97,119,115,46,70,110,77,101,109,65,112,97,114,116,32,108,111,111,112,46,101,120,97,109,112,108,101,47,113,117,97,114,116,101,114,100,101,99,107,47,108,97,119,115,46,70,110,77,101,109,71,101,116,32,108,111,111,112,46,101,120,97,109,112,108,101,47,113,117,97,114,116,101,114,100,101,99,107,47,108,97,119,115,46,70,110,77,101,109,70,111,114,107,87,114,105,116,101,32,108,111,111,112,46,101,120,97,109,112,108,101,47,113,117,97,114,116,101,114,100,101,99,107,47,108,97,119,115,46,70,110,77,101,109,70,111,114,107,115,32,108,111,111,112,46,101,120,97,109,112,108,101,47,113,117,97,114,116,101,114,100,101,99,107,47,108,97,119,115,46,70,110,69,120,97,99,116,77,101,109,71,101,116,32,108,111,111,112,46,101,120,97,109,112,108,101,47,113,117,97,114,116,101,114,100,101,99,107,47,108,97,119,115,46,70,110,77,101,109,79,114,100,101,114,32,108,111,111,112,46,101,120,97,109,112,108,101,47,113,117,97,114,116,101,114,100,101,99,107,47,108,97,119,115,46,70,110,77,101,109,84,119,105,99,101,32,108,111,111,112,46,101,120,97,109,112,108,101,47,113,117,97,114,116,101,114,100,101,99,107,47,108,97,119,115,46,70,110,77,101,109,70,111,114,107,32,108,111,111,112,46,101,120,97,109,112,108,101,47,113,117,97,114,116,101,114,100,101,99,107,47,108,97,119,115,46,70,110,77,101,109,70,111,114,107,68,114,111,112,32,108,111,111,112,46,101,120,97,109,112,108,101,47,113,117,97,114,116,101,114,100,101,99,107,47,108,97,119,115,46,70,110,69,120,97,99,116,77,101,109,70,111,114,107,32,108,111,111,112,46,101,120,97,109,112,108,101,47,113,117,97,114,116,101,114,100,101,99,107,47,108,97,119,115,46,70,110,77,101,109,83,101,116,32,108,111,111,112,46,101,120,97,109,112,108,101,47,113,117,97,114,116,101,114,100,101,99,107,47,108,97,119,115,46,70,110,69,120,97,99,116,77,101,109,83,101,116,32,108,111,111,112,46,101,120,97,109,112,108,101,47,113,117,97,114,116,101,114,100,101,99,107,47,108,97,119,115,46,70,110,69,120,97,99,116,77,101,109,77,97,112,32,108,111,111,112,46,101,120,97,109,112,108,101,47,113,117,97,114,116,101,114,100,101,99,107,47,108,97,119,115,46,70,110,77,101,109,77,97,112,32,108,111,111,112,46,101,120,97,109,112,108,101,47,113,117,97,114,116,101,114,100,101,99,107,47,108,97,119,115,46,70,110,77,101,109,67,117,116,77,97,112]:List Nat).map Char.ofNat
theorem nO{r:List Char}:∀{w:List Char},w.all (· != Char.ofNat 32)=true→wordsSigns (w++Char.ofNat 32::r)=w::wordsSigns r:=by
 intro w;induction w with
 |nil=>intro _;rfl
 |cons c w ih=>intro h;simp only[List.all_cons,Bool.and_eq_true,bne_iff_ne]at h;have:=ih h.2;rw[List.cons_append,wordsSigns,this];exact fun e=>h.1 e
theorem eIO:Try.progTables.initOrder=String.ofList (lH++Char.ofNat 32::(lS++Char.ofNat 32::(lC++Char.ofNat 32::lT))):=by kernel_rfl
theorem eL:Try.pinned.checked.prog.initOrder.toList=lH++Char.ofNat 32::(lS++Char.ofNat 32::(lC++Char.ofNat 32::lT)):=by rw[show Try.pinned.checked.prog.initOrder=Try.progTables.initOrder from rfl,eIO];exact String.toList_ofList
theorem beh(W:List (List Char)):behindMainWord (lH::lS::lC::W)=lC::W:=by kernel_rfl
theorem eB:behindMainWord (wordsSigns Try.pinned.checked.prog.initOrder.toList)=lC::wordsSigns lT:=by rw[eL,nO (by kernel_rfl),nO (by kernel_rfl),nO (by kernel_rfl),beh]
theorem aCR(P:Program)(W:List (List Char))(h:behindMainWord (wordsSigns P.initOrder.toList)=lC::W):P.make=some Make.cut:=by unfold Program.make;rw[h];simp only[show(lC== "gc".toList)=false from by kernel_rfl,show(lC== "spec".toList)=false from by kernel_rfl,show(lC== "cut".toList)=true from by kernel_rfl,Bool.or_self,Bool.true_or,Bool.false_eq_true,if_false,if_true]
theorem aBz(P:Program)(W:List (List Char))(h:behindMainWord (wordsSigns P.initOrder.toList)=lC::W):P.liftsFinal=false:=by unfold Program.liftsFinal Program.headLifts;rw[h];kernel_rfl
theorem strip(W:List (List Char)):stripLifts liftWords (lC::W)=([],lC::W):=by kernel_rfl
theorem aDp(P:Program)(W:List (List Char))(h:behindMainWord (wordsSigns P.initOrder.toList)=lC::W)(h1:P.laysLater=false)(h2:P.bearsReflect=false)(h3:P.doorFits []=true):P.mayEnter=true:=by unfold Program.mayEnter;rw[h];simp only[strip,h1,h2,h3,Bool.not_false,Bool.or_true,Bool.and_true,List.contains_nil,Bool.or_eq_true];exact .inr (by kernel_rfl)
theorem may:Try.pinned.checked.prog.mayEnter=true:=aDp _ _ eB (by kernel_rfl) (by kernel_rfl) (by kernel_rfl)
theorem aE4:(Rows.fnMemFullRow.lifted==Try.pinned.checked.prog.liftsFinal)=true:=by rw[aBz _ _ eB];kernel_rfl
theorem aEn:(Try.pinned.checked.prog.make==some Rows.fnMemFullRow.make)=true:=by rw[aCR _ _ eB];kernel_rfl
theorem closed:joinedFacts Try.pinned.checked.prog 6 Try.f6 Rows.fnMemFullSpec Rows.fnMemFullRow=true:=by
 rw[joinedFacts];simp only[Bool.and_eq_true];repeat' apply And.intro
 all_goals first
  |with_reducible exact may
  |with_reducible exact aE4
  |with_reducible exact aEn
  |kernel_rfl
set_option maxRecDepth 100000 in
theorem lifted(os:Os)(started:os.Started)(H:Type)(enc:TypeId×Value→H):
  ReturnsInHanded {} Try.checked os 6 .any (Rows.fnMemFullSpec.pre6 enc Try.prog Try.f6 Rows.fnMemFullRow.domain false) (Rows.fnMemFullSpec.post enc Try.prog Try.f6 false true false false):=by
 refine returnsInHanded_of_change (C:=Try.checked) own started (by kernel_rfl) Try.func6
  (ChangeSpec.witness6 (enc:=enc) (C:=Try.checked) false ⟨#[], #[.slice none 0 0],[]⟩ 8 (by kernel_rfl) (by kernel_rfl) (by kernel_rfl) (by kernel_rfl)) ?_
 intro W base args ds gs before hval0 hW hcnd _;have hval:∀(j:Nat) t v,Try.f6.params[j]?=some t→args[j]?=some v→Value.okWide Try.prog W .any base t v:=hval0;have hW':=hW;obtain⟨p,q,hA0,hV,rfl,hfz,hnd⟩:=hW;have hA:DataW.TrodAll enc Try.prog W 0 (fun _=>true) true Try.f6.params.toList args.toList ds p:=hA0;have hA':=hA;rw[Try.params6]at hA hval;obtain⟨v0,vs0,d0,ds0,p0,q0,hargs,rfl,rfl,t0,r0⟩:=trodAll_cons hA;obtain⟨rfl,rfl,rfl⟩:=trodAll_nil r0;obtain rfl:args= #[v0]:=by cases args;simp_all
 obtain⟨rfl,rfl⟩:=trodVars_none hV;obtain⟨a0,w0⟩:=yi (hval 0 40 v0 rfl rfl) t0;have hcall:=(v5 zV true a0).calls (W:=W) (vs:= #[v0]) rfl fun j x v h1 h2=>by
  match j,h1,h2 with
  |0,h1,h2=>exact Option.some.inj (show some (DV.one (.ro true 1 (a0.map dE)):DV)=some x from h1)▸Option.some.inj (show some v0=some v from h2)▸w0
  |j+1,h1,h2=>simp at h1
 refine hcall.mono fun e W'⟨he,hg⟩=>?_
 subst he;have hlt:∀q∈p0++[],q.block<W.heap.size:=fun q hq=>hW'.lt q (by simpa using hq)
 refine⟨_,rfl,Go.Cq.D.uS (pa:=p0++[]) (pv:=[]) hW' (fun _ _ _=>trodAll_cons_mk (shut_bool Try.underlying4 _) trodAll_mk0) (fun sp hsp=>?_) (fun _ _=>rfl) (by simp) hg (ok_one (by kernel_rfl) rfl (okWide_bool_mk Try.underlying4 _))⟩;exact t5 hg K40 (book_sized aCw) (fun t ht=>by rw[Try.params6]at ht;simp only[List.mem_cons,List.not_mem_nil,or_false]at ht;subst ht;exact aEq) hA' hlt (fun q hq=>hsp q (by simpa using hq))
theorem aEh:Rows.fnMemFullRow.holds Try.pinned (OpenSpec.ofChange Rows.fnMemFullSpec):=
 OpenClaim.holds_of_wide 6 Try.f6 rfl rfl rfl rfl rfl rfl rfl ⟨rfl,rfl,rfl,rfl,rfl⟩ rfl rfl rfl rfl rfl (by kernel_rfl) Try.func6 closed
  (of_decide_eq_true (by kernel_rfl)) (by unfold Func.isWrapper;first| (rw[if_pos (by decide+kernel)];kernel_rfl)| (rw[if_neg (by decide+kernel)];exact⟨rfl,rfl⟩))
  (fun os started H enc _=>lifted os started H enc)
theorem proved:Rows.FnMemFullSaid:=aEh
#print axioms proved
end Go.Proofs.Ythdipcbjhhopaaa.fnMemFull

