import Derived.Test.YthdipcbjhhopaaaOa
import Derived.Test.YthdipcbjhhopaaaOb
import Derived.Test.YthdipcbjhhopaaaOc
import Derived.Test.YthdipcbjhhopaaaOd
import Derived.ChangeBook
import Derived.WalkKit
import Derived.ProofKit
import Derived.OpenShut
import Derived.JoinedOf
namespace Go.Qm
open Go.Cq Go.Cq.D Go.RowKit Go.Proofs
set_option maxRecDepth 10000
theorem hmix:Try.prog.follows .mixedOrders=true:=by decide+kernel
theorem jM(a b c:Int):af Try.prog 77 [.one (dI a),.one (dI b),.one (dI c)] (.v (.one (dB (inB a b c)))):=by
 refine aK hmix Try.func77 ok77 ?_;conv=>whnf
 refine CondP.mk (fun h=>?_) (fun h=>?_)<;>rw[h]<;>(conv=>whnf)<;>repeat' first|(refine aF ?_;conv=>whnf)|(refine aD ?_;conv=>whnf)
 ·refine⟨?_,rfl⟩;simp only[inB]at h ⊢;rw[h];rfl
 ·refine⟨?_,rfl⟩;simp only[inB]at h ⊢;rw[h];rfl
theorem gh(a b c:Int):af Try.prog 87 [.one (dI a),.one (dI b),.one (dI c)] (.v (.one (dB (inB a b c)))):=by
 refine aK hmix Try.func87 ok87 ?_;conv=>whnf
 refine CondP.mk (fun h=>?_) (fun h=>?_)<;>rw[h]<;>(conv=>whnf)<;>repeat' first|(refine aF ?_;conv=>whnf)|(refine aD ?_;conv=>whnf)
 ·refine⟨?_,rfl⟩;simp only[inB]at h ⊢;rw[h];rfl
 ·refine⟨?_,rfl⟩;simp only[inB]at h ⊢;rw[h];rfl
theorem yr(a:Area):af Try.prog 98 [.agg [dI a.fr,dI a.mn,dB a.wr,dB a.sh]] (.v (.one (dI (IntKind.wrap .i64 (a.fr+a.mn))))):=by
 refine aK hmix Try.func98 ok98 ?_;conv=>whnf
 exact⟨rfl,rfl⟩
theorem xT(a:Area):af Try.prog 130 [.agg [dI a.fr,dI a.mn,dB a.wr,dB a.sh]] (.v (.one (dB (br a)))):=by
 refine aK hmix Try.func130 ok130 ?_;conv=>whnf
 refine aB [.pass,.pass,.pass] rfl rfl rfl (jM _ _ _) rfl ?_;conv=>whnf
 refine CondP.mk (fun h=>?_) (fun h=>?_)<;>rw[h]<;>(conv=>whnf)<;>repeat' first|(refine aF ?_;conv=>whnf)|(refine aD ?_;conv=>whnf)
 ·refine aB [.pass,.pass,.pass] rfl rfl rfl (jM _ _ _) rfl ?_;conv=>whnf
  refine⟨?_,rfl⟩;have hw:IntKind.wrap .i64 (16-a.fr)=16-a.fr:=by simp only[inB,Bool.and_eq_true,decide_eq_true_eq]at h;exact wrap64 (by omega) (by omega)
  rw[br,h,Bool.true_and];show DT.v (.one (dB (inB a.mn 1 (IntKind.wrap .i64 (16-a.fr)))))=_;rw[hw]
 ·refine⟨?_,rfl⟩;rw[br,h];rfl
theorem v7(a:Area):af Try.prog 162 [.agg [dI a.fr,dI a.mn,dB a.wr,dB a.sh]] (.v (.one (dB (br a)))):=by
 refine aK hmix Try.func162 ok162 ?_;conv=>whnf
 refine aB [.pass,.pass,.pass] rfl rfl rfl (gh _ _ _) rfl ?_;conv=>whnf
 refine CondP.mk (fun h=>?_) (fun h=>?_)<;>rw[h]<;>(conv=>whnf)<;>repeat' first|(refine aF ?_;conv=>whnf)|(refine aD ?_;conv=>whnf)
 ·refine aB [.pass,.pass,.pass] rfl rfl rfl (gh _ _ _) rfl ?_;conv=>whnf
  refine⟨?_,rfl⟩;have hw:IntKind.wrap .i64 (16-a.fr)=16-a.fr:=by simp only[inB,Bool.and_eq_true,decide_eq_true_eq]at h;exact wrap64 (by omega) (by omega)
  rw[br,h,Bool.true_and];show DT.v (.one (dB (inB a.mn 1 (IntKind.wrap .i64 (16-a.fr)))))=_;rw[hw]
 ·refine⟨?_,rfl⟩;rw[br,h];rfl
theorem z7(b1 b2:Bool)(p:Pages)(k:Int)(hl:p.rf.length≤9223372036854775807):af Try.prog 84 [.agg [.ro b1 1 (p.tx.map rS),.ro b2 1 (p.rf.map rI)],.one (dI k)] (.v (.one (dB (inB k 0 (p.rf.length-1)&&decide (0<p.rf[k.toNat]?.getD 0))))):=by
 refine aK hmix Try.func84 ok84 ?_;conv=>whnf
 refine aB [.pass,.pass,.pass] rfl rfl rfl (jM _ _ _) rfl ?_;conv=>whnf
 have hw:IntKind.wrap .i64 ((p.rf.map rI).length-1)=p.rf.length-1:=by rw[List.length_map];exact wrap64 (by omega) (by omega)
 refine CondP.mk (fun h=>?_) (fun h=>?_)<;>rw[h]<;>(conv=>whnf)<;>repeat' first|(refine aF ?_;conv=>whnf)|(refine aD ?_;conv=>whnf)
 ·have h':=h;rw[show IntKind.wrap .i64 _=_ from hw]at h';have hk:=h';simp only[inB,Bool.and_eq_true,decide_eq_true_eq]at hk;refine aJ (k:=k.toNat) rfl (by show some k=_;congr 1;omega) (by simp;omega) ?_
  (conv=>whnf)<;>repeat' first|(refine aF ?_;conv=>whnf)|(refine aD ?_;conv=>whnf)
  have hlt:k.toNat<p.rf.length:=by omega
  refine aE rfl (r:=.one (dI (p.rf[k.toNat]?.getD 0))) (by simp[aZ,rI,hlt,eI,PV.dc,dI]) ?_
  (conv=>whnf)<;>repeat' first|(refine aF ?_;conv=>whnf)|(refine aD ?_;conv=>whnf)
  refine⟨?_,rfl⟩;rw[h'];rfl
 ·rw[show IntKind.wrap .i64 _=_ from hw]at h;refine⟨?_,rfl⟩;rw[h];rfl
end Go.Qm
namespace Go.Qm
open Go.Cq Go.Cq.D Go.RowKit Go.Proofs
set_option maxRecDepth 10000
theorem up{n i:Nat}(h:i<n)(hn:n≤4611686018427387904):IntKind.wrap .i64 ((i:Int)+1)=((i+1:Nat):Int):=wrap64 (by omega) (by omega)
theorem bw{ts:List Str}{ns:List Int}{i:Nat}(h1:i<ts.length)(h2:i<ns.length):fO (ts.drop i) (ns.drop i)=(eJ ts[i] ns[i]&&fO (ts.drop (i+1)) (ns.drop (i+1))):=by rw[List.drop_eq_getElem_cons h1,List.drop_eq_getElem_cons h2,fO]
theorem ni(b1 b2:Bool)(p:Pages)(h1:p.tx.length≤4611686018427387904)(h2:p.rf.length≤4611686018427387904):af Try.prog 82 [.agg [.ro b1 1 (p.tx.map rS),.ro b2 1 (p.rf.map rI)]] (.v (.one (dB (cU p)))):=by
 refine aK hmix Try.func82 ok82 ?_;conv=>whnf
 refine CondP.mk (fun h=>?_) (fun h=>?_)<;>rw[h]<;>(conv=>whnf)<;>repeat' first|(refine aF ?_;conv=>whnf)|(refine aD ?_;conv=>whnf)
 ·refine⟨?_,rfl⟩;have:¬p.tx.length=p.rf.length:=by simp at h;omega
  simp[cU,this,dB]
 ·have hl:p.tx.length=p.rf.length:=by simp at h;omega
  refine aB [.pass,.pass,.pass] rfl rfl rfl (jM _ _ _) rfl ?_
  (conv=>whnf)<;>repeat' first|(refine aF ?_;conv=>whnf)|(refine aD ?_;conv=>whnf)
  refine CondP.mk (fun h=>?_) (fun h=>?_)<;>conv=>whnf
  ·refine⟨?_,rfl⟩;have h:inB p.tx.length 1 12=false:=by simpa using h
   simp[cU,h,dB]
  ·have hb:inB p.tx.length 1 12=true:=by simpa using h
   refine aa (fun i:Nat=>[(1,.v (.one (.ptr 0 0 0))),(21,.v (.one (.ro b2 1 (p.rf.map rI)))),(22,.v (.one (dI (p.rf.map rI).length))),(23,.v (.one (dI i)))]) (fun _=>[(0,.box [.ro b1 1 (p.tx.map rS),.ro b2 1 (p.rf.map rI)])]) (fun _=>1)
    (fun i=>i≤p.rf.length∧cU p=fO (p.tx.drop i) (p.rf.drop i)) (fun i=>p.rf.length-i) 0 ⟨by omega,by simp[cU,hl,hl▸hb]⟩ rfl rfl rfl fun i hi=>?_
   conv=>whnf
   refine CondP.mk (fun h=>?_) (fun h=>?_)<;>conv=>whnf
   ·have hi2:i<p.rf.length:=by simpa using h
    have hi1:i<p.tx.length:=by omega
    refine aJ (k:=i) rfl rfl (by simpa using hi2) ?_;conv=>whnf
    refine aE rfl (r:=.one (dI p.rf[i])) (by simp[aZ,rI,hi2,eI,dI]) ?_;conv=>whnf
    refine CondP.mk (fun h0=>?_) (fun h0=>?_)<;>conv=>whnf
    all_goals
     refine aB [.pass,.pass,.pass] rfl rfl rfl (jM _ _ _) rfl ?_;conv=>whnf
     refine CondP.mk (fun h9=>?_) (fun h9=>?_)<;>rw[h9]<;>(conv=>whnf)<;>repeat' first|(refine aF ?_;conv=>whnf)|(refine aD ?_;conv=>whnf)
    ·refine⟨?_,rfl⟩;have h9:inB p.rf[i] 0 99=false:=by simpa using h9
     rw[hi.2,bw hi1 hi2,eJ,h9];rfl
    ·have h9:inB p.rf[i] 0 99=true:=by simpa using h9
     refine aJ (k:=i) rfl rfl (by simpa using hi1) ?_
     (conv=>whnf)<;>repeat' first|(refine aF ?_;conv=>whnf)|(refine aD ?_;conv=>whnf)
     refine aE rfl (r:=.one (.sc (.str p.tx[i]))) (by simp[aZ,rS,hi1,eS]) ?_
     (conv=>whnf)<;>repeat' first|(refine aF ?_;conv=>whnf)|(refine aD ?_;conv=>whnf)
     refine CondP.mk (fun h8=>?_) (fun h8=>?_)<;>conv=>whnf
     ·refine⟨?_,rfl⟩;rw[hi.2,bw hi1 hi2,eJ,h9];simp at h0 h8;simp[h0,h8,dB]
     ·refine⟨i+1,by omega,⟨by omega,?_⟩,?_,rfl,rfl⟩
      ·rw[hi.2,bw hi1 hi2,eJ,h9];simp at h0 h8;simp[h0,h8]
      ·rw[←up hi2 h2];rfl
    ·refine⟨?_,rfl⟩;have h9:inB p.rf[i] 0 99=false:=by simpa using h9
     rw[hi.2,bw hi1 hi2,eJ,h9];rfl
    ·have h9:inB p.rf[i] 0 99=true:=by simpa using h9
     refine aJ (k:=i) rfl rfl (by simpa using hi1) ?_
     (conv=>whnf)<;>repeat' first|(refine aF ?_;conv=>whnf)|(refine aD ?_;conv=>whnf)
     refine aE rfl (r:=.one (.sc (.str p.tx[i]))) (by simp[aZ,rS,hi1,eS]) ?_
     (conv=>whnf)<;>repeat' first|(refine aF ?_;conv=>whnf)|(refine aD ?_;conv=>whnf)
     refine CondP.mk (fun h8=>?_) (fun h8=>?_)<;>conv=>whnf
     ·refine⟨?_,rfl⟩;rw[hi.2,bw hi1 hi2,eJ,h9];simp at h0 h8;simp[h0,h8,dB]
     ·refine⟨i+1,by omega,⟨by omega,?_⟩,?_,rfl,rfl⟩
      ·rw[hi.2,bw hi1 hi2,eJ,h9];simp at h0 h8;simp[h0,h8]
      ·rw[←up hi2 h2];rfl
   ·refine⟨?_,rfl⟩;have:i=p.rf.length:=by
                   have:¬i<p.rf.length:=by simpa using h
                   omega
    subst this;have:=hi.2;rw[List.drop_eq_nil_of_le (by omega),fO]at this;rw[this];rfl
    all_goals simp
end Go.Qm
namespace Go.Qm
open Go.Cq Go.Cq.D Go.RowKit Go.Proofs
set_option maxRecDepth 10000
def aA(a:Area):List DC:=[dI a.fr,dI a.mn,dB a.wr,dB a.sh]
theorem ldA{b:Bool}{l:List Area}{i:Nat}(h:i<l.length):(aZ b (l.map rA) i 0 4).map DV.agg=some (.agg (aA l[i])):=by simp[aZ,rA,h,eI,eB,aA,dI,dB]
theorem ix{i:Nat}{n:Nat}(h:i<n)(hn:n≤4611686018427387904)(hi:i≠0):some (IntKind.wrap .i64 ((i:Int)-1))=some (((i-1:Nat):Nat):Int):=by rw[wrap64 (by omega) (by omega)];congr 1;omega
theorem aCu{a:Area}(h:br a=true):IntKind.wrap .i64 (a.fr+a.mn)=a.fr+a.mn:=by have:=oI.1 h;exact wrap64 (by omega) (by omega)
set_option maxHeartbeats 2000000 in
theorem pA(b:Bool)(l:List Area)(hl:l.length≤4611686018427387904):af Try.prog 83 [.one (.ro b 4 (l.map rA))] (.v (.one (dB (cQ l)))):=by
 refine aK hmix Try.func83 ok83 ?_;conv=>whnf
 refine aa (fun i:Nat=>[(0,.v (.one (.ro b 4 (l.map rA)))),(5,.v (.one (.ro b 4 (l.map rA)))),(6,.v (.one (dI (l.map rA).length))),(7,.v (.one (dI i)))]) (fun _=>[]) (fun _=>0)
  (fun i=>i≤l.length∧cQ l=(de l i&&decide (l.length≤6))∧∀j(hj:j<l.length),j<i→br l[j]=true) (fun i=>l.length-i) 0 ⟨by omega,rfl,by omega⟩ rfl rfl rfl fun i hi=>?_
 obtain⟨hi1,hi2,hi3⟩:=hi;conv=>whnf
 refine CondP.mk (fun h=>?_) (fun h=>?_)<;>conv=>whnf
 ·have hlt:i<l.length:=by simpa using h
  refine aJ (k:=i) rfl rfl (by simpa using hlt) ?_;conv=>whnf
  refine aE rfl (r:=.agg (aA l[i])) (ldA hlt) ?_;conv=>whnf
  refine aB [.pass] rfl rfl rfl (xT l[i]) rfl ?_;conv=>whnf
  have fin:br l[i]=false→DT.v (DV.one (DC.sc (.bool false)))= .v (.one (dB (cQ l))):=fun e=>by rw[hi2,dL hlt,e];rfl
  refine CondP.mk (fun h1=>?_) (fun h1=>?_)<;>rw[h1]<;>(conv=>whnf)<;>repeat' first|(refine aF ?_;conv=>whnf)|(refine aD ?_;conv=>whnf)
  ·exact⟨fin (by simpa using h1),rfl⟩
  ·have ho:br l[i]=true:=by simpa using h1
   have hstep:decide (0< (i:Int))=false∨jl l i l[i]=true→cQ l=(de l (i+1)&&decide (l.length≤6)):=fun e=>by
    rw[hi2,dL hlt,ho];rcases e with e|e
    ·have:i=0:=by simp at e;omega
     simp[this]
    ·rw[e];simp
   have hall:∀j(hj:j<l.length),j<i+1→br l[j]=true:=fun j hj h2=>by
    by_cases e:j=i
    ·subst e;exact ho
    ·exact hi3 j hj (by omega)
   refine CondP.mk (fun h2=>?_) (fun h2=>?_)<;>rw[h2]<;>(conv=>whnf)<;>repeat' first|(refine aF ?_;conv=>whnf)|(refine aD ?_;conv=>whnf)
   ·have hi0:i≠0:=by simp at h2;omega
    have hlt':i-1<l.length:=by omega
    refine aJ (k:=i-1) rfl (ix hlt hl hi0) (by simpa using hlt') ?_
    (conv=>whnf)<;>repeat' first|(refine aF ?_;conv=>whnf)|(refine aD ?_;conv=>whnf)
    refine aE rfl (r:=.agg (aA l[i-1])) (ldA hlt') ?_
    (conv=>whnf)<;>repeat' first|(refine aF ?_;conv=>whnf)|(refine aD ?_;conv=>whnf)
    refine aB [.pass] rfl rfl rfl (yr l[i-1]) rfl ?_
    (conv=>whnf)<;>repeat' first|(refine aF ?_;conv=>whnf)|(refine aD ?_;conv=>whnf)
    have he:=aCu (hi3 (i-1) hlt' (by omega));rw[he];refine CondP.mk (fun h3=>?_) (fun h3=>?_)<;>conv=>whnf
    ·refine⟨?_,rfl⟩;rw[hi2,dL hlt,ho,jl,List.getElem?_eq_getElem hlt'];have:¬l[i-1].fr+l[i-1].mn≤l[i].fr:=by simpa using h3
     simp[this,hi0,dB]
    ·refine⟨i+1,by omega,⟨by omega,hstep (.inr ?_),hall⟩,?_,rfl,rfl⟩
     ·rw[jl,List.getElem?_eq_getElem hlt'];simpa using h3
     ·rw[←up hlt hl];rfl
   ·refine⟨i+1,by omega,⟨by omega,hstep (.inl h2),hall⟩,?_,rfl,rfl⟩;rw[←up hlt hl];rfl
 ·refine⟨?_,rfl⟩;have:i=l.length:=by
               have:¬i<l.length:=by simpa using h
               omega
  subst this;rw[hi2,de,List.drop_length];simp[eW,dB];omega
end Go.Qm
namespace Go.Qm
open Go.Cq Go.Cq.D Go.RowKit Go.Proofs
set_option maxRecDepth 10000
theorem yY(b1 b2:Bool)(l1 l2:List Int)(hb:l1.length≤4611686018427387904):af Try.prog 132 [.one (.ro b1 1 (l1.map rI)),.one (.ro b2 1 (l2.map rI))] (.v (.one (dB (decide (l1=l2))))):=by
 refine aK hmix Try.func132 ok132 ?_;conv=>whnf
 refine CondP.mk (fun h=>?_) (fun h=>?_)<;>conv=>whnf
 ·have:l1≠l2:=fun e=>by subst e;simp at h
  refine⟨?_,rfl⟩;rw[decide_eq_false this];rfl
 ·have hl:l1.length=l2.length:=by
   have:(l1.length:Int)=l2.length:=by simpa using h
   omega
  refine aa (fun i:Nat=>[(0,.v (.one (.ro b1 1 (l1.map rI)))),(1,.v (.one (.ro b2 1 (l2.map rI)))),(5,.v (.one (dI i)))]) (fun _=>[]) (fun _=>0) (fun i=>i≤l1.length∧l1.take i=l2.take i) (fun i=>l1.length-i) 0 ⟨by omega,rfl⟩ rfl rfl rfl fun i hi=>?_
  conv=>whnf
  refine CondP.mk (fun h=>?_) (fun h=>?_)<;>conv=>whnf
  ·have hi1:i<l1.length:=by simpa using h
   have hi2:i<l2.length:=by omega
   refine aJ (k:=i) rfl rfl (by simpa using hi1) ?_;conv=>whnf
   refine aE rfl (r:=.one (dI l1[i])) (by simp[aZ,hi1,rI,eI,dI]) ?_;conv=>whnf
   refine aJ (k:=i) rfl rfl (by simpa using hi2) ?_;conv=>whnf
   refine aE rfl (r:=.one (dI l2[i])) (by simp[aZ,hi2,rI,eI,dI]) ?_;conv=>whnf
   refine CondP.mk (fun h=>?_) (fun h=>?_)<;>conv=>whnf
   ·have:l1≠l2:=fun e=>by subst e;simp at h
    refine⟨?_,rfl⟩;rw[decide_eq_false this];rfl
   ·have he:l1[i]=l2[i]:=by simpa using h
    refine⟨i+1,by omega,⟨by omega,?_⟩,?_,rfl,rfl⟩
    ·rw[List.take_succ_eq_append_getElem hi1,List.take_succ_eq_append_getElem hi2,hi.2,he]
    ·rw[←up hi1 hb];rfl
  ·have:i=l1.length:=by
                 have:¬i<l1.length:=by simpa using h
                 omega
   have e:l1=l2:=by have:=hi.2;rw[List.take_of_length_le (by omega),List.take_of_length_le (by omega)]at this;exact this
   refine⟨?_,rfl⟩;rw[decide_eq_true e];rfl
theorem sD(b1 b2:Bool)(l1 l2:List Str)(hb:l1.length≤4611686018427387904):af Try.prog 131 [.one (.ro b1 1 (l1.map rS)),.one (.ro b2 1 (l2.map rS))] (.v (.one (dB (decide (l1=l2))))):=by
 refine aK hmix Try.func131 ok131 ?_;conv=>whnf
 refine CondP.mk (fun h=>?_) (fun h=>?_)<;>conv=>whnf
 ·have:l1≠l2:=fun e=>by subst e;simp at h
  refine⟨?_,rfl⟩;rw[decide_eq_false this];rfl
 ·have hl:l1.length=l2.length:=by
   have:(l1.length:Int)=l2.length:=by simpa using h
   omega
  refine aa (fun i:Nat=>[(0,.v (.one (.ro b1 1 (l1.map rS)))),(1,.v (.one (.ro b2 1 (l2.map rS)))),(5,.v (.one (dI i)))]) (fun _=>[]) (fun _=>0) (fun i=>i≤l1.length∧l1.take i=l2.take i) (fun i=>l1.length-i) 0 ⟨by omega,rfl⟩ rfl rfl rfl fun i hi=>?_
  conv=>whnf
  refine CondP.mk (fun h=>?_) (fun h=>?_)<;>conv=>whnf
  ·have hi1:i<l1.length:=by simpa using h
   have hi2:i<l2.length:=by omega
   refine aJ (k:=i) rfl rfl (by simpa using hi1) ?_;conv=>whnf
   refine aE rfl (r:=.one (.sc (.str l1[i]))) (by simp[aZ,hi1,rS,eS]) ?_;conv=>whnf
   refine aJ (k:=i) rfl rfl (by simpa using hi2) ?_;conv=>whnf
   refine aE rfl (r:=.one (.sc (.str l2[i]))) (by simp[aZ,hi2,rS,eS]) ?_;conv=>whnf
   refine CondP.mk (fun h=>?_) (fun h=>?_)<;>conv=>whnf
   ·have:l1≠l2:=fun e=>by subst e;simp at h
    refine⟨?_,rfl⟩;rw[decide_eq_false this];rfl
   ·have he:l1[i]=l2[i]:=by simpa using h
    refine⟨i+1,by omega,⟨by omega,?_⟩,?_,rfl,rfl⟩
    ·rw[List.take_succ_eq_append_getElem hi1,List.take_succ_eq_append_getElem hi2,hi.2,he]
    ·rw[←up hi1 hb];rfl
  ·have:i=l1.length:=by
                 have:¬i<l1.length:=by simpa using h
                 omega
   have e:l1=l2:=by have:=hi.2;rw[List.take_of_length_le (by omega),List.take_of_length_le (by omega)]at this;exact this
   refine⟨?_,rfl⟩;rw[decide_eq_true e];rfl
theorem dD{α:Type} [DecidableEq α]{a b:α}(h:a≠b):DT.v (DV.one (DC.sc (.bool false)))= .v (.one (dB (decide (a=b))))∧([]:DH)=[]:=by rw[decide_eq_false h];exact⟨rfl,rfl⟩
theorem ja{α:Type} [DecidableEq α]{a b:α}(h:a=b):DT.v (DV.one (DC.sc (.bool true)))= .v (.one (dB (decide (a=b))))∧([]:DH)=[]:=by rw[decide_eq_true h];exact⟨rfl,rfl⟩
theorem yE(a b:Area):af Try.prog 183 [.agg [dI a.fr,dI a.mn,dB a.wr,dB a.sh],.agg [dI b.fr,dI b.mn,dB b.wr,dB b.sh]] (.v (.one (dB (decide (a=b))))):=by
 refine aK hmix Try.func183 ok183 ?_;conv=>whnf
 refine CondP.mk (fun h1=>?_) (fun h1=>?_)<;>conv=>whnf
 ·exact dD fun e=>by subst e;simp at h1
 refine CondP.mk (fun h2=>?_) (fun h2=>?_)<;>conv=>whnf
 ·exact dD fun e=>by subst e;simp at h2
 refine CondP.mk (fun h3=>?_) (fun h3=>?_)<;>conv=>whnf
 ·exact dD fun e=>by subst e;simp at h3
 refine CondP.mk (fun h4=>?_) (fun h4=>?_)<;>conv=>whnf
 ·exact dD fun e=>by subst e;simp at h4
 refine ja ?_;cases a;cases b;simp_all
theorem yJ(a b:Slot):af Try.prog 184 [.agg [dI a.kd,dI a.pl,dB a.ow,dB a.us],.agg [dI b.kd,dI b.pl,dB b.ow,dB b.us]] (.v (.one (dB (decide (a=b))))):=by
 refine aK hmix Try.func184 ok184 ?_;conv=>whnf
 refine CondP.mk (fun h1=>?_) (fun h1=>?_)<;>conv=>whnf
 ·exact dD fun e=>by subst e;simp at h1
 refine CondP.mk (fun h2=>?_) (fun h2=>?_)<;>conv=>whnf
 ·exact dD fun e=>by subst e;simp at h2
 refine CondP.mk (fun h3=>?_) (fun h3=>?_)<;>conv=>whnf
 ·exact dD fun e=>by subst e;simp at h3
 refine CondP.mk (fun h4=>?_) (fun h4=>?_)<;>conv=>whnf
 ·exact dD fun e=>by subst e;simp at h4
 refine ja ?_;cases a;cases b;simp_all
end Go.Qm
namespace Go.Qm
open Go.Cq Go.Cq.D Go.RowKit Go.Proofs
set_option maxRecDepth 10000
def aL(a:Slot):List DC:=[dI a.kd,dI a.pl,dB a.ow,dB a.us]
def aP(b:Bool)(s:Space):List DC:=[dB s.lv,.ro b 4 (s.ar.map rA),.ro b 4 (s.sl.map rL)]
theorem ldL{b:Bool}{l:List Slot}{i:Nat}(h:i<l.length):(aZ b (l.map rL) i 0 4).map DV.agg=some (.agg (aL l[i])):=by simp[aZ,rL,h,eI,eB,aL,dI,dB]
theorem ldP{b:Bool}{l:List Space}{i:Nat}(h:i<l.length):(aZ b (l.map rP) i 0 3).map DV.agg=some (.agg (aP b l[i])):=by simp[aZ,rP,h,eB,aP,dB]
theorem vI(b1 b2:Bool)(l1 l2:List Area)(hb:l1.length≤4611686018427387904):af Try.prog 167 [.one (.ro b1 4 (l1.map rA)),.one (.ro b2 4 (l2.map rA))] (.v (.one (dB (decide (l1=l2))))):=by
 refine aK hmix Try.func167 ok167 ?_;conv=>whnf
 refine CondP.mk (fun h=>?_) (fun h=>?_)<;>conv=>whnf
 ·exact dD fun e=>by subst e;simp at h
 ·have hl:l1.length=l2.length:=by
   have:(l1.length:Int)=l2.length:=by simpa using h
   omega
  refine aa (fun i:Nat=>[(0,.v (.one (.ro b1 4 (l1.map rA)))),(1,.v (.one (.ro b2 4 (l2.map rA)))),(5,.v (.one (dI i)))]) (fun _=>[]) (fun _=>0) (fun i=>i≤l1.length∧l1.take i=l2.take i) (fun i=>l1.length-i) 0 ⟨by omega,rfl⟩ rfl rfl rfl fun i hi=>?_
  conv=>whnf
  refine CondP.mk (fun h=>?_) (fun h=>?_)<;>conv=>whnf
  ·have hi1:i<l1.length:=by simpa using h
   have hi2:i<l2.length:=by omega
   refine aJ (k:=i) rfl rfl (by simpa using hi1) ?_;conv=>whnf
   refine aE rfl (ldA hi1) ?_;conv=>whnf
   refine aJ (k:=i) rfl rfl (by simpa using hi2) ?_;conv=>whnf
   refine aE rfl (ldA hi2) ?_;conv=>whnf
   refine aB [.pass,.pass] rfl rfl rfl (yE l1[i] l2[i]) rfl ?_;conv=>whnf
   refine CondP.mk (fun h=>?_) (fun h=>?_)<;>conv=>whnf
   ·exact dD fun e=>by subst e;simp at h
   ·have he:l1[i]=l2[i]:=by simpa using h
    refine⟨i+1,by omega,⟨by omega,?_⟩,?_,rfl,rfl⟩
    ·rw[List.take_succ_eq_append_getElem hi1,List.take_succ_eq_append_getElem hi2,hi.2,he]
    ·rw[←up hi1 hb];rfl
  ·have:i=l1.length:=by
                 have:¬i<l1.length:=by simpa using h
                 omega
   refine ja ?_;have:=hi.2;rw[List.take_of_length_le (by omega),List.take_of_length_le (by omega)]at this;exact this
theorem ui(b1 b2:Bool)(l1 l2:List Slot)(hb:l1.length≤4611686018427387904):af Try.prog 168 [.one (.ro b1 4 (l1.map rL)),.one (.ro b2 4 (l2.map rL))] (.v (.one (dB (decide (l1=l2))))):=by
 refine aK hmix Try.func168 ok168 ?_;conv=>whnf
 refine CondP.mk (fun h=>?_) (fun h=>?_)<;>conv=>whnf
 ·exact dD fun e=>by subst e;simp at h
 ·have hl:l1.length=l2.length:=by
   have:(l1.length:Int)=l2.length:=by simpa using h
   omega
  refine aa (fun i:Nat=>[(0,.v (.one (.ro b1 4 (l1.map rL)))),(1,.v (.one (.ro b2 4 (l2.map rL)))),(5,.v (.one (dI i)))]) (fun _=>[]) (fun _=>0) (fun i=>i≤l1.length∧l1.take i=l2.take i) (fun i=>l1.length-i) 0 ⟨by omega,rfl⟩ rfl rfl rfl fun i hi=>?_
  conv=>whnf
  refine CondP.mk (fun h=>?_) (fun h=>?_)<;>conv=>whnf
  ·have hi1:i<l1.length:=by simpa using h
   have hi2:i<l2.length:=by omega
   refine aJ (k:=i) rfl rfl (by simpa using hi1) ?_;conv=>whnf
   refine aE rfl (ldL hi1) ?_;conv=>whnf
   refine aJ (k:=i) rfl rfl (by simpa using hi2) ?_;conv=>whnf
   refine aE rfl (ldL hi2) ?_;conv=>whnf
   refine aB [.pass,.pass] rfl rfl rfl (yJ l1[i] l2[i]) rfl ?_;conv=>whnf
   refine CondP.mk (fun h=>?_) (fun h=>?_)<;>conv=>whnf
   ·exact dD fun e=>by subst e;simp at h
   ·have he:l1[i]=l2[i]:=by simpa using h
    refine⟨i+1,by omega,⟨by omega,?_⟩,?_,rfl,rfl⟩
    ·rw[List.take_succ_eq_append_getElem hi1,List.take_succ_eq_append_getElem hi2,hi.2,he]
    ·rw[←up hi1 hb];rfl
  ·have:i=l1.length:=by
                 have:¬i<l1.length:=by simpa using h
                 omega
   refine ja ?_;have:=hi.2;rw[List.take_of_length_le (by omega),List.take_of_length_le (by omega)]at this;exact this
theorem vR(b1 b2 b3 b4:Bool)(x y:Space)(h1:x.ar.length≤4611686018427387904)(h2:x.sl.length≤4611686018427387904):af Try.prog 133 [.agg [dB x.lv,.ro b1 4 (x.ar.map rA),.ro b2 4 (x.sl.map rL)],.agg [dB y.lv,.ro b3 4 (y.ar.map rA),.ro b4 4 (y.sl.map rL)]] (.v (.one (dB (decide (x=y))))):=by
 refine aK hmix Try.func133 ok133 ?_;conv=>whnf
 refine CondP.mk (fun h1=>?_) (fun h1=>?_)<;>conv=>whnf
 ·exact dD fun e=>by subst e;simp at h1
 refine aB [.pass,.pass] rfl rfl rfl (vI _ _ x.ar y.ar (by assumption)) rfl ?_;conv=>whnf
 refine CondP.mk (fun h2=>?_) (fun h2=>?_)<;>conv=>whnf
 ·exact dD fun e=>by subst e;simp at h2
 refine aB [.pass,.pass] rfl rfl rfl (ui _ _ x.sl y.sl (by assumption)) rfl ?_;conv=>whnf
 refine CondP.mk (fun h3=>?_) (fun h3=>?_)<;>conv=>whnf
 ·exact dD fun e=>by subst e;simp at h3
 refine ja ?_;cases x;cases y;simp_all
def iK(n:Nat)(l:List Space):Prop:=∀s,s∈l→s.ar.length≤n∧s.sl.length≤n
theorem sw(b1 b2:Bool)(l1 l2:List Space)(hb:l1.length≤4611686018427387904)(hs:iK 4611686018427387904 l1):af Try.prog 68 [.one (.ro b1 3 (l1.map rP)),.one (.ro b2 3 (l2.map rP))] (.v (.one (dB (decide (l1=l2))))):=by
 refine aK hmix Try.func68 ok68 ?_;conv=>whnf
 refine CondP.mk (fun h=>?_) (fun h=>?_)<;>conv=>whnf
 ·exact dD fun e=>by subst e;simp at h
 ·have hl:l1.length=l2.length:=by
   have:(l1.length:Int)=l2.length:=by simpa using h
   omega
  refine aa (fun i:Nat=>[(0,.v (.one (.ro b1 3 (l1.map rP)))),(1,.v (.one (.ro b2 3 (l2.map rP)))),(5,.v (.one (dI i)))]) (fun _=>[]) (fun _=>0) (fun i=>i≤l1.length∧l1.take i=l2.take i) (fun i=>l1.length-i) 0 ⟨by omega,rfl⟩ rfl rfl rfl fun i hi=>?_
  conv=>whnf
  refine CondP.mk (fun h=>?_) (fun h=>?_)<;>conv=>whnf
  ·have hi1:i<l1.length:=by simpa using h
   have hi2:i<l2.length:=by omega
   refine aJ (k:=i) rfl rfl (by simpa using hi1) ?_;conv=>whnf
   refine aE rfl (ldP hi1) ?_;conv=>whnf
   refine aJ (k:=i) rfl rfl (by simpa using hi2) ?_;conv=>whnf
   refine aE rfl (ldP hi2) ?_;conv=>whnf
   refine aB [.pass,.pass] rfl rfl rfl (vR _ _ _ _ l1[i] l2[i] (hs _ (List.getElem_mem hi1)).1 (hs _ (List.getElem_mem hi1)).2) rfl ?_;conv=>whnf
   refine CondP.mk (fun h=>?_) (fun h=>?_)<;>conv=>whnf
   ·exact dD fun e=>by subst e;simp at h
   ·have he:l1[i]=l2[i]:=by simpa using h
    refine⟨i+1,by omega,⟨by omega,?_⟩,?_,rfl,rfl⟩
    ·rw[List.take_succ_eq_append_getElem hi1,List.take_succ_eq_append_getElem hi2,hi.2,he]
    ·rw[←up hi1 hb];rfl
  ·have:i=l1.length:=by
                 have:¬i<l1.length:=by simpa using h
                 omega
   refine ja ?_;have:=hi.2;rw[List.take_of_length_le (by omega),List.take_of_length_le (by omega)]at this;exact this
theorem nq(b1 b2 b3 b4:Bool)(x y:Pages)(h1:x.tx.length≤4611686018427387904)(h2:x.rf.length≤4611686018427387904):af Try.prog 67 [.agg [.ro b1 1 (x.tx.map rS),.ro b2 1 (x.rf.map rI)],.agg [.ro b3 1 (y.tx.map rS),.ro b4 1 (y.rf.map rI)]] (.v (.one (dB (decide (x=y))))):=by
 refine aK hmix Try.func67 ok67 ?_;conv=>whnf
 refine aB [.pass,.pass] rfl rfl rfl (sD _ _ x.tx y.tx h1) rfl ?_;conv=>whnf
 refine CondP.mk (fun h2=>?_) (fun h2=>?_)<;>conv=>whnf
 ·exact dD fun e=>by subst e;simp at h2
 refine aB [.pass,.pass] rfl rfl rfl (yY _ _ x.rf y.rf (by assumption)) rfl ?_;conv=>whnf
 refine CondP.mk (fun h3=>?_) (fun h3=>?_)<;>conv=>whnf
 ·exact dD fun e=>by subst e;simp at h3
 refine ja ?_;cases x;cases y;simp_all
structure Mem.fits(n:Nat)(m:Mem):Prop where
 rt:m.ram.tx.length≤n
 rr:m.ram.rf.length≤n
 st:m.swp.tx.length≤n
 sr:m.swp.rf.length≤n
 sp:m.sp.length≤n
 ss:iK n m.sp
def aM(b1 b2 b3 b4 b5:Bool)(m:Mem):DV:=.agg [.ro b1 1 (m.ram.tx.map rS),.ro b2 1 (m.ram.rf.map rI),.ro b3 1 (m.swp.tx.map rS),.ro b4 1 (m.swp.rf.map rI),.ro b5 3 (m.sp.map rP),dI m.hd]
theorem tq(b1 b2 b3 b4 b5 c1 c2 c3 c4 c5:Bool)(x y:Mem)(h:x.fits 4611686018427387904):af Try.prog 26 [aM b1 b2 b3 b4 b5 x,aM c1 c2 c3 c4 c5 y] (.v (.one (dB (decide (x=y))))):=by
 refine aK hmix Try.func26 ok26 ?_;conv=>whnf
 refine aB [.pass,.pass] rfl rfl rfl (nq _ _ _ _ x.ram y.ram h.rt h.rr) rfl ?_;conv=>whnf
 refine CondP.mk (fun h2=>?_) (fun h2=>?_)<;>conv=>whnf
 ·exact dD fun e=>by subst e;simp at h2
 refine aB [.pass,.pass] rfl rfl rfl (nq _ _ _ _ x.swp y.swp h.st h.sr) rfl ?_;conv=>whnf
 refine CondP.mk (fun h3=>?_) (fun h3=>?_)<;>conv=>whnf
 ·exact dD fun e=>by subst e;simp at h3
 refine aB [.pass,.pass] rfl rfl rfl (sw _ _ x.sp y.sp h.sp h.ss) rfl ?_;conv=>whnf
 refine CondP.mk (fun h4=>?_) (fun h4=>?_)<;>conv=>whnf
 ·exact dD fun e=>by subst e;simp at h4
 refine CondP.mk (fun h5=>?_) (fun h5=>?_)<;>conv=>whnf
 ·exact dD fun e=>by subst e;simp at h5
 refine ja ?_;cases x;cases y;simp_all
end Go.Qm
namespace Go.Qm
open Go.Cq Go.Cq.D Go.RowKit Go.Proofs
set_option maxRecDepth 10000
def less(left:Int)(n:Nat):Int:=if left-n<0 then-1 else left-n
def dY{α:Type}(f:Int→α→Int):Int→List α→Int
 |left,[]=>left
 |left,a::l=>if f left a<0 then-1 else dY f (f left a) l
def dr(left:Int)(l:List Str):Int:=if left-l.length<0 then-1 else dY (fun x(s:Str)=>x-s.length) (left-l.length) l
def bC(left:Int)(p:Pages):Int:=if dr left p.tx<0 then-1 else less (dr left p.tx) p.rf.length
def cn(left:Int)(s:Space):Int:=if less left s.ar.length<0 then-1 else less (less left s.ar.length) s.sl.length
def eG(left:Int)(l:List Space):Int:=if left-l.length<0 then-1 else dY cn (left-l.length) l
def mf(left:Int)(m:Mem):Int:=if bC left m.ram<0 then-1 else if bC (bC left m.ram) m.swp<0 then-1 else eG (bC (bC left m.ram) m.swp) m.sp
theorem gI{α:Type}{f:Int→α→Int}{left:Int}{l:List α}{i:Nat}(h:i<l.length):dY f left (l.drop i)=if f left l[i]<0 then-1 else dY f (f left l[i]) (l.drop (i+1)):=by rw[List.drop_eq_getElem_cons h,dY]
theorem rQ{left:Int}{n:Nat}(h:0≤less left n):less left n=left-n∧(n:Int)≤left:=by
 unfold less at h ⊢;split<;>rename_i e
 ·rw[if_pos e]at h;omega
 ·omega
theorem kK{left:Int}{n:Nat}(h: -1≤left): -1≤less left n∧less left n≤left:=by unfold less;split<;>omega
theorem ku{α:Type}{f:Int→α→Int}:∀{l:List α}{left:Int},(∀x a,a∈l→0≤x→0≤f x a→f x a≤x)→0≤left→ -1≤dY f left l∧dY f left l≤left:=by
 intro l;induction l with
 |nil=>intro left _ h;simp only[dY];omega
 |cons a l ih=>
  intro left hf h;simp only[dY];split
  ·omega
  ·rename_i e;have:=ih (fun x b hb=>hf x b (List.mem_cons_of_mem _ hb)) (left:=f left a) (by omega);have:=hf left a (List.mem_cons_self ..) h (by omega);omega
theorem o7{left:Int}{s:Space}(h:0≤left): -1≤cn left s∧cn left s≤left:=by
 unfold cn;split
 ·omega
 ·have h1:=kK (n:=s.ar.length) (left:=left) (by omega);have h2:=kK (n:=s.sl.length) (left:=less left s.ar.length) (by omega);omega
theorem qA{left:Int}{l:List Str}(h:0≤left): -1≤dr left l∧dr left l≤left:=by
 unfold dr;split
 ·omega
 ·have:=ku (f:=fun x(s:Str)=>x-s.length) (l:=l) (left:=left-l.length) (fun x a _ _ _=>by omega) (by omega);omega
theorem nh{left:Int}{p:Pages}(h:0≤left): -1≤bC left p∧bC left p≤left:=by
 unfold bC;have h1:=qA (l:=p.tx) h;split
 ·omega
 ·have h2:=kK (n:=p.rf.length) (left:=dr left p.tx) (by omega);omega
theorem uW{left:Int}{l:List Space}(h:0≤left): -1≤eG left l∧eG left l≤left:=by
 unfold eG;split
 ·omega
 ·have:=ku (f:=cn) (l:=l) (left:=left-l.length) (fun x a _ h1 _=>(o7 h1).2) (by omega);omega
theorem mL{left:Int}{n:Nat}(h:0≤left)(h2:left≤4611686018427387904)(hn:n≤9223372036854775807):IntKind.wrap .i64 (left-n)=left-n:=wrap64 (by omega) (by omega)
theorem x5(b:Bool)(l:List Int)(left:Int)(h0:0≤left)(hx:left≤4611686018427387904)(hl:l.length≤9223372036854775807):af Try.prog 121 [.one (.ro b 1 (l.map rI)),.one (dI left)] (.v (.one (dI (less left l.length)))):=by
 refine aK hmix Try.func121 ok121 ?_;conv=>whnf
 have e:IntKind.wrap .i64 (left-(l.map rI).length)=left-l.length:=by rw[List.length_map];exact mL h0 hx hl
 rw[e];refine CondP.mk (fun h=>?_) (fun h=>?_)<;>conv=>whnf
 ·refine⟨?_,rfl⟩;have:left-l.length<0:=by simpa using h
  rw[less,if_pos this];rfl
 ·refine⟨?_,rfl⟩;have:¬left-l.length<0:=by simpa using h
  rw[less,if_neg this];rfl
theorem uk(b:Bool)(l:List Area)(left:Int)(h0:0≤left)(hx:left≤4611686018427387904)(hl:l.length≤9223372036854775807):af Try.prog 160 [.one (.ro b 4 (l.map rA)),.one (dI left)] (.v (.one (dI (less left l.length)))):=by
 refine aK hmix Try.func160 ok160 ?_;conv=>whnf
 have e:IntKind.wrap .i64 (left-(l.map rA).length)=left-l.length:=by rw[List.length_map];exact mL h0 hx hl
 rw[e];refine CondP.mk (fun h=>?_) (fun h=>?_)<;>conv=>whnf
 ·refine⟨?_,rfl⟩;have:left-l.length<0:=by simpa using h
  rw[less,if_pos this];rfl
 ·refine⟨?_,rfl⟩;have:¬left-l.length<0:=by simpa using h
  rw[less,if_neg this];rfl
theorem wM(b:Bool)(l:List Slot)(left:Int)(h0:0≤left)(hx:left≤4611686018427387904)(hl:l.length≤9223372036854775807):af Try.prog 161 [.one (.ro b 4 (l.map rL)),.one (dI left)] (.v (.one (dI (less left l.length)))):=by
 refine aK hmix Try.func161 ok161 ?_;conv=>whnf
 have e:IntKind.wrap .i64 (left-(l.map rL).length)=left-l.length:=by rw[List.length_map];exact mL h0 hx hl
 rw[e];refine CondP.mk (fun h=>?_) (fun h=>?_)<;>conv=>whnf
 ·refine⟨?_,rfl⟩;have:left-l.length<0:=by simpa using h
  rw[less,if_pos this];rfl
 ·refine⟨?_,rfl⟩;have:¬left-l.length<0:=by simpa using h
  rw[less,if_neg this];rfl
theorem r8(b:Bool)(l:List Str)(left:Int)(h0:0≤left)(hx:left≤4611686018427387904)(hl:l.length≤9223372036854775807)(hs:∀s,s∈l→s.length≤9223372036854775807):af Try.prog 120 [.one (.ro b 1 (l.map rS)),.one (dI left)] (.v (.one (dI (dr left l)))):=by
 refine aK hmix Try.func120 ok120 ?_;conv=>whnf
 have e:IntKind.wrap .i64 (left-(l.map rS).length)=left-l.length:=by rw[List.length_map];exact mL h0 hx hl
 rw[e];refine CondP.mk (fun h=>?_) (fun h=>?_)<;>conv=>whnf
 ·refine⟨?_,rfl⟩;have:left-l.length<0:=by simpa using h
  rw[dr,if_pos this];rfl
 ·have hge:¬left-l.length<0:=by simpa using h
  refine aa (fun p:Nat×Int=>[(0,.v (.one (.ro b 1 (l.map rS)))),(1,.v (.one (dI p.2))),(5,.v (.one (dI p.1)))]) (fun _=>[]) (fun _=>0)
   (fun p=>p.1≤l.length∧0≤p.2∧p.2≤left∧dr left l=dY (fun x(s:Str)=>x-s.length) p.2 (l.drop p.1)) (fun p=>l.length-p.1) (0,left-l.length) ⟨by omega,by omega,by omega,by rw[dr,if_neg hge];rfl⟩ rfl rfl rfl fun p hi=>?_
  obtain⟨i,x⟩:=p;obtain⟨hi1,hi2,hi3,hi4⟩:=hi;conv=>whnf
  refine CondP.mk (fun h=>?_) (fun h=>?_)<;>conv=>whnf
  ·have hlt:i<l.length:=by simpa using h
   refine aJ (k:=i) rfl rfl (by simpa using hlt) ?_;conv=>whnf
   refine aE rfl (r:=.one (.sc (.str l[i]))) (by simp[aZ,rS,hlt,eS]) ?_;conv=>whnf
   have e:IntKind.wrap .i64 (x-l[i].length)=x-l[i].length:=mL hi2 (by simp only at hi3;omega) (hs _ (List.getElem_mem hlt));rw[e];refine CondP.mk (fun h=>?_) (fun h=>?_)<;>conv=>whnf
   ·have h:x-l[i].length<0:=by simpa using h
    refine⟨?_,rfl⟩;rw[hi4,gI hlt,if_pos h];rfl
   ·have h:¬x-l[i].length<0:=by simpa using h
    refine⟨(i+1,x-l[i].length),by simp only;omega,⟨by simp only;omega,by simp only;omega,by simp only at hi3 ⊢;omega,?_⟩,?_,rfl,rfl⟩
    ·rw[hi4,gI hlt,if_neg h]
    ·show _=_;rw[←up hlt (by omega)];rfl
  ·refine⟨?_,rfl⟩;have:i=l.length:=by
                have:¬i<l.length:=by simpa using h
                simp only at hi1;omega
   subst this;rw[hi4,List.drop_length];rfl
theorem nf(b1 b2:Bool)(p:Pages)(left:Int)(h0:0≤left)(hx:left≤4611686018427387904)(h1:p.tx.length≤9223372036854775807)(h2:p.rf.length≤9223372036854775807)(hs:∀s,s∈p.tx→s.length≤9223372036854775807):af Try.prog 56 [.agg [.ro b1 1 (p.tx.map rS),.ro b2 1 (p.rf.map rI)],.one (dI left)] (.v (.one (dI (bC left p)))):=by
 refine aK hmix Try.func56 ok56 ?_;conv=>whnf
 refine aB [.pass,.pass] rfl rfl rfl (r8 _ p.tx left h0 hx h1 hs) rfl ?_;conv=>whnf
 have hb:=qA (l:=p.tx) h0;refine CondP.mk (fun h=>?_) (fun h=>?_)<;>conv=>whnf
 ·have h:dr left p.tx<0:=by simpa using h
  refine⟨?_,rfl⟩;rw[bC,if_pos h];rfl
 ·have h:¬dr left p.tx<0:=by simpa using h
  refine aB [.pass,.pass] rfl rfl rfl (x5 _ p.rf (dr left p.tx) (by omega) (by omega) h2) rfl ?_;conv=>whnf
  refine CondP.mk (fun h3=>?_) (fun h3=>?_)<;>conv=>whnf
  ·have h3:less (dr left p.tx) p.rf.length<0:=by simpa using h3
   have hb2:=kK (n:=p.rf.length) (left:=dr left p.tx) (by omega);refine⟨?_,rfl⟩;rw[bC,if_neg h];rw[show less (dr left p.tx) p.rf.length= -1 by omega];rfl
  ·refine⟨?_,rfl⟩;rw[bC,if_neg h];rfl
theorem ux(b:Bool)(s:Space)(left:Int)(h0:0≤left)(hx:left≤4611686018427387904)(h1:s.ar.length≤9223372036854775807)(h2:s.sl.length≤9223372036854775807):af Try.prog 122 [.agg (aP b s),.one (dI left)] (.v (.one (dI (cn left s)))):=by
 refine aK hmix Try.func122 ok122 ?_;conv=>whnf
 refine aB [.pass,.pass] rfl rfl rfl (uk _ s.ar left h0 hx h1) rfl ?_;conv=>whnf
 have hb:=kK (n:=s.ar.length) (left:=left) (by omega);refine CondP.mk (fun h=>?_) (fun h=>?_)<;>conv=>whnf
 ·have h:less left s.ar.length<0:=by simpa using h
  refine⟨?_,rfl⟩;rw[cn,if_pos h];rfl
 ·have h:¬less left s.ar.length<0:=by simpa using h
  refine aB [.pass,.pass] rfl rfl rfl (wM _ s.sl (less left s.ar.length) (by omega) (by omega) h2) rfl ?_;conv=>whnf
  refine CondP.mk (fun h3=>?_) (fun h3=>?_)<;>conv=>whnf
  ·have h3:less (less left s.ar.length) s.sl.length<0:=by simpa using h3
   have hb2:=kK (n:=s.sl.length) (left:=less left s.ar.length) (by omega);refine⟨?_,rfl⟩;rw[cn,if_neg h];rw[show less (less left s.ar.length) s.sl.length= -1 by omega];rfl
  ·refine⟨?_,rfl⟩;rw[cn,if_neg h];rfl
theorem sm(b:Bool)(l:List Space)(left:Int)(h0:0≤left)(hx:left≤4611686018427387904)(hl:l.length≤9223372036854775807)(hs:iK 9223372036854775807 l):af Try.prog 57 [.one (.ro b 3 (l.map rP)),.one (dI left)] (.v (.one (dI (eG left l)))):=by
 refine aK hmix Try.func57 ok57 ?_;conv=>whnf
 have e:IntKind.wrap .i64 (left-(l.map rP).length)=left-l.length:=by rw[List.length_map];exact mL h0 hx hl
 rw[e];refine CondP.mk (fun h=>?_) (fun h=>?_)<;>conv=>whnf
 ·refine⟨?_,rfl⟩;have:left-l.length<0:=by simpa using h
  rw[eG,if_pos this];rfl
 ·have hge:¬left-l.length<0:=by simpa using h
  refine aa (fun p:Nat×Int=>[(0,.v (.one (.ro b 3 (l.map rP)))),(1,.v (.one (dI p.2))),(5,.v (.one (dI p.1)))]) (fun _=>[]) (fun _=>0)
   (fun p=>p.1≤l.length∧0≤p.2∧p.2≤left∧eG left l=dY cn p.2 (l.drop p.1)) (fun p=>l.length-p.1) (0,left-l.length) ⟨by omega,by omega,by omega,by rw[eG,if_neg hge];rfl⟩ rfl rfl rfl fun p hi=>?_
  obtain⟨i,x⟩:=p;obtain⟨hi1,hi2,hi3,hi4⟩:=hi;simp only at hi1 hi2 hi3 hi4;conv=>whnf
  refine CondP.mk (fun h=>?_) (fun h=>?_)<;>conv=>whnf
  ·have hlt:i<l.length:=by simpa using h
   refine aJ (k:=i) rfl rfl (by simpa using hlt) ?_;conv=>whnf
   refine aE rfl (ldP hlt) ?_;conv=>whnf
   refine aB [.pass,.pass] rfl rfl rfl (ux b l[i] x hi2 (by omega) (hs _ (List.getElem_mem hlt)).1 (hs _ (List.getElem_mem hlt)).2) rfl ?_;conv=>whnf
   have hb:=o7 (s:=l[i]) hi2;refine CondP.mk (fun h=>?_) (fun h=>?_)<;>conv=>whnf
   ·have h:cn x l[i]<0:=by simpa using h
    refine⟨?_,rfl⟩;rw[hi4,gI hlt,if_pos h];rfl
   ·have h:¬cn x l[i]<0:=by simpa using h
    refine⟨(i+1,cn x l[i]),by simp only;omega,⟨by simp only;omega,by simp only;omega,by simp only;omega,?_⟩,?_,rfl,rfl⟩
    ·rw[hi4,gI hlt,if_neg h]
    ·show _=_;rw[←up hlt (by omega)];rfl
  ·refine⟨?_,rfl⟩;have:i=l.length:=by
                have:¬i<l.length:=by simpa using h
                omega
   subst this;rw[hi4,List.drop_length];rfl
structure Mem.inW(m:Mem):Prop where
 fit:m.fits 9223372036854775807
 rs:∀s,s∈m.ram.tx→s.length≤9223372036854775807
 ss:∀s,s∈m.swp.tx→s.length≤9223372036854775807
theorem aAJ(b1 b2 b3 b4 b5:Bool)(m:Mem)(left:Int)(h0:0≤left)(hx:left≤4611686018427387904)(h:m.inW):af Try.prog 22 [aM b1 b2 b3 b4 b5 m,.one (dI left)] (.v (.one (dI (mf left m)))):=by
 refine aK hmix Try.func22 ok22 ?_;conv=>whnf
 refine aB [.pass,.pass] rfl rfl rfl (nf _ _ m.ram left h0 hx h.fit.rt h.fit.rr h.rs) rfl ?_;conv=>whnf
 have hb:=nh (p:=m.ram) h0;refine CondP.mk (fun h1=>?_) (fun h1=>?_)<;>conv=>whnf
 ·have h1:bC left m.ram<0:=by simpa using h1
  refine⟨?_,rfl⟩;rw[mf,if_pos h1];rfl
 have h1:¬bC left m.ram<0:=by simpa using h1
 have hb2:=nh (p:=m.swp) (left:=bC left m.ram) (by omega);refine aB [.pass,.pass] rfl rfl rfl (nf _ _ m.swp (bC left m.ram) (by omega) (by omega) h.fit.st h.fit.sr h.ss) rfl ?_;conv=>whnf
 refine CondP.mk (fun h2=>?_) (fun h2=>?_)<;>conv=>whnf
 ·have h2:bC (bC left m.ram) m.swp<0:=by simpa using h2
  refine⟨?_,rfl⟩;rw[mf,if_neg h1,if_pos h2];rfl
 have h2:¬bC (bC left m.ram) m.swp<0:=by simpa using h2
 have hb3:=uW (l:=m.sp) (left:=bC (bC left m.ram) m.swp) (by omega);refine aB [.pass,.pass] rfl rfl rfl (sm _ m.sp (bC (bC left m.ram) m.swp) (by omega) (by omega) h.fit.sp h.fit.ss) rfl ?_;conv=>whnf
 refine CondP.mk (fun h3=>?_) (fun h3=>?_)<;>conv=>whnf
 ·have h3:eG (bC (bC left m.ram) m.swp) m.sp<0:=by simpa using h3
  refine⟨?_,rfl⟩;rw[mf,if_neg h1,if_neg h2,show eG (bC (bC left m.ram) m.swp) m.sp= -1 by omega];rfl
 ·refine⟨?_,rfl⟩;rw[mf,if_neg h1,if_neg h2];rfl
end Go.Qm
namespace Go.Qm
open Go.Cq Go.Cq.D Go.RowKit Go.Proofs
set_option maxRecDepth 10000
def cO{α:Type}(f:α→List PV)(z:List PV)(l:List α)(i:Nat):List (List PV):=(l.take i).map f++List.replicate (l.length-i) z
theorem dA{α:Type}{f:α→List PV}{z:List PV}{l:List α}{i:Nat}(h:i≤l.length):(cO f z l i).length=l.length:=by simp[cO];omega
theorem iX{α:Type}{f:α→List PV}{z:List PV}{l:List α}:cO f z l 0=List.replicate l.length z:=by simp[cO]
theorem jZ{α:Type}{f:α→List PV}{z:List PV}{l:List α}:cO f z l l.length=l.map f:=by simp[cO]
theorem pC{α:Type}{f:α→List PV}{z:List PV}{l:List α}{i:Nat}(h:i<l.length):(cO f z l i)[i]?=some z:=by simp[cO,List.getElem?_append,Nat.min_eq_left (Nat.le_of_lt h),List.getElem?_replicate];omega
theorem mw{α:Type}{f:α→List PV}{z:List PV}{l:List α}{i:Nat}{g:List PV→List PV}(h:i<l.length)(hg:g z=f l[i]):(cO f z l i).modify i g=cO f z l (i+1):=by
 refine List.ext_getElem? fun j=>?_
 rw[List.getElem?_modify];by_cases e:i=j
 ·subst e;rw[pC h];simp[cO,List.getElem?_append,Nat.min_eq_left (show i+1≤l.length from h),hg,List.getElem?_take,h]
 ·simp only[cO,List.getElem?_append,List.length_map,List.length_take,List.getElem?_map,List.getElem?_take,List.getElem?_replicate,if_neg e,Nat.min_eq_left (show i+1≤l.length from h),Nat.min_eq_left (Nat.le_of_lt h)];rcases Nat.lt_trichotomy j i with h1|h1|h1
  ·simp[h1,show j<i+1 by omega]
  ·omega
  ·simp[show¬j<i by omega,show¬j<i+1 by omega];by_cases h2:j-i<l.length-i
   ·rw[if_pos h2,if_pos (by omega)]
   ·rw[if_neg h2,if_neg (by omega)]
theorem yz{α:Type}{f:α→List PV}{z:List PV}{l:List α}{i:Nat}(h:i<l.length):(cO f z l i).set i (f l[i])=cO f z l (i+1):=by
 rw[←mw h (g:=fun _=>f l[i]) rfl];refine List.ext_getElem? fun j=>?_
 rw[List.getElem?_modify,List.getElem?_set];by_cases e:i=j
 ·subst e;rw[pC h,if_pos rfl,if_pos (by rw[dA (Nat.le_of_lt h)];exact h)];simp
 ·simp[e]
theorem qh{α:Type}{f:α→List PV}{z:List PV}{l:List α}{i:Nat}{g:List PV→List PV}(h:i<l.length)(hg:g z=f l[i]):(((cO f z l i).modify (0+i) g).drop 0).take (cO f z l i).length=cO f z l (i+1):=by rw[Nat.zero_add,mw h hg,List.drop_zero,dA (Nat.le_of_lt h),←dA (f:=f) (z:=z) (show i+1≤l.length from h),List.take_length]
theorem kq{α:Type}{f:α→List PV}{z:List PV}{l:List α}{i:Nat}(h:i<l.length):(((cO f z l i).set (0+i) (f l[i])).drop 0).take (cO f z l i).length=cO f z l (i+1):=by rw[Nat.zero_add,yz h,List.drop_zero,dA (Nat.le_of_lt h),←dA (f:=f) (z:=z) (show i+1≤l.length from h),List.take_length]
theorem oR{α:Type}{f:α→List PV}{z:List PV}{l:List α}{i n:Nat}(hz:z.length=n)(hf:∀a,(f a).length=n):∀(j:Nat) row,(cO f z l i)[j]?=some row→row.length=n:=by
 intro j row h;have:=List.mem_of_getElem? h;simp only[cO,List.mem_append,List.mem_map,List.mem_replicate]at this;rcases this with⟨a, -,rfl⟩| ⟨-,rfl⟩
 ·exact hf a
 ·exact hz
theorem yW(b:Bool)(l:List Int)(hl:l.length≤1048576):af Try.prog 127 [.one (.ro b 1 (l.map rI))] (.v (.one (.own 1 (l.map rI)))):=by
 refine aK hmix Try.func127 ok127 ?_;conv=>whnf
 have hl':(l.map rI).length≤1048576:=by rw[List.length_map];exact hl
 refine o5 rfl rfl rfl rfl (Nat.le_refl _) (by omega) (by omega) ?_;conv=>whnf
 refine aa (fun i:Nat=>[(0,.v (.one (.ro b 1 (l.map rI)))),(3,.v (.one (.own 1 (cO rI [.sc (.int .i64 0)] l i)))),(4,.v (.one (dI i)))]) (fun _=>[]) (fun _=>0)
  (fun i=>i≤l.length) (fun i=>l.length-i) 0 (by omega) (by rw[iX,←List.length_map (f:=rI)];simp[dI]) rfl rfl fun i hi=>?_
 conv=>whnf
 refine CondP.mk (fun h=>?_) (fun h=>?_)<;>conv=>whnf
 ·have hlt:i<l.length:=by simpa using h
  refine aJ (k:=i) rfl rfl (by simpa using hlt) ?_;conv=>whnf
  refine aE rfl (r:=.one (dI l[i])) (by simp[aZ,hlt,rI,eI,dI]) ?_;conv=>whnf
  refine cJ (k:=i) rfl rfl rfl (by rw[dA hi];exact hlt) ?_;conv=>whnf
  refine aG rfl rfl rfl (by rw[dA hi];simpa using hlt) (by decide) ?_;conv=>whnf
  refine⟨i+1,by omega,by omega,?_,rfl,rfl⟩;rw[←up hlt (by omega),←qh hlt (f:=rI) (z:=[.sc (.int .i64 0)]) (g:=fun x=>x.set 0 _) rfl];rfl
 ·have:i=l.length:=by
               have:¬i<l.length:=by simpa using h
               omega
  subst this;refine⟨?_,rfl⟩;simp[jZ,List.take_of_length_le]
theorem rl(b:Bool)(l:List Str)(hl:l.length≤1048576):af Try.prog 126 [.one (.ro b 1 (l.map rS))] (.v (.one (.own 1 (l.map rS)))):=by
 refine aK hmix Try.func126 ok126 ?_;conv=>whnf
 have hl':(l.map rS).length≤1048576:=by rw[List.length_map];exact hl
 refine o5 rfl rfl rfl rfl (Nat.le_refl _) (by omega) (by omega) ?_;conv=>whnf
 refine aa (fun i:Nat=>[(0,.v (.one (.ro b 1 (l.map rS)))),(3,.v (.one (.own 1 (cO rS [.sc (.str [])] l i)))),(4,.v (.one (dI i)))]) (fun _=>[]) (fun _=>0)
  (fun i=>i≤l.length) (fun i=>l.length-i) 0 (by omega) (by rw[iX,←List.length_map (f:=rS)];simp[dI]) rfl rfl fun i hi=>?_
 conv=>whnf
 refine CondP.mk (fun h=>?_) (fun h=>?_)<;>conv=>whnf
 ·have hlt:i<l.length:=by simpa using h
  refine aJ (k:=i) rfl rfl (by simpa using hlt) ?_;conv=>whnf
  refine aE rfl (r:=.one (.sc (.str l[i]))) (by simp[aZ,hlt,rS,eS]) ?_;conv=>whnf
  refine cJ (k:=i) rfl rfl rfl (by rw[dA hi];exact hlt) ?_;conv=>whnf
  refine aG rfl rfl rfl (by rw[dA hi];simpa using hlt) (by decide) ?_;conv=>whnf
  refine⟨i+1,by omega,by omega,?_,rfl,rfl⟩;rw[←up hlt (by omega),←qh hlt (f:=rS) (z:=[.sc (.str [])]) (g:=fun x=>x.set 0 _) rfl];rfl
 ·have:i=l.length:=by
               have:¬i<l.length:=by simpa using h
               omega
  subst this;refine⟨?_,rfl⟩;simp[jZ,List.take_of_length_le]
theorem xr(a:Area):af Try.prog 51 [.agg (aA a)] (.v (.agg (aA a))):=by
 refine aK hmix Try.func51 ok51 ?_;conv=>whnf
 exact⟨rfl,rfl⟩
theorem ya(a:Slot):af Try.prog 182 [.agg (aL a)] (.v (.agg (aL a))):=by
 refine aK hmix Try.func182 ok182 ?_;conv=>whnf
 exact⟨rfl,rfl⟩
theorem wA(b:Bool)(l:List Area)(hl:l.length≤1048576):af Try.prog 165 [.one (.ro b 4 (l.map rA))] (.v (.one (.own 4 (l.map rA)))):=by
 refine aK hmix Try.func165 ok165 ?_;conv=>whnf
 have hl':(l.map rA).length≤1048576:=by rw[List.length_map];exact hl
 refine o5 rfl rfl rfl rfl (Nat.le_refl _) (by omega) (by omega) ?_;conv=>whnf
 refine aa (fun i:Nat=>[(0,.v (.one (.ro b 4 (l.map rA)))),(3,.v (.one (.own 4 (cO rA [.sc (.int .i64 0),.sc (.int .i64 0),.sc (.bool false),.sc (.bool false)] l i)))),(4,.v (.one (dI i)))]) (fun _=>[]) (fun _=>0)
  (fun i=>i≤l.length) (fun i=>l.length-i) 0 (by omega) (by rw[iX,←List.length_map (f:=rA)];simp[dI]) rfl rfl fun i hi=>?_
 conv=>whnf
 refine CondP.mk (fun h=>?_) (fun h=>?_)<;>conv=>whnf
 ·have hlt:i<l.length:=by simpa using h
  refine aJ (k:=i) rfl rfl (by simpa using hlt) ?_;conv=>whnf
  refine aE rfl (ldA hlt) ?_;conv=>whnf
  refine aB [.pass] rfl rfl rfl (xr l[i]) rfl ?_;conv=>whnf
  refine cJ (k:=i) rfl rfl rfl (by rw[dA hi];exact hlt) ?_;conv=>whnf
  refine dT (row':=rA l[i]) rfl rfl rfl (by rw[dA hi,Nat.zero_add];exact hlt) (oR (f:=rA) (z:=[.sc (.int .i64 0),.sc (.int .i64 0),.sc (.bool false),.sc (.bool false)]) (n:=4) rfl (fun _=>rfl) _) (rb _) rfl rfl rfl ?_;conv=>whnf
  refine⟨i+1,by omega,by omega,?_,rfl,rfl⟩;rw[←up hlt (by omega),←kq hlt (f:=rA) (z:=[.sc (.int .i64 0),.sc (.int .i64 0),.sc (.bool false),.sc (.bool false)])];rfl
 ·have:i=l.length:=by
               have:¬i<l.length:=by simpa using h
               omega
  subst this;refine⟨?_,rfl⟩;simp[jZ,List.take_of_length_le]
theorem vM(b:Bool)(l:List Slot)(hl:l.length≤1048576):af Try.prog 166 [.one (.ro b 4 (l.map rL))] (.v (.one (.own 4 (l.map rL)))):=by
 refine aK hmix Try.func166 ok166 ?_;conv=>whnf
 have hl':(l.map rL).length≤1048576:=by rw[List.length_map];exact hl
 refine o5 rfl rfl rfl rfl (Nat.le_refl _) (by omega) (by omega) ?_;conv=>whnf
 refine aa (fun i:Nat=>[(0,.v (.one (.ro b 4 (l.map rL)))),(3,.v (.one (.own 4 (cO rL [.sc (.int .i64 0),.sc (.int .i64 0),.sc (.bool false),.sc (.bool false)] l i)))),(4,.v (.one (dI i)))]) (fun _=>[]) (fun _=>0)
  (fun i=>i≤l.length) (fun i=>l.length-i) 0 (by omega) (by rw[iX,←List.length_map (f:=rL)];simp[dI]) rfl rfl fun i hi=>?_
 conv=>whnf
 refine CondP.mk (fun h=>?_) (fun h=>?_)<;>conv=>whnf
 ·have hlt:i<l.length:=by simpa using h
  refine aJ (k:=i) rfl rfl (by simpa using hlt) ?_;conv=>whnf
  refine aE rfl (ldL hlt) ?_;conv=>whnf
  refine aB [.pass] rfl rfl rfl (ya l[i]) rfl ?_;conv=>whnf
  refine cJ (k:=i) rfl rfl rfl (by rw[dA hi];exact hlt) ?_;conv=>whnf
  refine dT (row':=rL l[i]) rfl rfl rfl (by rw[dA hi,Nat.zero_add];exact hlt) (oR (f:=rL) (z:=[.sc (.int .i64 0),.sc (.int .i64 0),.sc (.bool false),.sc (.bool false)]) (n:=4) rfl (fun _=>rfl) _) (eV _) rfl rfl rfl ?_;conv=>whnf
  refine⟨i+1,by omega,by omega,?_,rfl,rfl⟩;rw[←up hlt (by omega),←kq hlt (f:=rL) (z:=[.sc (.int .i64 0),.sc (.int .i64 0),.sc (.bool false),.sc (.bool false)])];rfl
 ·have:i=l.length:=by
               have:¬i<l.length:=by simpa using h
               omega
  subst this;refine⟨?_,rfl⟩;simp[jZ,List.take_of_length_le]
end Go.Qm
namespace Go.Qm
open Go.Cq Go.Cq.D Go.RowKit Go.Proofs
set_option maxRecDepth 10000
theorem nk(b1 b2:Bool)(p:Pages)(h1:p.tx.length≤1048576)(h2:p.rf.length≤1048576):af Try.prog 61 [.agg [.ro b1 1 (p.tx.map rS),.ro b2 1 (p.rf.map rI)]] (.v (.agg [.own 1 (p.tx.map rS),.own 1 (p.rf.map rI)])):=by
 refine aK hmix Try.func61 ok61 ?_;conv=>whnf
 refine aB [.pass] rfl rfl rfl (rl _ p.tx h1) rfl ?_;conv=>whnf
 refine aB [.pass] rfl rfl rfl (yW _ p.rf h2) rfl ?_;conv=>whnf
 refine⟨?_,rfl⟩;simp
def oP(s:Space):DV:=.agg [dB s.lv,.own 4 (s.ar.map rA),.own 4 (s.sl.map rL)]
theorem vi(b:Bool)(s:Space)(h1:s.ar.length≤1048576)(h2:s.sl.length≤1048576):af Try.prog 128 [.agg (aP b s)] (.v (oP s)):=by
 refine aK hmix Try.func128 ok128 ?_;conv=>whnf
 refine aB [.pass] rfl rfl rfl (wA _ s.ar h1) rfl ?_;conv=>whnf
 refine aB [.pass] rfl rfl rfl (vM _ s.sl h2) rfl ?_;conv=>whnf
 refine⟨?_,rfl⟩;simp[oP,dB]
theorem aBa{x y z:PV}{es:List (List PV)}{i:Nat}(h:∀row,es[i]?=some row→row.length=3):((es.modify i (·.set 0 x)).modify i (·.set 2 z)).modify i (·.set 1 y)=es.set i [x,y,z]:=by
 refine List.ext_getElem? fun j=>?_
 simp only[List.getElem?_modify,List.getElem?_set];by_cases e:i=j
 ·subst e;cases hr:es[i]? with
  |none=>simp[List.getElem?_eq_none_iff.1 hr]
  |some row=>
   have:=h row hr;obtain⟨hi, -⟩:=List.getElem?_eq_some_iff.1 hr
   match row,this with
   | [_,_,_],_=>simp[hi]
 ·simp[e]
theorem uP(b:Bool)(l:List Space)(hl:l.length≤1048576)(hs:iK 1048576 l):af Try.prog 62 [.one (.ro b 3 (l.map rP))] (.v (.one (.own 3 (l.map rP)))):=by
 refine aK hmix Try.func62 ok62 ?_;conv=>whnf
 have hl':(l.map rP).length≤1048576:=by rw[List.length_map];exact hl
 refine o5 rfl rfl rfl rfl (Nat.le_refl _) (by omega) (by omega) ?_;conv=>whnf
 refine aa (fun i:Nat=>[(0,.v (.one (.ro b 3 (l.map rP)))),(3,.v (.one (.own 3 (cO rP [.sc (.bool false),.sl 4 [],.sl 4 []] l i)))),(4,.v (.one (dI i)))]) (fun _=>[]) (fun _=>0)
  (fun i=>i≤l.length) (fun i=>l.length-i) 0 (by omega) (by rw[iX,←List.length_map (f:=rP)];simp[dI]) rfl rfl fun i hi=>?_
 conv=>whnf
 refine CondP.mk (fun h=>?_) (fun h=>?_)<;>conv=>whnf
 ·have hlt:i<l.length:=by simpa using h
  refine aJ (k:=i) rfl rfl (by simpa using hlt) ?_;conv=>whnf
  refine aE rfl (ldP hlt) ?_;conv=>whnf
  refine aB [.pass] rfl rfl rfl (vi b l[i] (hs _ (List.getElem_mem hlt)).1 (hs _ (List.getElem_mem hlt)).2) rfl ?_;conv=>whnf
  refine cJ (k:=i) rfl rfl rfl (by rw[dA hi];exact hlt) ?_;conv=>whnf
  have hfl:i< (cO rP [.sc (.bool false),.sl 4 [],.sl 4 []] l i).length:=by rw[dA hi];exact hlt
  refine qy rfl rfl rfl rfl rfl (by simp[wrN,wr1,DV.cells,hfl,dB];rfl) ?_;conv=>whnf
  have h0:=pC (f:=rP) (z:=[.sc (.bool false),.sl 4 [],.sl 4 []]) hlt;refine aX (i:=i) (k:=2) (g':=2) (lo:=0) (len:=l[i].sl.length) (ov2:=[(i,1,.sl 1 0 l[i].ar.length)]) rfl (bZ (cB h0) (by simp) (by simp only[ai,if_true];rfl)) rfl rfl rfl (by simp only[bJ,if_true];rfl) ?_;conv=>whnf
  refine aX (i:=i) (k:=1) (g':=1) (lo:=0) (len:=l[i].ar.length) (ov2:=[]) rfl (bZ (cB (cB h0)) (by simp) (by simp only[ai,if_true];rfl)) rfl rfl rfl (by simp only[bJ,if_true];rfl) ?_;conv=>whnf
  refine⟨i+1,by omega,by omega,?_,rfl,rfl⟩;rw[←up hlt (by omega),←kq hlt (f:=rP) (z:=[.sc (.bool false),.sl 4 [],.sl 4 []])];simp only[bg,List.drop_zero,Nat.zero_add,rP,←aBa (oR (f:=rP) (z:=[.sc (.bool false),.sl 4 [],.sl 4 []]) (n:=3) rfl (fun _=>rfl) i)];rfl
 ·have:i=l.length:=by
               have:¬i<l.length:=by simpa using h
               omega
  subst this;refine⟨?_,rfl⟩;simp[jZ,List.take_of_length_le]
def oM(m:Mem):DV:=.agg [.own 1 (m.ram.tx.map rS),.own 1 (m.ram.rf.map rI),.own 1 (m.swp.tx.map rS),.own 1 (m.swp.rf.map rI),.own 3 (m.sp.map rP),dI m.hd]
theorem lz(b1 b2 b3 b4 b5:Bool)(m:Mem)(h:m.fits 1048576):af Try.prog 24 [aM b1 b2 b3 b4 b5 m] (.v (oM m)):=by
 refine aK hmix Try.func24 ok24 ?_;conv=>whnf
 refine aB [.pass] rfl rfl rfl (nk _ _ m.ram h.rt h.rr) rfl ?_;conv=>whnf
 refine aB [.pass] rfl rfl rfl (nk _ _ m.swp h.st h.sr) rfl ?_;conv=>whnf
 refine aB [.pass] rfl rfl rfl (uP _ m.sp h.sp h.ss) rfl ?_;conv=>whnf
 refine⟨?_,rfl⟩;simp[oM,dI]
end Go.Qm
namespace Go.Qm
open Go.Cq Go.Cq.D Go.RowKit Go.Proofs
set_option maxRecDepth 10000
def digit(k:Int):UInt8:=tB (IntKind.wrap .i64 (48+k.tmod 10))
def uK:Nat→Int→Str→Str
 |0,_,out=>out
 |n+1,k,out=>if 0<k then uK n (k.tdiv 10) (digit k::out)else out
def jo(k:Int):Str:=if k≤0 then [109,48]else 109::uK k.toNat k []
theorem xz{n:Nat}:∀{m:Nat}{k:Int}{out:Str},k.toNat≤n→n≤m→uK m k out=uK n k out:=by
 induction n with
 |zero=>
  intro m k out h1 h2;cases m with
  |zero=>rfl
  |succ m=>simp only[uK];rw[if_neg (by omega)]
 |succ n ih=>
  intro m k out h1 h2;cases m with
  |zero=>omega
  |succ m=>
   simp only[uK];split
   ·rename_i h;have:k.tdiv 10<k:=by rw[Int.tdiv_eq_ediv_of_nonneg (by omega)];omega
    exact ih (by omega) (by omega)
   ·rfl
theorem aD2{k:Int}(h1:0<k)(h2:k≤9223372036854775807):IntKind.wrap .i64 (k.tdiv 10)=k.tdiv 10:=by have:=Int.tdiv_eq_ediv_of_nonneg (a:=k) (b:=10) (by omega);exact wrap64 (by omega) (by omega)
theorem nD(k:Int)(hk:k≤4611686018427387904):af Try.prog 169 [.one (dI k)] (.v (.one (.sc (.str (jo k))))):=by
 refine aK hmix Try.func169 ok169 ?_;conv=>whnf
 refine CondP.mk (fun h=>?_) (fun h=>?_)<;>conv=>whnf
 ·refine⟨?_,rfl⟩;rw[jo,if_pos (by simpa using h)]
 ·have hk0:0<k:=by simpa using h
  refine aa (fun p:Int×Str=>[(0,.v (.one (dI p.1))),(3,.v (.one (.sc (.str p.2))))]) (fun _=>[]) (fun _=>0)
   (fun p=>0≤p.1∧p.1≤k∧jo k=109::uK p.1.toNat p.1 p.2∧p.2.length+p.1.toNat≤k.toNat) (fun p=>p.1.toNat) (k,[]) ⟨by omega,Int.le_refl _,by rw[jo,if_neg (by omega)],by simp⟩ rfl rfl rfl fun p hi=>?_
  obtain⟨i,x⟩:=p;obtain⟨hi1,hi2,hi3,hi4⟩:=hi;simp only at hi1 hi2 hi3 hi4;conv=>whnf
  refine CondP.mk (fun h=>?_) (fun h=>?_)<;>conv=>whnf
  ·have hi:0<i:=by simpa using h
   have hd:=Int.tdiv_eq_ediv_of_nonneg (a:=i) (b:=10) (by omega);refine dm rfl ?_;conv=>whnf
   refine eZ rfl rfl rfl ?_;conv=>whnf
   refine j8 (bs:=[digit i]) rfl rfl (by simp only[List.map_cons,List.map_nil,digit,mB];rfl) ?_;conv=>whnf
   refine rn (l:=[digit i]) (m:=x) rfl rfl (by simp only[List.length_cons,List.length_nil];omega) ?_;conv=>whnf
   refine dm rfl ?_;conv=>whnf
   refine⟨(i.tdiv 10,digit i::x),by simp only;omega,⟨by simp only;omega,by simp only;omega,?_,?_⟩,?_,rfl,rfl⟩
   ·rw[hi3];congr 1;obtain⟨n,hn⟩:∃n,i.toNat=n+1:=⟨i.toNat-1,by omega⟩;rw[hn,uK,if_pos hi];exact xz (Nat.le_refl _) (by omega)
   ·simp only[List.length_cons];omega
   ·have:IntKind.wrap .i64 (i.tdiv 10)=i.tdiv 10:=aD2 hi (by omega);simp[dI,this]
  ·refine rn (l:=[109]) (m:=x) rfl rfl (by simp only[List.length_cons,List.length_nil];omega) ?_;conv=>whnf
   refine⟨?_,rfl⟩;have:i=0:=by
             have:¬0<i:=by simpa using h
             omega
   subst this;rw[hi3];rfl
def aw{α:Type}(f:Int→α→Option Int):Int→List α→Option Int
 |k,[]=>some k
 |k,a::l=>match f k a with
  |some k'=>aw f k' l
  |none=>none
def orM(o:Option Int):Int:=o.getD (-1)
def nF(k:Int)(s:Str):Option Int:=if s=jo k then some (k+1)else none
def nL(k:Int)(n:Int):Option Int:=if n=k then some (k+1)else none
def m3(k:Int):Bool:=decide (k % 3=0)
def iU(k:Int)(a:Area):Option Int:=if a.fr=k∧a.mn=k+1∧a.wr=m3 (k+2)∧a.sh=m3 (k+3)then some (k+4)else none
def ig(k:Int)(a:Slot):Option Int:=if a.kd=k∧a.pl=k+1∧a.ow=m3 (k+2)∧a.us=m3 (k+3)then some (k+4)else none
def dw(k:Int)(s:Space):Option Int:=if s.lv=m3 k then(aw iU (k+1) s.ar).bind fun k=>aw ig k s.sl else none
def gA(k:Int)(p:Pages):Option Int:=(aw nF k p.tx).bind fun k=>aw nL k p.rf
def uw(k:Int)(m:Mem):Option Int:=(gA k m.ram).bind fun k=>(gA k m.swp).bind fun k=>aw dw k m.sp
theorem cu{α:Type}{f:Int→α→Option Int}{k:Int}{l:List α}{i:Nat}(h:i<l.length):aw f k (l.drop i)=match f k l[i]with
  |some k'=>aw f k' (l.drop (i+1))
  |none=>none:=by
 rw[List.drop_eq_getElem_cons h,aw]
theorem ka{k:Int}(h:0≤k):(k.tmod 3=0)=(k % 3=0):=by rw[Int.tmod_eq_emod_of_nonneg h]
theorem upk{k:Int}{i:Nat}(h:k+i≤4611686018427387904)(h0:0≤k):IntKind.wrap .i64 (k+i+1)=k+((i+1:Nat):Int):=by rw[wrap64 (by omega) (by omega)];omega
theorem pS(b:Bool)(l:List Str)(k:Int)(hl:l.length≤1048576)(h0:0≤k)(hk:k≤1073741824):af Try.prog 138 [.one (.ro b 1 (l.map rS)),.one (dI k)] (.v (.one (dI (orM (aw nF k l))))):=by
 refine aK hmix Try.func138 ok138 ?_;conv=>whnf
 refine aa (fun i:Nat=>[(0,.v (.one (.ro b 1 (l.map rS)))),(1,.v (.one (dI (k+i)))),(5,.v (.one (dI i)))]) (fun _=>[]) (fun _=>0)
  (fun i=>i≤l.length∧aw nF k l=aw nF (k+i) (l.drop i)) (fun i=>l.length-i) 0 ⟨by omega,by simp⟩ (by simp[dI]) rfl rfl fun i hi=>?_
 obtain⟨hi1,hi2⟩:=hi;conv=>whnf
 refine CondP.mk (fun h=>?_) (fun h=>?_)<;>conv=>whnf
 ·have hlt:i<l.length:=by simpa using h
  refine aJ (k:=i) rfl rfl (by simpa using hlt) ?_;conv=>whnf
  refine aE rfl (r:=.one (.sc (.str l[i]))) (by simp[aZ,rS,hlt,eS]) ?_;conv=>whnf
  refine aB [.pass] rfl rfl rfl (nD (k+i) (by omega)) rfl ?_;conv=>whnf
  refine CondP.mk (fun h1=>?_) (fun h1=>?_)<;>conv=>whnf
  ·have h1:¬l[i]=jo (k+i):=by simpa using h1
   refine⟨?_,rfl⟩;rw[hi2,cu hlt,nF,if_neg h1];rfl
  ·have h1:l[i]=jo (k+i):=by simpa using h1
   refine⟨i+1,by omega,⟨by omega,?_⟩,?_,rfl,rfl⟩
   ·rw[hi2,cu hlt,nF,if_pos h1];show aw nF (k+i+1) _=_;rw[show k+(i:Int)+1=k+((i+1:Nat):Int) by omega]
   ·rw[up hlt (by omega),upk (i:=i) (by omega) h0];rfl
 ·have:i=l.length:=by
               have:¬i<l.length:=by simpa using h
               omega
  subst this;refine⟨?_,rfl⟩;rw[hi2,List.drop_length];rfl
theorem tH(b:Bool)(l:List Int)(k:Int)(hl:l.length≤1048576)(h0:0≤k)(hk:k≤1073741824):af Try.prog 139 [.one (.ro b 1 (l.map rI)),.one (dI k)] (.v (.one (dI (orM (aw nL k l))))):=by
 refine aK hmix Try.func139 ok139 ?_;conv=>whnf
 refine aa (fun i:Nat=>[(0,.v (.one (.ro b 1 (l.map rI)))),(1,.v (.one (dI (k+i)))),(5,.v (.one (dI i)))]) (fun _=>[]) (fun _=>0)
  (fun i=>i≤l.length∧aw nL k l=aw nL (k+i) (l.drop i)) (fun i=>l.length-i) 0 ⟨by omega,by simp⟩ (by simp[dI]) rfl rfl fun i hi=>?_
 obtain⟨hi1,hi2⟩:=hi;conv=>whnf
 refine CondP.mk (fun h=>?_) (fun h=>?_)<;>conv=>whnf
 ·have hlt:i<l.length:=by simpa using h
  refine aJ (k:=i) rfl rfl (by simpa using hlt) ?_;conv=>whnf
  refine aE rfl (r:=.one (dI l[i])) (by simp[aZ,rI,hlt,eI,dI]) ?_;conv=>whnf
  refine CondP.mk (fun h1=>?_) (fun h1=>?_)<;>conv=>whnf
  ·have h1:¬l[i]=k+i:=by simpa using h1
   refine⟨?_,rfl⟩;rw[hi2,cu hlt,nL,if_neg h1];rfl
  ·have h1:l[i]=k+i:=by simpa using h1
   refine⟨i+1,by omega,⟨by omega,?_⟩,?_,rfl,rfl⟩
   ·rw[hi2,cu hlt,nL,if_pos h1];show aw nL (k+i+1) _=_;rw[show k+(i:Int)+1=k+((i+1:Nat):Int) by omega]
   ·rw[up hlt (by omega),upk (i:=i) (by omega) h0];rfl
 ·have:i=l.length:=by
               have:¬i<l.length:=by simpa using h
               omega
  subst this;refine⟨?_,rfl⟩;rw[hi2,List.drop_length];rfl
theorem w1{k:Int}(h0:0≤k)(h:k≤4611686018427387904):IntKind.wrap .i64 (k+1)=k+1:=wrap64 (by omega) (by omega)
theorem rW(b:Bool)(l:List Area)(k:Int)(hl:l.length≤1048576)(h0:0≤k)(hk:k≤1073741824):af Try.prog 140 [.one (.ro b 4 (l.map rA)),.one (dI k)] (.v (.one (dI (orM (aw iU k l))))):=by
 refine aK hmix Try.func140 ok140 ?_;conv=>whnf
 refine aa (fun i:Nat=>[(0,.v (.one (.ro b 4 (l.map rA)))),(1,.v (.one (dI (k+4*i)))),(5,.v (.one (dI i)))]) (fun _=>[]) (fun _=>0)
  (fun i=>i≤l.length∧aw iU k l=aw iU (k+4*i) (l.drop i)) (fun i=>l.length-i) 0 ⟨by omega,by simp⟩ (by simp[dI]) rfl rfl fun i hi=>?_
 obtain⟨hi1,hi2⟩:=hi;conv=>whnf
 refine CondP.mk (fun h=>?_) (fun h=>?_)<;>conv=>whnf
 ·have hlt:i<l.length:=by simpa using h
  generalize hq:k+4*(i:Int)=q at hi2 ⊢;have no:¬(l[i].fr=q∧l[i].mn=q+1∧l[i].wr=m3 (q+2)∧l[i].sh=m3 (q+3))→DT.v (.one (.sc (.int .i64 (-1))))= .v (.one (dI (orM (aw iU k l))))∧([]:DH)=[]:=fun e=>⟨by rw[hi2,cu hlt,iU,if_neg e];rfl,rfl⟩
  refine aJ (k:=i) rfl rfl (by simpa using hlt) ?_;conv=>whnf
  refine aE rfl (r:=.one (dI l[i].fr)) (by simp[aZ,rA,hlt,eI,dI]) ?_;conv=>whnf
  refine CondP.mk (fun h1=>?_) (fun h1=>?_)<;>conv=>whnf
  ·have h1:¬l[i].fr=q:=by simpa using h1
   exact no fun e=>h1 e.1
  have h1:l[i].fr=q:=by simpa using h1
  rw[w1 (k:=q) (by omega) (by omega)];refine aJ (k:=i) rfl rfl (by simpa using hlt) ?_;conv=>whnf
  refine aE rfl (r:=.one (dI l[i].mn)) (by simp[aZ,rA,hlt,eI,dI]) ?_;conv=>whnf
  refine CondP.mk (fun h2=>?_) (fun h2=>?_)<;>conv=>whnf
  ·have h2:¬l[i].mn=q+1:=by simpa using h2
   exact no fun e=>h2 e.2.1
  have h2:l[i].mn=q+1:=by simpa using h2
  rw[w1 (k:=q+1) (by omega) (by omega),show q+1+1=q+2 by omega];refine aJ (k:=i) rfl rfl (by simpa using hlt) ?_;conv=>whnf
  refine aE rfl (r:=.one (dB l[i].wr)) (by simp[aZ,rA,hlt,eB,dB]) ?_;conv=>whnf
  refine dm rfl ?_;conv=>whnf
  have e3:decide ((q+2).tmod 3=0)=m3 (q+2):=by rw[m3];congr 1;exact ka (by omega)
  refine CondP.mk (fun h3=>?_) (fun h3=>?_)<;>conv=>whnf
  ·have h3:¬l[i].wr=decide ((q+2).tmod 3=0):=by simpa using h3
   exact no fun e=>h3 (e.2.2.1.trans e3.symm)
  have h3:l[i].wr=decide ((q+2).tmod 3=0):=by simpa using h3
  rw[w1 (k:=q+2) (by omega) (by omega),show q+2+1=q+3 by omega];refine aJ (k:=i) rfl rfl (by simpa using hlt) ?_;conv=>whnf
  refine aE rfl (r:=.one (dB l[i].sh)) (by simp[aZ,rA,hlt,eB,dB]) ?_;conv=>whnf
  refine dm rfl ?_;conv=>whnf
  have e4:decide ((q+3).tmod 3=0)=m3 (q+3):=by rw[m3];congr 1;exact ka (by omega)
  refine CondP.mk (fun h4=>?_) (fun h4=>?_)<;>conv=>whnf
  ·have h4:¬l[i].sh=decide ((q+3).tmod 3=0):=by simpa using h4
   exact no fun e=>h4 (e.2.2.2.trans e4.symm)
  have h4:l[i].sh=decide ((q+3).tmod 3=0):=by simpa using h4
  refine⟨i+1,by omega,⟨by omega,?_⟩,?_,rfl,rfl⟩
  ·rw[hi2,cu hlt,iU,if_pos ⟨h1,h2,h3.trans e3,h4.trans e4⟩];show aw iU (q+4) _=_;rw[show q+4=k+4*((i+1:Nat):Int) by omega]
  ·rw[w1 (k:=q+3) (by omega) (by omega),up hlt (by omega),show q+3+1=k+4*((i+1:Nat):Int) by omega];rfl
 ·have:i=l.length:=by
               have:¬i<l.length:=by simpa using h
               omega
  subst this;refine⟨?_,rfl⟩;rw[hi2,List.drop_length];rfl
theorem rB(b:Bool)(l:List Slot)(k:Int)(hl:l.length≤1048576)(h0:0≤k)(hk:k≤1073741824):af Try.prog 141 [.one (.ro b 4 (l.map rL)),.one (dI k)] (.v (.one (dI (orM (aw ig k l))))):=by
 refine aK hmix Try.func141 ok141 ?_;conv=>whnf
 refine aa (fun i:Nat=>[(0,.v (.one (.ro b 4 (l.map rL)))),(1,.v (.one (dI (k+4*i)))),(5,.v (.one (dI i)))]) (fun _=>[]) (fun _=>0)
  (fun i=>i≤l.length∧aw ig k l=aw ig (k+4*i) (l.drop i)) (fun i=>l.length-i) 0 ⟨by omega,by simp⟩ (by simp[dI]) rfl rfl fun i hi=>?_
 obtain⟨hi1,hi2⟩:=hi;conv=>whnf
 refine CondP.mk (fun h=>?_) (fun h=>?_)<;>conv=>whnf
 ·have hlt:i<l.length:=by simpa using h
  generalize hq:k+4*(i:Int)=q at hi2 ⊢;have no:¬(l[i].kd=q∧l[i].pl=q+1∧l[i].ow=m3 (q+2)∧l[i].us=m3 (q+3))→DT.v (.one (.sc (.int .i64 (-1))))= .v (.one (dI (orM (aw ig k l))))∧([]:DH)=[]:=fun e=>⟨by rw[hi2,cu hlt,ig,if_neg e];rfl,rfl⟩
  refine aJ (k:=i) rfl rfl (by simpa using hlt) ?_;conv=>whnf
  refine aE rfl (r:=.one (dI l[i].kd)) (by simp[aZ,rL,hlt,eI,dI]) ?_;conv=>whnf
  refine CondP.mk (fun h1=>?_) (fun h1=>?_)<;>conv=>whnf
  ·have h1:¬l[i].kd=q:=by simpa using h1
   exact no fun e=>h1 e.1
  have h1:l[i].kd=q:=by simpa using h1
  rw[w1 (k:=q) (by omega) (by omega)];refine aJ (k:=i) rfl rfl (by simpa using hlt) ?_;conv=>whnf
  refine aE rfl (r:=.one (dI l[i].pl)) (by simp[aZ,rL,hlt,eI,dI]) ?_;conv=>whnf
  refine CondP.mk (fun h2=>?_) (fun h2=>?_)<;>conv=>whnf
  ·have h2:¬l[i].pl=q+1:=by simpa using h2
   exact no fun e=>h2 e.2.1
  have h2:l[i].pl=q+1:=by simpa using h2
  rw[w1 (k:=q+1) (by omega) (by omega),show q+1+1=q+2 by omega];refine aJ (k:=i) rfl rfl (by simpa using hlt) ?_;conv=>whnf
  refine aE rfl (r:=.one (dB l[i].ow)) (by simp[aZ,rL,hlt,eB,dB]) ?_;conv=>whnf
  refine dm rfl ?_;conv=>whnf
  have e3:decide ((q+2).tmod 3=0)=m3 (q+2):=by rw[m3];congr 1;exact ka (by omega)
  refine CondP.mk (fun h3=>?_) (fun h3=>?_)<;>conv=>whnf
  ·have h3:¬l[i].ow=decide ((q+2).tmod 3=0):=by simpa using h3
   exact no fun e=>h3 (e.2.2.1.trans e3.symm)
  have h3:l[i].ow=decide ((q+2).tmod 3=0):=by simpa using h3
  rw[w1 (k:=q+2) (by omega) (by omega),show q+2+1=q+3 by omega];refine aJ (k:=i) rfl rfl (by simpa using hlt) ?_;conv=>whnf
  refine aE rfl (r:=.one (dB l[i].us)) (by simp[aZ,rL,hlt,eB,dB]) ?_;conv=>whnf
  refine dm rfl ?_;conv=>whnf
  have e4:decide ((q+3).tmod 3=0)=m3 (q+3):=by rw[m3];congr 1;exact ka (by omega)
  refine CondP.mk (fun h4=>?_) (fun h4=>?_)<;>conv=>whnf
  ·have h4:¬l[i].us=decide ((q+3).tmod 3=0):=by simpa using h4
   exact no fun e=>h4 (e.2.2.2.trans e4.symm)
  have h4:l[i].us=decide ((q+3).tmod 3=0):=by simpa using h4
  refine⟨i+1,by omega,⟨by omega,?_⟩,?_,rfl,rfl⟩
  ·rw[hi2,cu hlt,ig,if_pos ⟨h1,h2,h3.trans e3,h4.trans e4⟩];show aw ig (q+4) _=_;rw[show q+4=k+4*((i+1:Nat):Int) by omega]
  ·rw[w1 (k:=q+3) (by omega) (by omega),up hlt (by omega),show q+3+1=k+4*((i+1:Nat):Int) by omega];rfl
 ·have:i=l.length:=by
               have:¬i<l.length:=by simpa using h
               omega
  subst this;refine⟨?_,rfl⟩;rw[hi2,List.drop_length];rfl
end Go.Qm
namespace Go.Qm
open Go.Cq Go.Cq.D Go.RowKit Go.Proofs
set_option maxRecDepth 10000
def Space.wt(s:Space):Nat:=1+4*s.ar.length+4*s.sl.length
def wts:List Space→Nat
 | []=>0
 |s::l=>s.wt+wts l
def Pages.wt(p:Pages):Nat:=p.tx.length+p.rf.length
def Mem.wt(m:Mem):Nat:=m.ram.wt+m.swp.wt+wts m.sp
theorem eN{α:Type}{f:Int→α→Option Int}{c:Nat}(hf:∀k a k',f k a=some k'→k'=k+c):∀{l:List α}{k k':Int},aw f k l=some k'→k'=k+c*l.length:=by
 intro l;induction l with
 |nil=>intro k k' h;simp only[aw,Option.some.injEq]at h;simp[h]
 |cons a l ih=>
  intro k k' h;simp only[aw]at h;split at h
  ·rename_i k1 h1;have e1:=hf _ _ _ h1;have e2:=ih h;rw[e2,e1,List.length_cons,Int.natCast_add,Int.mul_add];omega
  ·simp at h
theorem sx{k:Int}{a:Str}{k':Int}(h:nF k a=some k'):k'=k+(1:Nat):=by unfold nF at h;split at h<;>simp at h;omega
theorem tu{k:Int}{a:Int}{k':Int}(h:nL k a=some k'):k'=k+(1:Nat):=by unfold nL at h;split at h<;>simp at h;omega
theorem qb{k:Int}{a:Area}{k':Int}(h:iU k a=some k'):k'=k+(4:Nat):=by unfold iU at h;split at h<;>simp at h;omega
theorem q9{k:Int}{a:Slot}{k':Int}(h:ig k a=some k'):k'=k+(4:Nat):=by unfold ig at h;split at h<;>simp at h;omega
theorem uv{k:Int}{s:Space}{k':Int}(h:dw k s=some k'):k'=k+s.wt:=by
 unfold dw at h;split at h
 ·cases h1:aw iU (k+1) s.ar with
  |none=>rw[h1]at h;simp at h
  |some k1=>rw[h1]at h;have e1:=eN (fun _ _ _=>qb) h1;have e2:=eN (fun _ _ _=>q9) (show aw ig k1 s.sl=some k' from h);unfold Space.wt;omega
 ·simp at h
theorem lZ(b1 b2:Bool)(p:Pages)(k:Int)(h1:p.tx.length≤1048576)(h2:p.rf.length≤1048576)(h0:0≤k)(hk:k+p.wt≤1073741824):af Try.prog 71 [.agg [.ro b1 1 (p.tx.map rS),.ro b2 1 (p.rf.map rI)],.one (dI k)] (.v (.one (dI (orM (gA k p))))):=by
 refine aK hmix Try.func71 ok71 ?_;unfold Pages.wt at hk;conv=>whnf
 refine aB [.pass,.pass] rfl rfl rfl (pS b1 p.tx k h1 h0 (by omega)) rfl ?_;conv=>whnf
 cases e:aw nF k p.tx with
 |none=>
  (conv=>whnf)<;>repeat' first|(refine aF ?_;conv=>whnf)|(refine aD ?_;conv=>whnf)
  exact⟨by rw[gA,e];rfl,rfl⟩
 |some k1=>
  have e1:=eN (fun _ _ _=>sx) e;conv=>whnf
  refine CondP.mk (fun h'=>?_) (fun h'=>?_)<;>conv=>whnf
  ·have h':k1<0:=of_decide_eq_true h';omega
  refine aB [.pass,.pass] rfl rfl rfl (tH b2 p.rf k1 h2 (by omega) (by omega)) rfl ?_;conv=>whnf
  cases e2:aw nL k1 p.rf with
  |none=>
   (conv=>whnf)<;>repeat' first|(refine aF ?_;conv=>whnf)|(refine aD ?_;conv=>whnf)
   exact⟨by rw[gA,e];simp[e2,orM,dI],rfl⟩
  |some k2=>
   have e3:=eN (fun _ _ _=>tu) e2;conv=>whnf
   refine CondP.mk (fun h'=>?_) (fun h'=>?_)<;>conv=>whnf
   ·have h':k2<0:=of_decide_eq_true h';omega
   exact⟨by rw[gA,e];simp[e2,orM,dI],rfl⟩
theorem uV{l:List Space}{i:Nat}(h:i<l.length):wts (l.drop i)=l[i].wt+wts (l.drop (i+1)):=by rw[List.drop_eq_getElem_cons h,wts]
theorem pZ(b:Bool)(l:List Space)(k:Int)(hl:l.length≤1048576)(hs:iK 1048576 l)(h0:0≤k)(hk:k+wts l≤1073741824):af Try.prog 72 [.one (.ro b 3 (l.map rP)),.one (dI k)] (.v (.one (dI (orM (aw dw k l))))):=by
 refine aK hmix Try.func72 ok72 ?_;conv=>whnf
 refine aa (fun p:Nat×Int=>[(0,.v (.one (.ro b 3 (l.map rP)))),(1,.v (.one (dI p.2))),(5,.v (.one (dI p.1)))]) (fun _=>[]) (fun _=>0)
  (fun p=>p.1≤l.length∧0≤p.2∧p.2+wts (l.drop p.1)≤1073741824∧aw dw k l=aw dw p.2 (l.drop p.1)) (fun p=>l.length-p.1) (0,k) ⟨by omega,h0,by simpa using hk,by simp⟩ rfl rfl rfl fun p hi=>?_
 obtain⟨i,q⟩:=p;obtain⟨hi1,hi2,hi3,hi4⟩:=hi;simp only at hi1 hi2 hi3 hi4;conv=>whnf
 refine CondP.mk (fun h=>?_) (fun h=>?_)<;>conv=>whnf
 ·have hlt:i<l.length:=by simpa using h
  rw[uV hlt]at hi3;unfold Space.wt at hi3;have no:dw q l[i]=none→DT.v (.one (.sc (.int .i64 (-1))))= .v (.one (dI (orM (aw dw k l))))∧([]:DH)=[]:=fun e=>⟨by rw[hi4,cu hlt,e];rfl,rfl⟩
  refine aJ (k:=i) rfl rfl (by simpa using hlt) ?_;conv=>whnf
  refine aE rfl (r:=.one (dB l[i].lv)) (by simp[aZ,rP,hlt,eB,dB]) ?_;conv=>whnf
  refine dm rfl ?_;conv=>whnf
  have e3:decide (q.tmod 3=0)=m3 q:=by rw[m3];congr 1;exact ka (by omega)
  refine CondP.mk (fun h1=>?_) (fun h1=>?_)<;>conv=>whnf
  ·have h1:¬l[i].lv=decide (q.tmod 3=0):=by simpa using h1
   exact no (by rw[dw,if_neg fun e=>h1 (e.trans e3.symm)])
  have h1:l[i].lv=decide (q.tmod 3=0):=by simpa using h1
  rw[w1 (k:=q) (by omega) (by omega)];refine aJ (k:=i) rfl rfl (by simpa using hlt) ?_;conv=>whnf
  refine aE rfl (r:=.one (.ro b 4 (l[i].ar.map rA))) (by simp[aZ,rP,hlt]) ?_;conv=>whnf
  have hs':=hs _ (List.getElem_mem hlt);refine aB [.pass,.pass] rfl rfl rfl (rW b l[i].ar (q+1) hs'.1 (by omega) (by omega)) rfl ?_;conv=>whnf
  cases e:aw iU (q+1) l[i].ar with
  |none=>
   (conv=>whnf)<;>repeat' first|(refine aF ?_;conv=>whnf)|(refine aD ?_;conv=>whnf)
   exact no (by rw[dw,if_pos (h1.trans e3),e];rfl)
  |some k1=>
   have e1:=eN (fun _ _ _=>qb) e;conv=>whnf
   refine CondP.mk (fun h'=>?_) (fun h'=>?_)<;>conv=>whnf
   ·have h':k1<0:=of_decide_eq_true h';omega
   refine aJ (k:=i) rfl rfl (by simpa using hlt) ?_;conv=>whnf
   refine aE rfl (r:=.one (.ro b 4 (l[i].sl.map rL))) (by simp[aZ,rP,hlt]) ?_;conv=>whnf
   refine aB [.pass,.pass] rfl rfl rfl (rB b l[i].sl k1 hs'.2 (by omega) (by omega)) rfl ?_;conv=>whnf
   cases e2:aw ig k1 l[i].sl with
   |none=>
    (conv=>whnf)<;>repeat' first|(refine aF ?_;conv=>whnf)|(refine aD ?_;conv=>whnf)
    exact no (by rw[dw,if_pos (h1.trans e3),e];exact e2)
   |some k2=>
    have e4:=eN (fun _ _ _=>q9) e2;conv=>whnf
    refine CondP.mk (fun h'=>?_) (fun h'=>?_)<;>conv=>whnf
    ·have h':k2<0:=of_decide_eq_true h';omega
    have e5:dw q l[i]=some k2:=by rw[dw,if_pos (h1.trans e3),e];exact e2
    refine⟨(i+1,k2),by simp only;omega,⟨by simp only;omega,by simp only;omega,by simp only;omega,?_⟩,?_,rfl,rfl⟩
    ·rw[hi4,cu hlt,e5]
    ·rw[up hlt (by omega)];rfl
 ·have:i=l.length:=by
               have:¬i<l.length:=by simpa using h
               omega
  subst this;refine⟨?_,rfl⟩;rw[hi4,List.drop_length];rfl
theorem oJ{k:Int}{p:Pages}{k':Int}(h:gA k p=some k'):k'=k+p.wt:=by
 unfold gA at h;cases h1:aw nF k p.tx with
 |none=>rw[h1]at h;simp at h
 |some k1=>rw[h1]at h;have e1:=eN (fun _ _ _=>sx) h1;have e2:=eN (fun _ _ _=>tu) (show aw nL k1 p.rf=some k' from h);unfold Pages.wt;omega
theorem wL:∀{l:List Space}{k k':Int},aw dw k l=some k'→k'=k+wts l:=by
 intro l;induction l with
 |nil=>intro k k' h;simp only[aw,Option.some.injEq]at h;simp[h,wts]
 |cons a l ih=>
  intro k k' h;simp only[aw]at h;split at h
  ·rename_i k1 h1;have e1:=uv h1;have e2:=ih h;simp only[wts];omega
  ·simp at h
theorem uy(b1 b2 b3 b4 b5:Bool)(m:Mem)(k:Int)(h:m.fits 1048576)(h0:0≤k)(hk:k+m.wt≤1073741824):af Try.prog 28 [aM b1 b2 b3 b4 b5 m,.one (dI k)] (.v (.one (dI (orM (uw k m))))):=by
 refine aK hmix Try.func28 ok28 ?_;unfold Mem.wt at hk;conv=>whnf
 refine aB [.pass,.pass] rfl rfl rfl (lZ b1 b2 m.ram k h.rt h.rr h0 (by omega)) rfl ?_;conv=>whnf
 cases e:gA k m.ram with
 |none=>
  (conv=>whnf)<;>repeat' first|(refine aF ?_;conv=>whnf)|(refine aD ?_;conv=>whnf)
  exact⟨by rw[uw,e];rfl,rfl⟩
 |some k1=>
  have e1:=oJ e;conv=>whnf
  refine CondP.mk (fun h'=>?_) (fun h'=>?_)<;>conv=>whnf
  ·have h':k1<0:=of_decide_eq_true h';omega
  refine aB [.pass,.pass] rfl rfl rfl (lZ b3 b4 m.swp k1 h.st h.sr (by omega) (by omega)) rfl ?_;conv=>whnf
  cases e2:gA k1 m.swp with
  |none=>
   (conv=>whnf)<;>repeat' first|(refine aF ?_;conv=>whnf)|(refine aD ?_;conv=>whnf)
   exact⟨by rw[uw,e];simp[e2,orM,dI],rfl⟩
  |some k2=>
   have e3:=oJ e2;conv=>whnf
   refine CondP.mk (fun h'=>?_) (fun h'=>?_)<;>conv=>whnf
   ·have h':k2<0:=of_decide_eq_true h';omega
   refine aB [.pass,.pass] rfl rfl rfl (pZ b5 m.sp k2 h.sp h.ss (by omega) (by omega)) rfl ?_;conv=>whnf
   cases e4:aw dw k2 m.sp with
   |none=>
    (conv=>whnf)<;>repeat' first|(refine aF ?_;conv=>whnf)|(refine aD ?_;conv=>whnf)
    exact⟨by rw[uw,e];simp[e2,e4,orM,dI],rfl⟩
   |some k3=>
    have e5:=wL e4;conv=>whnf
    refine CondP.mk (fun h'=>?_) (fun h'=>?_)<;>conv=>whnf
    ·have h':k3<0:=of_decide_eq_true h';omega
    exact⟨by rw[uw,e];simp[e2,e4,orM,dI],rfl⟩
end Go.Qm
namespace Go.Qm
open Go.Cq Go.Cq.D Go.RowKit Go.Proofs
set_option maxRecDepth 10000
def eY{α:Type}(g:Int→α→α)(w:α→Nat):Int→List α→Nat→List α
 |_,l,0=>l
 |_,[],_+1=>[]
 |k,a::l,i+1=>g k a::eY g w (k+w a) l i
def gR{α:Type}(w:α→Nat):Int→List α→Nat→Int
 |k,_,0=>k
 |k,[],_+1=>k
 |k,a::l,i+1=>gR w (k+w a) l i
def et{α:Type}(g:Int→α→α)(w:α→Nat)(k:Int)(l:List α):List α:=eY g w k l l.length
theorem gn{α:Type}{g:Int→α→α}{w:α→Nat}{l:List α}{k:Int}:eY g w k l 0=l:=by cases l<;>rfl
theorem gO{α:Type}{g:Int→α→α}{w:α→Nat}:∀{l:List α}{k:Int}{i:Nat},(eY g w k l i).length=l.length:=by
 intro l;induction l with
 |nil=>intro k i;cases i<;>rfl
 |cons a l ih=>intro k i;cases i with
  |zero=>rfl
  |succ i=>simp only[eY,List.length_cons,ih]
theorem i9{α:Type}{g:Int→α→α}{w:α→Nat}:∀{l:List α}{k:Int}{i:Nat}(h:i<l.length),(eY g w k l i)[i]?=some l[i]:=by
 intro l;induction l with
 |nil=>intro k i h;simp at h
 |cons a l ih=>intro k i h;cases i with
  |zero=>rfl
  |succ i=>simp only[eY,List.getElem?_cons_succ,List.getElem_cons_succ];exact ih (by simpa using h)
theorem iS{α:Type}{g:Int→α→α}{w:α→Nat}:∀{l:List α}{k:Int}{i:Nat}(h:i<l.length),(eY g w k l i).set i (g (gR w k l i) l[i])=eY g w k l (i+1):=by
 intro l;induction l with
 |nil=>intro k i h;simp at h
 |cons a l ih=>intro k i h;cases i with
  |zero=>simp[eY,gR]
  |succ i=>simp only[eY,gR,List.set_cons_succ,List.getElem_cons_succ];congr 1;exact ih (by simpa using h)
theorem xa{α:Type}{w:α→Nat}:∀{l:List α}{k:Int}{i:Nat}(h:i<l.length),gR w k l (i+1)=gR w k l i+w l[i]:=by
 intro l;induction l with
 |nil=>intro k i h;simp at h
 |cons a l ih=>intro k i h;cases i with
  |zero=>simp[gR]
  |succ i=>rw[gR,ih (by simpa using h)];rfl
theorem ga{α:Type}{w:α→Nat}{c:Nat}(hw:∀a,w a=c):∀{l:List α}{k:Int}{i:Nat}(h:i≤l.length),gR w k l i=k+c*i:=by
 intro l;induction l with
 |nil=>intro k i h;simp at h;subst h;simp[gR]
 |cons a l ih=>intro k i h;cases i with
  |zero=>simp[gR]
  |succ i=>rw[gR,ih (by simpa using h),hw];simp only[Int.natCast_add,Int.mul_add];omega
def xu(k:Int)(_:Str):Str:=jo k
def xm(k:Int)(_:Int):Int:=k
def pG(k:Int)(_:Area):Area:=⟨k,k+1,m3 (k+2),m3 (k+3)⟩
def oT(k:Int)(_:Slot):Slot:=⟨k,k+1,m3 (k+2),m3 (k+3)⟩
def w1c{α:Type}(_:α):Nat:=1
def w4c{α:Type}(_:α):Nat:=4
def du(k:Int)(s:Space):Space:=⟨m3 k,et pG w4c (k+1) s.ar,et oT w4c (k+1+4*s.ar.length) s.sl⟩
def bf(k:Int)(p:Pages):Pages:=⟨et xu w1c k p.tx,et xm w1c (k+p.tx.length) p.rf⟩
def dF(k:Int)(m:Mem):Mem:=⟨bf k m.ram,bf (k+m.ram.wt) m.swp,et du Space.wt (k+m.ram.wt+m.swp.wt) m.sp,m.hd⟩
theorem aV{es:List (List PV)}{i:Nat}{row:List PV}{f:List PV→List PV}(h:es[i]?=some row):es.modify i f=es.set i (f row):=by
 refine List.ext_getElem? fun j=>?_
 rw[List.getElem?_modify,List.getElem?_set];by_cases e:i=j
 ·subst e;obtain⟨hi,e⟩:=List.getElem?_eq_some_iff.1 h;rw[h,if_pos rfl,if_pos hi];simp
 ·rw[if_neg e];cases es[j]?<;>simp[e]
theorem aj{α:Type}{f:α→List PV}{l:List α}{i:Nat}{a:α}(h:l[i]?=some a):(l.map f)[i]?=some (f a):=by simp[h]
theorem sy(l:List Int)(k:Int)(hl:l.length≤1048576)(h0:0≤k)(hk:k≤1073741824):c6 Try.prog 135 [.one (.sl 0 0 l.length),.one (dI k)] [(0,.arr 1 (l.map rI) [])] 1 fun x H'=>x= .v (.one (dI (k+l.length)))∧H'=[(0,.arr 1 ((et xm w1c k l).map rI) [])]:=by
 refine aK hmix Try.func135 ok135 ?_;conv=>whnf
 refine aa (fun i:Nat=>[(0,.v (.one (.sl 0 0 l.length))),(1,.v (.one (dI (k+i)))),(5,.v (.one (dI i)))]) (fun i=>[(0,.arr 1 ((eY xm w1c k l i).map rI) [])]) (fun _=>1)
  (fun i=>i≤l.length) (fun i=>l.length-i) 0 (by omega) (by simp[dI]) (by simp only[gn]) rfl fun i hi=>?_
 conv=>whnf
 refine CondP.mk (fun h=>?_) (fun h=>?_)<;>conv=>whnf
 ·have hlt:i<l.length:=by simpa using h
  have hg:=aj (f:=rI) (i9 (g:=xm) (w:=w1c) (k:=k) hlt);refine cJ (k:=i) rfl rfl rfl hlt ?_;conv=>whnf
  refine aG rfl rfl rfl (by simp[gO];exact hlt) (by decide) ?_;conv=>whnf
  refine⟨i+1,by omega,by omega,?_,?_,rfl⟩
  ·rw[up hlt (by omega),upk (i:=i) (by omega) h0];rfl
  ·rw[←iS hlt,ga (w:=w1c) (c:=1) (fun _=>rfl) (by omega),←map_set,Nat.zero_add,aV hg];simp[rI,eI,xm]
 ·have:i=l.length:=by
               have:¬i<l.length:=by simpa using h
               omega
  subst this;exact⟨rfl,rfl⟩
theorem nx(l:List Str)(k:Int)(hl:l.length≤1048576)(h0:0≤k)(hk:k≤1073741824):c6 Try.prog 134 [.one (.sl 0 0 l.length),.one (dI k)] [(0,.arr 1 (l.map rS) [])] 1 fun x H'=>x= .v (.one (dI (k+l.length)))∧H'=[(0,.arr 1 ((et xu w1c k l).map rS) [])]:=by
 refine aK hmix Try.func134 ok134 ?_;conv=>whnf
 refine aa (fun i:Nat=>[(0,.v (.one (.sl 0 0 l.length))),(1,.v (.one (dI (k+i)))),(5,.v (.one (dI i)))]) (fun i=>[(0,.arr 1 ((eY xu w1c k l i).map rS) [])]) (fun _=>1)
  (fun i=>i≤l.length) (fun i=>l.length-i) 0 (by omega) (by simp[dI]) (by simp only[gn]) rfl fun i hi=>?_
 conv=>whnf
 refine CondP.mk (fun h=>?_) (fun h=>?_)<;>conv=>whnf
 ·have hlt:i<l.length:=by simpa using h
  have hg:=aj (f:=rS) (i9 (g:=xu) (w:=w1c) (k:=k) hlt);refine aB [.pass] rfl rfl rfl (nD (k+i) (by omega)) rfl ?_;conv=>whnf
  refine cJ (k:=i) rfl rfl rfl hlt ?_;conv=>whnf
  refine aG rfl rfl rfl (by simp[gO];exact hlt) (by decide) ?_;conv=>whnf
  refine⟨i+1,by omega,by omega,?_,?_,rfl⟩
  ·rw[up hlt (by omega),upk (i:=i) (by omega) h0];rfl
  ·rw[←iS hlt,ga (w:=w1c) (c:=1) (fun _=>rfl) (by omega),←map_set,Nat.zero_add,aV hg];simp[rS,eS,xu]
 ·have:i=l.length:=by
               have:¬i<l.length:=by simpa using h
               omega
  subst this;exact⟨rfl,rfl⟩
theorem iO{α:Type}{f:α→List PV}(hf:∀a,(f a).length=4){l:List α}{i:Nat}:∀row,(l.map f)[i]?=some row→row.length=4:=by intro row h;obtain⟨a, -,rfl⟩:=List.mem_map.1 (List.mem_of_getElem? h);exact hf a
set_option maxHeartbeats 1000000 in
theorem rv(l:List Area)(k:Int)(hl:l.length≤1048576)(h0:0≤k)(hk:k≤1073741824):c6 Try.prog 136 [.one (.sl 0 0 l.length),.one (dI k)] [(0,.arr 4 (l.map rA) [])] 1 fun x H'=>x= .v (.one (dI (k+4*l.length)))∧H'=[(0,.arr 4 ((et pG w4c k l).map rA) [])]:=by
 refine aK hmix Try.func136 ok136 ?_;conv=>whnf
 refine aa (fun i:Nat=>[(0,.v (.one (.sl 0 0 l.length))),(1,.v (.one (dI (k+4*i)))),(5,.v (.one (dI i)))]) (fun i=>[(0,.arr 4 ((eY pG w4c k l i).map rA) [])]) (fun _=>1)
  (fun i=>i≤l.length) (fun i=>l.length-i) 0 (by omega) (by simp[dI]) (by simp only[gn]) rfl fun i hi=>?_
 conv=>whnf
 refine CondP.mk (fun h=>?_) (fun h=>?_)<;>conv=>whnf
 ·have hlt:i<l.length:=by simpa using h
  have hg:=aj (f:=rA) (i9 (g:=pG) (w:=w4c) (k:=k) hlt);have hlen:0+i< ((eY pG w4c k l i).map rA).length:=by simp[gO];exact hlt
  generalize hq:k+4*(i:Int)=q;have hq0:0≤q∧q≤2147483648:=by omega
  refine cJ (k:=i) rfl rfl rfl hlt ?_;conv=>whnf
  refine aG rfl rfl rfl hlen (by decide) ?_;conv=>whnf
  rw[w1 (k:=q) (by omega) (by omega)];refine cJ (k:=i) rfl rfl rfl hlt ?_;conv=>whnf
  refine aG rfl rfl rfl (by rw[List.length_modify];exact hlen) (by decide) ?_;conv=>whnf
  rw[w1 (k:=q+1) (by omega) (by omega),show q+1+1=q+2 by omega];refine dm rfl ?_;conv=>whnf
  refine cJ (k:=i) rfl rfl rfl hlt ?_;conv=>whnf
  refine aG rfl rfl rfl (by rw[List.length_modify,List.length_modify];exact hlen) (by decide) ?_;conv=>whnf
  rw[w1 (k:=q+2) (by omega) (by omega),show q+2+1=q+3 by omega];refine dm rfl ?_;conv=>whnf
  refine cJ (k:=i) rfl rfl rfl hlt ?_;conv=>whnf
  refine aG rfl rfl rfl (by rw[List.length_modify,List.length_modify,List.length_modify];exact hlen) (by decide) ?_;conv=>whnf
  refine⟨i+1,by omega,by omega,?_,?_,rfl⟩
  ·rw[w1 (k:=q+3) (by omega) (by omega),up hlt (by omega),show q+3+1=k+4*((i+1:Nat):Int) by omega];rfl
  ·have e3:decide ((q+2).tmod 3=0)=m3 (q+2):=by rw[m3];congr 1;exact ka (by omega)
   have e4:decide ((q+3).tmod 3=0)=m3 (q+3):=by rw[m3];congr 1;exact ka (by omega)
   rw[←iS hlt,ga (w:=w4c) (c:=4) (fun _=>rfl) (by omega),←map_set,Nat.zero_add,e3,e4];have hq':k+((4:Nat):Int)*(i:Int)=q:=hq;rw[hq',aV (cB (cB (cB hg))),aV (cB (cB hg)),aV (cB hg),aV hg];simp[rA,eI,eB,pG]
 ·have:i=l.length:=by
               have:¬i<l.length:=by simpa using h
               omega
  subst this;exact⟨rfl,rfl⟩
set_option maxHeartbeats 1000000 in
theorem r9(l:List Slot)(k:Int)(hl:l.length≤1048576)(h0:0≤k)(hk:k≤1073741824):c6 Try.prog 137 [.one (.sl 0 0 l.length),.one (dI k)] [(0,.arr 4 (l.map rL) [])] 1 fun x H'=>x= .v (.one (dI (k+4*l.length)))∧H'=[(0,.arr 4 ((et oT w4c k l).map rL) [])]:=by
 refine aK hmix Try.func137 ok137 ?_;conv=>whnf
 refine aa (fun i:Nat=>[(0,.v (.one (.sl 0 0 l.length))),(1,.v (.one (dI (k+4*i)))),(5,.v (.one (dI i)))]) (fun i=>[(0,.arr 4 ((eY oT w4c k l i).map rL) [])]) (fun _=>1)
  (fun i=>i≤l.length) (fun i=>l.length-i) 0 (by omega) (by simp[dI]) (by simp only[gn]) rfl fun i hi=>?_
 conv=>whnf
 refine CondP.mk (fun h=>?_) (fun h=>?_)<;>conv=>whnf
 ·have hlt:i<l.length:=by simpa using h
  have hg:=aj (f:=rL) (i9 (g:=oT) (w:=w4c) (k:=k) hlt);have hlen:0+i< ((eY oT w4c k l i).map rL).length:=by simp[gO];exact hlt
  generalize hq:k+4*(i:Int)=q;have hq0:0≤q∧q≤2147483648:=by omega
  refine cJ (k:=i) rfl rfl rfl hlt ?_;conv=>whnf
  refine aG rfl rfl rfl hlen (by decide) ?_;conv=>whnf
  rw[w1 (k:=q) (by omega) (by omega)];refine cJ (k:=i) rfl rfl rfl hlt ?_;conv=>whnf
  refine aG rfl rfl rfl (by rw[List.length_modify];exact hlen) (by decide) ?_;conv=>whnf
  rw[w1 (k:=q+1) (by omega) (by omega),show q+1+1=q+2 by omega];refine dm rfl ?_;conv=>whnf
  refine cJ (k:=i) rfl rfl rfl hlt ?_;conv=>whnf
  refine aG rfl rfl rfl (by rw[List.length_modify,List.length_modify];exact hlen) (by decide) ?_;conv=>whnf
  rw[w1 (k:=q+2) (by omega) (by omega),show q+2+1=q+3 by omega];refine dm rfl ?_;conv=>whnf
  refine cJ (k:=i) rfl rfl rfl hlt ?_;conv=>whnf
  refine aG rfl rfl rfl (by rw[List.length_modify,List.length_modify,List.length_modify];exact hlen) (by decide) ?_;conv=>whnf
  refine⟨i+1,by omega,by omega,?_,?_,rfl⟩
  ·rw[w1 (k:=q+3) (by omega) (by omega),up hlt (by omega),show q+3+1=k+4*((i+1:Nat):Int) by omega];rfl
  ·have e3:decide ((q+2).tmod 3=0)=m3 (q+2):=by rw[m3];congr 1;exact ka (by omega)
   have e4:decide ((q+3).tmod 3=0)=m3 (q+3):=by rw[m3];congr 1;exact ka (by omega)
   rw[←iS hlt,ga (w:=w4c) (c:=4) (fun _=>rfl) (by omega),←map_set,Nat.zero_add,e3,e4];have hq':k+((4:Nat):Int)*(i:Int)=q:=hq;rw[hq',aV (cB (cB (cB hg))),aV (cB (cB hg)),aV (cB hg),aV hg];simp[rL,eI,eB,oT]
 ·have:i=l.length:=by
               have:¬i<l.length:=by simpa using h
               omega
  subst this;exact⟨rfl,rfl⟩
end Go.Qm
namespace Go.Qm
open Go.Cq Go.Cq.D Go.RowKit Go.Proofs
set_option maxRecDepth 10000
@[simp] theorem aq{α:Type}{g:Int→α→α}{w:α→Nat}{l:List α}{k:Int}:(et g w k l).length=l.length:=gO
theorem lg(p:Pages)(k:Int)(h1:p.tx.length≤1048576)(h2:p.rf.length≤1048576)(h0:0≤k)(hk:k+p.wt≤1073741824):c6 Try.prog 69 [.agg [.sl 0 0 p.tx.length,.sl 1 0 p.rf.length],.one (dI k)] [(0,.arr 1 (p.tx.map rS) []),(1,.arr 1 (p.rf.map rI) [])] 2
  fun x H'=>x= .v (.one (dI (k+p.wt)))∧H'=[(0,.arr 1 ((bf k p).tx.map rS) []),(1,.arr 1 ((bf k p).rf.map rI) [])]:=by
 refine aK hmix Try.func69 ok69 ?_;have hw:p.wt=p.tx.length+p.rf.length:=rfl;conv=>whnf
 refine eT [.pass,.pass] [0] rfl rfl rfl rfl (nx p.tx k h1 h0 (by omega)) fun res H3 hp=>?_
 obtain⟨rfl,rfl⟩:=hp;refine⟨rfl,rfl,_,(aI rfl rfl (by simp)).trans rfl,?_⟩;conv=>whnf
 refine eT [.pass,.pass] [1] rfl rfl rfl rfl (sy p.rf (k+p.tx.length) h2 (by omega) (by omega)) fun res H3 hp=>?_
 obtain⟨rfl,rfl⟩:=hp;refine⟨rfl,rfl,_,(aI rfl rfl (by simp)).trans rfl,?_⟩;conv=>whnf
 refine⟨?_,rfl⟩;rw[hw];simp only[dI,Int.natCast_add];rw[Int.add_assoc]
set_option maxHeartbeats 1000000 in
theorem pj(l:List Space)(k:Int)(hl:l.length≤1048576)(hs:iK 1048576 l)(h0:0≤k)(hk:k+wts l≤1073741824):c6 Try.prog 70 [.one (.sl 0 0 l.length),.one (dI k)] [(0,.arr 3 (l.map rP) [])] 1 fun x H'=>x= .v (.one (dI (k+wts l)))∧H'=[(0,.arr 3 ((et du Space.wt k l).map rP) [])]:=by
 refine aK hmix Try.func70 ok70 ?_;conv=>whnf
 refine aa (fun i:Nat=>[(0,.v (.one (.sl 0 0 l.length))),(1,.v (.one (dI (gR Space.wt k l i)))),(5,.v (.one (dI i)))]) (fun i=>[(0,.arr 3 ((eY du Space.wt k l i).map rP) [])]) (fun _=>1)
  (fun i=>i≤l.length∧0≤gR Space.wt k l i∧gR Space.wt k l i+wts (l.drop i)=k+wts l) (fun i=>l.length-i) 0 ⟨by omega,by cases l<;>exact h0,by cases l<;>rfl⟩ (by cases l<;>simp[dI,gR]) (by simp only[gn]) rfl fun i hi=>?_
 obtain⟨hi1,hi2,hi3⟩:=hi;conv=>whnf
 refine CondP.mk (fun h=>?_) (fun h=>?_)<;>conv=>whnf
 ·have hlt:i<l.length:=by simpa using h
  have hg:=aj (f:=rP) (i9 (g:=du) (w:=Space.wt) (k:=k) hlt);have hlen:i< ((eY du Space.wt k l i).map rP).length:=by simp[gO];exact hlt
  generalize hq:gR Space.wt k l i=q at hi2 hi3 ⊢;rw[uV hlt]at hi3;have hw:l[i].wt=1+4*l[i].ar.length+4*l[i].sl.length:=rfl;have hs':=hs _ (List.getElem_mem hlt);refine dm rfl ?_;conv=>whnf
  refine aC (k:=i) rfl rfl rfl hlt ?_;conv=>whnf
  refine aG rfl rfl rfl hlen (by decide) ?_;conv=>whnf
  rw[w1 (k:=q) (by omega) (by omega)];refine aC (k:=i) rfl rfl rfl hlt ?_;conv=>whnf
  refine dV (i:=i) (k:=1) (sz':=4) (es':=l[i].ar.map rA) l[i].ar.length rfl rfl rfl (aW (cB hg) rfl rfl rfl) rfl (by simp) ?_;conv=>whnf
  refine eT [.pass,.pass] [1] rfl rfl rfl rfl (rv l[i].ar (q+1) hs'.1 (by omega) (by omega)) fun res H3 hp=>?_
  obtain⟨rfl,rfl⟩:=hp;refine⟨rfl,rfl,_,(aI rfl rfl (by simp)).trans rfl,?_⟩;conv=>whnf
  refine aX (i:=i) (k:=1) (g':=1) (lo:=0) (len:=l[i].ar.length) (ov2:=[]) rfl (bZ (cB hg) (by simp[rP]) (by simp only[ai,if_true];rfl)) rfl rfl rfl (by simp only[bJ,if_true];rfl) ?_;conv=>whnf
  refine aC (k:=i) rfl rfl rfl hlt ?_;conv=>whnf
  refine dV (i:=i) (k:=2) (sz':=4) (es':=l[i].sl.map rL) l[i].sl.length rfl rfl rfl (aW (cB (cB hg)) rfl rfl rfl) rfl (by simp) ?_;conv=>whnf
  refine eT [.pass,.pass] [1] rfl rfl rfl rfl (r9 l[i].sl (q+1+4*l[i].ar.length) hs'.2 (by omega) (by omega)) fun res H3 hp=>?_
  obtain⟨rfl,rfl⟩:=hp;refine⟨rfl,rfl,_,(aI rfl rfl (by simp)).trans rfl,?_⟩;conv=>whnf
  refine aX (i:=i) (k:=2) (g':=1) (lo:=0) (len:=l[i].sl.length) (ov2:=[]) rfl (bZ (cB (cB hg)) (by simp[rP]) (by simp only[ai,if_true];rfl)) rfl rfl rfl (by simp only[bJ,if_true];rfl) ?_;conv=>whnf
  have hp:gR Space.wt k l (i+1)=q+l[i].wt:=by rw[xa hlt,hq]
  refine⟨i+1,by omega,⟨by omega,by omega,by omega⟩,?_,?_,rfl⟩
  ·rw[up hlt (by omega),hp,show q+1+4*(l[i].ar.length:Int)+4*l[i].sl.length=q+l[i].wt by omega];rfl
  ·have e3:decide (q.tmod 3=0)=m3 q:=by rw[m3];congr 1;exact ka (by omega)
   rw[←iS hlt,hq,←map_set,e3,List.drop_zero,List.drop_zero,List.take_of_length_le (by simp),List.take_of_length_le (by simp),aV (cB (cB hg)),aV (cB hg),aV hg];simp[rP,eB,du]
 ·have:i=l.length:=by
               have:¬i<l.length:=by simpa using h
               omega
  subst this;refine⟨?_,rfl⟩;rw[List.drop_length]at hi3;simp only[wts]at hi3;simp only[dI];rw[←hi3];simp
theorem oE(m:Mem)(k:Int)(h:m.fits 1048576)(h0:0≤k)(hk:k+m.wt≤1073741824):c6 Try.prog 27 [.agg [.sl 0 0 m.ram.tx.length,.sl 1 0 m.ram.rf.length,.sl 2 0 m.swp.tx.length,.sl 3 0 m.swp.rf.length,.sl 4 0 m.sp.length,dI m.hd],.one (dI k)] [(0,.arr 1 (m.ram.tx.map rS) []),(1,.arr 1 (m.ram.rf.map rI) []),(2,.arr 1 (m.swp.tx.map rS) []),(3,.arr 1 (m.swp.rf.map rI) []),(4,.arr 3 (m.sp.map rP) [])] 5
  fun x H'=>x= .v (.one (dI (k+m.wt)))∧H'=[(0,.arr 1 ((dF k m).ram.tx.map rS) []),(1,.arr 1 ((dF k m).ram.rf.map rI) []),(2,.arr 1 ((dF k m).swp.tx.map rS) []),(3,.arr 1 ((dF k m).swp.rf.map rI) []),(4,.arr 3 ((dF k m).sp.map rP) [])]:=by
 refine aK hmix Try.func27 ok27 ?_;have hw:m.wt=m.ram.wt+m.swp.wt+wts m.sp:=rfl;conv=>whnf
 refine eT [.pass,.pass] [0,1] rfl rfl rfl rfl (lg m.ram k h.rt h.rr h0 (by omega)) fun res H3 hp=>?_
 obtain⟨rfl,rfl⟩:=hp;refine⟨rfl,rfl,_,(aI rfl rfl (by simp[bf])).trans ((aI rfl rfl (by simp[bf])).trans rfl),?_⟩;conv=>whnf
 refine eT [.pass,.pass] [2,3] rfl rfl rfl rfl (lg m.swp (k+m.ram.wt) h.st h.sr (by omega) (by omega)) fun res H3 hp=>?_
 obtain⟨rfl,rfl⟩:=hp;refine⟨rfl,rfl,_,(aI rfl rfl (by simp[bf])).trans ((aI rfl rfl (by simp[bf])).trans rfl),?_⟩;conv=>whnf
 refine eT [.pass,.pass] [4] rfl rfl rfl rfl (pj m.sp (k+m.ram.wt+m.swp.wt) h.sp h.ss (by omega) (by omega)) fun res H3 hp=>?_
 obtain⟨rfl,rfl⟩:=hp;refine⟨rfl,rfl,_,(aI rfl rfl (by simp)).trans rfl,?_⟩;conv=>whnf
 refine⟨?_,rfl⟩;rw[hw];simp only[dI,Int.natCast_add];rw[Int.add_assoc,Int.add_assoc,Int.add_assoc]
end Go.Qm
namespace Go.Qm
open Go.Cq Go.Cq.D Go.RowKit Go.Proofs
set_option maxRecDepth 10000
theorem yS(b:Bool)(l:List Area)(hl:l.length≤1048576):af Try.prog 101 [.one (.ro b 4 (l.map rA))] (.v (.one (.own 4 (l.map rA)))):=by
 refine aK hmix Try.func101 ok101 ?_;have hl':(l.map rA).length≤1048576:=by rw[List.length_map];exact hl
 conv=>whnf
 refine qj rfl fun v hv=>?_
 conv=>whnf
 refine CondP.mk (fun h=>?_) (fun h=>?_)
 ·subst h;have e:=hv rfl;rw[e];conv=>whnf
  exact⟨rfl,rfl⟩
 ·subst h;conv=>whnf
  refine eZ rfl rfl rfl ?_;conv=>whnf
  refine ep rfl rfl rfl rfl (kD rb l) rfl (by omega) (by omega) ?_;conv=>whnf
  refine⟨?_,rfl⟩;simp
theorem xo(b:Bool)(l:List Slot)(hl:l.length≤1048576):af Try.prog 102 [.one (.ro b 4 (l.map rL))] (.v (.one (.own 4 (l.map rL)))):=by
 refine aK hmix Try.func102 ok102 ?_;have hl':(l.map rL).length≤1048576:=by rw[List.length_map];exact hl
 conv=>whnf
 refine qj rfl fun v hv=>?_
 conv=>whnf
 refine CondP.mk (fun h=>?_) (fun h=>?_)
 ·subst h;have e:=hv rfl;rw[e];conv=>whnf
  exact⟨rfl,rfl⟩
 ·subst h;conv=>whnf
  refine eZ rfl rfl rfl ?_;conv=>whnf
  refine ep rfl rfl rfl rfl (kD eV l) rfl (by omega) (by omega) ?_;conv=>whnf
  refine⟨?_,rfl⟩;simp
theorem kg(b1 b2:Bool)(p:Pages)(h1:p.tx.length≤1048576)(h2:p.rf.length≤1048576):af Try.prog 129 [.agg [.ro b1 1 (p.tx.map rS),.ro b2 1 (p.rf.map rI)]] (.v (.agg [.own 1 (p.tx.map rS),.own 1 (p.rf.map rI)])):=by
 refine aK hmix Try.func129 ok129 ?_;have h1':(p.tx.map rS).length≤1048576:=by rw[List.length_map];exact h1
 have h2':(p.rf.map rI).length≤1048576:=by rw[List.length_map];exact h2
 conv=>whnf
 refine eZ rfl rfl rfl ?_;conv=>whnf
 refine ep rfl rfl rfl rfl (kD w7 p.tx) rfl (by omega) (by omega) ?_;conv=>whnf
 refine eZ rfl rfl rfl ?_;conv=>whnf
 refine ep rfl rfl rfl rfl (kD wa p.rf) rfl (by omega) (by omega) ?_;conv=>whnf
 refine⟨?_,rfl⟩;simp
theorem qn(b1 b2:Bool)(p:Pages)(h1:p.tx.length≤1048576)(h2:p.rf.length≤1048576):af Try.prog 125 [.agg [.ro b1 1 (p.tx.map rS),.ro b2 1 (p.rf.map rI)]] (.v (.agg [.own 1 (p.tx.map rS),.own 1 (p.rf.map rI)])):=by
 refine aK hmix Try.func125 ok125 ?_;have h1':(p.tx.map rS).length≤1048576:=by rw[List.length_map];exact h1
 have h2':(p.rf.map rI).length≤1048576:=by rw[List.length_map];exact h2
 conv=>whnf
 refine eZ rfl rfl rfl ?_;conv=>whnf
 refine ep rfl rfl rfl rfl (kD w7 p.tx) rfl (by omega) (by omega) ?_;conv=>whnf
 refine eZ rfl rfl rfl ?_;conv=>whnf
 refine ep rfl rfl rfl rfl (kD wa p.rf) rfl (by omega) (by omega) ?_;conv=>whnf
 refine⟨?_,rfl⟩;simp
set_option maxHeartbeats 1000000 in
theorem kA(b1 b2 b3 b4 b5:Bool)(m:Mem)(h:m.fits 1048576):af Try.prog 64 [aM b1 b2 b3 b4 b5 m] (.v (oM m)):=by
 refine aK hmix Try.func64 ok64 ?_;conv=>whnf
 refine aB [.pass] rfl rfl rfl (kg _ _ m.ram h.rt h.rr) rfl ?_;conv=>whnf
 refine aB [.pass] rfl rfl rfl (kg _ _ m.swp h.st h.sr) rfl ?_;conv=>whnf
 refine aa (fun i:Nat=>[(2,.v (.one (.ptr 1 0 0))),(3,.v (.one (.ptr 6 0 0))),(16,.v (.one (.ro b5 3 (m.sp.map rP)))),(17,.v (.one (dI (m.sp.map rP).length))),(18,.v (.one (dI i)))])
  (fun i=>[(6,.box [.own 1 (m.ram.tx.map rS),.own 1 (m.ram.rf.map rI),.own 1 (m.swp.tx.map rS),.own 1 (m.swp.rf.map rI),.own 3 ((m.sp.take i).map rP),dI m.hd]),(1,.box [.own 1 [],.own 1 [],.own 1 [],.own 1 [],.own 3 [],dI 0])]) (fun _=>7)
  (fun i=>i≤m.sp.length) (fun i=>m.sp.length-i) 0 (by omega) rfl (by simp[dI]) rfl fun i hi=>?_
 conv=>whnf
 refine CondP.mk (fun h1=>?_) (fun h1=>?_)<;>conv=>whnf
 ·have hlt:i<m.sp.length:=by simpa using h1
  have hs:=h.ss _ (List.getElem_mem hlt);have hz:((m.sp.take i).map rP).length=i:=by rw[List.length_map,List.length_take];omega
  refine aJ (k:=i) rfl rfl (by simpa using hlt) ?_;conv=>whnf
  refine aE rfl (ldP hlt) ?_;conv=>whnf
  refine aB [.pass] rfl rfl rfl (yS _ m.sp[i].ar hs.1) rfl ?_;conv=>whnf
  refine aB [.pass] rfl rfl rfl (xo _ m.sp[i].sl hs.2) rfl ?_;conv=>whnf
  refine eZ rfl rfl rfl ?_;conv=>whnf
  refine mD [28,31,32] [.h 11 0 1,.h 11 0 2] 1 (sz:=3) rfl rfl rfl rfl rfl rfl rfl rfl (by rw[hz];have:=h.sp;omega) (by rw[hz];have:=h.sp;omega) ?_;conv=>whnf
  refine⟨i+1,by omega,by omega,?_,?_,rfl⟩
  ·rw[up hlt (by have:=h.sp;omega)];rfl
  ·simp only[List.map_take,List.take_succ_eq_append_getElem (show i< (m.sp.map rP).length by simpa using hlt)];simp[rP,eB,dI,List.replicate,List.take_of_length_le]
 ·have:i=m.sp.length:=by
                 have:¬i<m.sp.length:=by simpa using h1
                 omega
  subst this;refine⟨?_,rfl⟩;simp[oM,dI]
end Go.Qm
namespace Go.Qm
open Go.Cq Go.Cq.D Go.RowKit Go.Proofs
set_option maxRecDepth 10000
set_option maxHeartbeats 1000000 in
theorem qg(b1 b2 b3 b4 b5:Bool)(m:Mem)(h:m.fits 1048576):af Try.prog 60 [aM b1 b2 b3 b4 b5 m] (.v (oM m)):=by
 refine aK hmix Try.func60 ok60 ?_;conv=>whnf
 refine aB [.pass] rfl rfl rfl (qn _ _ m.ram h.rt h.rr) rfl ?_;conv=>whnf
 refine aB [.pass] rfl rfl rfl (qn _ _ m.swp h.st h.sr) rfl ?_;conv=>whnf
 refine eZ rfl rfl rfl ?_;conv=>whnf
 refine aa (fun i:Nat=>[(1,.v (.one (.ptr 0 0 0))),(2,.v (.one (.ptr 1 0 0))),(3,.v (.one (.ptr 7 0 0))),(4,.v (.one (dI i)))])
  (fun i=>[(7,.box [.own 1 (m.ram.tx.map rS),.own 1 (m.ram.rf.map rI),.own 1 (m.swp.tx.map rS),.own 1 (m.swp.rf.map rI),.own 3 ((m.sp.take i).map rP),dI m.hd]),(1,.box [.own 1 [],.own 1 [],.own 1 [],.own 1 [],.own 3 [],dI 0]),(0,.box [.ro b1 1 (m.ram.tx.map rS),.ro b2 1 (m.ram.rf.map rI),.ro b3 1 (m.swp.tx.map rS),.ro b4 1 (m.swp.rf.map rI),.ro b5 3 (m.sp.map rP),dI m.hd])]) (fun _=>8)
  (fun i=>i≤m.sp.length) (fun i=>m.sp.length-i) 0 (by omega) rfl (by simp[dI]) rfl fun i hi=>?_
 conv=>whnf
 refine CondP.mk (fun h1=>?_) (fun h1=>?_)<;>conv=>whnf
 ·have hlt:i<m.sp.length:=by simpa using h1
  have hs:=h.ss _ (List.getElem_mem hlt);have hz:((m.sp.take i).map rP).length=i:=by rw[List.length_map,List.length_take];omega
  have hz1:(m.sp[i].ar.map rA).length≤1048576:=by rw[List.length_map];exact hs.1
  have hz2:(m.sp[i].sl.map rL).length≤1048576:=by rw[List.length_map];exact hs.2
  refine aJ (k:=i) rfl rfl (by simpa using hlt) ?_;conv=>whnf
  refine aE rfl (ldP hlt) ?_;conv=>whnf
  refine eZ rfl rfl rfl ?_;conv=>whnf
  refine ep rfl rfl rfl rfl (kD rb _) rfl (by omega) (by omega) ?_;conv=>whnf
  refine eZ rfl rfl rfl ?_;conv=>whnf
  refine ep rfl rfl rfl rfl (kD eV _) rfl (by omega) (by omega) ?_;conv=>whnf
  refine eZ rfl rfl rfl ?_;conv=>whnf
  refine mD [] [.h 12 0 1,.h 12 0 2] 1 (sz:=3) rfl rfl rfl rfl rfl rfl rfl rfl (by rw[hz];have:=h.sp;omega) (by rw[hz];have:=h.sp;omega) ?_;conv=>whnf
  refine⟨i+1,by omega,by omega,?_,?_,rfl⟩
  ·rw[up hlt (by have:=h.sp;omega)];rfl
  ·simp only[List.map_take,List.take_succ_eq_append_getElem (show i< (m.sp.map rP).length by simpa using hlt)];simp[rP,eB,dI,List.replicate,List.take_of_length_le]
 ·have:i=m.sp.length:=by
                 have:¬i<m.sp.length:=by simpa using h1
                 omega
  subst this;refine⟨?_,rfl⟩;simp[oM,dI]
end Go.Qm
namespace Go.Qm
open Go.Cq Go.Cq.D Go.RowKit Go.Proofs
set_option maxRecDepth 10000
theorem aDQ{l:List Area}(h:∀a,a∈l→br a=true){i:Nat}(hi:i<l.length):br l[i]=true:=h _ (List.getElem_mem hi)
set_option maxHeartbeats 1000000 in
theorem rC(b:Bool)(l:List Area)(page:Int)(hl:l.length≤4611686018427387904)(ho:∀a,a∈l→br a=true):af Try.prog 146 [.one (.ro b 4 (l.map rA)),.one (dI page)] (.v (.one (dI (bH l page)))):=by
 refine aK hmix Try.func146 ok146 ?_;conv=>whnf
 refine aa (fun i:Nat=>[(0,.v (.one (.ro b 4 (l.map rA)))),(1,.v (.one (dI page))),(5,.v (.one (dI i)))]) (fun _=>[]) (fun _=>0)
  (fun i=>i≤l.length∧bH l page=gC page (l.drop i) i) (fun i=>l.length-i) 0 ⟨by omega,rfl⟩ rfl rfl rfl fun i hi=>?_
 obtain⟨hi1,hi2⟩:=hi;conv=>whnf
 refine CondP.mk (fun h=>?_) (fun h=>?_)<;>conv=>whnf
 ·have hlt:i<l.length:=by simpa using h
  have hok:=oI.1 (aDQ ho hlt);refine aJ (k:=i) rfl rfl (by simpa using hlt) ?_;conv=>whnf
  refine aE rfl (r:=.one (dI l[i].fr)) (by simp[aZ,rA,hlt,eI,dI]) ?_;conv=>whnf
  refine aJ (k:=i) rfl rfl (by simpa using hlt) ?_;conv=>whnf
  refine aE rfl (r:=.one (dI l[i].fr)) (by simp[aZ,rA,hlt,eI,dI]) ?_;conv=>whnf
  refine aJ (k:=i) rfl rfl (by simpa using hlt) ?_;conv=>whnf
  refine aE rfl (r:=.one (dI l[i].mn)) (by simp[aZ,rA,hlt,eI,dI]) ?_;conv=>whnf
  refine aB [.pass,.pass,.pass] rfl rfl rfl (gh _ _ _) rfl ?_;conv=>whnf
  have e1:IntKind.wrap .i64 (l[i].fr+l[i].mn)=l[i].fr+l[i].mn:=wrap64 (by omega) (by omega);have e2:IntKind.wrap .i64 (l[i].fr+l[i].mn-1)=l[i].fr+l[i].mn-1:=wrap64 (by omega) (by omega);refine CondP.mk (fun h1=>?_) (fun h1=>?_)<;>conv=>whnf
  ·refine⟨?_,rfl⟩;rw[e1,e2]at h1;have:l[i].fr≤page∧page<l[i].fr+l[i].mn:=by simp only[inB,Bool.and_eq_true,decide_eq_true_eq]at h1;omega
   rw[hi2,hO hlt,if_pos this];rfl
  ·refine⟨i+1,by omega,⟨by omega,?_⟩,?_,rfl,rfl⟩
   ·rw[e1,e2]at h1;have:¬(l[i].fr≤page∧page<l[i].fr+l[i].mn):=by
     intro ⟨k1,k2⟩;have:inB page l[i].fr (l[i].fr+l[i].mn-1)=true:=by simp only[inB,Bool.and_eq_true,decide_eq_true_eq];omega
     rw[this]at h1;simp at h1
    rw[hi2,hO hlt,if_neg this]
   ·rw[←up hlt hl];rfl
 ·refine⟨?_,rfl⟩;have:i=l.length:=by
               have:¬i<l.length:=by simpa using h
               omega
  subst this;rw[hi2,List.drop_length];rfl
theorem aB2(a:Area)(page:Int)(ho:br a=true):aCS Try.prog 97 [.agg (aA a),.one (.ptr 0 0 0)] [dI page] (.v (.one (dB (decide (a.fr≤page)&&decide (page<a.fr+a.mn))))) [dI page]:=by
 refine aK hmix Try.func97 ok97 ?_;conv=>whnf
 refine CondP.mk (fun h=>?_) (fun h=>?_)<;>rw[h]<;>(conv=>whnf)<;>repeat' first|(refine aF ?_;conv=>whnf)|(refine aD ?_;conv=>whnf)
 ·refine aB [.pass] rfl rfl rfl (yr a) rfl ?_
  (conv=>whnf)<;>repeat' first|(refine aF ?_;conv=>whnf)|(refine aD ?_;conv=>whnf)
  rw[aCu ho];exact⟨rfl,rfl⟩
 ·exact⟨rfl,rfl⟩
set_option maxHeartbeats 1000000 in
theorem sI(b:Bool)(l:List Area)(page:Int)(hl:l.length≤4611686018427387904)(ho:∀a,a∈l→br a=true):
  aCS Try.prog 96 [.one (.ro b 4 (l.map rA)),.one (.fn 97 [(0,0,0)])] [dI page] (.v (.one (dI (bH l page)))) [dI page]:=by
 refine aK hmix Try.func96 ok96 ?_;conv=>whnf
 refine aa (fun i:Nat=>[(0,.v (.one (.ro b 4 (l.map rA)))),(1,.v (.one (.fn 97 [(0,0,0)]))),(7,.v (.one (dI (l.map rA).length))),(8,.v (.one (dI i)))]) (fun _=>[(0,.box [dI page])]) (fun _=>1)
  (fun i=>i≤l.length∧bH l page=gC page (l.drop i) i) (fun i=>l.length-i) 0 ⟨by omega,rfl⟩ rfl rfl rfl fun i hi=>?_
 obtain⟨hi1,hi2⟩:=hi;conv=>whnf
 refine CondP.mk (fun h=>?_) (fun h=>?_)<;>conv=>whnf
 ·have hlt:i<l.length:=by simpa using h
  refine aJ (k:=i) rfl rfl (by simpa using hlt) ?_;conv=>whnf
  refine aE rfl (r:=.agg (aA l[i])) (ldA hlt) ?_;conv=>whnf
  refine xk [.pass,.pass] [0] rfl rfl rfl rfl rfl (aB2 l[i] page (aDQ ho hlt)) fun res H3 hp=>?_
  obtain⟨rfl,rfl⟩:=hp;refine⟨rfl,rfl,_,rfl,?_⟩;conv=>whnf
  refine CondP.mk (fun h1=>?_) (fun h1=>?_)<;>conv=>whnf
  ·refine⟨?_,rfl⟩;have:l[i].fr≤page∧page<l[i].fr+l[i].mn:=by simpa using h1
   rw[hi2,hO hlt,if_pos this];rfl
  ·refine⟨i+1,by omega,⟨by omega,?_⟩,?_,rfl,rfl⟩
   ·have:¬(l[i].fr≤page∧page<l[i].fr+l[i].mn):=by intro ⟨k1,k2⟩;simp[k1,k2]at h1
    rw[hi2,hO hlt,if_neg this]
   ·rw[←up hlt hl];rfl
 ·refine⟨?_,rfl⟩;have:i=l.length:=by
               have:¬i<l.length:=by simpa using h
               omega
  subst this;rw[hi2,List.drop_length];rfl
theorem lF(b:Bool)(l:List Area)(page:Int)(hl:l.length≤4611686018427387904):af Try.prog 40 [.one (.ro b 4 (l.map rA)),.one (dI page)] (.v (.one (dI (dN l page)))):=by
 refine aK hmix Try.func40 ok40 ?_;conv=>whnf
 refine aB [.pass] rfl rfl rfl (pA b l hl) rfl ?_;conv=>whnf
 refine CondP.mk (fun h=>?_) (fun h=>?_)<;>conv=>whnf
 ·refine⟨?_,rfl⟩;have:cQ l=false:=by simpa using h
  rw[dN,this];rfl
 ·have h:cQ l=true:=by simpa using h
  refine aAU rfl rfl ?_;conv=>whnf
  refine eT [.pass,.pass] [0] rfl rfl rfl rfl (sI b l page hl (iE h)) fun res H3 hp=>?_
  obtain⟨rfl,rfl⟩:=hp;refine⟨rfl,rfl,_,rfl,?_⟩;conv=>whnf
  refine⟨?_,rfl⟩;rw[dN,h];rfl
end Go.Qm
namespace Go.Qm
open Go.Cq Go.Cq.D Go.RowKit Go.Proofs
set_option maxRecDepth 10000
set_option maxHeartbeats 2000000 in
theorem sS(b:Bool)(l:List Area)(hl:l.length≤4611686018427387904):af Try.prog 148 [.one (.ro b 4 (l.map rA))] (.v (.one (dB (cQ l)))):=by
 refine aK hmix Try.func148 ok148 ?_;conv=>whnf
 refine aa (fun i:Nat=>[(0,.v (.one (.ro b 4 (l.map rA)))),(3,.v (.one (dI i)))]) (fun _=>[]) (fun _=>0)
  (fun i=>i≤l.length∧cQ l=(de l i&&decide (l.length≤6))∧∀j(hj:j<l.length),j<i→br l[j]=true) (fun i=>l.length-i) 0 ⟨by omega,rfl,by omega⟩ rfl rfl rfl fun i hi=>?_
 obtain⟨hi1,hi2,hi3⟩:=hi;conv=>whnf
 refine CondP.mk (fun h=>?_) (fun h=>?_)<;>conv=>whnf
 ·have hlt:i<l.length:=by simpa using h
  refine aJ (k:=i) rfl rfl (by simpa using hlt) ?_;conv=>whnf
  refine aE rfl (r:=.agg (aA l[i])) (ldA hlt) ?_;conv=>whnf
  refine aB [.pass] rfl rfl rfl (v7 l[i]) rfl ?_;conv=>whnf
  have fin:br l[i]=false→DT.v (DV.one (DC.sc (.bool false)))= .v (.one (dB (cQ l))):=fun e=>by rw[hi2,dL hlt,e];rfl
  refine CondP.mk (fun h1=>?_) (fun h1=>?_)<;>rw[h1]<;>(conv=>whnf)<;>repeat' first|(refine aF ?_;conv=>whnf)|(refine aD ?_;conv=>whnf)
  ·exact⟨fin (by simpa using h1),rfl⟩
  ·have ho:br l[i]=true:=by simpa using h1
   have hstep:decide (0< (i:Int))=false∨jl l i l[i]=true→cQ l=(de l (i+1)&&decide (l.length≤6)):=fun e=>by
    rw[hi2,dL hlt,ho];rcases e with e|e
    ·have:i=0:=by simp at e;omega
     simp[this]
    ·rw[e];simp
   have hall:∀j(hj:j<l.length),j<i+1→br l[j]=true:=fun j hj h2=>by
    by_cases e:j=i
    ·subst e;exact ho
    ·exact hi3 j hj (by omega)
   refine CondP.mk (fun h2=>?_) (fun h2=>?_)<;>rw[h2]<;>(conv=>whnf)<;>repeat' first|(refine aF ?_;conv=>whnf)|(refine aD ?_;conv=>whnf)
   ·have hi0:i≠0:=by simp at h2;omega
    have hlt':i-1<l.length:=by omega
    refine aJ (k:=i-1) rfl (ix hlt hl hi0) (by simpa using hlt') ?_
    (conv=>whnf)<;>repeat' first|(refine aF ?_;conv=>whnf)|(refine aD ?_;conv=>whnf)
    refine aE rfl (r:=.one (dI l[i-1].fr)) (by simp[aZ,rA,hlt',eI,dI]) ?_
    (conv=>whnf)<;>repeat' first|(refine aF ?_;conv=>whnf)|(refine aD ?_;conv=>whnf)
    refine aJ (k:=i-1) rfl (ix hlt hl hi0) (by simpa using hlt') ?_
    (conv=>whnf)<;>repeat' first|(refine aF ?_;conv=>whnf)|(refine aD ?_;conv=>whnf)
    refine aE rfl (r:=.one (dI l[i-1].mn)) (by simp[aZ,rA,hlt',eI,dI]) ?_
    (conv=>whnf)<;>repeat' first|(refine aF ?_;conv=>whnf)|(refine aD ?_;conv=>whnf)
    refine aJ (k:=i) rfl rfl (by simpa using hlt) ?_
    (conv=>whnf)<;>repeat' first|(refine aF ?_;conv=>whnf)|(refine aD ?_;conv=>whnf)
    refine aE rfl (r:=.one (dI l[i].fr)) (by simp[aZ,rA,hlt,eI,dI]) ?_
    (conv=>whnf)<;>repeat' first|(refine aF ?_;conv=>whnf)|(refine aD ?_;conv=>whnf)
    have he:=aCu (hi3 (i-1) hlt' (by omega));rw[he];refine CondP.mk (fun h3=>?_) (fun h3=>?_)<;>conv=>whnf
    ·refine⟨?_,rfl⟩;rw[hi2,dL hlt,ho,jl,List.getElem?_eq_getElem hlt'];have:¬l[i-1].fr+l[i-1].mn≤l[i].fr:=by simpa using h3
     simp[this,hi0,dB]
    ·refine⟨i+1,by omega,⟨by omega,hstep (.inr ?_),hall⟩,?_,rfl,rfl⟩
     ·rw[jl,List.getElem?_eq_getElem hlt'];simpa using h3
     ·rw[←up hlt hl];rfl
   ·refine⟨i+1,by omega,⟨by omega,hstep (.inl h2),hall⟩,?_,rfl,rfl⟩;rw[←up hlt hl];rfl
 ·refine⟨?_,rfl⟩;have:i=l.length:=by
               have:¬i<l.length:=by simpa using h
               omega
  subst this;rw[hi2,de,List.drop_length];simp[eW,dB];omega
theorem qC(b1 b2:Bool)(s:Space)(page:Int)(hl:s.ar.length≤4611686018427387904):af Try.prog 85 [.agg [dB s.lv,.ro b1 4 (s.ar.map rA),.ro b2 4 (s.sl.map rL)],.one (dI page)] (.v (.one (dB (kW s.ar (dN s.ar page))))):=by
 refine aK hmix Try.func85 ok85 ?_;conv=>whnf
 refine aB [.pass,.pass] rfl rfl rfl (lF b1 s.ar page hl) rfl ?_;conv=>whnf
 refine CondP.mk (fun h=>?_) (fun h=>?_)<;>rw[h]<;>(conv=>whnf)<;>repeat' first|(refine aF ?_;conv=>whnf)|(refine aD ?_;conv=>whnf)
 ·have h0:0≤dN s.ar page:=by simpa using h
  have hlt:(dN s.ar page).toNat<s.ar.length:=by
   have e:dN s.ar page=bH s.ar page:=by
    by_cases e:cQ s.ar=true
    ·rw[dN,if_pos e]
    ·rw[dN,if_neg e]at h0;exact absurd h0 (by decide)
   rw[e]at h0 ⊢;exact i5 h0
  refine aJ (k:=(dN s.ar page).toNat) rfl (by show some (dN s.ar page)=_;congr 1;omega) (by simpa using hlt) ?_
  (conv=>whnf)<;>repeat' first|(refine aF ?_;conv=>whnf)|(refine aD ?_;conv=>whnf)
  refine aE rfl (r:=.one (dB s.ar[(dN s.ar page).toNat].sh)) (by simp[aZ,rA,hlt,eB,dB]) ?_;conv=>whnf
  refine⟨?_,rfl⟩;simp[kW,h0,hlt,dB]
 ·refine⟨?_,rfl⟩;have h0:¬0≤dN s.ar page:=by simpa using h
  simp[kW,h0,dB]
theorem ud(b1 b2:Bool)(s:Space)(page:Int)(hl:s.ar.length≤4611686018427387904)(ho:∀a,a∈s.ar→br a=true):af Try.prog 149 [.agg [dB s.lv,.ro b1 4 (s.ar.map rA),.ro b2 4 (s.sl.map rL)],.one (dI page)] (.v (.one (dB (kW s.ar (bH s.ar page))))):=by
 refine aK hmix Try.func149 ok149 ?_;conv=>whnf
 refine aB [.pass,.pass] rfl rfl rfl (rC b1 s.ar page hl ho) rfl ?_;conv=>whnf
 refine CondP.mk (fun h=>?_) (fun h=>?_)<;>rw[h]<;>(conv=>whnf)<;>repeat' first|(refine aF ?_;conv=>whnf)|(refine aD ?_;conv=>whnf)
 ·have h0:0≤bH s.ar page:=by simpa using h
  have hlt:(bH s.ar page).toNat<s.ar.length:=by exact i5 h0
  refine aJ (k:=(bH s.ar page).toNat) rfl (by show some (bH s.ar page)=_;congr 1;omega) (by simpa using hlt) ?_
  (conv=>whnf)<;>repeat' first|(refine aF ?_;conv=>whnf)|(refine aD ?_;conv=>whnf)
  refine aE rfl (r:=.one (dB s.ar[(bH s.ar page).toNat].sh)) (by simp[aZ,rA,hlt,eB,dB]) ?_;conv=>whnf
  refine⟨?_,rfl⟩;simp[kW,h0,hlt,dB]
 ·refine⟨?_,rfl⟩;have h0:¬0≤bH s.ar page:=by simpa using h
  simp[kW,h0,dB]
theorem aBh(b1 b2 b3 b4 b5:Bool)(m:Mem)(k:Int)(hl:m.sp.length≤4611686018427387904):af Try.prog 63 [.agg [.ro b1 1 (m.ram.tx.map rS),.ro b2 1 (m.ram.rf.map rI),.ro b3 1 (m.swp.tx.map rS),.ro b4 1 (m.swp.rf.map rI),.ro b5 3 (m.sp.map rP),dI m.hd],.one (dI k)] (.v (.one (dB (fv m.sp k)))):=by
 refine aK hmix Try.func63 ok63 ?_;conv=>whnf
 refine aB [.pass,.pass,.pass] rfl rfl rfl (jM _ _ _) rfl ?_;conv=>whnf
 have hw:IntKind.wrap .i64 ((m.sp.map rP).length-1)=m.sp.length-1:=by rw[List.length_map];exact wrap64 (by omega) (by omega)
 refine CondP.mk (fun h=>?_) (fun h=>?_)<;>rw[h]<;>(conv=>whnf)<;>repeat' first|(refine aF ?_;conv=>whnf)|(refine aD ?_;conv=>whnf)
 ·have h':=h;rw[show IntKind.wrap .i64 _=_ from hw]at h';have hk:=h';simp only[inB,Bool.and_eq_true,decide_eq_true_eq]at hk;have hlt:k.toNat<m.sp.length:=by omega
  refine aJ (k:=k.toNat) rfl (by show some k=_;congr 1;omega) (by simpa using hlt) ?_
  (conv=>whnf)<;>repeat' first|(refine aF ?_;conv=>whnf)|(refine aD ?_;conv=>whnf)
  refine aE rfl (r:=.one (dB m.sp[k.toNat].lv)) (by simp[aZ,rP,hlt,eB,dB]) ?_;conv=>whnf
  refine⟨?_,rfl⟩;simp[fv,h',hlt,dB]
 ·rw[show IntKind.wrap .i64 _=_ from hw]at h;refine⟨?_,rfl⟩;rw[fv,h];rfl
theorem yw(b1 b2 b3 b4 b5:Bool)(m:Mem)(k:Int)(hl:m.sp.length≤4611686018427387904):af Try.prog 58 [.agg [.ro b1 1 (m.ram.tx.map rS),.ro b2 1 (m.ram.rf.map rI),.ro b3 1 (m.swp.tx.map rS),.ro b4 1 (m.swp.rf.map rI),.ro b5 3 (m.sp.map rP),dI m.hd],.one (dI k)] (.v (.one (dB (fv m.sp k)))):=by
 refine aK hmix Try.func58 ok58 ?_;conv=>whnf
 refine aB [.pass,.pass,.pass] rfl rfl rfl (gh _ _ _) rfl ?_;conv=>whnf
 have hw:IntKind.wrap .i64 ((m.sp.map rP).length-1)=m.sp.length-1:=by rw[List.length_map];exact wrap64 (by omega) (by omega)
 refine CondP.mk (fun h=>?_) (fun h=>?_)<;>rw[h]<;>(conv=>whnf)<;>repeat' first|(refine aF ?_;conv=>whnf)|(refine aD ?_;conv=>whnf)
 ·have h':=h;rw[show IntKind.wrap .i64 _=_ from hw]at h';have hk:=h';simp only[inB,Bool.and_eq_true,decide_eq_true_eq]at hk;have hlt:k.toNat<m.sp.length:=by omega
  refine aJ (k:=k.toNat) rfl (by show some k=_;congr 1;omega) (by simpa using hlt) ?_
  (conv=>whnf)<;>repeat' first|(refine aF ?_;conv=>whnf)|(refine aD ?_;conv=>whnf)
  refine aE rfl (r:=.one (dB m.sp[k.toNat].lv)) (by simp[aZ,rP,hlt,eB,dB]) ?_;conv=>whnf
  refine⟨?_,rfl⟩;simp[fv,h',hlt,dB]
 ·rw[show IntKind.wrap .i64 _=_ from hw]at h;refine⟨?_,rfl⟩;rw[fv,h];rfl
end Go.Qm
namespace Go.Qm
open Go.Cq Go.Cq.D Go.RowKit Go.Proofs
set_option maxRecDepth 10000
set_option maxHeartbeats 1000000 in
theorem mi(b1 b2:Bool)(p:Pages)(h1:p.tx.length≤4611686018427387904)(h2:p.rf.length≤4611686018427387904):af Try.prog 86 [.agg [.ro b1 1 (p.tx.map rS),.ro b2 1 (p.rf.map rI)]] (.v (.one (dB (cU p)))):=by
 refine aK hmix Try.func86 ok86 ?_;conv=>whnf
 refine CondP.mk (fun h=>?_) (fun h=>?_)<;>rw[h]<;>(conv=>whnf)<;>repeat' first|(refine aF ?_;conv=>whnf)|(refine aD ?_;conv=>whnf)
 ·refine⟨?_,rfl⟩;have:¬p.tx.length=p.rf.length:=by simp at h;omega
  simp[cU,this,dB]
 ·have hl:p.tx.length=p.rf.length:=by simp at h;omega
  refine aB [.pass,.pass,.pass] rfl rfl rfl (gh _ _ _) rfl ?_
  (conv=>whnf)<;>repeat' first|(refine aF ?_;conv=>whnf)|(refine aD ?_;conv=>whnf)
  refine CondP.mk (fun h=>?_) (fun h=>?_)<;>conv=>whnf
  ·refine⟨?_,rfl⟩;have h:inB p.tx.length 1 12=false:=by simpa using h
   simp[cU,h,dB]
  ·have hb:inB p.tx.length 1 12=true:=by simpa using h
   refine aa (fun i:Nat=>[(1,.v (.one (.ptr 0 0 0))),(3,.v (.one (dI i)))]) (fun _=>[(0,.box [.ro b1 1 (p.tx.map rS),.ro b2 1 (p.rf.map rI)])]) (fun _=>1)
    (fun i=>i≤p.rf.length∧cU p=fO (p.tx.drop i) (p.rf.drop i)) (fun i=>p.rf.length-i) 0 ⟨by omega,by simp[cU,hl,hl▸hb]⟩ rfl rfl rfl fun i hi=>?_
   conv=>whnf
   refine CondP.mk (fun h=>?_) (fun h=>?_)<;>conv=>whnf
   ·have hi1:i<p.tx.length:=by simpa using h
    have hi2:i<p.rf.length:=by omega
    refine aJ (k:=i) rfl rfl (by simpa using hi2) ?_;conv=>whnf
    refine aE rfl (r:=.one (dI p.rf[i])) (by simp[aZ,rI,hi2,eI,dI]) ?_;conv=>whnf
    refine CondP.mk (fun h0=>?_) (fun h0=>?_)<;>conv=>whnf
    all_goals
     refine aJ (k:=i) rfl rfl (by simpa using hi2) ?_;conv=>whnf
     refine aE rfl (r:=.one (dI p.rf[i])) (by simp[aZ,rI,hi2,eI,dI]) ?_;conv=>whnf
     refine aB [.pass,.pass,.pass] rfl rfl rfl (gh _ _ _) rfl ?_;conv=>whnf
     refine CondP.mk (fun h9=>?_) (fun h9=>?_)<;>rw[h9]<;>(conv=>whnf)<;>repeat' first|(refine aF ?_;conv=>whnf)|(refine aD ?_;conv=>whnf)
    ·refine⟨?_,rfl⟩;have h9:inB p.rf[i] 0 99=false:=by simpa using h9
     rw[hi.2,bw hi1 hi2,eJ,h9];rfl
    ·have h9:inB p.rf[i] 0 99=true:=by simpa using h9
     refine aJ (k:=i) rfl rfl (by simpa using hi1) ?_
     (conv=>whnf)<;>repeat' first|(refine aF ?_;conv=>whnf)|(refine aD ?_;conv=>whnf)
     refine aE rfl (r:=.one (.sc (.str p.tx[i]))) (by simp[aZ,rS,hi1,eS]) ?_
     (conv=>whnf)<;>repeat' first|(refine aF ?_;conv=>whnf)|(refine aD ?_;conv=>whnf)
     refine CondP.mk (fun h8=>?_) (fun h8=>?_)<;>conv=>whnf
     ·refine⟨?_,rfl⟩;rw[hi.2,bw hi1 hi2,eJ,h9];simp at h0 h8;simp[h0,h8,dB]
     ·refine⟨i+1,by omega,⟨by omega,?_⟩,?_,rfl,rfl⟩
      ·rw[hi.2,bw hi1 hi2,eJ,h9];simp at h0 h8;simp[h0,h8]
      ·rw[←up hi2 h2];rfl
    ·refine⟨?_,rfl⟩;have h9:inB p.rf[i] 0 99=false:=by simpa using h9
     rw[hi.2,bw hi1 hi2,eJ,h9];rfl
    ·have h9:inB p.rf[i] 0 99=true:=by simpa using h9
     refine aJ (k:=i) rfl rfl (by simpa using hi1) ?_
     (conv=>whnf)<;>repeat' first|(refine aF ?_;conv=>whnf)|(refine aD ?_;conv=>whnf)
     refine aE rfl (r:=.one (.sc (.str p.tx[i]))) (by simp[aZ,rS,hi1,eS]) ?_
     (conv=>whnf)<;>repeat' first|(refine aF ?_;conv=>whnf)|(refine aD ?_;conv=>whnf)
     refine CondP.mk (fun h8=>?_) (fun h8=>?_)<;>conv=>whnf
     ·refine⟨?_,rfl⟩;rw[hi.2,bw hi1 hi2,eJ,h9];simp at h0 h8;simp[h0,h8,dB]
     ·refine⟨i+1,by omega,⟨by omega,?_⟩,?_,rfl,rfl⟩
      ·rw[hi.2,bw hi1 hi2,eJ,h9];simp at h0 h8;simp[h0,h8]
      ·rw[←up hi2 h2];rfl
   ·refine⟨?_,rfl⟩;have:i=p.tx.length:=by
                   have:¬i<p.tx.length:=by simpa using h
                   omega
    subst this;have:=hi.2;rw[List.drop_eq_nil_of_le (by omega),fO]at this;rw[this];rfl
    all_goals simp
end Go.Qm
namespace Go.Qm
open Go.Cq Go.Cq.D Go.RowKit Go.Proofs
set_option maxRecDepth 10000
theorem fP{b:Bool}(h:b=false):DT.v (DV.one (DC.sc (.bool false)))= .v (.one (dB b))∧([]:DH)=[]:=by rw[h];exact⟨rfl,rfl⟩
theorem aCC{b:Bool}(h:b=true):DT.v (DV.one (DC.sc (.bool true)))= .v (.one (dB b))∧([]:DH)=[]:=by rw[h];exact⟨rfl,rfl⟩
theorem wE{P:Prg}{ts:DTs}{H:DH}{n:Nat}{K:DT→DTs→DH→Nat→List Nat→Prop}{neg:Bool}{ks:List LK}{x y:Opd}{xs ys:List DC}{cs ds:List CV}{b:Bool}(h1:evD ts x=some (.agg xs))(h2:evD ts y=some (.agg ys))(h3:fc xs=some cs)(h4:fc ys=some ds)(h5:bE ks cs ds=some b)(h:K (.v (.one (.sc (.bool (if neg then !b else b))))) ts H n []):OpP P (.eqA neg ks x y) ts H n K:=⟨⟨xs,ys,cs,ds,b,h1,h2,h3,h4,h5,h⟩⟩
set_option maxHeartbeats 1000000 in
theorem vo(b1 b2:Bool)(s:Space)(h1:s.ar.length≤4611686018427387904)(h2:s.sl.length≤4611686018427387904):af Try.prog 88 [.agg [dB s.lv,.ro b1 4 (s.ar.map rA),.ro b2 4 (s.sl.map rL)]] (.v (.one (dB (bW s)))):=by
 refine aK hmix Try.func88 ok88 ?_;conv=>whnf
 refine CondP.mk (fun h=>?_) (fun h=>?_)<;>conv=>whnf
 ·have h:s.lv=false:=by simpa using h
  refine CondP.mk (fun h3=>?_) (fun h3=>?_)<;>rw[h3]<;>(conv=>whnf)<;>repeat' first|(refine aF ?_;conv=>whnf)|(refine aD ?_;conv=>whnf)
  ·refine⟨?_,rfl⟩;simp at h3;simp[bW,h,h3,dB]
  ·refine fP ?_;simp at h3;simp[bW,h,h3]
 have hv:s.lv=true:=by simpa using h
 refine aB [.pass] rfl rfl rfl (sS b1 s.ar h1) rfl ?_;conv=>whnf
 refine CondP.mk (fun h=>?_) (fun h=>?_)<;>rw[h]<;>(conv=>whnf)<;>repeat' first|(refine aF ?_;conv=>whnf)|(refine aD ?_;conv=>whnf)
 ·refine fP ?_;have h:cQ s.ar=false:=by simpa using h
  simp[bW,hv,h]
 have ho:cQ s.ar=true:=by simpa using h
 refine CondP.mk (fun h=>?_) (fun h=>?_)<;>conv=>whnf
 ·refine fP ?_;have h:¬s.sl.length=16:=by simp at h;omega
  simp[bW,hv,ho,h]
 have hl:s.sl.length=16:=by simp at h;omega
 refine aa (fun i:Nat=>[(1,.v (.one (.ptr 0 0 0))),(3,.v (.one (dI i)))]) (fun _=>[(0,.box [dB s.lv,.ro b1 4 (s.ar.map rA),.ro b2 4 (s.sl.map rL)])]) (fun _=>1)
  (fun i=>i≤s.sl.length∧bW s=cZ s.ar i (s.sl.drop i)) (fun i=>s.sl.length-i) 0 ⟨by omega,by simp[bW,hv,ho,hl]⟩ rfl rfl rfl fun i hi=>?_
 obtain⟨hi1,hi2⟩:=hi;conv=>whnf
 refine CondP.mk (fun h=>?_) (fun h=>?_)<;>conv=>whnf
 ·have hlt:i<s.sl.length:=by simp at h;omega
  have no:c8 s.ar i s.sl[i]=false→bW s=false:=fun e=>by rw[hi2,jw hlt,e];rfl
  refine aJ (k:=i) rfl rfl (by simpa using hlt) ?_;conv=>whnf
  refine aE rfl (ldL hlt) ?_;conv=>whnf
  refine aB [.pass,.pass] rfl rfl rfl (rC b1 s.ar i h1 (iE ho)) rfl ?_;conv=>whnf
  have yes:c8 s.ar i s.sl[i]=true→bW s=cZ s.ar (i+1) (s.sl.drop (i+1)):=fun e=>by rw[hi2,jw hlt,e];rfl
  refine CondP.mk (fun h3=>?_) (fun h3=>?_)<;>rw[h3]<;>conv=>whnf
  ·have h3:s.sl[i].kd=0:=by simpa using h3
   refine wE rfl rfl rfl rfl rfl ?_;conv=>whnf
   have e:(s.sl[i].kd==0&&(s.sl[i].pl==0&&(s.sl[i].ow==false&&(s.sl[i].us==false&&true))))=c8 s.ar i s.sl[i]:=by
    rw[c8,if_pos h3];rcases s.sl[i]with⟨k,p,o,u⟩
    rw[Bool.eq_iff_iff];simp[pH]
   refine CondP.mk (fun h4=>?_) (fun h4=>?_)<;>conv=>whnf
   ·refine fP (no ?_);rw[e]at h4;simpa using h4
   ·refine⟨i+1,by omega,⟨by omega,yes ?_⟩,?_,rfl,rfl⟩
    ·rw[e]at h4;simpa using h4
    ·rw[up hlt h2];rfl
  ·have h3:¬s.sl[i].kd=0:=by simpa using h3
   refine CondP.mk (fun h4=>?_) (fun h4=>?_)<;>rw[h4]<;>(conv=>whnf)<;>repeat' first|(refine aF ?_;conv=>whnf)|(refine aD ?_;conv=>whnf)
   ·refine fP (no ?_);have h4:bH s.ar i<0:=by simpa using h4
    rw[c8,if_neg h3,decide_eq_false (by omega)];rfl
   have h4:0≤bH s.ar i:=by simpa using h4
   refine aB [.pass,.pass,.pass] rfl rfl rfl (gh _ _ _) rfl ?_
   (conv=>whnf)<;>repeat' first|(refine aF ?_;conv=>whnf)|(refine aD ?_;conv=>whnf)
   refine CondP.mk (fun h5=>?_) (fun h5=>?_)<;>conv=>whnf
   ·refine fP (no ?_);have h5:inB s.sl[i].kd 1 2=false:=by simpa using h5
    rw[c8,if_neg h3,h5];simp
   have h5:inB s.sl[i].kd 1 2=true:=by simpa using h5
   have hat:(bH s.ar i).toNat<s.ar.length:=i5 h4;refine aJ (k:=(bH s.ar i).toNat) rfl (by show some (bH s.ar i)=_;congr 1;omega) (by simpa using hat) ?_;conv=>whnf
   refine aE rfl (r:=.one (dB s.ar[(bH s.ar i).toNat].sh)) (by simp[aZ,rA,hat,eB,dB]) ?_;conv=>whnf
   have e:c8 s.ar i s.sl[i]= !(s.ar[(bH s.ar i).toNat].sh&&!s.sl[i].ow):=by rw[c8,if_neg h3,h5,decide_eq_true h4,kW,decide_eq_true h4];simp[hat]
   refine CondP.mk (fun h6=>?_) (fun h6=>?_)<;>rw[h6]<;>(conv=>whnf)<;>repeat' first|(refine aF ?_;conv=>whnf)|(refine aD ?_;conv=>whnf)
   ·refine CondP.mk (fun h7=>?_) (fun h7=>?_)<;>conv=>whnf
    ·refine fP (no ?_);rw[e,h6];simp at h7;simp[h7]
    ·refine⟨i+1,by omega,⟨by omega,yes ?_⟩,?_,rfl,rfl⟩
     ·rw[e,h6];simp at h7;simp[h7]
     ·rw[up hlt h2];rfl
   ·refine⟨i+1,by omega,⟨by omega,yes ?_⟩,?_,rfl,rfl⟩
    ·rw[e,h6];simp
    ·rw[up hlt h2];rfl
 ·refine aCC ?_;have:i=s.sl.length:=by
                 have:¬i<s.sl.length:=by simp at h;omega
                 omega
  subst this;rw[hi2,List.drop_length];rfl
end Go.Qm
namespace Go.Qm
open Go.Cq Go.Cq.D Go.RowKit Go.Proofs
set_option maxRecDepth 10000
end Go.Qm
namespace Go.Qm
open Go.Cq Go.Cq.D Go.RowKit Go.Proofs
set_option maxRecDepth 10000
end Go.Qm
namespace Go.Qm
open Go.Cq Go.Cq.D Go.RowKit Go.Proofs
set_option maxRecDepth 10000
end Go.Qm
namespace Go.Qm
open Go.Cq Go.Cq.D Go.RowKit Go.Proofs
set_option maxRecDepth 10000
end Go.Qm
namespace Go.Qm
open Go.Cq Go.Cq.D Go.RowKit Go.Proofs
set_option maxRecDepth 10000
theorem t5{α:Type}{es:List α}{i:Nat}{row:α}(h:es[i]?=some row):es.set i row=es:=by obtain⟨hi,rfl⟩:=List.getElem?_eq_some_iff.1 h;exact List.set_getElem_self hi
theorem ck{sp:List Space}{i j:Nat}{x:Slot}(hi:i<sp.length):(sp.map rP).modify i (fun row=>row.set 2 (.sl 4 ((sp[i].sl.map rL).set j (rL x))))=(aQ sp i j x).map rP:=by rw[aV (aj (f:=rP) (List.getElem?_eq_getElem hi)),aQ,sO (List.getElem?_eq_getElem hi),←map_set,map_set (f:=rL)];rfl
end Go.Qm
namespace Go.Qm
open Go.Cq Go.Cq.D Go.RowKit Go.Proofs
set_option maxRecDepth 10000
def vS(m:Mem)(i:Nat):List Area:=(m.sp[i]?.map (·.ar)).getD []
theorem od{m:Mem}{i:Nat}(h:ct m=true)(hi:i<m.sp.length)(hlv:m.sp[i].lv=true):cQ m.sp[i].ar=true∧m.sp[i].ar.length≤6∧m.sp[i].sl.length=16:=by simp only[ct,Bool.and_eq_true,decide_eq_true_eq]at h;have hs:=List.all_eq_true.1 h.1.1.2 _ (List.getElem_mem hi);simp only[Bool.and_eq_true]at hs;have hso:=hs.1;rw[bW,if_pos hlv]at hso;simp only[Bool.and_eq_true,decide_eq_true_eq]at hso;have:=hso.1;simp only[cQ,Bool.and_eq_true,decide_eq_true_eq]at this;exact⟨hso.1,this.2,hso.2.1⟩
def jX:Mem:=⟨⟨[],[]⟩,⟨[],[]⟩,[],0⟩
def bO(m:Mem):DB:=.box [.own 1 (m.ram.tx.map rS),.own 1 (m.ram.rf.map rI),.own 1 (m.swp.tx.map rS),.own 1 (m.swp.rf.map rI),.own 3 (m.sp.map rP),dI m.hd]
end Go.Qm
namespace Go.Qm
open Go.Cq Go.Cq.D Go.RowKit Go.Proofs
set_option maxRecDepth 10000
def bM(b1 b2 b3 b4 b5:Bool)(m:Mem):DB:=.box [.ro b1 1 (m.ram.tx.map rS),.ro b2 1 (m.ram.rf.map rI),.ro b3 1 (m.swp.tx.map rS),.ro b4 1 (m.swp.rf.map rI),.ro b5 3 (m.sp.map rP),dI m.hd]
set_option maxHeartbeats 1000000 in
theorem qK(b1 b2 b3 b4 b5:Bool)(m:Mem)(kd pl:Int)(h:m.fits 4611686018427387904)(hb:(tel kd pl m.sp).length≤4611686018427387904):af Try.prog 89 [aM b1 b2 b3 b4 b5 m,.one (dI kd),.one (dI pl)] (.v (.one (dI (tel kd pl m.sp).length))):=by
 refine aK hmix Try.func89 ok89 ?_;conv=>whnf
 refine aa (fun p:Nat×Nat=>[(1,.v (.one (dI kd))),(2,.v (.one (dI pl))),(3,.v (.one (.ptr 0 0 0))),(7,.v (.one (dI p.2))),(8,.v (.one (dI p.1)))]) (fun _=>[(0,bM b1 b2 b3 b4 b5 m)]) (fun _=>1)
  (fun p=>p.1≤m.sp.length∧p.2+(tel kd pl (m.sp.drop p.1)).length=(tel kd pl m.sp).length) (fun p=>m.sp.length-p.1) (0,0) ⟨by omega,by simp⟩ rfl rfl rfl fun p hi=>?_
 obtain⟨i,c⟩:=p;obtain⟨hi1,hi2⟩:=hi;simp only at hi1 hi2;conv=>whnf
 refine CondP.mk (fun h1=>?_) (fun h1=>?_)<;>conv=>whnf
 ·have hlt:i<m.sp.length:=by simpa using h1
  have hs:=h.ss _ (List.getElem_mem hlt);rw[sq hlt,List.length_append]at hi2;refine aa (fun p:Nat×Nat=>[(1,.v (.one (dI kd))),(2,.v (.one (dI pl))),(3,.v (.one (.ptr 0 0 0))),(7,.v (.one (dI p.2))),(8,.v (.one (dI i))),(9,.v (.one (dI p.1)))]) (fun _=>[(0,bM b1 b2 b3 b4 b5 m)]) (fun _=>1)
   (fun p=>p.1≤m.sp[i].sl.length∧p.2+(fj m.sp[i].ar kd pl p.1 (m.sp[i].sl.drop p.1)).length+(tel kd pl (m.sp.drop (i+1))).length=(tel kd pl m.sp).length) (fun p=>m.sp[i].sl.length-p.1) (0,c) ⟨by omega,by simp only[List.drop_zero];omega⟩ rfl rfl rfl fun p hj=>?_
  obtain⟨j,d⟩:=p;obtain⟨hj1,hj2⟩:=hj;simp only at hj1 hj2;conv=>whnf
  refine aJ (k:=i) rfl rfl (by simpa using hlt) ?_;conv=>whnf
  refine aE rfl (r:=.one (.ro b5 4 (m.sp[i].sl.map rL))) (by simp[aZ,rP,hlt]) ?_;conv=>whnf
  refine CondP.mk (fun h2=>?_) (fun h2=>?_)<;>conv=>whnf
  ·have hlj:j<m.sp[i].sl.length:=by simpa using h2
   rw[qd hlj]at hj2;refine aJ (k:=i) rfl rfl (by simpa using hlt) ?_;conv=>whnf
   refine aE rfl (r:=.one (.ro b5 4 (m.sp[i].sl.map rL))) (by simp[aZ,rP,hlt]) ?_;conv=>whnf
   refine aJ (k:=j) rfl rfl (by simpa using hlj) ?_;conv=>whnf
   refine aE rfl (ldL hlj) ?_;conv=>whnf
   refine CondP.mk (fun h3=>?_) (fun h3=>?_)<;>rw[h3]<;>(conv=>whnf)<;>repeat' first|(refine aF ?_;conv=>whnf)|(refine aD ?_;conv=>whnf)
   ·have h3:m.sp[i].sl[j].kd=kd:=by simpa using h3
    refine CondP.mk (fun h4=>?_) (fun h4=>?_)<;>conv=>whnf
    ·have h4:m.sp[i].sl[j].pl=pl:=by simpa using h4
     rw[if_pos ⟨h3,h4⟩,List.length_cons]at hj2;refine⟨(j+1,d+1),by simp only;omega,⟨by simp only;omega,by simp only;omega⟩,?_,rfl,rfl⟩;rw[up hlj hs.2,wrap64 (by omega) (by omega),show(d:Int)+1=((d+1:Nat):Int) by omega];rfl
    ·have h4:¬m.sp[i].sl[j].pl=pl:=by simpa using h4
     rw[if_neg fun e=>h4 e.2]at hj2;refine⟨(j+1,d),by simp only;omega,⟨by simp only;omega,by simp only;omega⟩,?_,rfl,rfl⟩;rw[up hlj hs.2];rfl
   ·have h3:¬m.sp[i].sl[j].kd=kd:=by simpa using h3
    rw[if_neg fun e=>h3 e.1]at hj2;refine⟨(j+1,d),by simp only;omega,⟨by simp only;omega,by simp only;omega⟩,?_,rfl,rfl⟩;rw[up hlj hs.2];rfl
  ·have:j=m.sp[i].sl.length:=by
                     have:¬j<m.sp[i].sl.length:=by simpa using h2
                     omega
   subst this;rw[List.drop_length]at hj2;simp only[fj,List.length_nil]at hj2;refine⟨(i+1,d),by simp only;omega,⟨by simp only;omega,by simp only;omega⟩,?_,rfl,rfl⟩;rw[up hlt h.sp];rfl
 ·have:i=m.sp.length:=by
                 have:¬i<m.sp.length:=by simpa using h1
                 omega
  subst this;rw[List.drop_length]at hi2;simp only[tel,List.length_nil]at hi2;refine⟨?_,rfl⟩;simp only[dI];rw[←hi2];rfl
end Go.Qm
namespace Go.Qm
open Go.Cq Go.Cq.D Go.RowKit Go.Proofs
set_option maxRecDepth 10000
structure Sofar where
 i:Nat
 c:Nat
 o:Bool
 q:Bool
structure Sofar.ok(T:List (Bool×Bool))(s:Sofar)(r:List (Bool×Bool)):Prop where
 c:s.c+r.length=T.length
 o:(s.o||r.any (·.1))=T.any (·.1)
 q:(s.q||r.any (!·.2))=T.any (!·.2)
theorem Sofar.ok.step{T:List (Bool×Bool)}{i i' c:Nat}{o q:Bool}{x:Bool×Bool}{r:List (Bool×Bool)}(h:Sofar.ok T ⟨i,c,o,q⟩ (x::r)):Sofar.ok T ⟨i',c+1,o||x.1,q||!x.2⟩ r:=by
 refine⟨?_,?_,?_⟩
 ·have:=h.c;simp only[List.length_cons]at this ⊢;omega
 ·have:=h.o;simp only[List.any_cons]at this ⊢;rw[Bool.or_assoc];exact this
 ·have:=h.q;simp only[List.any_cons]at this ⊢;rw[Bool.or_assoc];exact this
set_option maxHeartbeats 2000000 in
theorem ny(b1 b2 b3 b4 b5:Bool)(m:Mem)(kd pl:Int)(h:m.fits 4611686018427387904)(hb:(tel kd pl m.sp).length≤4611686018427387904)(ho:∀s,s∈m.sp→∀a,a∈s.ar→br a=true):af Try.prog 90 [aM b1 b2 b3 b4 b5 m,.one (dI kd),.one (dI pl)] (.v (.one (dB (alone (tel kd pl m.sp))))):=by
 refine aK hmix Try.func90 ok90 ?_;conv=>whnf
 refine aa (fun p:Sofar=>[(1,.v (.one (dI kd))),(2,.v (.one (dI pl))),(3,.v (.one (.ptr 0 0 0))),(7,.v (.one (dI p.c))),(8,.v (.one (dB p.o))),(9,.v (.one (dB p.q))),(10,.v (.one (dI p.i)))]) (fun _=>[(0,bM b1 b2 b3 b4 b5 m)]) (fun _=>1)
  (fun p=>p.i≤m.sp.length∧Sofar.ok (tel kd pl m.sp) p (tel kd pl (m.sp.drop p.i))) (fun p=>m.sp.length-p.i) ⟨0,0,false,false⟩ ⟨by simp,by simp,by simp,by simp⟩ rfl rfl rfl fun p hi=>?_
 obtain⟨i,c,o,q⟩:=p;obtain⟨hi1,hi2⟩:=hi;simp only at hi1 hi2;conv=>whnf
 refine CondP.mk (fun h1=>?_) (fun h1=>?_)<;>conv=>whnf
 ·have hlt:i<m.sp.length:=by simpa using h1
  have hs:=h.ss _ (List.getElem_mem hlt);have hoi:=ho _ (List.getElem_mem hlt);rw[sq hlt]at hi2;refine aa (fun p:Sofar=>[(1,.v (.one (dI kd))),(2,.v (.one (dI pl))),(3,.v (.one (.ptr 0 0 0))),(7,.v (.one (dI p.c))),(8,.v (.one (dB p.o))),(9,.v (.one (dB p.q))),(10,.v (.one (dI i))),(11,.v (.one (dI p.i)))]) (fun _=>[(0,bM b1 b2 b3 b4 b5 m)]) (fun _=>1)
   (fun p=>p.i≤m.sp[i].sl.length∧Sofar.ok (tel kd pl m.sp) p (fj m.sp[i].ar kd pl p.i (m.sp[i].sl.drop p.i)++tel kd pl (m.sp.drop (i+1)))) (fun p=>m.sp[i].sl.length-p.i) ⟨0,c,o,q⟩ ⟨by simp,by simp only[List.drop_zero];exact⟨hi2.c,hi2.o,hi2.q⟩⟩ rfl rfl rfl fun p hj=>?_
  obtain⟨j,d,o1,q1⟩:=p;obtain⟨hj1,hj2⟩:=hj;simp only at hj1 hj2;conv=>whnf
  refine aJ (k:=i) rfl rfl (by simpa using hlt) ?_;conv=>whnf
  refine aE rfl (r:=.one (.ro b5 4 (m.sp[i].sl.map rL))) (by simp[aZ,rP,hlt]) ?_;conv=>whnf
  refine CondP.mk (fun h2=>?_) (fun h2=>?_)<;>conv=>whnf
  ·have hlj:j<m.sp[i].sl.length:=by simpa using h2
   rw[qd hlj]at hj2;refine aJ (k:=i) rfl rfl (by simpa using hlt) ?_;conv=>whnf
   refine aE rfl (r:=.one (.ro b5 4 (m.sp[i].sl.map rL))) (by simp[aZ,rP,hlt]) ?_;conv=>whnf
   refine aJ (k:=j) rfl rfl (by simpa using hlj) ?_;conv=>whnf
   refine aE rfl (ldL hlj) ?_;conv=>whnf
   refine CondP.mk (fun h3=>?_) (fun h3=>?_)<;>rw[h3]<;>(conv=>whnf)<;>repeat' first|(refine aF ?_;conv=>whnf)|(refine aD ?_;conv=>whnf)
   ·have h3:m.sp[i].sl[j].kd=kd:=by simpa using h3
    refine CondP.mk (fun h4=>?_) (fun h4=>?_)<;>conv=>whnf
    ·have h4:m.sp[i].sl[j].pl=pl:=by simpa using h4
     rw[if_pos ⟨h3,h4⟩,List.cons_append]at hj2;have hd:d+1≤(tel kd pl m.sp).length:=by have:=hj2.c;simp only[List.length_cons]at this;omega
     have hst:=hj2.step (i':=j+1);have ec:IntKind.wrap .i64 ((d:Int)+1)=((d+1:Nat):Int):=by rw[wrap64 (by omega) (by omega)];omega
     have el:IntKind.wrap .i64 ((j:Int)+1)=((j+1:Nat):Int):=up hlj hs.2;cases q1
     ·cases o1<;>(conv=>whnf)<;>repeat' first|(refine aF ?_;conv=>whnf)|(refine aD ?_;conv=>whnf)
      all_goals
       refine aJ (k:=i) rfl rfl (by simpa using hlt) ?_
       (conv=>whnf)<;>repeat' first|(refine aF ?_;conv=>whnf)|(refine aD ?_;conv=>whnf)
       refine aE rfl (ldP hlt) ?_
       (conv=>whnf)<;>repeat' first|(refine aF ?_;conv=>whnf)|(refine aD ?_;conv=>whnf)
       refine aB [.pass,.pass] rfl rfl rfl (ud b5 b5 m.sp[i] j hs.1 hoi) rfl ?_
       (conv=>whnf)<;>repeat' first|(refine aF ?_;conv=>whnf)|(refine aD ?_;conv=>whnf)
      ·refine⟨⟨j+1,d+1,m.sp[i].sl[j].ow,!kW m.sp[i].ar (bH m.sp[i].ar j)⟩,by simp only;omega,⟨by simp only;omega,hst⟩,?_,rfl,rfl⟩;rw[ec,el];rfl
      ·refine⟨⟨j+1,d+1,true,!kW m.sp[i].ar (bH m.sp[i].ar j)⟩,by simp only;omega,⟨by simp only;omega,hst⟩,?_,rfl,rfl⟩;rw[ec,el];rfl
     ·cases o1<;>(conv=>whnf)<;>repeat' first|(refine aF ?_;conv=>whnf)|(refine aD ?_;conv=>whnf)
      ·refine⟨⟨j+1,d+1,m.sp[i].sl[j].ow,true⟩,by simp only;omega,⟨by simp only;omega,hst⟩,?_,rfl,rfl⟩;rw[ec,el];rfl
      ·refine⟨⟨j+1,d+1,true,true⟩,by simp only;omega,⟨by simp only;omega,hst⟩,?_,rfl,rfl⟩;rw[ec,el];rfl
    ·have h4:¬m.sp[i].sl[j].pl=pl:=by simpa using h4
     rw[if_neg fun e=>h4 e.2]at hj2;refine⟨⟨j+1,d,o1,q1⟩,by simp only;omega,⟨by simp only;omega,⟨hj2.c,hj2.o,hj2.q⟩⟩,?_,rfl,rfl⟩;rw[up hlj hs.2];rfl
   ·have h3:¬m.sp[i].sl[j].kd=kd:=by simpa using h3
    rw[if_neg fun e=>h3 e.1]at hj2;refine⟨⟨j+1,d,o1,q1⟩,by simp only;omega,⟨by simp only;omega,⟨hj2.c,hj2.o,hj2.q⟩⟩,?_,rfl,rfl⟩;rw[up hlj hs.2];rfl
  ·have:j=m.sp[i].sl.length:=by
                     have:¬j<m.sp[i].sl.length:=by simpa using h2
                     omega
   subst this;rw[List.drop_length]at hj2;simp only[fj,List.nil_append]at hj2;refine⟨⟨i+1,d,o1,q1⟩,by simp only;omega,⟨by simp only;omega,⟨hj2.c,hj2.o,hj2.q⟩⟩,?_,rfl,rfl⟩;rw[up hlt h.sp];rfl
 ·have:i=m.sp.length:=by
                 have:¬i<m.sp.length:=by simpa using h1
                 omega
  subst this;rw[List.drop_length]at hi2;have k1:=hi2.c;have k2:=hi2.o;have k3:=hi2.q;simp only[tel,List.length_nil,List.any_nil,Bool.or_false,Nat.add_zero]at k1 k2 k3;have hal:alone (tel kd pl m.sp)=(decide ((c:Int)<2)||!o||!q):=by rw[alone,←k1,←k2,←k3,show decide (c<2)=decide ((c:Int)<2)from decide_eq_decide.2 (by omega)]
  refine CondP.mk (fun h2=>?_) (fun h2=>?_)<;>rw[h2]<;>cases o<;>cases q<;>(conv=>whnf)<;>repeat' first|(refine aF ?_;conv=>whnf)|(refine aD ?_;conv=>whnf)
  all_goals
   simp only at h2;rw[hal,h2];exact⟨rfl,rfl⟩
end Go.Qm
namespace Go.Qm
open Go.Cq Go.Cq.D Go.RowKit Go.Proofs
set_option maxRecDepth 10000
theorem zU{ar:List Area}{kd pl:Int}:∀{l:List Slot}{i:Nat},(fj ar kd pl i l).length≤l.length:=by
 intro l;induction l with
 |nil=>intro i;simp[fj]
 |cons x l ih=>intro i;simp only[fj];have:=ih (i:=i+1);split<;>simp only[List.length_cons]<;>omega
theorem wi{kd pl:Int}{n:Nat}:∀{l:List Space},(∀s,s∈l→s.sl.length≤n)→(tel kd pl l).length≤n*l.length:=by
 intro l;induction l with
 |nil=>intro _;simp[tel]
 |cons s l ih=>
  intro h;have h1:=ih fun s hs=>h s (List.mem_cons_of_mem _ hs)
  have h2:=h s (List.mem_cons_self ..);have h3:=zU (ar:=s.ar) (kd:=kd) (pl:=pl) (l:=s.sl) (i:=0);simp only[tel,List.length_append,List.length_cons,Nat.mul_add,Nat.mul_one];omega
theorem me{s:Space}(h:bW s=true):s.sl.length≤16:=by unfold bW at h;split at h<;>simp only[Bool.and_eq_true,decide_eq_true_eq]at h<;>omega
theorem wK{s:Space}(h:bW s=true):∀a,a∈s.ar→br a=true:=by
 unfold bW at h;split at h
 ·simp only[Bool.and_eq_true]at h;exact iE h.1
 ·simp only[Bool.and_eq_true,decide_eq_true_eq]at h;intro a ha;rw[List.length_eq_zero_iff.1 h.1]at ha;simp at ha
def gq(s:Space):Bool:=bW s&&s.sl.all gu
theorem cD{m:Mem}{b:Bool}(h:(cU m.ram&&cU m.swp&&decide (m.ram.rf.length=12)&&decide (m.swp.rf.length=12)&&decide (m.sp.length=5)&&inB m.hd 0 11)=b):ct m=(b&&m.sp.all gq&&cS 1 m.sp 0 m.ram.rf&&cS 2 m.sp 0 m.swp.rf):=by rw[←h];rfl
set_option maxHeartbeats 4000000 in
theorem xK (b1 b2 b3 b4 b5 : Bool) (m : Mem) (h : m.fits 4611686018427387904) : af Try.prog 35 [aM b1 b2 b3 b4 b5 m] (.v (.one (dB (ct m)))) := by
 refine aK hmix Try.func35 ok35 ?_; conv => whnf
 refine aB [.pass] rfl rfl rfl (mi b1 b2 m.ram h.rt h.rr) rfl ?_; conv => whnf
 refine CondP.mk (fun h1 => ?_) (fun h1 => ?_) <;> rw [h1] <;> (conv=>whnf)<;>repeat' first|(refine aF ?_;conv=>whnf)|(refine aD ?_;conv=>whnf)
 ·exact fP (by rw [cD rfl, show cU m.ram = false by simpa using h1]; simp)
 refine aB [.pass] rfl rfl rfl (mi b3 b4 m.swp h.st h.sr) rfl ?_
 (conv=>whnf)<;>repeat' first|(refine aF ?_;conv=>whnf)|(refine aD ?_;conv=>whnf)
 refine CondP.mk (fun h2 => ?_) (fun h2 => ?_) <;> rw [h2] <;> (conv=>whnf)<;>repeat' first|(refine aF ?_;conv=>whnf)|(refine aD ?_;conv=>whnf)
 ·exact fP (by rw [cD rfl, show cU m.swp = false by simpa using h2]; simp)
 refine CondP.mk (fun h3 => ?_) (fun h3 => ?_) <;> rw [h3] <;> (conv=>whnf)<;>repeat' first|(refine aF ?_;conv=>whnf)|(refine aD ?_;conv=>whnf)
 ·exact fP (by rw [cD rfl, show decide (m.ram.rf.length = 12) = false by simp at h3 ⊢; omega]; simp)
 refine CondP.mk (fun h4 => ?_) (fun h4 => ?_) <;> rw [h4] <;> (conv=>whnf)<;>repeat' first|(refine aF ?_;conv=>whnf)|(refine aD ?_;conv=>whnf)
 ·exact fP (by rw [cD rfl, show decide (m.swp.rf.length = 12) = false by simp at h4 ⊢; omega]; simp)
 refine CondP.mk (fun h5 => ?_) (fun h5 => ?_) <;> rw [h5] <;> (conv=>whnf)<;>repeat' first|(refine aF ?_;conv=>whnf)|(refine aD ?_;conv=>whnf)
 ·exact fP (by rw [cD rfl, show decide (m.sp.length = 5) = false by simp at h5 ⊢; omega]; simp)
 refine aB [.pass, .pass, .pass] rfl rfl rfl (gh _ _ _) rfl ?_
 (conv=>whnf)<;>repeat' first|(refine aF ?_;conv=>whnf)|(refine aD ?_;conv=>whnf)
 refine CondP.mk (fun h6 => ?_) (fun h6 => ?_) <;> conv => whnf
 ·exact fP (by rw [cD rfl, show inB m.hd 0 11 = false by simpa using h6]; simp)
 have hl1 : m.ram.rf.length = 12 := by simp at h3; omega
 have hl2 : m.swp.rf.length = 12 := by simp at h4; omega
 have hl5 : m.sp.length = 5 := by simp at h5; omega
 have hd := cD (m := m) (b := true) (by simp at h1 h2 h6; simp [h1, h2, hl1, hl2, hl5, h6]); rw [Bool.true_and] at hd; refine aa (fun i : Nat => [(1, .v (.one (.ptr 0 0 0))), (3, .v (.one (dI i)))]) (fun _ => [(0, bM b1 b2 b3 b4 b5 m)]) (fun _ => 1)
  (fun i => i ≤ m.sp.length ∧ ∀ j (hj : j < m.sp.length), j < i → gq m.sp[j] = true) (fun i => m.sp.length - i) 0 ⟨by omega, by omega⟩ rfl rfl rfl fun i hi => ?_
 obtain ⟨hi1, hi2⟩ := hi; conv => whnf
 refine CondP.mk (fun h7 => ?_) (fun h7 => ?_) <;> conv => whnf
 ·have hlt : i < m.sp.length := by simp at h7; omega
  have hs := h.ss _ (List.getElem_mem hlt); have no : gq m.sp[i] = false → ct m = false := fun e => by
   have : m.sp.all gq = false := by rw [List.all_eq_false]; exact ⟨_, List.getElem_mem hlt, by simp [e]⟩
   rw [hd, this]; rfl
  refine aJ (k := i) rfl rfl (by simpa using hlt) ?_; conv => whnf
  refine aE rfl (ldP hlt) ?_; conv => whnf
  refine aB [.pass] rfl rfl rfl (vo b5 b5 m.sp[i] hs.1 hs.2) rfl ?_; conv => whnf
  refine CondP.mk (fun h8 => ?_) (fun h8 => ?_) <;> conv => whnf
  ·exact fP (no (by rw [gq, show bW m.sp[i] = false by simpa using h8]; rfl))
  have h8 : bW m.sp[i] = true := by simpa using h8
  refine aa (fun k : Nat => [(1, .v (.one (.ptr 0 0 0))), (3, .v (.one (dI i))), (4, .v (.one (dI k)))]) (fun _ => [(0, bM b1 b2 b3 b4 b5 m)]) (fun _ => 1)
   (fun k => k ≤ m.sp[i].sl.length ∧ ∀ j (hj : j < m.sp[i].sl.length), j < k → gu m.sp[i].sl[j] = true) (fun k => m.sp[i].sl.length - k) 0 ⟨by omega, by omega⟩ rfl rfl rfl fun k hk => ?_
  obtain ⟨hk1, hk2⟩ := hk; conv => whnf
  refine aJ (k := i) rfl rfl (by simpa using hlt) ?_; conv => whnf
  refine aE rfl (r := .one (.ro b5 4 (m.sp[i].sl.map rL))) (by simp [aZ, rP, hlt]) ?_; conv => whnf
  refine CondP.mk (fun h9 => ?_) (fun h9 => ?_) <;> conv => whnf
  ·have hlk : k < m.sp[i].sl.length := by simpa using h9
   refine aJ (k := i) rfl rfl (by simpa using hlt) ?_; conv => whnf
   refine aE rfl (r := .one (.ro b5 4 (m.sp[i].sl.map rL))) (by simp [aZ, rP, hlt]) ?_; conv => whnf
   refine aJ (k := k) rfl rfl (by simpa using hlk) ?_; conv => whnf
   refine aE rfl (ldL hlk) ?_; conv => whnf
   have next : gu m.sp[i].sl[k] = true → ∀ j (hj : j < m.sp[i].sl.length), j < k + 1 → gu m.sp[i].sl[j] = true := fun e j hj hjk => by
    by_cases e2 : j = k
    ·subst e2; exact e
    ·exact hk2 j hj (by omega)
   have bad : gu m.sp[i].sl[k] = false → ct m = false := fun e => no (by rw [gq, h8, Bool.true_and, List.all_eq_false]; exact ⟨_, List.getElem_mem hlk, by simp [e]⟩)
   refine CondP.mk (fun ha => ?_) (fun ha => ?_) <;> conv => whnf
   all_goals
    refine CondP.mk (fun hb => ?_) (fun hb => ?_) <;> rw [hb] <;> (conv=>whnf)<;>repeat' first|(refine aF ?_;conv=>whnf)|(refine aD ?_;conv=>whnf)
    ·have hb : ¬ m.sp[i].sl[k].kd = 0 := by simpa using hb
     refine aB [.pass, .pass, .pass] rfl rfl rfl (gh _ _ _) rfl ?_
     (conv=>whnf)<;>repeat' first|(refine aF ?_;conv=>whnf)|(refine aD ?_;conv=>whnf)
     have e11 : IntKind.wrap .i64 (12 - 1) = 11 := by decide
     refine CondP.mk (fun hc => ?_) (fun hc => ?_) <;> conv => whnf
     ·rw [e11] at hc; exact fP (bad (by rw [gu, decide_eq_false hb, show inB m.sp[i].sl[k].pl 0 11 = false by simpa using hc]; rfl))
     ·rw [e11] at hc; refine ⟨k + 1, by omega, ⟨by omega, next (by rw [gu, show inB m.sp[i].sl[k].pl 0 11 = true by simpa using hc, Bool.or_true])⟩, ?_, rfl, rfl⟩; rw [up hlk hs.2]; rfl
    ·have hb : m.sp[i].sl[k].kd = 0 := by simpa using hb
     refine ⟨k + 1, by omega, ⟨by omega, next (by rw [gu, decide_eq_true hb, Bool.true_or])⟩, ?_, rfl, rfl⟩; rw [up hlk hs.2]; rfl
  ·have hke : k = m.sp[i].sl.length := by
                       have : ¬ k < m.sp[i].sl.length := by simpa using h9
                       omega
   refine ⟨i + 1, by omega, ⟨by omega, fun j hj hji => ?_⟩, ?_, rfl, rfl⟩
   ·by_cases e : j = i
    ·subst e; rw [gq, h8, Bool.true_and, List.all_eq_true]; intro x hx; obtain ⟨j', hj', rfl⟩ := List.getElem_of_mem hx; exact hk2 j' hj' (by omega)
    ·exact hi2 j hj (by omega)
   ·rw [up hlt (by omega)]; rfl
 ·have hall : ∀ s, s ∈ m.sp → gq s = true := fun s hs => by obtain ⟨j, hj, rfl⟩ := List.getElem_of_mem hs; exact hi2 j hj (by simp at h7; omega)
  have hsl : ∀ s, s ∈ m.sp → s.sl.length ≤ 16 := fun s hs => me (by have := hall s hs; simp only [gq, Bool.and_eq_true] at this; exact this.1)
  have har : ∀ s, s ∈ m.sp → ∀ a, a ∈ s.ar → br a = true := fun s hs => wK (by have := hall s hs; simp only [gq, Bool.and_eq_true] at this; exact this.1)
  rw [show m.sp.all gq = true from List.all_eq_true.2 hall, Bool.true_and] at hd; have htel : ∀ kd pl, (tel kd pl m.sp).length ≤ 4611686018427387904 := fun kd pl => by have := wi (kd := kd) (pl := pl) hsl; omega
  refine aa (fun i : Nat => [(1, .v (.one (.ptr 0 0 0))), (7, .v (.one (dI i)))]) (fun _ => [(0, bM b1 b2 b3 b4 b5 m)]) (fun _ => 1)
   (fun i => i ≤ m.ram.rf.length ∧ cS 1 m.sp 0 m.ram.rf = cS 1 m.sp i (m.ram.rf.drop i)) (fun i => m.ram.rf.length - i) 0 ⟨by omega, by simp⟩ rfl rfl rfl fun p hp => ?_
  obtain ⟨hp1, hp2⟩ := hp; conv => whnf
  refine CondP.mk (fun h8 => ?_) (fun h8 => ?_) <;> conv => whnf
  ·have hlt : p < m.ram.rf.length := by simp at h8; omega
   rw [ju hlt] at hp2; have no : gF 1 m.sp p m.ram.rf[p] = false → ct m = false := fun e => by rw [hd, hp2, e]; rfl
   refine aJ (k := p) rfl rfl (by simpa using hlt) ?_; conv => whnf
   refine aE rfl (r := .one (dI m.ram.rf[p])) (by simp [aZ, rI, hlt, eI, dI]) ?_; conv => whnf
   refine aB [.pass, .pass, .pass] rfl rfl rfl (qK b1 b2 b3 b4 b5 m 1 p h (htel _ _)) rfl ?_; conv => whnf
   refine CondP.mk (fun h9 => ?_) (fun h9 => ?_) <;> rw [h9] <;> (conv=>whnf)<;>repeat' first|(refine aF ?_;conv=>whnf)|(refine aD ?_;conv=>whnf)
   ·exact fP (no (by rw [gF, show decide (((tel 1 (p : Int) m.sp).length : Int) = m.ram.rf[p]) = false by simpa using h9]; rfl))
   have h9 : decide (((tel 1 (p : Int) m.sp).length : Int) = m.ram.rf[p]) = true := by simpa using h9
   refine aB [.pass, .pass, .pass] rfl rfl rfl (ny b1 b2 b3 b4 b5 m 1 p h (htel _ _) har) rfl ?_
   (conv=>whnf)<;>repeat' first|(refine aF ?_;conv=>whnf)|(refine aD ?_;conv=>whnf)
   refine CondP.mk (fun ha => ?_) (fun ha => ?_) <;> conv => whnf
   ·exact fP (no (by rw [gF, h9, show alone (tel 1 (p : Int) m.sp) = false by simpa using ha]; rfl))
   have ha : alone (tel 1 (p : Int) m.sp) = true := by simpa using ha
   refine ⟨p + 1, by omega, ⟨by omega, by rw [hp2, gF, h9, ha]; rfl⟩, ?_, rfl, rfl⟩; rw [up hlt h.rr]; rfl
  have hpe : p = m.ram.rf.length := by
                     have : ¬ p < m.ram.rf.length := by simp at h8; omega
                     omega
  subst hpe; rw [List.drop_length] at hp2; simp only [cS] at hp2; rw [hp2, Bool.true_and] at hd; refine aa (fun i : Nat => [(1, .v (.one (.ptr 0 0 0))), (8, .v (.one (dI i)))]) (fun _ => [(0, bM b1 b2 b3 b4 b5 m)]) (fun _ => 1)
   (fun i => i ≤ m.swp.rf.length ∧ cS 2 m.sp 0 m.swp.rf = cS 2 m.sp i (m.swp.rf.drop i)) (fun i => m.swp.rf.length - i) 0 ⟨by omega, by simp⟩ rfl rfl rfl fun p hq => ?_
  obtain ⟨hq1, hq2⟩ := hq; conv => whnf
  refine CondP.mk (fun h8 => ?_) (fun h8 => ?_) <;> conv => whnf
  ·have hlt : p < m.swp.rf.length := by simp at h8; omega
   rw [ju hlt] at hq2; have no : gF 2 m.sp p m.swp.rf[p] = false → ct m = false := fun e => by rw [hd, hq2, e]; rfl
   refine aJ (k := p) rfl rfl (by simpa using hlt) ?_; conv => whnf
   refine aE rfl (r := .one (dI m.swp.rf[p])) (by simp [aZ, rI, hlt, eI, dI]) ?_; conv => whnf
   refine aB [.pass, .pass, .pass] rfl rfl rfl (qK b1 b2 b3 b4 b5 m 2 p h (htel _ _)) rfl ?_; conv => whnf
   refine CondP.mk (fun h9 => ?_) (fun h9 => ?_) <;> rw [h9] <;> (conv=>whnf)<;>repeat' first|(refine aF ?_;conv=>whnf)|(refine aD ?_;conv=>whnf)
   ·exact fP (no (by rw [gF, show decide (((tel 2 (p : Int) m.sp).length : Int) = m.swp.rf[p]) = false by simpa using h9]; rfl))
   have h9 : decide (((tel 2 (p : Int) m.sp).length : Int) = m.swp.rf[p]) = true := by simpa using h9
   refine aB [.pass, .pass, .pass] rfl rfl rfl (ny b1 b2 b3 b4 b5 m 2 p h (htel _ _) har) rfl ?_
   (conv=>whnf)<;>repeat' first|(refine aF ?_;conv=>whnf)|(refine aD ?_;conv=>whnf)
   refine CondP.mk (fun ha => ?_) (fun ha => ?_) <;> conv => whnf
   ·exact fP (no (by rw [gF, h9, show alone (tel 2 (p : Int) m.sp) = false by simpa using ha]; rfl))
   have ha : alone (tel 2 (p : Int) m.sp) = true := by simpa using ha
   refine ⟨p + 1, by omega, ⟨by omega, by rw [hq2, gF, h9, ha]; rfl⟩, ?_, rfl, rfl⟩; rw [up hlt h.sr]; rfl
  have hqe : p = m.swp.rf.length := by
                     have : ¬ p < m.swp.rf.length := by simp at h8; omega
                     omega
  subst hqe; rw [List.drop_length] at hq2; simp only [cS] at hq2; exact aCC (by rw [hd, hq2])
end Go.Qm
namespace Go.Qm
open Go.Cq Go.Cq.D Go.RowKit Go.Proofs
set_option maxRecDepth 10000
theorem Mem.fits.mono{n n':Nat}{m:Mem}(h:m.fits n)(hn:n≤n'):m.fits n':=⟨Nat.le_trans h.rt hn,Nat.le_trans h.rr hn,Nat.le_trans h.st hn,Nat.le_trans h.sr hn,Nat.le_trans h.sp hn,fun s hs=>⟨Nat.le_trans (h.ss s hs).1 hn,Nat.le_trans (h.ss s hs).2 hn⟩⟩
theorem ko{l:List Space}{k:Int}(h:fv l k=true):∃i:Nat,k=i∧∃hi:i<l.length,l[i].lv=true:=by
 simp only[fv,inB,Bool.and_eq_true,decide_eq_true_eq]at h;obtain⟨⟨h1,h2⟩,h3⟩:=h;have hk:k.toNat<l.length:=by omega
 refine⟨k.toNat,by omega,hk,?_⟩;simpa [hk]using h3
end Go.Qm
namespace Go.Qm
open Go.Cq Go.Cq.D Go.RowKit Go.Proofs
set_option maxRecDepth 10000
def bX(m:Mem)(len:Nat):DB:=.box [.own 1 (m.ram.tx.map rS),.own 1 (m.ram.rf.map rI),.own 1 (m.swp.tx.map rS),.own 1 (m.swp.rf.map rI),.sl 1 0 len,dI m.hd]
set_option maxHeartbeats 1000000 in
theorem aAN(m:Mem)(k len i len2:Nat)(es es2:List (List PV))(h1:k<m.ram.tx.length)(h2:k<m.ram.rf.length)(hb: -1000≤m.ram.rf[k]∧m.ram.rf[k]≤1000):
  c6 Try.prog 93 [.one (.ptr 0 0 0),.one (dI k)] [(0,bX m len),(1,.arr 3 es [(i,2,.sl 2 0 len2)]),(2,.arr 4 es2 [])] 3 (fun x H'=>x= .tup []∧H'=[(0,bX {m with ram:=dn m.ram k} len),(1,.arr 3 es [(i,2,.sl 2 0 len2)]),(2,.arr 4 es2 [])]):=by
 refine aK hmix Try.func93 ok93 ?_;conv=>whnf
 refine aC (k:=k) rfl rfl rfl (by simpa using h2) ?_;conv=>whnf
 refine bq rfl rfl rfl (aW (row:=rI m.ram.rf[k]) (by simp[h2]) rfl rfl rfl) rfl ?_;conv=>whnf
 have ew:IntKind.wrap .i64 (m.ram.rf[k]-1)=m.ram.rf[k]-1:=wrap64 (by omega) (by omega);simp only[ew];refine aC (k:=k) rfl rfl rfl (by simpa using h2) ?_;conv=>whnf
 refine aG rfl rfl rfl (by simpa using h2) (by decide) ?_;conv=>whnf
 refine aC (k:=k) rfl rfl rfl (by simpa using h2) ?_;conv=>whnf
 refine bq rfl rfl rfl (aW (row:=rI (m.ram.rf[k]-1)) (by simp[h2,rI,eI]) rfl rfl rfl) rfl ?_;conv=>whnf
 have hr:m.ram.rf[k]?.getD 0=m.ram.rf[k]:=by simp[h2]
 have hset:(m.ram.rf.map rI).set k (rI (m.ram.rf[k]-1))=(m.ram.rf.set k (m.ram.rf[k]-1)).map rI:=map_set;have hm:(m.ram.rf.map rI).modify k (fun row=>row.set 0 (.sc (.int .i64 (m.ram.rf[k]-1))))=(m.ram.rf.set k (m.ram.rf[k]-1)).map rI:=by rw[aV (aj (f:=rI) (List.getElem?_eq_getElem h2)),←hset];rfl
 refine CondP.mk (fun h=>?_) (fun h=>?_)<;>conv=>whnf
 ·have h:m.ram.rf[k]=1:=by simp at h;omega
  refine aC (k:=k) rfl rfl rfl (by simpa using h1) ?_;conv=>whnf
  refine aG rfl rfl rfl (by simpa using h1) (by decide) ?_;conv=>whnf
  have ht:(m.ram.tx.map rS).modify k (fun row=>row.set 0 (.sc (.str [])))=(m.ram.tx.set k []).map rS:=by rw[aV (aj (f:=rS) (List.getElem?_eq_getElem h1)),←map_set];rfl
  refine⟨rfl,?_⟩;simp only[bX,dn,hr,if_pos h,List.drop_zero,List.take_length,ht,hm,List.take_of_length_le,List.length_map,List.length_set,Nat.le_refl,List.length_take,Nat.min_self];rfl
 ·have h:¬m.ram.rf[k]=1:=by simp at h;omega
  refine⟨rfl,?_⟩;simp only[bX,dn,hr,if_neg h,List.drop_zero,List.take_length,hm,List.take_of_length_le,List.length_map,List.length_set,Nat.le_refl,List.length_take,Nat.min_self];rfl
end Go.Qm
namespace Go.Qm
open Go.Cq Go.Cq.D Go.RowKit Go.Proofs
set_option maxRecDepth 10000
end Go.Qm
namespace Go.Qm
open Go.Cq Go.Cq.D Go.RowKit Go.Proofs
set_option maxRecDepth 10000
def vD:Prop:=∀(b1 b2 b3 b4 b5:Bool)(m:Mem),m.fits 1048576→af Try.prog 34 [aM b1 b2 b3 b4 b5 m] (.v (.one (dB (ct m))))
end Go.Qm
namespace Go.Qm
open Go.Cq Go.Cq.D Go.RowKit Go.Proofs
set_option maxRecDepth 10000
theorem my{α:Type}{f:Int→α→Option Int}{g:Int→α→α}{w:α→Nat}(hf:∀k a,f k (g k a)=some (k+w a)):∀{l:List α}{k:Int},aw f k (et g w k l)=some (gR w k l l.length):=by
 intro l;induction l with
 |nil=>intro k;rfl
 |cons a l ih=>intro k;simp only[et,eY,List.length_cons,aw,hf,gR];exact ih
theorem aAP:∀{l:List Space}{k:Int},gR Space.wt k l l.length=k+wts l:=by
 intro l;induction l with
 |nil=>intro k;simp[gR,wts]
 |cons a l ih=>intro k;simp only[gR,List.length_cons,wts,ih];omega
theorem lK{α:Type}{f:Int→α→Option Int}{g:Int→α→α}{w:α→Nat}{c:Nat}(hw:∀a,w a=c)(hf:∀k a,f k (g k a)=some (k+w a)){l:List α}{k:Int}:aw f k (et g w k l)=some (k+c*l.length):=by rw[my hf,ga hw (Nat.le_refl _)]
theorem tD{k:Int}{p:Pages}:gA k (bf k p)=some (k+p.wt):=by unfold gA bf;simp only;rw[lK (w:=w1c) (c:=1) (fun _=>rfl) (fun k a=>by simp[nF,xu,w1c])];simp only[Option.bind_some];rw[show k+((1:Nat):Int)*(p.tx.length:Int)=k+p.tx.length by omega,lK (w:=w1c) (c:=1) (fun _=>rfl) (fun k a=>by simp[nL,xm,w1c])];simp only[Pages.wt,Option.some.injEq];omega
theorem aA9{k:Int}{s:Space}:dw k (du k s)=some (k+s.wt):=by unfold dw du;simp only[if_true];rw[lK (w:=w4c) (c:=4) (fun _=>rfl) (fun k a=>by simp[iU,pG,w4c])];simp only[Option.bind_some];rw[show k+1+((4:Nat):Int)*(s.ar.length:Int)=k+1+4*s.ar.length by omega,lK (w:=w4c) (c:=4) (fun _=>rfl) (fun k a=>by simp[ig,oT,w4c])];simp only[Space.wt,Option.some.injEq];omega
theorem aCn{k:Int}{m:Mem}:uw k (dF k m)=some (k+m.wt):=by
 unfold uw dF;rw[tD];simp only[Option.bind_some];rw[tD];simp only[Option.bind_some];have hw:∀k(s:Space),(du k s).wt=s.wt:=fun k s=>by simp[Space.wt,du,aq]
 rw[my (f:=dw) (g:=du) (w:=Space.wt) (fun k s=>aA9),aAP];simp only[Mem.wt,Option.some.injEq];omega
theorem aBs{k:Int}{m:Mem}:(dF k m).fits 1048576↔m.fits 1048576:=by
 have hl:∀{l:List Space}{k:Int}{n:Nat},iK n (et du Space.wt k l)↔iK n l:=by
  intro l;induction l with
  |nil=>intro k n;exact⟨fun _ s hs=>by simp at hs,fun _ s hs=>by simp[et,eY]at hs⟩
  |cons a l ih=>intro k n;have:=ih (k:=k+a.wt) (n:=n);simp only[iK,et,eY,List.length_cons,List.mem_cons,forall_eq_or_imp]at this ⊢;rw[this];simp[du,aq]
 constructor
 ·intro h;exact⟨by simpa [dF,bf,aq]using h.rt,by simpa [dF,bf,aq]using h.rr,by simpa [dF,bf,aq]using h.st,by simpa [dF,bf,aq]using h.sr,by simpa [dF,aq]using h.sp,hl.1 h.ss⟩
 ·intro h;exact⟨by simpa [dF,bf,aq]using h.rt,by simpa [dF,bf,aq]using h.rr,by simpa [dF,bf,aq]using h.st,by simpa [dF,bf,aq]using h.sr,by simpa [dF,aq]using h.sp,hl.2 h.ss⟩
theorem zY{l:List Space}:∀{k:Int},wts (et du Space.wt k l)=wts l:=by
 induction l with
 |nil=>intro k;rfl
 |cons a l ih=>intro k;have e:et du Space.wt k (a::l)=du k a::et du Space.wt (k+a.wt) l:=rfl;rw[e,wts,wts,ih];simp[Space.wt,du,aq]
theorem ye{k:Int}{m:Mem}:(dF k m).wt=m.wt:=by simp[dF,Mem.wt,bf,Pages.wt,aq,zY]
theorem o6{left:Int}{p:Pages}(h0:0≤left)(h:0≤bC left p):bC left p≤left-p.wt:=by
 unfold bC at h ⊢;split at h
 ·omega
 ·rename_i e;rw[if_neg e];have h1:=rQ h;have h2:dr left p.tx≤left-p.tx.length:=by
   unfold dr at e ⊢;split at e
   ·omega
   ·rename_i e2;rw[if_neg e2];exact(ku (f:=fun x(s:Str)=>x-s.length) (l:=p.tx) (left:=left-p.tx.length) (fun x a _ _ _=>by omega) (by omega)).2
  unfold Pages.wt;omega
theorem vl{left:Int}{s:Space}(h:0≤cn left s):cn left s=left-s.ar.length-s.sl.length∧(s.ar.length+s.sl.length:Int)≤left:=by
 unfold cn at h ⊢;split at h
 ·omega
 ·rename_i e;rw[if_neg e];have h1:=rQ h;have h2:=rQ (show 0≤less left s.ar.length by omega);omega
theorem uc:∀{l:List Space}{left:Int},0≤left→0≤dY cn left l→(wts l:Int)≤l.length+4*(left-dY cn left l)∧∀s,s∈l→(s.ar.length+s.sl.length:Int)≤left:=by
 intro l;induction l with
 |nil=>intro left _ _;simp[wts,dY]
 |cons a l ih=>
  intro left h0 h;simp only[dY]at h ⊢;split at h
  ·omega
  ·rename_i e;rw[if_neg e];have h1:=vl (left:=left) (s:=a) (by omega);obtain⟨h2,h3⟩:=ih (left:=cn left a) (by omega) h;refine⟨?_,fun s hs=>?_⟩
   ·simp only[wts,Space.wt,List.length_cons];omega
   ·rcases List.mem_cons.1 hs with rfl|hs
    ·exact h1.2
    ·have:=h3 s hs;omega
theorem aAe{left:Int}{m:Mem}(h0:0≤left)(h:0≤mf left m)(hl:left≤1048576):m.fits 1048576∧m.wt≤8388608:=by
 unfold mf at h;split at h
 ·omega
 ·rename_i e1;split at h
  ·omega
  ·rename_i e2;have h1:=o6 h0 (show 0≤bC left m.ram by omega);have h2:=o6 (show 0≤bC left m.ram by omega) (show 0≤bC (bC left m.ram) m.swp by omega);unfold eG at h;split at h
   ·omega
   ·rename_i e3;obtain⟨h3,h4⟩:=uc (l:=m.sp) (left:=bC (bC left m.ram) m.swp-m.sp.length) (by omega) h;simp only[Pages.wt]at h1 h2;refine⟨⟨by omega,by omega,by omega,by omega,by omega,fun s hs=>?_⟩,?_⟩
    ·have:=h4 s hs;omega
    ·simp only[Mem.wt,Pages.wt];omega
theorem tL{m:Mem}(h:ct m=true):m.fits 16:=by
 simp only[ct,Bool.and_eq_true,decide_eq_true_eq]at h;obtain⟨⟨⟨⟨⟨⟨⟨⟨h1,h2⟩,h3⟩,h4⟩,h5⟩,h6⟩,h7⟩,h8⟩,h9⟩:=h;simp only[cU,Bool.and_eq_true,decide_eq_true_eq]at h1 h2;refine⟨by omega,by omega,by omega,by omega,by omega,fun s hs=>?_⟩;have hs:=List.all_eq_true.1 h7 s hs;simp only[Bool.and_eq_true]at hs;have hso:=hs.1;unfold bW at hso;split at hso
 ·simp only[Bool.and_eq_true,decide_eq_true_eq]at hso;have:=hso.1;simp only[cQ,Bool.and_eq_true,decide_eq_true_eq]at this;omega
 ·simp only[Bool.and_eq_true,decide_eq_true_eq]at hso;omega
theorem aAl{m:Mem}(h:m.fits 16):m.wt≤100000:=by
 have hw:∀{l:List Space},iK 16 l→wts l≤129*l.length:=by
  intro l;induction l with
  |nil=>intro _;simp[wts]
  |cons s l ih=>
   intro hs;have h1:=ih fun x hx=>hs x (List.mem_cons_of_mem _ hx)
   have h2:=hs s (List.mem_cons_self ..);simp only[wts,Space.wt,List.length_cons];omega
 have:=hw h.ss;have h1:=h.rt;have h2:=h.rr;have h3:=h.st;have h4:=h.sr;have h5:=h.sp;simp only[Mem.wt,Pages.wt];omega
end Go.Qm
namespace Go.Qm
open Go.Cq Go.Cq.D Go.RowKit Go.Proofs
set_option maxRecDepth 10000
end Go.Qm
namespace Go.Qm
open Go.Cq Go.Cq.D Go.RowKit Go.Proofs
set_option maxRecDepth 10000
theorem fS{b r:Bool}{ts:DTs}(hl:ag ts 2=some (.v (.one (.sc (.bool b)))))(hr:r=b):(X.ret= .nrm∨X.ret= .ret)∧ag ts 2=some (.v (.one (.sc (.bool r)))):=⟨.inr rfl,by rw[hr];exact hl⟩
set_option maxHeartbeats 4000000 in
theorem zk:vD:=by
 intro b1 b2 b3 b4 b5 m h;refine zE hmix Try.func34 ok34 (Nat.le_of_ble_eq_true rfl) rfl rfl (fun U0 h0 c0 hU0=>?_);have hf:=h.mono (n':=4611686018427387904) (by decide);refine kv ?_;refine iB (bP wh ?_);conv=>whnf
 refine kv ?_;refine iB (bP wh ?_);conv=>whnf
 refine aB [.pass] rfl rfl rfl (ni b1 b2 m.ram hf.rt hf.rr) rfl ?_;conv=>whnf
 refine CondP.mk (fun h1=>?_) (fun h1=>?_)<;>rw[h1]<;>(conv=>whnf)<;>repeat' first|(refine aF ?_;conv=>whnf)|(refine aD ?_;conv=>whnf)
 ·exact fS rfl (by rw[cD rfl,show cU m.ram=false by simpa using h1];simp)
 refine CondP.mk (fun h3=>?_) (fun h3=>?_)<;>rw[h3]<;>(conv=>whnf)<;>repeat' first|(refine aF ?_;conv=>whnf)|(refine aD ?_;conv=>whnf)
 ·exact fS rfl (by rw[cD rfl,show decide (m.ram.rf.length=12)=false by simp at h3 ⊢;omega];simp)
 refine aB [.pass] rfl rfl rfl (ni b3 b4 m.swp hf.st hf.sr) rfl ?_
 (conv=>whnf)<;>repeat' first|(refine aF ?_;conv=>whnf)|(refine aD ?_;conv=>whnf)
 refine CondP.mk (fun h2=>?_) (fun h2=>?_)<;>rw[h2]<;>(conv=>whnf)<;>repeat' first|(refine aF ?_;conv=>whnf)|(refine aD ?_;conv=>whnf)
 ·exact fS rfl (by rw[cD rfl,show cU m.swp=false by simpa using h2];simp)
 refine CondP.mk (fun h4=>?_) (fun h4=>?_)<;>rw[h4]<;>(conv=>whnf)<;>repeat' first|(refine aF ?_;conv=>whnf)|(refine aD ?_;conv=>whnf)
 ·exact fS rfl (by rw[cD rfl,show decide (m.swp.rf.length=12)=false by simp at h4 ⊢;omega];simp)
 refine CondP.mk (fun h5=>?_) (fun h5=>?_)<;>rw[h5]<;>(conv=>whnf)<;>repeat' first|(refine aF ?_;conv=>whnf)|(refine aD ?_;conv=>whnf)
 ·exact fS rfl (by rw[cD rfl,show decide (m.sp.length=5)=false by simp at h5 ⊢;omega];simp)
 refine aB [.pass,.pass,.pass] rfl rfl rfl (jM _ _ _) rfl ?_
 (conv=>whnf)<;>repeat' first|(refine aF ?_;conv=>whnf)|(refine aD ?_;conv=>whnf)
 refine CondP.mk (fun h6=>?_) (fun h6=>?_)<;>conv=>whnf
 ·exact fS rfl (by rw[cD rfl,show inB m.hd 0 11=false by simpa using h6];simp)
 have hl1:m.ram.rf.length=12:=by simp at h3;omega
 have hl2:m.swp.rf.length=12:=by simp at h4;omega
 have hl5:m.sp.length=5:=by simp at h5;omega
 have hd:=cD (m:=m) (b:=true) (by simp at h1 h2 h6;simp[h1,h2,hl1,hl2,hl5,h6]);rw[Bool.true_and]at hd;refine kv (iB (r6 (aC7 fun mid=>?_)));refine aCO [⟨none,some 3,.cp 54⟩] [] rfl rfl (cE ..) ?_;conv=>whnf
 refine rE ⟨cE ..,?_⟩;conv=>whnf
 refine kv (iB (cm (bP (cE ..) ?_)));conv=>whnf
 refine jf ?_;refine qx (fun q:Nat×Tl=>[(1,.v (.one (.ptr 0 0 0))),(3,.v (.one (.sc (.mp mid)))),(56,.v (.one (.ro b5 3 (m.sp.map rP)))),(57,.v (.one (dI (m.sp.map rP).length))),(58,.v (.one (dI q.1)))]) (fun _=>[(0,bM b1 b2 b3 b4 b5 m)]) (fun _=>1) (fun q=>GT c0 mid q.2)
  (fun q=>q.1≤m.sp.length∧Tells m q.2 q.1 0∧∀j(hj:j<m.sp.length),j<q.1→gq m.sp[j]=true) (fun q=>m.sp.length-q.1) (0,[]) ⟨by omega,Tells.zero m,by omega⟩ rfl rfl rfl rfl fun q hq=>?_
 obtain⟨i,L⟩:=q;obtain⟨hi1,hi2,hi3⟩:=hq;simp only at hi1 hi2 hi3;refine cm (bP (cE ..) ?_);conv=>whnf
 refine cm (bP (cE ..) ?_);conv=>whnf
 refine CondP.mk (fun h7=>?_) (fun h7=>?_)<;>conv=>whnf
 ·have hlt:i<m.sp.length:=by simp at h7;omega
  have hs:=hf.ss _ (List.getElem_mem hlt);refine cm (jf (cm (bP (cE ..) ?_)));conv=>whnf
  refine aJ (k:=i) rfl rfl (by simpa using hlt) ?_;conv=>whnf
  refine aE rfl (ldP hlt) ?_;conv=>whnf
  have no:gq m.sp[i]=false→ct m=false:=fun e=>by
   have:m.sp.all gq=false:=by rw[List.all_eq_false];exact⟨_,List.getElem_mem hlt,by simp[e]⟩
   rw[hd,this];rfl
  refine cm (bP (cE ..) ?_);conv=>whnf
  refine CondP.mk (fun h8=>?_) (fun h8=>?_)<;>conv=>whnf
  ·
   have hlv:m.sp[i].lv=false:=by simpa using h8
   refine CondP.mk (fun h9=>?_) (fun h9=>?_)<;>rw[h9]<;>(conv=>whnf)<;>repeat' first|(refine aF ?_;conv=>whnf)|(refine aD ?_;conv=>whnf)
   ·refine fS rfl (no ?_);have:¬m.sp[i].ar.length=0:=by simp at h9;omega
    simp[gq,bW,hlv,this]
   refine CondP.mk (fun ha=>?_) (fun ha=>?_)<;>conv=>whnf
   ·refine fS rfl (no ?_);have:¬m.sp[i].sl.length=0:=by simp at ha;omega
    simp[gq,bW,hlv,this]
   ·have e1:m.sp[i].ar.length=0:=by simpa using h9
    have e2:m.sp[i].sl.length=0:=by simpa using ha
    refine bP (cE ..) ?_;conv=>whnf
    refine⟨(i+1,L),by simp only;omega,⟨by simp only;omega,hi2.dead hlt e2,fun j hj hji=>?_⟩,?_,rfl,rfl,rfl⟩
    ·by_cases e:j=i
     ·subst e;simp only[gq,bW,hlv,e1,e2,decide_true,Bool.and_true,Bool.true_and,if_false,Bool.false_eq_true];rw[List.length_eq_zero_iff.1 e2];rfl
     ·exact hi3 j hj (by simp only at hji;omega)
    ·simp only[up hlt (by omega)];rfl
  have hlv:m.sp[i].lv=true:=by simpa using h8
  refine cm (bP (cE ..) ?_);conv=>whnf
  refine aB [.pass] rfl rfl rfl (pA b5 m.sp[i].ar hs.1) rfl ?_;conv=>whnf
  refine CondP.mk (fun h9=>?_) (fun h9=>?_)<;>rw[h9]<;>(conv=>whnf)<;>repeat' first|(refine aF ?_;conv=>whnf)|(refine aD ?_;conv=>whnf)
  ·refine fS rfl (no ?_);simp[gq,bW,hlv,show cQ m.sp[i].ar=false by simpa using h9]
  have h9:cQ m.sp[i].ar=true:=by simpa using h9
  refine CondP.mk (fun ha=>?_) (fun ha=>?_)<;>conv=>whnf
  ·refine fS rfl (no ?_);have:¬m.sp[i].sl.length=16:=by simp at ha;omega
   simp[gq,bW,hlv,this]
  have ha:m.sp[i].sl.length=16:=by simp at ha;omega
  have hat:∀page:Int,dN m.sp[i].ar page=bH m.sp[i].ar page:=fun page=>by rw[dN,h9,if_pos rfl]
  refine cm (bP (cE ..) ?_);conv=>whnf
  refine jf ?_;refine qx (fun q:Nat×Tl=>[(1,.v (.one (.ptr 0 0 0))),(3,.v (.one (.sc (.mp mid)))),(5,.v (.one (.ptr 1 0 0))),(56,.v (.one (.ro b5 3 (m.sp.map rP)))),(57,.v (.one (dI (m.sp.map rP).length))),(58,.v (.one (dI i))),(86,.v (.one (.ro b5 4 (m.sp[i].sl.map rL)))),(87,.v (.one (dI (m.sp[i].sl.map rL).length))),(88,.v (.one (dI q.1)))])
   (fun _=>[(1,.box [dB m.sp[i].lv,.ro b5 4 (m.sp[i].ar.map rA),.ro b5 4 (m.sp[i].sl.map rL)]),(0,bM b1 b2 b3 b4 b5 m)]) (fun _=>2) (fun q=>GT c0 mid q.2)
   (fun q=>q.1≤m.sp[i].sl.length∧Tells m q.2 i q.1∧∀j(hj:j<m.sp[i].sl.length),j<q.1→c8 m.sp[i].ar j m.sp[i].sl[j]=true∧gu m.sp[i].sl[j]=true) (fun q=>m.sp[i].sl.length-q.1) (0,L) ⟨by omega,hi2,by omega⟩ rfl rfl rfl rfl fun q hq=>?_
  obtain⟨j,L⟩:=q;obtain⟨hj1,hj2,hj3⟩:=hq;simp only at hj1 hj2 hj3;refine cm (bP (cE ..) ?_);conv=>whnf
  refine cm (bP (cE ..) ?_);conv=>whnf
  refine CondP.mk (fun hb=>?_) (fun hb=>?_)<;>conv=>whnf
  ·have hlj:j<m.sp[i].sl.length:=by simpa using hb
   have nos:(c8 m.sp[i].ar j m.sp[i].sl[j]=false∨gu m.sp[i].sl[j]=false)→ct m=false:=fun e=>by
    cases hm:ct m with
    |false=>rfl
    |true=>
     rcases e with e|e
     ·rw[wJ hm hlt hlj hlv]at e;simp at e
     ·have:=List.all_eq_true.1 (u5 hm hlt).2 _ (List.getElem_mem hlj);rw[this]at e;simp at e
   refine cm (jf (cm (bP (cE ..) ?_)));conv=>whnf
   refine aJ (k:=j) rfl rfl (by simpa using hlj) ?_;conv=>whnf
   refine aE rfl (ldL hlj) ?_;conv=>whnf
   refine w4 (fun ts H n γ=>∃v:Bool,ts=[(1,.v (.one (.ptr 0 0 0))),(3,.v (.one (.sc (.mp mid)))),(5,.v (.one (.ptr 1 0 0))),(6,.v (.one (dI j))),(7,.v (.one (.ptr 2 0 0))),(56,.v (.one (.ro b5 3 (m.sp.map rP)))),(57,.v (.one (dI (m.sp.map rP).length))),(58,.v (.one (dI i))),(86,.v (.one (.ro b5 4 (m.sp[i].sl.map rL)))),(87,.v (.one (dI (m.sp[i].sl.map rL).length))),(88,.v (.one (dI j))),(134,.v (.one (dB v)))]∧
    H=[(2,.box [dI m.sp[i].sl[j].kd,dI m.sp[i].sl[j].pl,dB m.sp[i].sl[j].ow,dB m.sp[i].sl[j].us]),(1,.box [dB m.sp[i].lv,.ro b5 4 (m.sp[i].ar.map rA),.ro b5 4 (m.sp[i].sl.map rL)]),(0,bM b1 b2 b3 b4 b5 m)]∧n=3∧γ=GT c0 mid L∧c8 m.sp[i].ar j m.sp[i].sl[j]=true∧gu m.sp[i].sl[j]=true∧¬m.sp[i].sl[j].kd=0) (jf (cm (bP (cE ..) ?_))) ?_
   rotate_left
   ·rintro ts H n γ ⟨v,rfl,rfl,rfl,rfl,hs1,hs2,hs3⟩;refine cm (bP (cE ..) ?_);conv=>whnf
    refine aAY hU0 rfl rfl rfl rfl (fun p hp=>by have:=hj2.len p hp;omega) ?_;conv=>whnf
    refine aB [.pass,.pass] rfl rfl rfl (qC b5 b5 m.sp[i] j hs.1) rfl ?_;conv=>whnf
    simp only[hat];refine eZ rfl rfl rfl ?_;conv=>whnf
    refine⟨⟨(m.sp[i].sl[j].kd,m.sp[i].sl[j].pl),(m.sp[i].sl[j].ow,kW m.sp[i].ar (bH m.sp[i].ar (j:Int))),_,rfl,rfl,rfl,rfl,⟨rfl,rfl,rfl,rfl⟩,?_⟩⟩;conv=>whnf
    refine bP (cE ..) ?_;conv=>whnf
    refine⟨(j+1,iI (m.sp[i].sl[j].kd,m.sp[i].sl[j].pl) (m.sp[i].sl[j].ow,kW m.sp[i].ar (bH m.sp[i].ar (j:Int))) L),by simp only;omega,⟨by simp only;omega,hj2.add hlt hlj,fun j' hj' hjj=>?_⟩,?_,rfl,rfl,rfl⟩
    ·by_cases e:j'=j
     ·subst e;exact⟨hs1,hs2⟩
     ·exact hj3 j' hj' (by simp only at hjj;omega)
    ·simp only[up hlj (by omega)];rfl
   conv=>whnf
   have e0:(m.sp[i].sl[j].kd==0&&(m.sp[i].sl[j].pl==0&&(m.sp[i].sl[j].ow==false&&(m.sp[i].sl[j].us==false&&true))))=decide (m.sp[i].sl[j]=pH):=by
    rcases m.sp[i].sl[j]with⟨k,p,o,u⟩
    rw[Bool.eq_iff_iff];simp[pH]
   refine CondP.mk (fun hk=>?_) (fun hk=>?_)<;>rw[hk]<;>(conv=>whnf)<;>repeat' first|(refine aF ?_;conv=>whnf)|(refine aD ?_;conv=>whnf)
   ·have hk:m.sp[i].sl[j].kd=0:=by simpa using hk
    refine bP (cE ..) ?_
    (conv=>whnf)<;>repeat' first|(refine aF ?_;conv=>whnf)|(refine aD ?_;conv=>whnf)
    refine wE rfl rfl rfl rfl rfl ?_;conv=>whnf
    refine CondP.mk (fun h4=>?_) (fun h4=>?_)<;>conv=>whnf
    ·refine fS rfl (nos (.inl ?_));rw[e0]at h4;rw[c8,if_pos hk];simpa using h4
    ·rw[e0]at h4;have h4:m.sp[i].sl[j]=pH:=by simpa using h4
     refine bP (cE ..) ?_;conv=>whnf
     refine⟨(j+1,L),by simp only;omega,⟨by simp only;omega,hj2.skip hlt hlj hk,fun j' hj' hjj=>?_⟩,?_,rfl,rfl,rfl⟩
     ·by_cases e:j'=j
      ·subst e;exact⟨by rw[c8,if_pos hk];simpa using h4,by simp[gu,hk]⟩
      ·exact hj3 j' hj' (by simp only at hjj;omega)
     ·simp only[up hlj (by omega)];rfl
   have hk:¬m.sp[i].sl[j].kd=0:=by simpa using hk
   refine aB [.pass,.pass] rfl rfl rfl (lF b5 m.sp[i].ar j hs.1) rfl ?_
   (conv=>whnf)<;>repeat' first|(refine aF ?_;conv=>whnf)|(refine aD ?_;conv=>whnf)
   rw[hat];refine aBU rfl (fun hp=>?_) (fun hp=>?_)
   ·have hp:bH m.sp[i].ar j<0:=by simpa using hp
    refine bP (cE ..) ?_;conv=>whnf
    refine wE rfl rfl rfl rfl rfl ?_;conv=>whnf
    refine CondP.mk (fun h4=>?_) (fun h4=>?_)<;>conv=>whnf
    ·refine fS rfl (nos (.inl ?_));rw[c8,if_neg hk,show decide (0≤bH m.sp[i].ar (j:Int))=false by simp;omega];rfl
    ·exfalso;rw[e0]at h4;have h4:m.sp[i].sl[j]=pH:=by simpa using h4
     exact hk (by rw[h4];rfl)
   have hp:0≤bH m.sp[i].ar j:=by simp at hp;omega
   have hpb:decide (bH m.sp[i].ar (j:Int)<0)=false:=by simp;omega
   refine w4 (fun ts H n γ=>∃v:Bool,ts=[(1,.v (.one (.ptr 0 0 0))),(3,.v (.one (.sc (.mp mid)))),(5,.v (.one (.ptr 1 0 0))),(6,.v (.one (dI j))),(7,.v (.one (.ptr 2 0 0))),(56,.v (.one (.ro b5 3 (m.sp.map rP)))),(57,.v (.one (dI (m.sp.map rP).length))),(58,.v (.one (dI i))),(86,.v (.one (.ro b5 4 (m.sp[i].sl.map rL)))),(87,.v (.one (dI (m.sp[i].sl.map rL).length))),(88,.v (.one (dI j))),(107,.v (.one (dB v)))]∧
    H=[(2,.box [dI m.sp[i].sl[j].kd,dI m.sp[i].sl[j].pl,dB m.sp[i].sl[j].ow,dB m.sp[i].sl[j].us]),(1,.box [dB m.sp[i].lv,.ro b5 4 (m.sp[i].ar.map rA),.ro b5 4 (m.sp[i].sl.map rL)]),(0,bM b1 b2 b3 b4 b5 m)]∧n=3∧γ=GT c0 mid L∧(v=true→ct m=false)∧(v=false→inB m.sp[i].sl[j].kd 1 2=true∧gu m.sp[i].sl[j]=true)) ?_ ?_
   ·refine bP (cE ..) ?_;conv=>whnf
    have noh:∀{p:Pages},(m.sp[i].sl[j].kd=1∧p=m.ram∨m.sp[i].sl[j].kd=2∧p=m.swp)→(inB m.sp[i].sl[j].pl 0 (p.rf.length-1)&&decide (0<p.rf[m.sp[i].sl[j].pl.toNat]?.getD 0))=false→ct m=false:=fun{p} hp hh=>by
     cases hm:ct m with
     |false=>rfl
     |true=>
      exfalso;obtain⟨k1,k2⟩:=aC5 hm (List.getElem_mem hlt) (List.getElem_mem hlj);rcases hp with⟨e,rfl⟩| ⟨e,rfl⟩
      ·obtain⟨q1,q2⟩:=k1 e;rw[hl1,show((12:Nat):Int)-1=11 from rfl,q1]at hh;simp at hh;omega
      ·obtain⟨q1,q2⟩:=k2 e;rw[hl2,show((12:Nat):Int)-1=11 from rfl,q1]at hh;simp at hh;omega
    have nin:(!inB m.sp[i].sl[j].kd 1 2)=true→ct m=false:=fun e=>nos (.inl (by rw[c8,if_neg hk,show inB m.sp[i].sl[j].kd 1 2=false by simpa using e];simp))
    refine CondP.mk (fun c1=>?_) (fun c1=>?_)<;>rw[c1]<;>(conv=>whnf)<;>repeat' first|(refine aF ?_;conv=>whnf)|(refine aD ?_;conv=>whnf)
    ·have c1:m.sp[i].sl[j].kd=1:=by simpa using c1
     refine aB [.pass,.pass] rfl rfl rfl (z7 b1 b2 m.ram m.sp[i].sl[j].pl (by omega)) rfl ?_
     (conv=>whnf)<;>repeat' first|(refine aF ?_;conv=>whnf)|(refine aD ?_;conv=>whnf)
     refine CondP.mk (fun hh=>?_) (fun hh=>?_)<;>conv=>whnf
     ·exact⟨_,rfl,rfl,rfl,rfl,fun _=>noh (.inl ⟨c1,rfl⟩) (by simpa only[Bool.not_eq_true']using hh),fun e=>by rw[hh]at e;simp at e⟩
     ·refine CondP.mk (fun c2=>?_) (fun c2=>?_)<;>rw[c2]<;>(conv=>whnf)<;>repeat' first|(refine aF ?_;conv=>whnf)|(refine aD ?_;conv=>whnf)
      ·simp at c2;omega
      ·refine aB [.pass,.pass,.pass] rfl rfl rfl (jM _ _ _) rfl ?_;conv=>whnf
       refine⟨_,rfl,rfl,rfl,rfl,nin,fun e=>⟨by simpa using e,?_⟩⟩;rw[hl1,show((12:Nat):Int)-1=11 from rfl]at hh;simp only[Bool.not_eq_false',Bool.and_eq_true]at hh;rw[gu,hh.1,Bool.or_true]
    ·have c1:¬m.sp[i].sl[j].kd=1:=by simpa using c1
     refine CondP.mk (fun c2=>?_) (fun c2=>?_)<;>rw[c2]<;>(conv=>whnf)<;>repeat' first|(refine aF ?_;conv=>whnf)|(refine aD ?_;conv=>whnf)
     ·have c2:m.sp[i].sl[j].kd=2:=by simpa using c2
      refine aB [.pass,.pass] rfl rfl rfl (z7 b3 b4 m.swp m.sp[i].sl[j].pl (by omega)) rfl ?_
      (conv=>whnf)<;>repeat' first|(refine aF ?_;conv=>whnf)|(refine aD ?_;conv=>whnf)
      refine CondP.mk (fun hh=>?_) (fun hh=>?_)<;>conv=>whnf
      ·exact⟨_,rfl,rfl,rfl,rfl,fun _=>noh (.inr ⟨c2,rfl⟩) (by simpa only[Bool.not_eq_true']using hh),fun e=>by rw[hh]at e;simp at e⟩
      ·refine aB [.pass,.pass,.pass] rfl rfl rfl (jM _ _ _) rfl ?_;conv=>whnf
       refine⟨_,rfl,rfl,rfl,rfl,nin,fun e=>⟨by simpa using e,?_⟩⟩;rw[hl2,show((12:Nat):Int)-1=11 from rfl]at hh;simp only[Bool.not_eq_false',Bool.and_eq_true]at hh;rw[gu,hh.1,Bool.or_true]
     ·have c2:¬m.sp[i].sl[j].kd=2:=by simpa using c2
      refine aB [.pass,.pass,.pass] rfl rfl rfl (jM _ _ _) rfl ?_;conv=>whnf
      refine⟨_,rfl,rfl,rfl,rfl,nin,fun e=>⟨by simpa using e,?_⟩⟩;simp only[Bool.not_eq_false',inB,Bool.and_eq_true,decide_eq_true_eq]at e;omega
   ·rintro ts H n γ ⟨v,rfl,rfl,rfl,rfl,hv1,hv2⟩;refine bP (cE ..) ?_;conv=>whnf
    refine CondP.mk (fun hv=>?_) (fun hv=>?_)<;>rw[hv]<;>conv=>whnf
    ·exact fS rfl (hv1 hv)
    obtain⟨hin,hpl⟩:=hv2 hv;refine aB [.pass,.pass] rfl rfl rfl (qC b5 b5 m.sp[i] j hs.1) rfl ?_;conv=>whnf
    rw[hat];refine CondP.mk (fun hsh=>?_) (fun hsh=>?_)<;>rw[hsh]<;>(conv=>whnf)<;>repeat' first|(refine aF ?_;conv=>whnf)|(refine aD ?_;conv=>whnf)
    ·refine CondP.mk (fun how=>?_) (fun how=>?_)<;>conv=>whnf
     ·refine fS rfl (nos (.inl ?_));rw[c8,if_neg hk,hsh];have:m.sp[i].sl[j].ow=false:=by simpa using how
      simp[this]
     ·refine⟨_,rfl,rfl,rfl,rfl,?_,hpl,hk⟩;have:m.sp[i].sl[j].ow=true:=by simpa using how
      rw[c8,if_neg hk,hin,this];simp[hp]
    ·refine⟨_,rfl,rfl,rfl,rfl,?_,hpl,hk⟩;rw[c8,if_neg hk,hin,hsh];simp[hp]
  ·have hje:j=m.sp[i].sl.length:=by
                       have:¬j<m.sp[i].sl.length:=by simpa using hb
                       omega
   refine bP (cE ..) ?_;conv=>whnf
   refine⟨(i+1,L),by simp only;omega,⟨by simp only;omega,hj2.next hlt hje.symm (by omega),fun i' hi' hii=>?_⟩,?_,rfl,rfl,rfl⟩
   ·by_cases e:i'=i
    ·subst e;have h1:cZ m.sp[i'].ar 0 m.sp[i'].sl=true:=rU fun j' x hx=>by obtain⟨hj',rfl⟩:=List.getElem?_eq_some_iff.1 hx;rw[Nat.zero_add];exact(hj3 j' hj' (by omega)).1
     have h2:m.sp[i'].sl.all gu=true:=List.all_eq_true.2 fun x hx=>by obtain⟨j',hj',rfl⟩:=List.getElem_of_mem hx;exact(hj3 j' hj' (by omega)).2
     rw[gq,bW,if_pos hlv,h9,ha,h1,h2];rfl
    ·exact hi3 i' hi' (by simp only at hii;omega)
   ·simp only[up hlt (by omega)];rfl
 ·have hie:i=m.sp.length:=by simp at h7;omega
  have hall:m.sp.all gq=true:=List.all_eq_true.2 fun x hx=>by obtain⟨j',hj',rfl⟩:=List.getElem_of_mem hx;exact hi3 j' hj' (by omega)
  rw[hall,Bool.true_and]at hd;have htell:∀{kd pl:Int},kd≠0→d9 L (kd,pl)=tel kd pl m.sp:=fun hk=>hi2.all hie hk
  refine kv (kv (iB (r6 (aCd fun oid=>?_))));refine qO 2 (nS ..) rfl ?_;conv=>whnf
  refine zg (p:=m.ram) rfl rfl (by simp) ?_;refine qO 2 (nS ..) rfl ?_;conv=>whnf
  refine zg (p:=m.swp) rfl rfl (by simp) ?_;refine qO 1 (nS ..) rfl ?_;conv=>whnf
  refine aC8 rfl fun iid=>?_
  refine rE ⟨dS ..,?_⟩;conv=>whnf
  let refJ:Nat→Bool:=fun j=>if j=0 then cS 1 m.sp 0 m.ram.rf else cS 2 m.sp 0 m.swp.rf
  refine aCs ?_;refine aBM (fun _:List Nat=>[(3,.v (.one (.sc (.mp mid)))),(169,.v (.one (.sc (.ptr iid 0))))]) (fun _=>[]) (fun _=>0) (fun seen=>G2 c0 mid oid iid L [(1,m.ram),(2,m.swp)] seen)
   (fun seen=>(seen=[]∨seen=[0]∨seen=[1]∨seen=[0,1]∨seen=[1,0])∧∀j,j∈seen→refJ j=true) (fun seen=>2-seen.length) [] ⟨.inl rfl,by simp⟩ rfl rfl rfl rfl fun seen hseen=>?_
  obtain⟨hs1,hs2⟩:=hseen;refine kv (aCt rfl rfl (fun hend=>⟨dS ..,?_⟩) (fun j hj hjn=>⟨dS ..,?_⟩))
  ·conv=>whnf
   refine iB (cm (bP (dS ..) ?_))
   (conv=>whnf)<;>repeat' first|(refine aF ?_;conv=>whnf)|(refine aD ?_;conv=>whnf)
   refine iB (bP (dS ..) ?_);conv=>whnf
   refine fS rfl ?_;have r0:=hs2 0 (hend 0 (by simp));have r1:=hs2 1 (hend 1 (by simp));simp only[refJ,if_true]at r0 r1;rw[if_neg (by decide)]at r1;rw[hd,r0,r1];rfl
  ·conv=>whnf
   obtain⟨kd,pg,hp,hkd,hrl,href⟩:∃(kd:Int)(pg:Pages),[((1:Int),m.ram),(2,m.swp)][j]?=some (kd,pg)∧kd≠0∧pg.rf.length=12∧cS kd m.sp 0 pg.rf=refJ j:=by
    match j,hj with
    |0,_=>exact⟨1,m.ram,rfl,by decide,hl1,rfl⟩
    |1,_=>exact⟨2,m.swp,rfl,by decide,hl2,rfl⟩
   have hno:cS kd m.sp 0 pg.rf=false→ct m=false:=fun e=>by
    rw[hd]
    match j,hj with
    |0,_=>rw[href]at e;simp only[refJ,if_true]at e;rw[e];rfl
    |1,_=>rw[href]at e;simp only[refJ]at e;rw[if_neg (by decide)]at e;rw[e];simp
   refine iB (cm (bP (dS ..) ?_))
   (conv=>whnf)<;>repeat' first|(refine aF ?_;conv=>whnf)|(refine aD ?_;conv=>whnf)
   refine jf (cm (r6 (aCg rfl hp ?_)));refine qO 5 (dS ..) rfl ?_;conv=>whnf
   refine rE ⟨dS ..,?_⟩;conv=>whnf
   refine cm (bP (dS ..) ?_);conv=>whnf
   refine jf ?_;refine qx (fun a:Nat=>[(3,.v (.one (.sc (.mp mid)))),(9,.v (.one (dI kd))),(169,.v (.one (.sc (.ptr iid 0)))),(176,.v (.one (.ro true 1 (pg.rf.map rI)))),(177,.v (.one (dI (pg.rf.map rI).length))),(178,.v (.one (dI a)))]) (fun _=>[]) (fun _=>0) (fun _=>G2 c0 mid oid iid L [(1,m.ram),(2,m.swp)] (seen++[j]))
    (fun a=>a≤pg.rf.length∧cS kd m.sp 0 pg.rf=cS kd m.sp a (pg.rf.drop a)) (fun a=>pg.rf.length-a) 0 ⟨by omega,by simp⟩ rfl rfl rfl rfl fun a ha=>?_
   obtain⟨ha1,ha2⟩:=ha;refine cm (bP (dS ..) ?_);conv=>whnf
   refine cm (bP (dS ..) ?_);conv=>whnf
   refine CondP.mk (fun hb=>?_) (fun hb=>?_)<;>conv=>whnf
   ·have hla:a<pg.rf.length:=by simpa using hb
    rw[ju hla]at ha2;have no2:gF kd m.sp a pg.rf[a]=false→ct m=false:=fun e=>hno (by rw[ha2,e];rfl)
    refine cm (jf (cm (bP (dS ..) ?_)));conv=>whnf
    refine aJ (k:=a) rfl rfl (by simpa using hla) ?_;conv=>whnf
    refine aE rfl (r:=.one (dI pg.rf[a])) (by simp[aZ,rI,hla,eI,PV.dc,dI]) ?_;conv=>whnf
    refine cm (r6 (qO 4 (dS ..) rfl ?_));conv=>whnf
    refine aBY (k:=(kd,(a:Int))) rfl rfl ?_;rw[htell hkd];refine qO 1 (dS ..) rfl ?_;conv=>whnf
    refine rE ⟨dS ..,?_⟩;conv=>whnf
    have hrefT:gF kd m.sp a pg.rf[a]=(decide (((tel kd (a:Int) m.sp).length:Int)=pg.rf[a])&&alone (tel kd (a:Int) m.sp)):=rfl;have hTl:(tel kd (a:Int) m.sp).length≤4611686018427387904:=by
     have:=wi (kd:=kd) (pl:=(a:Int)) (n:=16) (l:=m.sp) fun s hs=>by have:=List.all_eq_true.1 hall s hs;simp only[gq,Bool.and_eq_true]at this;exact me this.1
     omega
    generalize tel kd (a:Int) m.sp=T at*;refine bP (dS ..) ?_;conv=>whnf
    refine CondP.mk (fun h8=>?_) (fun h8=>?_)<;>conv=>whnf
    ·refine fS rfl (no2 ?_);rw[hrefT,show decide ((T.length:Int)=pg.rf[a])=false by simpa using h8];rfl
    have hlen:(T.length:Int)=pg.rf[a]:=by simpa using h8
    have bad:∀{x y:Nat},x<T.length→y<T.length→eg T x y=false→ct m=false:=fun hx hy e=>no2 (by rw[hrefT,yK hx hy e];simp)
    refine aa (fun x:Nat=>[(3,.v (.one (.sc (.mp mid)))),(9,.v (.one (dI kd))),(13,.v (.one (.ro true 2 (T.map rT)))),(169,.v (.one (.sc (.ptr iid 0)))),(176,.v (.one (.ro true 1 (pg.rf.map rI)))),(177,.v (.one (dI (pg.rf.map rI).length))),(178,.v (.one (dI a))),(192,.v (.one (.ro true 2 (T.map rT)))),(193,.v (.one (dI (T.map rT).length))),(194,.v (.one (dI x)))]) (fun _=>[]) (fun _=>0) (fun x=>x≤T.length∧∀x' y',x'<x→y'<T.length→eg T x' y'=true) (fun x=>T.length-x) 0 ⟨by omega,by omega⟩ rfl rfl rfl fun x hx=>?_
    obtain⟨hx1,hx2⟩:=hx;conv=>whnf
    refine CondP.mk (fun h9=>?_) (fun h9=>?_)<;>conv=>whnf
    ·have hlx:x<T.length:=by simpa using h9
     refine aJ (k:=x) rfl rfl (by simpa using hlx) ?_;conv=>whnf
     refine aE rfl (r:=.agg [dB T[x].1,dB T[x].2]) (by simp[aZ,rT,hlx,eB,PV.dc,dB]) ?_;conv=>whnf
     refine aa (fun y:Nat=>[(3,.v (.one (.sc (.mp mid)))),(9,.v (.one (dI kd))),(13,.v (.one (.ro true 2 (T.map rT)))),(14,.v (.one (dI x))),(15,.v (.one (.ptr 0 0 0))),(169,.v (.one (.sc (.ptr iid 0)))),(176,.v (.one (.ro true 1 (pg.rf.map rI)))),(177,.v (.one (dI (pg.rf.map rI).length))),(178,.v (.one (dI a))),(192,.v (.one (.ro true 2 (T.map rT)))),(193,.v (.one (dI (T.map rT).length))),(194,.v (.one (dI x))),(199,.v (.one (.ro true 2 (T.map rT)))),(200,.v (.one (dI (T.map rT).length))),(201,.v (.one (dI y)))]) (fun _=>[(0,.box [dB T[x].1,dB T[x].2])]) (fun _=>1) (fun y=>y≤T.length∧∀y',y'<y→eg T x y'=true) (fun y=>T.length-y) 0 ⟨by omega,by omega⟩ rfl rfl rfl fun y hy=>?_
     obtain⟨hy1,hy2⟩:=hy;conv=>whnf
     refine CondP.mk (fun hc=>?_) (fun hc=>?_)<;>conv=>whnf
     ·have hly:y<T.length:=by simpa using hc
      refine aJ (k:=y) rfl rfl (by simpa using hly) ?_;conv=>whnf
      refine aE rfl (r:=.agg [dB T[y].1,dB T[y].2]) (by simp[aZ,rT,hly,eB,PV.dc,dB]) ?_;conv=>whnf
      have pe:eg T x y=(decide (x=y)||!(T[x].1&&!(T[x].2&&T[y].2))):=by simp[eg,hlx,hly]
      have nexty:eg T x y=true→∀y',y'<y+1→eg T x y'=true:=fun e y' hy'=>by
       by_cases e2:y'=y
       ·subst e2;exact e
       ·exact hy2 y' (by omega)
      refine CondP.mk (fun d1=>?_) (fun d1=>?_)<;>rw[d1]<;>(conv=>whnf)<;>repeat' first|(refine aF ?_;conv=>whnf)|(refine aD ?_;conv=>whnf)
      ·have d1:¬x=y:=by simp at d1;omega
       refine CondP.mk (fun d2=>?_) (fun d2=>?_)<;>rw[d2]<;>(conv=>whnf)<;>repeat' first|(refine aF ?_;conv=>whnf)|(refine aD ?_;conv=>whnf)
       ·refine CondP.mk (fun d3=>?_) (fun d3=>?_)<;>rw[d3]<;>(conv=>whnf)<;>repeat' first|(refine aF ?_;conv=>whnf)|(refine aD ?_;conv=>whnf)
        ·refine CondP.mk (fun d4=>?_) (fun d4=>?_)<;>conv=>whnf
         ·exact fS rfl (bad hlx hly (by rw[pe,d2,d3,show T[y].2=false by simpa using d4];simp[d1]))
         ·refine⟨y+1,by omega,⟨by omega,nexty (by rw[pe,d2,d3,show T[y].2=true by simpa using d4];simp)⟩,?_,rfl,rfl⟩;rw[up hly hTl];rfl
        ·exact fS rfl (bad hlx hly (by rw[pe,d2,d3];simp[d1]))
       ·refine⟨y+1,by omega,⟨by omega,nexty (by rw[pe,d2];simp)⟩,?_,rfl,rfl⟩;rw[up hly hTl];rfl
      ·have d1:x=y:=by simp at d1;omega
       refine⟨y+1,by omega,⟨by omega,nexty (by rw[pe];simp[d1])⟩,?_,rfl,rfl⟩;rw[up hly hTl];rfl
     ·have hye:y=T.length:=by
                     have:¬y<T.length:=by simpa using hc
                     omega
      refine⟨x+1,by omega,⟨by omega,fun x' y' hx' hy'=>?_⟩,?_,rfl,rfl⟩
      ·by_cases e:x'=x
       ·subst e;exact hy2 y' (by omega)
       ·exact hx2 x' y' (by omega) hy'
      ·rw[up hlx hTl];rfl
    ·have hxe:x=T.length:=by
                    have:¬x<T.length:=by simpa using h9
                    omega
     have hal:alone T=true:=zP fun x' y' hx' hy'=>hx2 x' y' (by omega) hy'
     refine bP (dS ..) ?_;conv=>whnf
     refine⟨a+1,by omega,⟨by omega,?_⟩,?_,rfl,rfl,rfl⟩
     ·rw[ha2,hrefT,hal,decide_eq_true hlen];rfl
     ·rw[up hla (by omega)];rfl
   ·have hae:a=pg.rf.length:=by
                     have:¬a<pg.rf.length:=by simpa using hb
                     omega
    subst hae;rw[List.drop_length]at ha2;simp only[cS]at ha2;refine⟨seen++[j],[3,169],?_,⟨?_,fun j' hj'=>?_⟩,rfl,rfl,rfl,rfl⟩
    ·simp only[List.length_append,List.length_cons,List.length_nil];rcases hs1 with rfl|rfl|rfl|rfl|rfl<;>simp at hjn ⊢
     all_goals (simp at hj;omega)
    ·simp only[List.length_cons,List.length_nil]at hj;have:j=0∨j=1:=by omega
     rcases hs1 with rfl|rfl|rfl|rfl|rfl<;>rcases this with rfl|rfl<;>simp at hjn ⊢
    ·rcases List.mem_append.1 hj' with hj'|hj'
     ·exact hs2 j' hj'
     ·simp only[List.mem_singleton]at hj';subst hj';rw[←href,ha2]
end Go.Qm
namespace Go.Qm
open Go.Cq Go.Cq.D Go.RowKit Go.Proofs Go.ChangeShapes Go.WideShapes Go.ChangeAt
set_option maxRecDepth 10000
section
variable{H:Type}{enc:TypeId×Value→H}{W:World}{sp:Nat→Bool}{held:Bool}
theorem c3:Try.prog.cellsOf 3=1:=by kernel_rfl
theorem c4:Try.prog.cellsOf 4=1:=by kernel_rfl
theorem c9:Try.prog.cellsOf 9=1:=by kernel_rfl
theorem c22:Try.prog.cellsOf 22=1:=by kernel_rfl
theorem c23:Try.prog.cellsOf 23=1:=by kernel_rfl
theorem c25:Try.prog.cellsOf 25=2:=by kernel_rfl
theorem c26:Try.prog.cellsOf 26=1:=by kernel_rfl
theorem c28:Try.prog.cellsOf 28=6:=by kernel_rfl
theorem c77:Try.prog.cellsOf 77=4:=by kernel_rfl
theorem c150:Try.prog.cellsOf 150=1:=by kernel_rfl
theorem c151:Try.prog.cellsOf 151=1:=by kernel_rfl
theorem c153:Try.prog.cellsOf 153=3:=by kernel_rfl
theorem c198:Try.prog.cellsOf 198=4:=by kernel_rfl
abbrev so(W:World):Prop:=∃(B:Nat)(c:Array Value)(e:TypeId)(fr:Nat×Nat),W.heap[B]?=some (.cells c e fr)
instance:Inhabited Area:=⟨⟨0,0,false,false⟩⟩
instance:Inhabited Slot:=⟨⟨0,0,false,false⟩⟩
instance:Inhabited Space:=⟨⟨false,[],[]⟩⟩
theorem pI{n:Nat}{c:Value}{x:DataW H×List MemPlace}(h:DataW.trod enc Try.prog W 0 sp held n 3 [c]=some x):∃k:Int,c= .int .i64 k:=by obtain⟨k,h1, -, -⟩:=DataW.trod_int Try.underlying3 h;simp only[List.cons.injEq,and_true]at h1;exact⟨k,h1⟩
theorem sJ{n:Nat}{c:Value}{x:DataW H×List MemPlace}(h:DataW.trod enc Try.prog W 0 sp held n 4 [c]=some x):∃k:Bool,c= .bool k:=by obtain⟨k,h1, -⟩:=DataW.trod_bool Try.underlying4 h;simp only[List.cons.injEq,and_true]at h1;exact⟨k,h1⟩
theorem fld{fs:Array Field}{xs:List (DataW H×List MemPlace)}{n:Nat}{cs:List Value}(h1:xs.length=fs.size)(h2:∀(i:Nat)(f:Field),fs[i]?=some f→DataW.trod enc Try.prog W 0 sp held n f.type ((cs.drop f.offset).take (Try.prog.cellsOf f.type))=xs[i]?)(i:Nat){t off m:Nat}(hf:(fs[i]?).map (fun f=>(f.type,f.offset))=some (t,off))(hm:Try.prog.cellsOf t=m):∃y,DataW.trod enc Try.prog W 0 sp held n t ((cs.drop off).take m)=some y:=by simp only[Option.map_eq_some_iff,Prod.mk.injEq]at hf;obtain⟨f,hf,rfl,rfl⟩:=hf;have hlt:=(Array.getElem?_eq_some_iff.1 hf).1;rw[←hm];exact⟨_,(h2 i f hf).trans (List.getElem?_eq_getElem (by omega))⟩
theorem i4{cs:List Value}(h:cs.length=1):∃a,cs=[a]:=by
 match cs,h with
 | [a],_=>exact⟨a,rfl⟩
theorem tG{cs:List Value}(h:cs.length=3):∃a b c,cs=[a,b,c]:=by
 match cs,h with
 | [a,b,c],_=>exact⟨a,b,c,rfl⟩
theorem v9{cs:List Value}(h:cs.length=4):∃a b c d,cs=[a,b,c,d]:=by
 match cs,h with
 | [a,b,c,d],_=>exact⟨a,b,c,d,rfl⟩
theorem xX{cs:List Value}(h:cs.length=6):∃a b c d e f,cs=[a,b,c,d,e,f]:=by
 match cs,h with
 | [a,b,c,d,e,f],_=>exact⟨a,b,c,d,e,f,rfl⟩
theorem wU{t:TypeId}{fs:Array Field}(hu:Try.prog.underlying t=some (.struct fs)){n1 n2 n3 n4:String}{e1 e2 e3 e4:Bool}{g1 g2 g3 g4 p1 p2 p3 p4:String}{o1 o2 o3 o4:Nat}(hfs:fs= #[⟨n1,3,0,e1,g1,p1,o1⟩,⟨n2,3,1,e2,g2,p2,o2⟩,⟨n3,4,2,e3,g3,p3,o3⟩,⟨n4,4,3,e4,g4,p4,o4⟩]){n:Nat}{cs:List Value}{x:DataW H×List MemPlace}(hl:cs.length=4)(h:DataW.trod enc Try.prog W 0 sp held n t cs=some x):
  ∃(a b:Int)(c d:Bool),cs=[.int .i64 a,.int .i64 b,.bool c,.bool d]:=by
 obtain⟨a,b,c,d,rfl⟩:=v9 hl;subst hfs;obtain⟨xs,m, -, -, -,h1,h2⟩:=DataW.trod_struct hu h;obtain⟨y0,k0⟩:=fld h1 h2 0 (t:=3) (off:=0) rfl c3;obtain⟨y1,k1⟩:=fld h1 h2 1 (t:=3) (off:=1) rfl c3;obtain⟨y2,k2⟩:=fld h1 h2 2 (t:=4) (off:=2) rfl c4;obtain⟨y3,k3⟩:=fld h1 h2 3 (t:=4) (off:=3) rfl c4;obtain⟨i,rfl⟩:=pI k0;obtain⟨j,rfl⟩:=pI k1;obtain⟨p,rfl⟩:=sJ k2;obtain⟨q,rfl⟩:=sJ k3;exact⟨i,j,p,q,rfl⟩
theorem tO{a b:Int}{c d:Bool}:∀(k:Nat) p,([eI a,eI b,eB c,eB d]:List PV)[k]?=some p→∃v,([.int .i64 a,.int .i64 b,.bool c,.bool d]:List Value)[k]?=some v∧WV W p v:=by
 intro k p hp
 match k,hp with
 |0,hp=>cases hp;exact⟨_,rfl,.int⟩
 |1,hp=>simp only[List.getElem?_cons_succ,List.getElem?_cons_zero,Option.some.injEq]at hp;subst hp;exact⟨_,rfl,.int⟩
 |2,hp=>simp only[List.getElem?_cons_succ,List.getElem?_cons_zero,Option.some.injEq]at hp;subst hp;exact⟨_,rfl,.bool⟩
 |3,hp=>simp only[List.getElem?_cons_succ,List.getElem?_cons_zero,Option.some.injEq]at hp;subst hp;exact⟨_,rfl,.bool⟩
 |k+4,hp=>simp at hp
theorem yu(hB:so W){v:Value}{n:Nat}{x:DataW H×List MemPlace}(h:DataW.trod enc Try.prog W 0 (fun _=>true) held n 150 [v]=some x):∃l:List Area,l.length≤maxLen∧WV W (.sl 4 (l.map rA)) v:=by obtain⟨l,h1, -,h2⟩:=n6 (row:=rA) (good:=fun _=>True) Try.underlying150 c77 (by decide) (fun n cs x _ hl h=>by obtain⟨a,b,c,d,rfl⟩:=wU Try.underlying77 rfl hl h;exact⟨⟨a,b,c,d⟩,rfl,trivial,tO⟩) hB h;exact⟨l,h1,h2⟩
theorem yi(hB:so W){v:Value}{n:Nat}{x:DataW H×List MemPlace}(h:DataW.trod enc Try.prog W 0 (fun _=>true) held n 151 [v]=some x):∃l:List Slot,l.length≤maxLen∧WV W (.sl 4 (l.map rL)) v:=by obtain⟨l,h1, -,h2⟩:=n6 (row:=rL) (good:=fun _=>True) Try.underlying151 c198 (by decide) (fun n cs x _ hl h=>by obtain⟨a,b,c,d,rfl⟩:=wU Try.underlying198 rfl hl h;exact⟨⟨a,b,c,d⟩,rfl,trivial,tO⟩) hB h;exact⟨l,h1,h2⟩
theorem aAw(hB:so W){v:Value}{n:Nat}{x:DataW H×List MemPlace}(h:DataW.trod enc Try.prog W 0 (fun _=>true) held n 23 [v]=some x):∃l:List Int,l.length≤maxLen∧WV W (.sl 1 (l.map rI)) v:=by
 obtain⟨l,h1, -,h2⟩:=n6 (row:=rI) (good:=fun _=>True) Try.underlying23 c3 (by decide) (fun n cs x _ hl h=>by
  obtain⟨c,rfl⟩:=i4 hl;obtain⟨k,rfl⟩:=pI h;refine⟨k,rfl,trivial,fun j p hp=>?_⟩
  match j,hp with
  |0,hp=>simp only[rI,List.getElem?_cons_zero,Option.some.injEq]at hp;subst hp;exact⟨_,rfl,.int⟩
  |j+1,hp=>simp[rI]at hp) hB h
 exact⟨l,h1,h2⟩
theorem aAv(hB:so W){v:Value}{n:Nat}{x:DataW H×List MemPlace}(h:DataW.trod enc Try.prog W 0 (fun _=>true) held n 22 [v]=some x):∃l:List Str,l.length≤maxLen∧(∀s,s∈l→s.length≤maxLen)∧WV W (.sl 1 (l.map rS)) v:=by
 refine n6 (row:=rS) (good:=fun s=>s.length≤maxLen) Try.underlying22 c9 (by decide) (fun n cs x _ hl h=>?_) hB h;obtain⟨s,rfl, -,hs⟩:=DataW.trod_string Try.underlying9 h;refine⟨s.data.toList,rfl,hs,fun j p hp=>?_⟩
 match j,hp with
 |0,hp=>simp only[rS,List.getElem?_cons_zero,Option.some.injEq]at hp;subst hp;exact⟨_,rfl,.str⟩
 |j+1,hp=>simp[rS]at hp
theorem x6(hB:so W){v:Value}{n:Nat}{x:DataW H×List MemPlace}(h:DataW.trod enc Try.prog W 0 (fun _=>true) held n 26 [v]=some x):∃l:List Space,l.length≤maxLen∧(∀s,s∈l→s.ar.length≤maxLen∧s.sl.length≤maxLen)∧WV W (.sl 3 (l.map rP)) v:=by
 refine n6 (row:=rP) (good:=fun s=>s.ar.length≤maxLen∧s.sl.length≤maxLen) Try.underlying26 c153 (by decide) (fun n cs x hB hl h=>?_) hB h;obtain⟨a,b,c,rfl⟩:=tG hl;obtain⟨xs,m, -, -, -,h1,h2⟩:=DataW.trod_struct Try.underlying153 h;obtain⟨y0,k0⟩:=fld h1 h2 0 (t:=4) (off:=0) rfl c4;obtain⟨y1,k1⟩:=fld h1 h2 1 (t:=150) (off:=1) rfl c150;obtain⟨y2,k2⟩:=fld h1 h2 2 (t:=151) (off:=2) rfl c151;obtain⟨p,rfl⟩:=sJ k0;obtain⟨ar,a1,a2⟩:=yu hB k1;obtain⟨sl,s1,s2⟩:=yi hB k2;refine⟨⟨p,ar,sl⟩,rfl,⟨a1,s1⟩,fun j q hq=>?_⟩
 match j,hq with
 |0,hq=>simp only[rP,List.getElem?_cons_zero,Option.some.injEq]at hq;subst hq;exact⟨_,rfl,.bool⟩
 |1,hq=>simp only[rP,List.getElem?_cons_succ,List.getElem?_cons_zero,Option.some.injEq]at hq;subst hq;exact⟨_,rfl,a2⟩
 |2,hq=>simp only[rP,List.getElem?_cons_succ,List.getElem?_cons_zero,Option.some.injEq]at hq;subst hq;exact⟨_,rfl,s2⟩
 |j+3,hq=>simp[rP]at hq
theorem ub{b1 b2:Value}(hB:so W){n:Nat}{x:DataW H×List MemPlace}(h:DataW.trod enc Try.prog W 0 (fun _=>true) held n 25 [b1,b2]=some x):
  ∃p:Pages,p.tx.length≤maxLen∧p.rf.length≤maxLen∧(∀s,s∈p.tx→s.length≤maxLen)∧WV W (.sl 1 (p.tx.map rS)) b1∧WV W (.sl 1 (p.rf.map rI)) b2:=by
 obtain⟨xs,m, -, -, -,h1,h2⟩:=DataW.trod_struct Try.underlying25 h;obtain⟨y0,k0⟩:=fld h1 h2 0 (t:=22) (off:=0) rfl c22;obtain⟨y1,k1⟩:=fld h1 h2 1 (t:=23) (off:=1) rfl c23;obtain⟨tx,t1,t2,t3⟩:=aAv hB k0;obtain⟨rf,r1,r2⟩:=aAw hB k1;exact⟨⟨tx,rf⟩,t1,r1,t2,t3,r2⟩
theorem aBr{base:Nat}{v:Value}{d:DataW H}{p:List MemPlace}(hval:Value.okWide Try.prog W .any base 28 v)(h0:DataW.Trod enc Try.prog W 0 (fun _=>true) held 28 v d p):∃m:Mem,m.inW∧WDV W (aM true true true true true m) v:=by
 unfold Value.okWide at hval;rw[Try.underlying28]at hval;obtain⟨cs,rfl,hsz,hrow⟩:=hval;rw[c28]at hsz;obtain⟨fuel,h⟩:=h0;obtain⟨a0,a1,a2,a3,a4,a5,hcs⟩:=xX (cs:=cs.toList) (by simpa using hsz);obtain rfl:cs= #[a0,a1,a2,a3,a4,a5]:=by rw[←Array.toArray_toList (xs:=cs),hcs]
 have h:DataW.trod enc Try.prog W 0 (fun _=>true) held fuel 28 [a0,a1,a2,a3,a4,a5]=some (d,p):=h;obtain⟨xs,m, -, -, -,h1,h2⟩:=DataW.trod_struct Try.underlying28 h;obtain⟨y0,k0⟩:=fld h1 h2 0 (t:=25) (off:=0) rfl c25;obtain⟨y1,k1⟩:=fld h1 h2 1 (t:=25) (off:=2) rfl c25;obtain⟨y2,k2⟩:=fld h1 h2 2 (t:=26) (off:=4) rfl c26;obtain⟨y3,k3⟩:=fld h1 h2 3 (t:=3) (off:=5) rfl c3;have hb:∀(i:Nat)(u:Value),(#[a0,a1,a2,a3,a4,a5]:Array Value)[i]?=some u→(∃(ad:Addr)(len cap:Nat),u=Value.slice (some ad) len cap)→so W:=by rintro i u hi ⟨ad,len,cap,rfl⟩;obtain⟨ts, -, -,hall⟩:=hrow;obtain⟨t, -,ht⟩:=hall i _ hi;exact hasB ht
 by_cases hB:so W
 ·obtain⟨ram,r1,r2,r3,r4,r5⟩:=ub hB k0;obtain⟨swp,s1,s2,s3,s4,s5⟩:=ub hB k1;obtain⟨sps,p1,p2,p3⟩:=x6 hB k2;obtain⟨hd,rfl⟩:=pI k3;refine⟨⟨ram,swp,sps,hd⟩,⟨⟨r1,r2,s1,s2,p1,p2⟩,r3,s3⟩,_,rfl,rfl,fun j q hq=>?_⟩
  match j,hq with
  |0,hq=>cases hq;exact⟨rfl,_,rfl,r4⟩
  |1,hq=>simp only[List.getElem?_cons_succ,List.getElem?_cons_zero,Option.some.injEq]at hq;subst hq;exact⟨rfl,_,rfl,r5⟩
  |2,hq=>simp only[List.getElem?_cons_succ,List.getElem?_cons_zero,Option.some.injEq]at hq;subst hq;exact⟨rfl,_,rfl,s4⟩
  |3,hq=>simp only[List.getElem?_cons_succ,List.getElem?_cons_zero,Option.some.injEq]at hq;subst hq;exact⟨rfl,_,rfl,s5⟩
  |4,hq=>simp only[List.getElem?_cons_succ,List.getElem?_cons_zero,Option.some.injEq]at hq;subst hq;exact⟨rfl,_,rfl,p3⟩
  |5,hq=>simp only[List.getElem?_cons_succ,List.getElem?_cons_zero,Option.some.injEq]at hq;subst hq;exact⟨rfl,_,rfl,.int⟩
  |j+6,hq=>simp at hq
 ·have nil:∀{t e:TypeId}{n:Nat}{u:Value}{x:DataW H×List MemPlace}(i:Nat),Try.prog.underlying t=some (.slice e)→DataW.trod enc Try.prog W 0 (fun _=>true) held n t [u]=some x→(#[a0,a1,a2,a3,a4,a5]:Array Value)[i]?=some u→u= .slice none 0 0:=by
   intro t e n u x i ht h hi;rcases DataW.trod_slice ht h with⟨q, -⟩| ⟨ad,len,cap,_,_,_, -,q, -⟩
   ·simpa using q
   ·simp only[List.cons.injEq,and_true]at q;exact absurd (hb i u hi ⟨ad,len,cap,q⟩) hB
  have pg:∀{b1 b2:Value}{n:Nat}{x:DataW H×List MemPlace}(i j:Nat),DataW.trod enc Try.prog W 0 (fun _=>true) held n 25 [b1,b2]=some x→(#[a0,a1,a2,a3,a4,a5]:Array Value)[i]?=some b1→(#[a0,a1,a2,a3,a4,a5]:Array Value)[j]?=some b2→b1= .slice none 0 0∧b2= .slice none 0 0:=by intro b1 b2 n x i j h hi hj;obtain⟨xs,m, -, -, -,h1,h2⟩:=DataW.trod_struct Try.underlying25 h;obtain⟨y0,k0⟩:=fld h1 h2 0 (t:=22) (off:=0) rfl c22;obtain⟨y1,k1⟩:=fld h1 h2 1 (t:=23) (off:=1) rfl c23;exact⟨nil i Try.underlying22 k0 hi,nil j Try.underlying23 k1 hj⟩
  obtain⟨rfl,rfl⟩:=pg 0 1 k0 rfl rfl;obtain⟨rfl,rfl⟩:=pg 2 3 k1 rfl rfl;obtain rfl:=nil 4 Try.underlying26 k2 rfl;obtain⟨hd,rfl⟩:=pI k3;refine⟨⟨⟨[],[]⟩,⟨[],[]⟩,[],hd⟩,⟨⟨Nat.zero_le _,Nat.zero_le _,Nat.zero_le _,Nat.zero_le _,Nat.zero_le _,fun s hs=>by simp at hs⟩,fun s hs=>by simp at hs,fun s hs=>by simp at hs⟩,_,rfl,rfl,fun j q hq=>?_⟩
  match j,hq with
  |0,hq=>cases hq;exact⟨rfl,_,rfl,.nil⟩
  |1,hq=>simp only[List.getElem?_cons_succ,List.getElem?_cons_zero,Option.some.injEq]at hq;subst hq;exact⟨rfl,_,rfl,.nil⟩
  |2,hq=>simp only[List.getElem?_cons_succ,List.getElem?_cons_zero,Option.some.injEq]at hq;subst hq;exact⟨rfl,_,rfl,.nil⟩
  |3,hq=>simp only[List.getElem?_cons_succ,List.getElem?_cons_zero,Option.some.injEq]at hq;subst hq;exact⟨rfl,_,rfl,.nil⟩
  |4,hq=>simp only[List.getElem?_cons_succ,List.getElem?_cons_zero,Option.some.injEq]at hq;subst hq;exact⟨rfl,_,rfl,.nil⟩
  |5,hq=>simp only[List.getElem?_cons_succ,List.getElem?_cons_zero,Option.some.injEq]at hq;subst hq;exact⟨rfl,_,rfl,.int⟩
  |j+6,hq=>simp at hq
theorem rD{base:Nat}{v:Value}{d:DataW H}{p:List MemPlace}(hval:Value.okWide Try.prog W .any base 3 v)(h0:DataW.Trod enc Try.prog W 0 (fun _=>true) held 3 v d p):∃n:Int,WDV W (.one (dI n)) v:=by obtain⟨n,rfl, -⟩:=open_int Try.underlying3 hval h0;exact⟨n,rfl,.int⟩
theorem laidOut:laidOutB Try.prog=true:=by kernel_rfl
theorem aCF:Try.prog.readableRec 28=true:=by kernel_rfl
theorem aDg:InBook Try.prog 28 28:=⟨of_decide_eq_true (by kernel_rfl),book_self 28⟩
theorem in3:InBook Try.prog 28 3:=⟨of_decide_eq_true (by kernel_rfl),List.contains_iff_mem.1 (by kernel_rfl)⟩
theorem K28:Kids Try.prog (InBook Try.prog 28):=kids_book laidOut aCF
end
end Go.Qm
namespace Go.Qm
open Go.Cq Go.Cq.D Go.RowKit Go.Proofs
set_option maxRecDepth 10000
def cM(m:Mem):List DC:=[.sl 0 0 m.ram.tx.length,.sl 1 0 m.ram.rf.length,.sl 2 0 m.swp.tx.length,.sl 3 0 m.swp.rf.length,.sl 4 0 m.sp.length,dI m.hd]
def hM(m:Mem):DH:=[(0,.arr 1 (m.ram.tx.map rS) []),(1,.arr 1 (m.ram.rf.map rI) []),(2,.arr 1 (m.swp.tx.map rS) []),(3,.arr 1 (m.swp.rf.map rI) []),(4,.arr 3 (m.sp.map rP) [])]
def cP(p:Pages):List DC:=[.sl 0 0 p.tx.length,.sl 1 0 p.rf.length]
def hP(p:Pages):DH:=[(0,.arr 1 (p.tx.map rS) []),(1,.arr 1 (p.rf.map rI) [])]
theorem qJ(b1 b2:Bool)(p:Pages)(hl:p.rf.length≤1048576):af Try.prog 185 [.agg [.ro b1 1 (p.tx.map rS),.ro b2 1 (p.rf.map rI)]] (.v (.one (dI (iu p.rf)))):=by
 refine aK hmix Try.func185 ok185 ?_;conv=>whnf
 refine aa (fun i:Nat=>[(1,.v (.one (.ptr 0 0 0))),(3,.v (.one (dI (iu (p.rf.take i))))),(4,.v (.one (dI i)))]) (fun _=>[(0,.box [.ro b1 1 (p.tx.map rS),.ro b2 1 (p.rf.map rI)])]) (fun _=>1)
  (fun i=>i≤p.rf.length) (fun i=>p.rf.length-i) 0 (by omega) rfl rfl rfl fun i hi=>?_
 conv=>whnf
 refine CondP.mk (fun h=>?_) (fun h=>?_)<;>conv=>whnf
 ·have hlt:i<p.rf.length:=by simpa using h
  refine aJ (k:=i) rfl rfl (by simpa using hlt) ?_;conv=>whnf
  refine aE rfl (r:=.one (dI p.rf[i])) (by simp[aZ,rI,hlt,eI,dI]) ?_;conv=>whnf
  have hc:=yD hlt;have hb:=aBV (l:=p.rf.take i);rw[List.length_take,Nat.min_eq_left hi]at hb;refine CondP.mk (fun h1=>?_) (fun h1=>?_)<;>conv=>whnf
  ·refine⟨i+1,by omega,by omega,?_,rfl,rfl⟩;have h1:p.rf[i]=0:=by simpa using h1
   rw[up hlt (by omega),hc,if_pos h1,wrap64 (by omega) (by omega)];rfl
  ·refine⟨i+1,by omega,by omega,?_,rfl,rfl⟩;have h1:¬p.rf[i]=0:=by simpa using h1
   rw[up hlt (by omega),hc,if_neg h1];rfl
 ·have:i=p.rf.length:=by
                 have:¬i<p.rf.length:=by simpa using h
                 omega
  subst this;refine⟨?_,rfl⟩;rw[List.take_length];rfl
theorem yO:af Try.prog 176 [] (.v (.one (.sc (.str jT)))):=by
 refine aK hmix Try.func176 ok176 ?_;conv=>whnf
 refine o5 rfl rfl (m:=4) (c:=4) rfl rfl (by decide) (by decide) (by decide) ?_;conv=>whnf
 refine j8 rfl rfl (bs:=jT) rfl ?_;conv=>whnf
 exact⟨rfl,rfl⟩
theorem yC(p:Pages)(t:Str)(hl:p.rf.length≤1048576)(ht:p.tx.length=p.rf.length)(hf:aN p.rf<p.rf.length):c6 Try.prog 175 [.agg (cP p),.one (.sc (.str t))] (hP p) 2 fun x H'=>x= .tup [.agg (cP p),.one (dI (aN p.rf))]∧H'=hP (ab p (aN p.rf) t 1):=by
 refine aK hmix Try.func175 ok175 ?_;conv=>whnf
 refine aa (fun i:Nat=>[(1,.v (.one (.sc (.str t)))),(2,.v (.one (.ptr 2 0 0))),(4,.v (.one (.ptr 3 0 0))),(6,.v (.one (dI i)))]) (fun _=>[(3,.box [.own 1 [],.own 1 []]),(2,.box (cP p)),(0,.arr 1 (p.tx.map rS) []),(1,.arr 1 (p.rf.map rI) [])]) (fun _=>4)
  (fun i=>i≤aN p.rf) (fun i=>p.rf.length-i) 0 (by omega) rfl rfl rfl fun i hi=>?_
 conv=>whnf
 have hlt:i<p.rf.length:=by omega
 have hlt':i<p.tx.length:=by omega
 refine CondP.mk (fun h=>?_) (fun h=>?_)<;>conv=>whnf
 ·refine aC (k:=i) rfl rfl rfl hlt ?_;conv=>whnf
  refine bq rfl rfl rfl (aW (row:=rI p.rf[i]) (by simp[hlt]) rfl rfl rfl) rfl ?_;conv=>whnf
  refine CondP.mk (fun h1=>?_) (fun h1=>?_)<;>conv=>whnf
  ·have h1:p.rf[i]=0:=by simpa using h1
   have e:aN p.rf=i:=by have:=pE hlt h1;omega
   rw[e];refine aC (k:=i) rfl rfl rfl hlt ?_;conv=>whnf
   refine aG rfl rfl rfl (by simpa using hlt) (by decide) ?_;conv=>whnf
   refine aC (k:=i) rfl rfl rfl hlt' ?_;conv=>whnf
   refine aG rfl rfl rfl (by simpa using hlt') (by decide) ?_;conv=>whnf
   refine⟨rfl,?_⟩;rw[aV (aj (f:=rI) (List.getElem?_eq_getElem hlt)),aV (aj (f:=rS) (List.getElem?_eq_getElem hlt'))];simp only[hP,ab,←map_set];rfl
  ·have h1:¬p.rf[i]=0:=by simpa using h1
   refine⟨i+1,by omega,?_,?_,rfl,rfl⟩
   ·rcases Nat.lt_or_ge i (aN p.rf)with c|c
    ·omega
    ·have e:aN p.rf=i:=by omega
     have:=oS hf;simp only[e]at this;exact absurd this h1
   ·rw[up hlt (by omega)];rfl
 ·have:¬(i:Int)< (p.rf.length:Int):=by simpa using h
  omega
end Go.Qm
namespace Go.Qm
open Go.Cq Go.Cq.D Go.RowKit Go.Proofs
set_option maxRecDepth 10000
theorem lp{f:Slot→Slot}{sp:List Space}{i k:Nat}(hi:i<sp.length):∃S:List Space,cz f sp i k=S∧S.length=sp.length∧∃hi':i<S.length,S[i].sl.length=sp[i].sl.length∧∀(hk:k<sp[i].sl.length)(hk':k<S[i].sl.length),S[i].sl[k]=sp[i].sl[k]∧aQ S i k (f sp[i].sl[k])=cz f sp i (k+1)∧(f sp[i].sl[k]=sp[i].sl[k]→S=cz f sp i (k+1)):=⟨_,rfl,da,by rw[da];exact hi,qD hi,fun hk _=>⟨xq hi hk,vd hi hk,tc hi hk⟩⟩
theorem f7{S:List Space}{i:Nat}(hi:i<S.length):(S.map rP).modify i (fun row=>row.set 2 (.sl 4 (S[i].sl.map rL)))=S.map rP:=by rw[aV (aj (f:=rP) (List.getElem?_eq_getElem hi))];exact t5 (aj (f:=rP) (List.getElem?_eq_getElem hi))
def hT(m:Mem)(S:List Space):DH:=[(6,bO jX),(5,.box (cM m)),(0,.arr 1 (m.ram.tx.map rS) []),(1,.arr 1 (m.ram.rf.map rI) []),(2,.arr 1 (m.swp.tx.map rS) []),(3,.arr 1 (m.swp.rf.map rI) []),(4,.arr 3 (S.map rP) [])]
def wo(kd pl to p:Int)(x:Slot):Slot:=if x.kd=kd∧x.pl=pl then cC to p x else x
set_option maxHeartbeats 2000000 in
theorem xS(m:Mem)(kd pl to p:Int)(hn:m.sp.length≤1048576)(hl:∀s,s∈m.sp→s.sl.length≤1048576):c6 Try.prog 177 [.agg (cM m),.one (dI kd),.one (dI pl),.one (dI to),.one (dI p)] (hM m) 5
  fun x H'=>x= .v (.agg (cM m))∧H'=hM {m with sp:=az kd pl (cC to p) m.sp}:=by
 refine aK hmix Try.func177 ok177 ?_;conv=>whnf
 refine aa (fun i:Nat=>[(1,.v (.one (dI kd))),(2,.v (.one (dI pl))),(3,.v (.one (dI to))),(4,.v (.one (dI p))),(5,.v (.one (.ptr 5 0 0))),(10,.v (.one (.ptr 6 0 0))),(11,.v (.one (dI i)))]) (fun i=>hT m (cz (wo kd pl to p) m.sp i 0)) (fun _=>7)
  (fun i=>i≤m.sp.length) (fun i=>m.sp.length-i) 0 (by omega) rfl (by rw[mq];rfl) rfl fun i hi=>?_
 conv=>whnf
 refine CondP.mk (fun h=>?_) (fun h=>?_)<;>conv=>whnf
 ·have hi:i<m.sp.length:=by simpa using h
  have hl:=hl _ (List.getElem_mem hi);refine aa (fun k:Nat=>[(1,.v (.one (dI kd))),(2,.v (.one (dI pl))),(3,.v (.one (dI to))),(4,.v (.one (dI p))),(5,.v (.one (.ptr 5 0 0))),(10,.v (.one (.ptr 6 0 0))),(11,.v (.one (dI i))),(12,.v (.one (dI k)))]) (fun k=>hT m (cz (wo kd pl to p) m.sp i k)) (fun _=>7)
   (fun k=>k≤m.sp[i].sl.length) (fun k=>m.sp[i].sl.length-k) 0 (by omega) rfl rfl rfl fun k hk=>?_
  obtain⟨S,hS,hSn,hi',hsl,hfx⟩:=lp (f:=wo kd pl to p) (k:=k) hi;rw[hS];have hg:=aj (f:=rP) (List.getElem?_eq_getElem hi');conv=>whnf
  refine aC (k:=i) rfl rfl rfl (by omega) ?_;conv=>whnf
  refine dV (i:=i) (k:=2) (sz':=4) (es':=S[i].sl.map rL) S[i].sl.length rfl rfl rfl (aW hg rfl rfl rfl) rfl (by simp) ?_;conv=>whnf
  refine aX (i:=i) (k:=2) (g':=7) (lo:=0) (len:=S[i].sl.length) (es2:=S.map rP) (ov2:=[]) rfl (bZ hg (by simp[rP]) (by simp only[ai,if_true];rfl)) rfl rfl (by rw[List.drop_zero,bg];exact f7 hi') (by simp only[bJ,if_true];rfl) ?_;conv=>whnf
  refine CondP.mk (fun h1=>?_) (fun h1=>?_)<;>conv=>whnf
  ·have hk1:k<m.sp[i].sl.length:=by
                       have:(k:Int)< (S[i].sl.length:Int):=by simpa using h1
                       omega
   have hk':k<S[i].sl.length:=by omega
   obtain⟨x1,x2,x3⟩:=hfx hk1 hk';have next:=up hk1 (by omega)
   refine aC (k:=i) rfl rfl rfl (by omega) ?_;conv=>whnf
   refine dV (i:=i) (k:=2) (sz':=4) (es':=S[i].sl.map rL) S[i].sl.length rfl rfl rfl (aW hg rfl rfl rfl) rfl (by simp) ?_;conv=>whnf
   refine aC (k:=k) rfl rfl rfl hk' ?_;conv=>whnf
   refine ry (row:=rL m.sp[i].sl[k]) rfl rfl rfl (by rw[←x1];simp[hk']) (eV _) rfl rfl ?_;conv=>whnf
   refine aX (i:=i) (k:=2) (g':=7) (lo:=0) (len:=S[i].sl.length) (es2:=S.map rP) (ov2:=[]) rfl (bZ hg (by simp[rP]) (by simp only[ai,if_true];rfl)) rfl rfl (by rw[List.drop_zero,bg];exact f7 hi') (by simp only[bJ,if_true];rfl) ?_;conv=>whnf
   refine CondP.mk (fun c1=>?_) (fun c1=>?_)<;>rw[c1]<;>(conv=>whnf)<;>repeat' first|(refine aF ?_;conv=>whnf)|(refine aD ?_;conv=>whnf)
   ·have c1:m.sp[i].sl[k].kd=kd:=by simpa using c1
    refine CondP.mk (fun c2=>?_) (fun c2=>?_)<;>conv=>whnf
    ·have c2:m.sp[i].sl[k].pl=pl:=by simpa using c2
     have ef:wo kd pl to p m.sp[i].sl[k]=cC to p m.sp[i].sl[k]:=if_pos ⟨c1,c2⟩;rw[ef]at x2;refine aC (k:=i) rfl rfl rfl (by omega) ?_;conv=>whnf
     refine dV (i:=i) (k:=2) (sz':=4) (es':=S[i].sl.map rL) S[i].sl.length rfl rfl rfl (aW hg rfl rfl rfl) rfl (by simp) ?_;conv=>whnf
     refine aC (k:=k) rfl rfl rfl hk' ?_;conv=>whnf
     refine dT (row':=rL (cC to p m.sp[i].sl[k])) rfl rfl rfl (by simpa using hk') (iO (fun _=>rfl)) (eV _) rfl rfl rfl ?_;conv=>whnf
     refine aX (i:=i) (k:=2) (g':=9) (lo:=0) (len:=S[i].sl.length) (es2:=(aQ S i k (cC to p m.sp[i].sl[k])).map rP) (ov2:=[]) rfl (bZ hg (by simp[rP]) (by simp only[ai,if_true];rfl)) rfl rfl (by rw[List.drop_zero,List.take_of_length_le (by simp)];exact ck hi') (by simp only[bJ,if_true];rfl) ?_;conv=>whnf
     rw[x2];refine⟨k+1,by omega,by omega,?_,rfl,rfl⟩;rw[next];rfl
    ·have c2:¬m.sp[i].sl[k].pl=pl:=by simpa using c2
     refine⟨k+1,by omega,by omega,?_,?_,rfl⟩
     ·rw[next];rfl
     ·rw[←x3 (if_neg fun c=>c2 c.2)];rfl
   ·have c1:¬m.sp[i].sl[k].kd=kd:=by simpa using c1
    refine⟨k+1,by omega,by omega,?_,?_,rfl⟩
    ·rw[next];rfl
    ·rw[←x3 (if_neg fun c=>c1 c.1)];rfl
  ·have:k=m.sp[i].sl.length:=by
                     have:¬(k:Int)< (S[i].sl.length:Int):=by simpa using h1
                     omega
   subst this;refine⟨i+1,by omega,by omega,?_,?_,rfl⟩
   ·rw[up hi (by omega)];rfl
   ·rw[←pL hi,hS];rfl
 ·have:i=m.sp.length:=by
                 have:¬i<m.sp.length:=by simpa using h
                 omega
  subst this;refine⟨rfl,?_⟩;rw[oC];rfl
end Go.Qm
namespace Go.Qm
open Go.Cq Go.Cq.D Go.RowKit Go.Proofs
set_option maxRecDepth 10000
def ua(pl:Int)(x:Slot):Slot:=if x.kd=1∧x.pl=pl then ed x else x
set_option maxHeartbeats 2000000 in
theorem xx(m:Mem)(pl:Int)(hn:m.sp.length≤1048576)(hl:∀s,s∈m.sp→s.sl.length≤1048576):c6 Try.prog 186 [.agg (cM m),.one (dI pl)] (hM m) 5
  fun x H'=>x= .tup [.agg (cM m),.one (dB (dK 1 pl m.sp))]∧H'=hM (d8 m pl):=by
 refine aK hmix Try.func186 ok186 ?_;conv=>whnf
 refine aa (fun s:Nat×Bool=>[(1,.v (.one (dI pl))),(2,.v (.one (.ptr 5 0 0))),(4,.v (.one (.ptr 6 0 0))),(6,.v (.one (dB s.2))),(7,.v (.one (dI s.1)))]) (fun s=>hT m (cz (ua pl) m.sp s.1 0)) (fun _=>7)
  (fun s=>s.1≤m.sp.length∧dK 1 pl m.sp=(s.2||dK 1 pl (m.sp.drop s.1))) (fun s=>m.sp.length-s.1) (0,false) ⟨Nat.zero_le _,by simp⟩ rfl (by rw[mq];rfl) rfl fun s hs=>?_
 obtain⟨i,w⟩:=s;obtain⟨hi,hu⟩:=hs;simp only at hi hu;conv=>whnf
 refine CondP.mk (fun h=>?_) (fun h=>?_)<;>conv=>whnf
 ·have hi:i<m.sp.length:=by simpa using h
  have hl:=hl _ (List.getElem_mem hi);rw[rZ hi]at hu;refine aa (fun s:Nat×Bool=>[(1,.v (.one (dI pl))),(2,.v (.one (.ptr 5 0 0))),(4,.v (.one (.ptr 6 0 0))),(6,.v (.one (dB s.2))),(7,.v (.one (dI i))),(8,.v (.one (dI s.1)))]) (fun s=>hT m (cz (ua pl) m.sp i s.1)) (fun _=>7)
   (fun s=>s.1≤m.sp[i].sl.length∧dK 1 pl m.sp=(s.2||fo 1 pl m.sp i s.1)) (fun s=>m.sp[i].sl.length-s.1) (0,w) ⟨Nat.zero_le _,hu⟩ rfl rfl rfl fun s hs=>?_
  obtain⟨k,w⟩:=s;obtain⟨hk,hu⟩:=hs;simp only at hk hu;obtain⟨S,hS,hSn,hi',hsl,hfx⟩:=lp (f:=ua pl) (k:=k) hi;simp only[hS];have hg:=aj (f:=rP) (List.getElem?_eq_getElem hi');conv=>whnf
  refine aC (k:=i) rfl rfl rfl (by omega) ?_;conv=>whnf
  refine dV (i:=i) (k:=2) (sz':=4) (es':=S[i].sl.map rL) S[i].sl.length rfl rfl rfl (aW hg rfl rfl rfl) rfl (by simp) ?_;conv=>whnf
  refine aX (i:=i) (k:=2) (g':=7) (lo:=0) (len:=S[i].sl.length) (es2:=S.map rP) (ov2:=[]) rfl (bZ hg (by simp[rP]) (by simp only[ai,if_true];rfl)) rfl rfl (by rw[List.drop_zero,bg];exact f7 hi') (by simp only[bJ,if_true];rfl) ?_;conv=>whnf
  refine CondP.mk (fun h1=>?_) (fun h1=>?_)<;>conv=>whnf
  ·have hk1:k<m.sp[i].sl.length:=by
                       have:(k:Int)< (S[i].sl.length:Int):=by simpa using h1
                       omega
   have hk':k<S[i].sl.length:=by omega
   obtain⟨x1,x2,x3⟩:=hfx hk1 hk';have next:=up hk1 (by omega)
   rw[p8 hi hk1]at hu;refine aC (k:=i) rfl rfl rfl (by omega) ?_;conv=>whnf
   refine dV (i:=i) (k:=2) (sz':=4) (es':=S[i].sl.map rL) S[i].sl.length rfl rfl rfl (aW hg rfl rfl rfl) rfl (by simp) ?_;conv=>whnf
   refine aC (k:=k) rfl rfl rfl hk' ?_;conv=>whnf
   refine ry (row:=rL m.sp[i].sl[k]) rfl rfl rfl (by rw[←x1];simp[hk']) (eV _) rfl rfl ?_;conv=>whnf
   refine aX (i:=i) (k:=2) (g':=7) (lo:=0) (len:=S[i].sl.length) (es2:=S.map rP) (ov2:=[]) rfl (bZ hg (by simp[rP]) (by simp only[ai,if_true];rfl)) rfl rfl (by rw[List.drop_zero,bg];exact f7 hi') (by simp only[bJ,if_true];rfl) ?_;conv=>whnf
   refine CondP.mk (fun c1=>?_) (fun c1=>?_)<;>rw[c1]<;>(conv=>whnf)<;>repeat' first|(refine aF ?_;conv=>whnf)|(refine aD ?_;conv=>whnf)
   ·have c1:m.sp[i].sl[k].kd=1:=by simpa using c1
    refine CondP.mk (fun c2=>?_) (fun c2=>?_)<;>conv=>whnf
    ·have c2:m.sp[i].sl[k].pl=pl:=by simpa using c2
     have ef:ua pl m.sp[i].sl[k]=ed m.sp[i].sl[k]:=if_pos ⟨c1,c2⟩;rw[ef]at x2;have hm:(S[i].sl.map rL).modify k (fun row=>row.set 3 (.sc (.bool false)))=(S[i].sl.map rL).set k (rL (ed m.sp[i].sl[k])):=by rw[aV (aj (f:=rL) (List.getElem?_eq_getElem hk')),x1];rfl
     cases w
     all_goals
      (conv=>whnf)<;>repeat' first|(refine aF ?_;conv=>whnf)|(refine aD ?_;conv=>whnf)
      refine aC (k:=i) rfl rfl rfl (by omega) ?_;conv=>whnf
      refine dV (i:=i) (k:=2) (sz':=4) (es':=S[i].sl.map rL) S[i].sl.length rfl rfl rfl (aW hg rfl rfl rfl) rfl (by simp) ?_;conv=>whnf
      refine aC (k:=k) rfl rfl rfl hk' ?_;conv=>whnf
      refine aG rfl rfl rfl (by simpa using hk') (by decide) ?_;conv=>whnf
      refine aX (i:=i) (k:=2) (g':=7) (lo:=0) (len:=S[i].sl.length) (es2:=(aQ S i k (ed m.sp[i].sl[k])).map rP) (ov2:=[]) rfl (bZ hg (by simp[rP]) (by simp only[ai,if_true];rfl)) rfl rfl (by rw[List.drop_zero,List.take_of_length_le (by simp),hm];exact ck hi') (by simp only[bJ,if_true];rfl) ?_;conv=>whnf
      rw[x2]
     ·refine⟨(k+1,m.sp[i].sl[k].us),by show m.sp[i].sl.length-(k+1)<m.sp[i].sl.length-k;omega,⟨by show k+1≤_;omega,by rw[hu];simp[c1,c2]⟩,?_,rfl,rfl⟩;rw[next];rfl
     ·refine⟨(k+1,true),by show m.sp[i].sl.length-(k+1)<m.sp[i].sl.length-k;omega,⟨by show k+1≤_;omega,by rw[hu];simp⟩,?_,rfl,rfl⟩;rw[next];rfl
    ·have c2:¬m.sp[i].sl[k].pl=pl:=by simpa using c2
     refine⟨(k+1,w),by show m.sp[i].sl.length-(k+1)<m.sp[i].sl.length-k;omega,⟨by show k+1≤_;omega,by rw[hu];simp[c2]⟩,?_,?_,rfl⟩
     ·rw[next];rfl
     ·rw[←x3 (if_neg fun c=>c2 c.2)];rfl
   ·have c1:¬m.sp[i].sl[k].kd=1:=by simpa using c1
    refine⟨(k+1,w),by show m.sp[i].sl.length-(k+1)<m.sp[i].sl.length-k;omega,⟨by show k+1≤_;omega,by rw[hu];simp[c1]⟩,?_,?_,rfl⟩
    ·rw[next];rfl
    ·rw[←x3 (if_neg fun c=>c1 c.1)];rfl
  ·have:k=m.sp[i].sl.length:=by
                     have:¬(k:Int)< (S[i].sl.length:Int):=by simpa using h1
                     omega
   subst this;rw[sA hi]at hu;refine⟨(i+1,w),by show m.sp.length-(i+1)<m.sp.length-i;omega,⟨by show i+1≤_;omega,hu⟩,?_,?_,rfl⟩
   ·rw[up hi (by omega)];rfl
   ·show _=hT m (cz (ua pl) m.sp (i+1) 0);rw[←pL hi,hS];rfl
 ·have:i=m.sp.length:=by
                 have:¬i<m.sp.length:=by simpa using h
                 omega
  subst this;rw[List.drop_length]at hu;have hu:dK 1 pl m.sp=w:=by rw[hu];simp[dK]
  refine⟨by rw[hu];rfl,?_⟩;rw[oC];rfl
end Go.Qm
namespace Go.Qm
open Go.Cq Go.Cq.D Go.RowKit Go.Proofs
set_option maxRecDepth 10000
structure Lw(m:Mem):Prop where
 rt:m.ram.tx.length=12
 rr:m.ram.rf.length=12
 st:m.swp.tx.length=12
 sr:m.swp.rf.length=12
 sp:m.sp.length=5
def cW(h:Int):List DC:=[.sl 0 0 12,.sl 1 0 12,.sl 2 0 12,.sl 3 0 12,.sl 4 0 5,dI h]
theorem Wf.L{m:Mem}(w:Wf m):Lw m:=⟨w.ram.tx,w.ram.rf,w.swp.tx,w.swp.rf,w.sp⟩
theorem aDM{m:Mem}(l:Lw m):cM m=cW m.hd:=by rw[cM,l.rt,l.rr,l.st,l.sr,l.sp];rfl
theorem jx{pre H:DH}{g:Nat}(hg:Nat.blt g 5=true):pre.all (fun p=>Nat.ble 5 p.1)=true→aH (pre++H) g=aH H g:=by
 intro h;induction pre with
 |nil=>rfl
 |cons p l ih=>
  obtain⟨k,x⟩:=p;simp only[List.all_cons,Bool.and_eq_true]at h;have h1:5≤k:=by simpa using h.1
  have h2:g<5:=by simpa using hg
  rw[List.cons_append,aU,if_neg (by omega)];exact ih h.2
theorem kF{pre H:DH}{g:Nat}{x:DB}(hg:Nat.blt g 5=true):pre.all (fun p=>Nat.ble 5 p.1)=true→cx g x (pre++H)=pre++cx g x H:=by
 intro h;induction pre with
 |nil=>rfl
 |cons p l ih=>
  obtain⟨k,y⟩:=p;simp only[List.all_cons,Bool.and_eq_true]at h;have h1:5≤k:=by simpa using h.1
  have h2:g<5:=by simpa using hg
  have hb:Nat.beq k g=false:=by
   cases hb:Nat.beq k g with
   |false=>rfl
   |true=>have:=Nat.eq_of_beq_eq_true hb;omega
  rw[List.cons_append,cx,hb,cond_false,ih h.2];rfl
theorem aD1(m m':Mem)(l:Lw m)(l':Lw m')(pre:DH)(hp:pre.all (fun p=>Nat.ble 5 p.1)=true):bA (fun t=>([0,1,2,3,4]:List Nat)[t]?) (hM m') [0,1,2,3,4] 0 (pre++hM m)=some (pre++hM m'):=by have e0:=jx (H:=hM m) (g:=0) rfl hp;refine(aI (sz:=1) (es:=m'.ram.tx.map rS) (es0:=m.ram.tx.map rS) (ov0:=[]) rfl e0 (by simp[l.rt,l'.rt])).trans ?_;rw[kF rfl hp];refine(aI (sz:=1) (es:=m'.ram.rf.map rI) (es0:=m.ram.rf.map rI) (ov0:=[]) rfl (jx rfl hp) (by simp[l.rr,l'.rr])).trans ?_;rw[kF rfl hp];refine(aI (sz:=1) (es:=m'.swp.tx.map rS) (es0:=m.swp.tx.map rS) (ov0:=[]) rfl (jx rfl hp) (by simp[l.st,l'.st])).trans ?_;rw[kF rfl hp];refine(aI (sz:=1) (es:=m'.swp.rf.map rI) (es0:=m.swp.rf.map rI) (ov0:=[]) rfl (jx rfl hp) (by simp[l.sr,l'.sr])).trans ?_;rw[kF rfl hp];refine(aI (sz:=3) (es:=m'.sp.map rP) (es0:=m.sp.map rP) (ov0:=[]) rfl (jx rfl hp) (by simp[l.sp,l'.sp])).trans ?_;rw[kF rfl hp];rfl
abbrev hA(m:Mem):DH:=[(0,.arr 1 (m.ram.tx.map rS) []),(1,.arr 1 (m.ram.rf.map rI) []),(2,.arr 1 (m.swp.tx.map rS) []),(3,.arr 1 (m.swp.rf.map rI) []),(4,.arr 3 (m.sp.map rP) [])]
theorem aCK{m m':Mem}(l:Lw m)(l':Lw m'){k1 k2:Nat}{d1 d2:DB}(hp:(Nat.ble 5 k1&&(Nat.ble 5 k2&&true))=true):bA (fun t=>([0,1,2,3,4]:List Nat)[t]?) (hM m') [0,1,2,3,4] 0 ((k1,d1)::(k2,d2)::hA m)=some ((k1,d1)::(k2,d2)::hA m'):=aD1 m m' l l' [(k1,d1),(k2,d2)] hp
theorem sT{m m':Mem}(l:Lw m)(l':Lw m'){k1 k2 k3:Nat}{d1 d2 d3:DB}(hp:(Nat.ble 5 k1&&(Nat.ble 5 k2&&(Nat.ble 5 k3&&true)))=true):bA (fun t=>([0,1,2,3,4]:List Nat)[t]?) (hM m') [0,1,2,3,4] 0 ((k1,d1)::(k2,d2)::(k3,d3)::hA m)=some ((k1,d1)::(k2,d2)::(k3,d3)::hA m'):=aD1 m m' l l' [(k1,d1),(k2,d2),(k3,d3)] hp
theorem aB6{f:Nat→Option Nat}{m m':Mem}(l:Lw m)(l':Lw m'){g0 g1 g2 g3 g4:Nat}{H:DH}(hn:nodup [g0,g1,g2,g3,g4]=true)(h0:aH H g0=some (.arr 1 (m.ram.tx.map rS) []))(h1:aH H g1=some (.arr 1 (m.ram.rf.map rI) []))(h2:aH H g2=some (.arr 1 (m.swp.tx.map rS) []))(h3:aH H g3=some (.arr 1 (m.swp.rf.map rI) []))(h4:aH H g4=some (.arr 3 (m.sp.map rP) [])):
  bA f (hM m') [g0,g1,g2,g3,g4] 0 H=some (cx g4 (.arr 3 (m'.sp.map rP) []) (cx g3 (.arr 1 (m'.swp.rf.map rI) []) (cx g2 (.arr 1 (m'.swp.tx.map rS) []) (cx g1 (.arr 1 (m'.ram.rf.map rI) []) (cx g0 (.arr 1 (m'.ram.tx.map rS) []) H))))):=by
 obtain⟨n0,hn⟩:=nodup_cons hn;obtain⟨n1,hn⟩:=nodup_cons hn;obtain⟨n2,hn⟩:=nodup_cons hn;obtain⟨n3, -⟩:=nodup_cons hn;simp only[List.mem_cons,List.not_mem_nil,or_false,not_or]at n0 n1 n2 n3;refine(aI (sz:=1) (es:=m'.ram.tx.map rS) (es0:=m.ram.tx.map rS) (ov0:=[]) rfl h0 (by simp[l.rt,l'.rt])).trans ?_;refine(aI (sz:=1) (es:=m'.ram.rf.map rI) (es0:=m.ram.rf.map rI) (ov0:=[]) rfl (by rw[av,if_neg (fun e=>n0.1 e.symm)];exact h1) (by simp[l.rr,l'.rr])).trans ?_;refine(aI (sz:=1) (es:=m'.swp.tx.map rS) (es0:=m.swp.tx.map rS) (ov0:=[]) rfl (by rw[av,if_neg (fun e=>n1.1 e.symm),av,if_neg (fun e=>n0.2.1 e.symm)];exact h2) (by simp[l.st,l'.st])).trans ?_;refine(aI (sz:=1) (es:=m'.swp.rf.map rI) (es0:=m.swp.rf.map rI) (ov0:=[]) rfl (by rw[av,if_neg (fun e=>n2.1 e.symm),av,if_neg (fun e=>n1.2.1 e.symm),av,if_neg (fun e=>n0.2.2.1 e.symm)];exact h3) (by simp[l.sr,l'.sr])).trans ?_;refine(aI (sz:=3) (es:=m'.sp.map rP) (es0:=m.sp.map rP) (ov0:=[]) rfl (by rw[av,if_neg (fun e=>n3 e.symm),av,if_neg (fun e=>n2.2 e.symm),av,if_neg (fun e=>n1.2.2 e.symm),av,if_neg (fun e=>n0.2.2.2 e.symm)];exact h4) (by simp[l.sp,l'.sp])).trans ?_;rfl
end Go.Qm
namespace Go.Qm
open Go.Cq Go.Cq.D Go.RowKit Go.Proofs
set_option maxRecDepth 10000
theorem qf{h:Int}(h1:0≤h∧h≤11):(IntKind.wrap .i64 (h+1)).tmod 12=(h+1) % 12:=by rw[wrap64 (by omega) (by omega),Int.tmod_eq_emod_of_nonneg (by omega)]
theorem aBz(p:Pages):decide (0< (iu p.rf:Int))=decide (aN p.rf<p.rf.length):=by
 have:=oi (l:=p.rf);by_cases c:aN p.rf<p.rf.length
 ·rw[decide_eq_true c,decide_eq_true (by have:=this.2 c;omega)]
 ·rw[decide_eq_false c,decide_eq_false (by intro h;exact c (this.1 (by omega)))]
theorem wQ(m:Mem)(kd pl to p:Int)(l:Lw m)(hl:∀s,s∈m.sp→s.sl.length≤16):c6 Try.prog 177 [.agg (cW m.hd),.one (dI kd),.one (dI pl),.one (dI to),.one (dI p)] (hM m) 5
  fun x H'=>x= .v (.agg (cW m.hd))∧H'=hM {m with sp:=az kd pl (cC to p) m.sp}:=by
 have:=xS m kd pl to p (by rw[l.sp];omega) (fun s hs=>by have:=hl s hs;omega);rwa[aDM l]at this
theorem aBp(m:Mem)(pl:Int)(l:Lw m)(hl:∀s,s∈m.sp→s.sl.length≤16):c6 Try.prog 186 [.agg (cW m.hd),.one (dI pl)] (hM m) 5
  fun x H'=>x= .tup [.agg (cW m.hd),.one (dB (dK 1 pl m.sp))]∧H'=hM (d8 m pl):=by
 have:=xx m pl (by rw[l.sp];omega) (fun s hs=>by have:=hl s hs;omega);rwa[aDM l]at this
theorem nT(p:Pages)(t:Str)(h1:p.tx.length=12)(h2:p.rf.length=12)(hf:aN p.rf<12):c6 Try.prog 175 [.agg [.sl 0 0 12,.sl 1 0 12],.one (.sc (.str t))] (hP p) 2 fun x H'=>x= .tup [.agg [.sl 0 0 12,.sl 1 0 12],.one (dI (aN p.rf))]∧H'=hP (ab p (aN p.rf) t 1):=by have:=yC p t (by omega) (by omega) (by omega);rwa[cP,h1,h2]at this
def hW(m:Mem):DH:=[(6,bO jX),(5,.box (cW m.hd)),(0,.arr 1 (m.ram.tx.map rS) []),(1,.arr 1 (m.ram.rf.map rI) []),(2,.arr 1 (m.swp.tx.map rS) []),(3,.arr 1 (m.swp.rf.map rI) []),(4,.arr 3 (m.sp.map rP) [])]
theorem take_set{p:Pages}{k:Nat}{t:Str}{n:Int}(hk:k<p.rf.length):((ab p k t 1).rf.map rI).modify k (fun row=>row.set 0 (.sc (.int .i64 n)))=(ab p k t n).rf.map rI:=by rw[aV (aj (f:=rI) (a:=1) (by simp[ab,hk]))];simp only[ab];rw[show(rI 1).set 0 (.sc (.int .i64 n))=rI n from rfl,map_set,List.set_set]
theorem jB{p:Pages}{k:Nat}{n:Int}(hk:k<p.rf.length):(p.rf.map rI).modify k (fun row=>row.set 0 (.sc (.int .i64 n)))=(p.rf.set k n).map rI:=by rw[aV (aj (f:=rI) (List.getElem?_eq_getElem hk)),←map_set];rfl
theorem gB{p:Pages}{k:Nat}{t:Str}(hk:k<p.tx.length):(p.tx.map rS).modify k (fun row=>row.set 0 (.sc (.str t)))=(p.tx.set k t).map rS:=by rw[aV (aj (f:=rS) (List.getElem?_eq_getElem hk)),←map_set];rfl
set_option maxHeartbeats 4000000 in
theorem qE(m:Mem)(but:Int)(w:Wf m):c6 Try.prog 174 [.agg (cW m.hd),.one (dI but)] (hM m) 5
  fun x H'=>x= .tup [.agg (cW ((bR m but).getD m).hd),.one (dB (bR m but).isSome)]∧H'=hM ((bR m but).getD m):=by
 refine aK hmix Try.func174 ok174 ?_;have l:=w.L;conv=>whnf
 refine aB (cas:=[.agg [.ro true 1 (m.ram.tx.map rS),.ro true 1 (m.ram.rf.map rI)]]) [.lend] rfl (by show some [DV.agg [DC.ro true 1 (List.take 12 (List.drop 0 _)),DC.ro true 1 (List.take 12 (List.drop 0 _))]]=_;rw[List.drop_zero,List.drop_zero,List.take_of_length_le (by simp[l.rt]),List.take_of_length_le (by simp[l.rr])]) rfl (qJ true true m.ram (by rw[l.rr];omega)) rfl ?_;conv=>whnf
 rw[aBz m.ram];refine CondP.mk (fun h=>?_) (fun h=>?_)<;>conv=>whnf
 ·have h:aN m.ram.rf<m.ram.rf.length:=by simpa using h
  rw[bR,if_pos h];exact⟨rfl,rfl⟩
 have h:¬aN m.ram.rf<m.ram.rf.length:=by simpa using h
 refine aB (cas:=[.agg [.ro true 1 (m.swp.tx.map rS),.ro true 1 (m.swp.rf.map rI)]]) [.lend] rfl (by show some [DV.agg [DC.ro true 1 (List.take 12 (List.drop 0 _)),DC.ro true 1 (List.take 12 (List.drop 0 _))]]=_;rw[List.drop_zero,List.drop_zero,List.take_of_length_le (by simp[l.st]),List.take_of_length_le (by simp[l.sr])]) rfl (qJ true true m.swp (by rw[l.sr];omega)) rfl ?_;conv=>whnf
 refine CondP.mk (fun h2=>?_) (fun h2=>?_)<;>conv=>whnf
 ·have h2:¬aN m.swp.rf<m.swp.rf.length:=fun c=>by
   have:=oi.2 c;have h2:iu m.swp.rf=0:=by simpa using h2
   omega
  rw[bR,if_neg h,if_neg h2];exact⟨rfl,rfl⟩
 have h2:aN m.swp.rf<m.swp.rf.length:=by
  have h2:¬iu m.swp.rf=0:=by simpa using h2
  exact oi.1 (by omega)
 rw[bR,if_neg h,if_pos h2];simp only[Option.getD_some,Option.isSome_some];rw[w.swp.rf]at h2;refine aa (fun s:Mem×DTs=>(1,.v (.one (dI but)))::(2,.v (.one (.ptr 5 0 0)))::(4,.v (.one (.ptr 6 0 0)))::s.2) (fun s=>hW s.1) (fun _=>7)
  (fun s=>Wf s.1∧aN s.1.swp.rf<12∧eR s.1 but=eR m but) (fun s=>mu s.1 but) (m,[(20,.v (.one (.sc (.bool (decide ((iu m.swp.rf:Int)=0))))))]) ⟨w,h2,rfl⟩ rfl rfl rfl fun s hs=>?_
 clear l w h h2;obtain⟨s,rest⟩:=s;obtain⟨ws,hf,hr⟩:=hs;simp only at ws hf hr;obtain⟨a,ha⟩:=Int.eq_ofNat_of_zero_le ws.hd.1;have ha12:a<12:=by have:=ws.hd;omega
 conv=>whnf
 refine dm rfl ?_;conv=>whnf
 simp only[qf ws.hd];refine CondP.mk (fun h3=>?_) (fun h3=>?_)<;>conv=>whnf
 ·have h3:s.hd=but:=by simpa using h3
  have hc:clk s but= .inl (dH s):=by rw[clk,if_pos h3]
  exact⟨(dH s,_),kH hc,⟨ws.hand,hf,by rw[←hr,jH hc]⟩,rfl,rfl,rfl⟩
 have h3:¬s.hd=but:=by simpa using h3
 have w2:=ws.hand.calm s.hd;have l2:=w2.L;refine bp [.pass,.pass] [0,1,2,3,4] rfl rfl rfl rfl (aBp (dH s) s.hd ws.hand.L ws.hand.sl) rfl (aCK ws.hand.L l2 rfl) ?_;conv=>whnf
 refine CondP.mk (fun h4=>?_) (fun h4=>?_)<;>conv=>whnf
 ·have hc:clk s but= .inl (d8 (dH s) s.hd):=by rw[clk,if_neg h3,if_pos (show dK 1 s.hd s.sp=true from h4)]
  exact⟨(d8 (dH s) s.hd,_),kH hc,⟨w2,hf,by rw[←hr,jH hc]⟩,rfl,rfl,rfl⟩
 have h4:¬dK 1 s.hd s.sp=true:=by rw[show dK 1 s.hd s.sp=false from h4];decide
 have hc:clk s but= .inr (eM (d8 (dH s) s.hd) s.hd.toNat):=by rw[clk,if_neg h3,if_neg h4]
 rw[←hr,la hc];have hf2:aN (d8 (dH s) s.hd).swp.rf<12:=hf;have hto:s.hd.toNat=a:=by omega
 rw[hto];generalize hs2:d8 (dH s) s.hd=s2 at*;have hh2:(dH s).hd=s2.hd:=by rw[←hs2];rfl
 simp only[hh2,ha];refine aC (k:=a) rfl rfl rfl ha12 ?_;conv=>whnf
 refine bq rfl rfl rfl (aW (row:=rI (s2.ram.rf[a]'(by rw[l2.rr];exact ha12))) (by simp[l2.rr,ha12]) rfl rfl rfl) rfl ?_;conv=>whnf
 refine aC (k:=a) rfl rfl rfl ha12 ?_;conv=>whnf
 refine bq rfl rfl rfl (aW (row:=rS (s2.ram.tx[a]'(by rw[l2.rt];exact ha12))) (by simp[l2.rt,ha12]) rfl rfl rfl) rfl ?_;conv=>whnf
 refine bp [.pass,.pass] [2,3] rfl rfl rfl rfl (nT s2.swp (s2.ram.tx[a]'(by rw[l2.rt];exact ha12)) l2.st l2.sr hf2) rfl ((aI (sz:=1) (es:=(ab s2.swp (aN s2.swp.rf) (s2.ram.tx[a]'(by rw[l2.rt];exact ha12)) 1).tx.map rS) (es0:=s2.swp.tx.map rS) (ov0:=[]) rfl rfl (by simp[ab])).trans ((aI (sz:=1) (es:=(ab s2.swp (aN s2.swp.rf) (s2.ram.tx[a]'(by rw[l2.rt];exact ha12)) 1).rf.map rI) (es0:=s2.swp.rf.map rI) (ov0:=[]) rfl rfl (by simp[ab])).trans rfl)) ?_;conv=>whnf
 refine aC (k:=aN s2.swp.rf) rfl rfl rfl hf2 ?_;conv=>whnf
 refine aG rfl rfl rfl (by simpa [ab,l2.sr]using hf2) (by decide) ?_;conv=>whnf
 rw[take_set (by rw[l2.sr];exact hf2)];have l3:Lw {s2 with swp:=ab s2.swp (aN s2.swp.rf) (s2.ram.tx[a]'(by rw[l2.rt];exact ha12)) (s2.ram.rf[a]'(by rw[l2.rr];exact ha12))}:=⟨l2.rt,l2.rr,by simp[ab,l2.st],by simp[ab,l2.sr],l2.sp⟩;have l4:Lw ⟨s2.ram,ab s2.swp (aN s2.swp.rf) (s2.ram.tx[a]'(by rw[l2.rt];exact ha12)) (s2.ram.rf[a]'(by rw[l2.rr];exact ha12)),az 1 a (cC 2 (aN s2.swp.rf)) s2.sp,s2.hd⟩:=⟨l3.rt,l3.rr,l3.st,l3.sr,by simp[az,l2.sp]⟩;refine bp [.pass,.pass,.pass,.pass,.pass] [0,1,2,3,4] rfl rfl rfl rfl (wQ {s2 with swp:=ab s2.swp (aN s2.swp.rf) (s2.ram.tx[a]'(by rw[l2.rt];exact ha12)) (s2.ram.rf[a]'(by rw[l2.rr];exact ha12))} 1 a 2 (aN s2.swp.rf) l3 w2.sl) rfl (aCK l3 l4 rfl) ?_;conv=>whnf
 refine aC (k:=a) rfl rfl rfl ha12 ?_;conv=>whnf
 refine aG rfl rfl rfl (by simpa [l2.rr]using ha12) (by decide) ?_;conv=>whnf
 refine aC (k:=a) rfl rfl rfl ha12 ?_;conv=>whnf
 refine aG rfl rfl rfl (by simpa [l2.rt]using ha12) (by decide) ?_;conv=>whnf
 refine⟨rfl,?_⟩;rw[jB (by rw[l2.rr];exact ha12),gB (by rw[l2.rt];exact ha12)];have e1:s2.ram.tx[a]?.getD []=s2.ram.tx[a]'(by rw[l2.rt];exact ha12):=by simp[l2.rt,ha12]
 have e2:s2.ram.rf[a]?.getD 0=s2.ram.rf[a]'(by rw[l2.rr];exact ha12):=by simp[l2.rr,ha12]
 simp only[eM,e1,e2];rfl
end Go.Qm
namespace Go.Qm
open Go.Cq Go.Cq.D Go.RowKit Go.Proofs
set_option maxRecDepth 10000
theorem sd{sp:List Space}{i j:Nat}{x y:Slot}:aQ (aQ sp i j x) i j y=aQ sp i j y:=by
 simp only[aQ];refine List.ext_getElem (by simp) fun q h1 h2=>?_
 simp only[List.getElem_modify];split<;>simp
theorem aC4{l:List Slot}{j:Nat}{b:Bool}(h:j<l.length):(l.map rL).modify j (fun row=>row.set 3 (.sc (.bool b)))=(l.map rL).set j (rL {l[j]with us:=b}):=by rw[aV (aj (f:=rL) (List.getElem?_eq_getElem h))];rfl
theorem nb{sp:List Space}{i j:Nat}{x:Slot}(hi:i<sp.length)(hj:j<sp[i].sl.length):∃(h1:i< (aQ sp i j x).length)(h2:j< (aQ sp i j x)[i].sl.length),(aQ sp i j x)[i].sl[j]=x:=⟨by simpa [aQ]using hi,by simpa [aQ]using hj,by simp[aQ]⟩
theorem ru{S:List Space}{i j:Nat}{b:Bool}(hi:i<S.length)(hj:j<S[i].sl.length):(S.map rP).modify i (fun row=>row.set 2 (.sl 4 ((((S[i].sl.map rL).modify j (fun row=>row.set 3 (.sc (.bool b)))).drop 0).take S[i].sl.length)))=(aQ S i j {S[i].sl[j]with us:=b}).map rP:=by rw[List.drop_zero,List.take_of_length_le (by simp),aC4 hj];exact ck hi
set_option maxHeartbeats 8000000 in
theorem vh(m:Mem)(i j:Nat)(w:Wf m)(hi:i<m.sp.length)(hj:j<m.sp[i].sl.length):c6 Try.prog 147 [.agg (cW m.hd),.one (dI i),.one (dI j)] (hM m) 5
  fun x H'=>x= .tup [.agg (cW ((b7 m i j).getD m).hd),.one (dB (b7 m i j).isSome)]∧H'=hM ((b7 m i j).getD m):=by
 refine aK hmix Try.func147 ok147 ?_;have l:=w.L;have hi5:i<5:=by rw[←l.sp];exact hi
 have hg:=aj (f:=rP) (List.getElem?_eq_getElem hi);have hx:=dM hi hj;conv=>whnf
 refine aC (k:=i) rfl rfl rfl hi5 ?_;conv=>whnf
 refine dV (i:=i) (k:=2) (sz':=4) (es':=m.sp[i].sl.map rL) m.sp[i].sl.length rfl rfl rfl (aW hg rfl rfl rfl) rfl (by simp) ?_;conv=>whnf
 refine aC (k:=j) rfl rfl rfl hj ?_;conv=>whnf
 refine ry (row:=rL (ae m i j)) rfl rfl rfl (by rw[hx];simp[hj]) (eV _) rfl rfl ?_;conv=>whnf
 refine aX (i:=i) (k:=2) (g':=7) (lo:=0) (len:=m.sp[i].sl.length) (es2:=m.sp.map rP) (ov2:=[]) rfl (bZ hg (by simp[rP]) (by simp only[ai,if_true];rfl)) rfl rfl (by rw[List.drop_zero,bg];exact f7 hi) (by simp only[bJ,if_true];rfl) ?_;conv=>whnf
 obtain⟨s1,s2⟩:=w.slot hi hj;have skd:(ae m i j).kd=0∨(ae m i j).kd=1∨(ae m i j).kd=2:=by rw[hx];exact w.kd _ (List.getElem_mem hi) _ (List.getElem_mem hj)
 refine CondP.mk (fun c1=>?_) (fun c1=>?_)<;>conv=>whnf
 ·have c1:¬(ae m i j).kd=1:=by simpa using c1
  have hcall:=qE m (-1) w;cases hr:bR m (-1)with
  |none=>
   have hb:b7 m i j=none:=by rw[b7,if_neg c1,hr];rfl
   rw[hr]at hcall;refine bp (r:=.tup [.agg (cW m.hd),.one (dB false)]) (Hr:=hM m) [.pass,.pass] [0,1,2,3,4] rfl rfl rfl rfl hcall rfl (sT l l rfl) ?_
   (conv=>whnf)<;>repeat' first|(refine aF ?_;conv=>whnf)|(refine aD ?_;conv=>whnf)
   rw[hb];exact⟨rfl,rfl⟩
  |some m1=>
   obtain⟨w1,hf⟩:=w.bR hr;have l1:=w1.L;have ha:=cN w hr;obtain⟨hi1,hj1,ex, -⟩:=f8 ha hi hj (.inl c1);have hg1:=aj (f:=rP) (List.getElem?_eq_getElem hi1);rw[hr]at hcall;refine bp (r:=.tup [.agg (cW m1.hd),.one (dB true)]) (Hr:=hM m1) [.pass,.pass] [0,1,2,3,4] rfl rfl rfl rfl hcall rfl (sT l l1 rfl) ?_
   (conv=>whnf)<;>repeat' first|(refine aF ?_;conv=>whnf)|(refine aD ?_;conv=>whnf)
   refine CondP.mk (fun c0=>?_) (fun c0=>?_)<;>conv=>whnf
   ·have c0:(ae m i j).kd=0:=by simpa using c0
    have hb:b7 m i j=some {m1 with ram:=ab m1.ram (aN m1.ram.rf) jT 1,sp:=aQ m1.sp i j ⟨1,aN m1.ram.rf,true,true⟩}:=by rw[b7,if_neg c1,hr,Option.map_some,if_pos c0]
    refine aB [] rfl rfl rfl yO rfl ?_;conv=>whnf
    refine bp [.pass,.pass] [0,1] rfl rfl rfl rfl (nT m1.ram jT l1.rt l1.rr hf) rfl ((aI (sz:=1) (es:=(ab m1.ram (aN m1.ram.rf) jT 1).tx.map rS) (es0:=m1.ram.tx.map rS) (ov0:=[]) rfl rfl (by simp[ab])).trans ((aI (sz:=1) (es:=(ab m1.ram (aN m1.ram.rf) jT 1).rf.map rI) (es0:=m1.ram.rf.map rI) (ov0:=[]) rfl rfl (by simp[ab])).trans rfl)) ?_;conv=>whnf
    refine aC (k:=i) rfl rfl rfl hi5 ?_;conv=>whnf
    refine dV (i:=i) (k:=2) (sz':=4) (es':=m1.sp[i].sl.map rL) m1.sp[i].sl.length rfl rfl rfl (aW hg1 rfl rfl rfl) rfl (by simp) ?_;conv=>whnf
    refine aC (k:=j) rfl rfl rfl hj1 ?_;conv=>whnf
    refine dT (row':=rL ⟨1,aN m1.ram.rf,true,false⟩) rfl rfl rfl (by simpa using hj1) (iO (fun _=>rfl)) (eV _) rfl rfl rfl ?_;conv=>whnf
    refine aX (i:=i) (k:=2) (g':=7) (lo:=0) (len:=m1.sp[i].sl.length) (es2:=(aQ m1.sp i j ⟨1,aN m1.ram.rf,true,false⟩).map rP) (ov2:=[]) rfl (bZ hg1 (by simp[rP]) (by simp only[ai,if_true];rfl)) rfl rfl (by rw[List.drop_zero,List.take_of_length_le (by simp)];exact ck hi1) (by simp only[bJ,if_true];rfl) ?_;conv=>whnf
    obtain⟨hi2,hj2,e2⟩:=nb (x:=⟨1,aN m1.ram.rf,true,false⟩) hi1 hj1;have hg2:=aj (f:=rP) (List.getElem?_eq_getElem hi2);refine aC (k:=i) rfl rfl rfl hi5 ?_;conv=>whnf
    refine dV (i:=i) (k:=2) (sz':=4) (es':=(aQ m1.sp i j ⟨1,aN m1.ram.rf,true,false⟩)[i].sl.map rL) (aQ m1.sp i j ⟨1,aN m1.ram.rf,true,false⟩)[i].sl.length rfl rfl rfl (aW hg2 rfl rfl rfl) rfl (by simp) ?_;conv=>whnf
    refine aC (k:=j) rfl rfl rfl hj2 ?_;conv=>whnf
    refine aG rfl rfl rfl (by simpa using hj2) (by decide) ?_;conv=>whnf
    refine aX (i:=i) (k:=2) (g':=7) (lo:=0) (len:=(aQ m1.sp i j ⟨1,aN m1.ram.rf,true,false⟩)[i].sl.length) (es2:=(aQ m1.sp i j ⟨1,aN m1.ram.rf,true,true⟩).map rP) (ov2:=[]) rfl (bZ hg2 (by simp[rP]) (by simp only[ai,if_true];rfl)) rfl rfl (by rw[ru hi2 hj2,e2,sd]) (by simp only[bJ,if_true];rfl) ?_;conv=>whnf
    rw[hb];exact⟨rfl,rfl⟩
   ·have c0:¬(ae m i j).kd=0:=by simpa using c0
    have hk2:(ae m i j).kd=2:=by omega
    obtain⟨f,e1,hf12,e3,e4⟩:=w1.aA1 ha hi hj hk2;have hft:f<m1.swp.tx.length:=by rw[l1.st];exact hf12
    have hfr:f<m1.swp.rf.length:=by rw[l1.sr];exact hf12
    have gt:m1.swp.tx[f]?.getD []=m1.swp.tx[f]:=by simp[hft]
    have gr:m1.swp.rf[f]?.getD 0=m1.swp.rf[f]:=by simp[hfr]
    have hb:b7 m i j=some ⟨ab m1.ram (aN m1.ram.rf) m1.swp.tx[f] m1.swp.rf[f],ab m1.swp f [] 0,aQ (az 2 f (cC 1 (aN m1.ram.rf)) m1.sp) i j ⟨1,aN m1.ram.rf,(ae m i j).ow,true⟩,m1.hd⟩:=by rw[b7,if_neg c1,hr,Option.map_some,if_neg c0,e1,Int.toNat_natCast,gt,gr]
    refine aC (k:=f) rfl rfl (by show some _=some _;rw[e1]) hf12 ?_;conv=>whnf
    refine bq rfl rfl rfl (aW (row:=rS m1.swp.tx[f]) (by simp[hft]) rfl rfl rfl) rfl ?_;conv=>whnf
    refine bp [.pass,.pass] [0,1] rfl rfl rfl rfl (nT m1.ram m1.swp.tx[f] l1.rt l1.rr hf) rfl ((aI (sz:=1) (es:=(ab m1.ram (aN m1.ram.rf) m1.swp.tx[f] 1).tx.map rS) (es0:=m1.ram.tx.map rS) (ov0:=[]) rfl rfl (by simp[ab])).trans ((aI (sz:=1) (es:=(ab m1.ram (aN m1.ram.rf) m1.swp.tx[f] 1).rf.map rI) (es0:=m1.ram.rf.map rI) (ov0:=[]) rfl rfl (by simp[ab])).trans rfl)) ?_;conv=>whnf
    refine aC (k:=f) rfl rfl (by show some _=some _;rw[e1]) hf12 ?_;conv=>whnf
    refine bq rfl rfl rfl (aW (row:=rI m1.swp.rf[f]) (by simp[hfr]) rfl rfl rfl) rfl ?_;conv=>whnf
    refine aC (k:=aN m1.ram.rf) rfl rfl rfl hf ?_;conv=>whnf
    refine aG rfl rfl rfl (by simpa [ab,l1.rr]using hf) (by decide) ?_;conv=>whnf
    rw[take_set (by rw[l1.rr];exact hf)];have l3:Lw ⟨ab m1.ram (aN m1.ram.rf) m1.swp.tx[f] m1.swp.rf[f],m1.swp,m1.sp,m1.hd⟩:=⟨by simp[ab,l1.rt],by simp[ab,l1.rr],l1.st,l1.sr,l1.sp⟩;have l4:Lw ⟨ab m1.ram (aN m1.ram.rf) m1.swp.tx[f] m1.swp.rf[f],m1.swp,az 2 f (cC 1 (aN m1.ram.rf)) m1.sp,m1.hd⟩:=⟨l3.rt,l3.rr,l3.st,l3.sr,by simp[az,l1.sp]⟩;simp only[e1];refine bp [.pass,.pass,.pass,.pass,.pass] [0,1,2,3,4] rfl rfl rfl rfl (wQ ⟨ab m1.ram (aN m1.ram.rf) m1.swp.tx[f] m1.swp.rf[f],m1.swp,m1.sp,m1.hd⟩ 2 f 1 (aN m1.ram.rf) l3 w1.sl) rfl (sT l3 l4 rfl) ?_;conv=>whnf
    refine aC (k:=f) rfl rfl rfl hf12 ?_;conv=>whnf
    refine aG rfl rfl rfl (by simpa using hfr) (by decide) ?_;conv=>whnf
    refine aC (k:=f) rfl rfl rfl hf12 ?_;conv=>whnf
    refine aG rfl rfl rfl (by simpa using hft) (by decide) ?_;conv=>whnf
    rw[jB hfr,gB hft];obtain⟨S,hS⟩:∃S,az 2 f (cC 1 (aN m1.ram.rf)) m1.sp=S:=⟨_,rfl⟩;have hi2:i<S.length:=by rw[←hS];simpa [az]using hi1
    have hj2:j<S[i].sl.length:=by simp only[←hS];simpa [az]using hj1
    have e2:S[i].sl[j]=cC 1 (aN m1.ram.rf) (ae m i j):=by simp only[←hS,az,List.getElem_map,ex];rw[if_pos ⟨hk2,e1⟩]
    rw[hS]at hb ⊢;have hg2:=aj (f:=rP) (List.getElem?_eq_getElem hi2);refine aC (k:=i) rfl rfl rfl hi5 ?_;conv=>whnf
    refine dV (i:=i) (k:=2) (sz':=4) (es':=S[i].sl.map rL) S[i].sl.length rfl rfl rfl (aW hg2 rfl rfl rfl) rfl (by simp) ?_;conv=>whnf
    refine aC (k:=j) rfl rfl rfl hj2 ?_;conv=>whnf
    refine aG rfl rfl rfl (by simpa using hj2) (by decide) ?_;conv=>whnf
    refine aX (i:=i) (k:=2) (g':=7) (lo:=0) (len:=S[i].sl.length) (es2:=(aQ S i j ⟨1,aN m1.ram.rf,(ae m i j).ow,true⟩).map rP) (ov2:=[]) rfl (bZ hg2 (by simp[rP]) (by simp only[ai,if_true];rfl)) rfl rfl (by rw[ru hi2 hj2,e2];rfl) (by simp only[bJ,if_true];rfl) ?_;conv=>whnf
    rw[hb];exact⟨rfl,rfl⟩
 ·have c1:(ae m i j).kd=1:=by simpa using c1
  have hb:b7 m i j=some {m with sp:=aQ m.sp i j {ae m i j with us:=true}}:=by rw[b7,if_pos c1]
  refine aC (k:=i) rfl rfl rfl hi5 ?_;conv=>whnf
  refine dV (i:=i) (k:=2) (sz':=4) (es':=m.sp[i].sl.map rL) m.sp[i].sl.length rfl rfl rfl (aW hg rfl rfl rfl) rfl (by simp) ?_;conv=>whnf
  refine aC (k:=j) rfl rfl rfl hj ?_;conv=>whnf
  refine aG rfl rfl rfl (by simpa using hj) (by decide) ?_;conv=>whnf
  refine aX (i:=i) (k:=2) (g':=9) (lo:=0) (len:=m.sp[i].sl.length) (es2:=(aQ m.sp i j {ae m i j with us:=true}).map rP) (ov2:=[]) rfl (bZ hg (by simp[rP]) (by simp only[ai,if_true];rfl)) rfl rfl (by rw[hx];exact ru hi hj) (by simp only[bJ,if_true];rfl) ?_;conv=>whnf
  rw[hb];exact⟨rfl,rfl⟩
end Go.Qm
namespace Go.Qm
open Go.Cq Go.Cq.D Go.RowKit Go.Proofs
set_option maxRecDepth 10000
theorem xD(a:Int):af Try.prog 79 [.one (dI a)] (.v (.one (dB (inB a 0 63)))):=by
 refine aK hmix Try.func79 ok79 ?_;conv=>whnf
 refine aB [.pass,.pass,.pass] rfl rfl rfl (gh _ _ _) rfl ?_;conv=>whnf
 exact⟨rfl,rfl⟩
theorem aDZ{a:Nat}(h:a≤1000):IntKind.wrap .i64 ((a:Int).tdiv 4)=((a / 4:Nat):Int):=by rw[Int.tdiv_eq_ediv_of_nonneg (by omega),wrap64 (by omega) (by omega)];omega
theorem aCh{a:Nat}:(a:Int).tmod 4=((a % 4:Nat):Int):=by rw[Int.tmod_eq_emod_of_nonneg (by omega)];omega
end Go.Qm
namespace Go.Qm
open Go.Cq Go.Cq.D Go.RowKit Go.Proofs
set_option maxRecDepth 10000
def oQ(t:Str)(k:Nat)(b:Int):Str:=t.set k (tB b)
theorem w9{ts:DTs}{y:Opd}{d lim k:Nat}(h:fG ts y=some (k:Int))(hk:k≤lim):cj ts (some y) d lim=some k:=by simp only[cj,h];rw[if_pos ⟨by omega,by omega⟩,Int.toNat_natCast]
theorem aCI{P:Prg}{ts:DTs}{H:DH}{n:Nat}{K:DT→DTs→DH→Nat→List Nat→Prop}{x:Opd}{lo hi:Option Opd}{s:Str}{l h:Nat}(hx:evS ts x=some (.str s))(hh:cj ts hi s.length s.length=some h)(hl:cj ts lo 0 h=some l)(hK:K (.v (.one (.sc (.str ((s.drop l).take (h-l)))))) ts H n []):OpP P (.fl (.sliceS x lo hi)) ts H n K:=dm (by simp only[dfl,hx,hh,hl];rfl) hK
theorem zZ{t:Str}{k:Nat}{b:Int}(hk:k<t.length):(t.map iJ).modify k (fun row=>row.set 0 (.sc (.int .u8 (IntKind.wrap .u8 b))))=(oQ t k b).map iJ:=by rw[aV (aj (f:=iJ) (List.getElem?_eq_getElem hk)),oQ,←map_set,mB];rfl
theorem wY(t:Str)(k:Nat)(b:Int)(hk:k<t.length):af Try.prog 94 [.one (.sc (.str t)),.one (dI k),.one (dI b)] (.v (.one (.sc (.str (oQ t k b))))):=by
 refine aK hmix Try.func94 ok94 ?_;conv=>whnf
 refine aDG rfl ?_;conv=>whnf
 refine aC (k:=k) rfl rfl rfl (by simpa using hk) ?_;conv=>whnf
 refine aG rfl rfl rfl (by simpa using hk) (by decide) ?_;conv=>whnf
 refine j8 rfl rfl (bs:=oQ t k b) (by simp only[List.drop_zero,bg];rw[zZ hk];simp[oQ,List.take_of_length_le]) ?_;conv=>whnf
 exact⟨rfl,rfl⟩
theorem aAI(t:Str)(k:Nat)(b:Int)(hk:k<t.length)(hl:t.length≤1000):af Try.prog 152 [.one (.sc (.str t)),.one (dI k),.one (dI b)] (.v (.one (.sc (.str (oQ t k b))))):=by
 refine aK hmix Try.func152 ok152 ?_;conv=>whnf
 refine aCI (s:=t) (h:=k) (l:=0) rfl (w9 (k:=k) rfl (by omega)) rfl ?_;conv=>whnf
 refine eZ rfl rfl rfl ?_;conv=>whnf
 refine j8 rfl rfl (bs:=[tB b]) (by simp[mB]) ?_;conv=>whnf
 refine rn (l:=t.take k) (m:=[tB b]) rfl rfl (by simp;omega) ?_;conv=>whnf
 have e1:IntKind.wrap .i64 ((k:Int)+1)=((k+1:Nat):Int):=wrap64 (by omega) (by omega);simp only[e1];refine aCI (s:=t) (h:=t.length) (l:=k+1) rfl rfl (w9 (k:=k+1) rfl (by omega)) ?_;conv=>whnf
 refine rn (l:=t.take k++[tB b]) (m:=(t.drop (k+1)).take (t.length-(k+1))) rfl rfl (by simp;omega) ?_;conv=>whnf
 refine⟨?_,rfl⟩;rw[List.take_of_length_le (l:=t.drop (k+1)) (by simp),oQ,List.set_eq_take_append_cons_drop,if_pos hk,List.append_assoc];rfl
end Go.Qm

