import Derived.Test.YthdipcbjhhopaaaOa
import Derived.Test.YthdipcbjhhopaaaOb
import Derived.Test.YthdipcbjhhopaaaOc
import Derived.Test.YthdipcbjhhopaaaOd
import Derived.ChangeBook
import Derived.WalkKit
import Derived.ProofKit
import Derived.OpenShut
import Derived.JoinedOf
namespace Go.Qm
open Go.Cq Go.Cq.D Go.RowKit Go.Proofs
set_option maxRecDepth 10000
theorem hmix:Try.prog.follows .mixedOrders=true:=by decide+kernel
theorem kO(a b c:Int):bC Try.prog 77 [.one (dI a),.one (dI b),.one (dI c)] (.v (.one (dB (inB a b c)))):=by
 refine aK hmix Try.func77 ok77 ?_;conv=>whnf
 refine CondP.mk (fun h=>?_) (fun h=>?_)<;>rw[h]<;>(conv=>whnf)<;>repeat' first|(refine aD ?_;conv=>whnf)|(refine aC ?_;conv=>whnf)
 ·refine⟨?_,rfl⟩;simp only[inB]at h ⊢;rw[h];rfl
 ·refine⟨?_,rfl⟩;simp only[inB]at h ⊢;rw[h];rfl
theorem i9(a b c:Int):bC Try.prog 87 [.one (dI a),.one (dI b),.one (dI c)] (.v (.one (dB (inB a b c)))):=by
 refine aK hmix Try.func87 ok87 ?_;conv=>whnf
 refine CondP.mk (fun h=>?_) (fun h=>?_)<;>rw[h]<;>(conv=>whnf)<;>repeat' first|(refine aD ?_;conv=>whnf)|(refine aC ?_;conv=>whnf)
 ·refine⟨?_,rfl⟩;simp only[inB]at h ⊢;rw[h];rfl
 ·refine⟨?_,rfl⟩;simp only[inB]at h ⊢;rw[h];rfl
theorem fY(a:Area):bC Try.prog 98 [.agg [dI a.fr,dI a.mn,dB a.wr,dB a.sh]] (.v (.one (dI (IntKind.wrap .i64 (a.fr+a.mn))))):=by
 refine aK hmix Try.func98 ok98 ?_;conv=>whnf
 exact⟨rfl,rfl⟩
theorem mo(a:Area):bC Try.prog 130 [.agg [dI a.fr,dI a.mn,dB a.wr,dB a.sh]] (.v (.one (dB (an a)))):=by
 refine aK hmix Try.func130 ok130 ?_;conv=>whnf
 refine aB [.pass,.pass,.pass] rfl rfl rfl (kO _ _ _) rfl ?_;conv=>whnf
 refine CondP.mk (fun h=>?_) (fun h=>?_)<;>rw[h]<;>(conv=>whnf)<;>repeat' first|(refine aD ?_;conv=>whnf)|(refine aC ?_;conv=>whnf)
 ·refine aB [.pass,.pass,.pass] rfl rfl rfl (kO _ _ _) rfl ?_;conv=>whnf
  refine⟨?_,rfl⟩;have hw:IntKind.wrap .i64 (16-a.fr)=16-a.fr:=by simp only[inB,Bool.and_eq_true,decide_eq_true_eq]at h;exact wrap64 (by omega) (by omega)
  rw[an,h,Bool.true_and];show DT.v (.one (dB (inB a.mn 1 (IntKind.wrap .i64 (16-a.fr)))))=_;rw[hw]
 ·refine⟨?_,rfl⟩;rw[an,h];rfl
theorem lO(a:Area):bC Try.prog 162 [.agg [dI a.fr,dI a.mn,dB a.wr,dB a.sh]] (.v (.one (dB (an a)))):=by
 refine aK hmix Try.func162 ok162 ?_;conv=>whnf
 refine aB [.pass,.pass,.pass] rfl rfl rfl (i9 _ _ _) rfl ?_;conv=>whnf
 refine CondP.mk (fun h=>?_) (fun h=>?_)<;>rw[h]<;>(conv=>whnf)<;>repeat' first|(refine aD ?_;conv=>whnf)|(refine aC ?_;conv=>whnf)
 ·refine aB [.pass,.pass,.pass] rfl rfl rfl (i9 _ _ _) rfl ?_;conv=>whnf
  refine⟨?_,rfl⟩;have hw:IntKind.wrap .i64 (16-a.fr)=16-a.fr:=by simp only[inB,Bool.and_eq_true,decide_eq_true_eq]at h;exact wrap64 (by omega) (by omega)
  rw[an,h,Bool.true_and];show DT.v (.one (dB (inB a.mn 1 (IntKind.wrap .i64 (16-a.fr)))))=_;rw[hw]
 ·refine⟨?_,rfl⟩;rw[an,h];rfl
theorem zy(b1 b2:Bool)(p:Pages)(k:Int)(hl:p.rf.length≤9223372036854775807):bC Try.prog 84 [.agg [.ro b1 1 (p.tx.map rS),.ro b2 1 (p.rf.map rI)],.one (dI k)] (.v (.one (dB (inB k 0 (p.rf.length-1)&&decide (0<p.rf[k.toNat]?.getD 0))))):=by
 refine aK hmix Try.func84 ok84 ?_;conv=>whnf
 refine aB [.pass,.pass,.pass] rfl rfl rfl (kO _ _ _) rfl ?_;conv=>whnf
 have hw:IntKind.wrap .i64 ((p.rf.map rI).length-1)=p.rf.length-1:=by rw[List.length_map];exact wrap64 (by omega) (by omega)
 refine CondP.mk (fun h=>?_) (fun h=>?_)<;>rw[h]<;>(conv=>whnf)<;>repeat' first|(refine aD ?_;conv=>whnf)|(refine aC ?_;conv=>whnf)
 ·have h':=h;rw[show IntKind.wrap .i64 _=_ from hw]at h';have hk:=h';simp only[inB,Bool.and_eq_true,decide_eq_true_eq]at hk;refine aI (k:=k.toNat) rfl (by show some k=_;congr 1;omega) (by simp;omega) ?_
  (conv=>whnf)<;>repeat' first|(refine aD ?_;conv=>whnf)|(refine aC ?_;conv=>whnf)
  have hlt:k.toNat<p.rf.length:=by omega
  refine aF rfl (r:=.one (dI (p.rf[k.toNat]?.getD 0))) (by simp[ak,rI,hlt,eI,dI]) ?_
  (conv=>whnf)<;>repeat' first|(refine aD ?_;conv=>whnf)|(refine aC ?_;conv=>whnf)
  refine⟨?_,rfl⟩;rw[h'];rfl
 ·rw[show IntKind.wrap .i64 _=_ from hw]at h;refine⟨?_,rfl⟩;rw[h];rfl
end Go.Qm
namespace Go.Qm
open Go.Cq Go.Cq.D Go.RowKit Go.Proofs
set_option maxRecDepth 10000
theorem up{n i:Nat}(h:i<n)(hn:n≤4611686018427387904):IntKind.wrap .i64 ((i:Int)+1)=((i+1:Nat):Int):=wrap64 (by omega) (by omega)
theorem cC{ts:List Str}{ns:List Int}{i:Nat}(h1:i<ts.length)(h2:i<ns.length):e9 (ts.drop i) (ns.drop i)=(eJ ts[i] ns[i]&&e9 (ts.drop (i+1)) (ns.drop (i+1))):=by rw[List.drop_eq_getElem_cons h1,List.drop_eq_getElem_cons h2,e9]
theorem pN(b1 b2:Bool)(p:Pages)(h1:p.tx.length≤4611686018427387904)(h2:p.rf.length≤4611686018427387904):bC Try.prog 82 [.agg [.ro b1 1 (p.tx.map rS),.ro b2 1 (p.rf.map rI)]] (.v (.one (dB (cR p)))):=by
 refine aK hmix Try.func82 ok82 ?_;conv=>whnf
 refine CondP.mk (fun h=>?_) (fun h=>?_)<;>rw[h]<;>(conv=>whnf)<;>repeat' first|(refine aD ?_;conv=>whnf)|(refine aC ?_;conv=>whnf)
 ·refine⟨?_,rfl⟩;have:¬p.tx.length=p.rf.length:=by simp at h;omega
  simp[cR,this,dB]
 ·have hl:p.tx.length=p.rf.length:=by simp at h;omega
  refine aB [.pass,.pass,.pass] rfl rfl rfl (kO _ _ _) rfl ?_
  (conv=>whnf)<;>repeat' first|(refine aD ?_;conv=>whnf)|(refine aC ?_;conv=>whnf)
  refine CondP.mk (fun h=>?_) (fun h=>?_)<;>conv=>whnf
  ·refine⟨?_,rfl⟩;have h:inB p.tx.length 1 12=false:=by simpa using h
   simp[cR,h,dB]
  ·have hb:inB p.tx.length 1 12=true:=by simpa using h
   refine aq (fun i:Nat=>[(1,.v (.one (.ptr 0 0 0))),(21,.v (.one (.ro b2 1 (p.rf.map rI)))),(22,.v (.one (dI (p.rf.map rI).length))),(23,.v (.one (dI i)))]) (fun _=>[(0,.box [.ro b1 1 (p.tx.map rS),.ro b2 1 (p.rf.map rI)])]) (fun _=>1)
    (fun i=>i≤p.rf.length∧cR p=e9 (p.tx.drop i) (p.rf.drop i)) (fun i=>p.rf.length-i) 0 ⟨by omega,by simp[cR,hl,hl▸hb]⟩ rfl rfl rfl fun i hi=>?_
   conv=>whnf
   refine CondP.mk (fun h=>?_) (fun h=>?_)<;>conv=>whnf
   ·have hi2:i<p.rf.length:=by simpa using h
    have hi1:i<p.tx.length:=by omega
    refine aI (k:=i) rfl rfl (by simpa using hi2) ?_;conv=>whnf
    refine aF rfl (r:=.one (dI p.rf[i])) (by simp[ak,rI,hi2,eI,dI]) ?_;conv=>whnf
    refine CondP.mk (fun h0=>?_) (fun h0=>?_)<;>conv=>whnf
    all_goals
     refine aB [.pass,.pass,.pass] rfl rfl rfl (kO _ _ _) rfl ?_;conv=>whnf
     refine CondP.mk (fun h9=>?_) (fun h9=>?_)<;>rw[h9]<;>(conv=>whnf)<;>repeat' first|(refine aD ?_;conv=>whnf)|(refine aC ?_;conv=>whnf)
    ·refine⟨?_,rfl⟩;have h9:inB p.rf[i] 0 99=false:=by simpa using h9
     rw[hi.2,cC hi1 hi2,eJ,h9];rfl
    ·have h9:inB p.rf[i] 0 99=true:=by simpa using h9
     refine aI (k:=i) rfl rfl (by simpa using hi1) ?_
     (conv=>whnf)<;>repeat' first|(refine aD ?_;conv=>whnf)|(refine aC ?_;conv=>whnf)
     refine aF rfl (r:=.one (.sc (.str p.tx[i]))) (by simp[ak,rS,hi1,eS]) ?_
     (conv=>whnf)<;>repeat' first|(refine aD ?_;conv=>whnf)|(refine aC ?_;conv=>whnf)
     refine CondP.mk (fun h8=>?_) (fun h8=>?_)<;>conv=>whnf
     ·refine⟨?_,rfl⟩;rw[hi.2,cC hi1 hi2,eJ,h9];simp at h0 h8;simp[h0,h8,dB]
     ·refine⟨i+1,by omega,⟨by omega,?_⟩,?_,rfl,rfl⟩
      ·rw[hi.2,cC hi1 hi2,eJ,h9];simp at h0 h8;simp[h0,h8]
      ·rw[←up hi2 h2];rfl
    ·refine⟨?_,rfl⟩;have h9:inB p.rf[i] 0 99=false:=by simpa using h9
     rw[hi.2,cC hi1 hi2,eJ,h9];rfl
    ·have h9:inB p.rf[i] 0 99=true:=by simpa using h9
     refine aI (k:=i) rfl rfl (by simpa using hi1) ?_
     (conv=>whnf)<;>repeat' first|(refine aD ?_;conv=>whnf)|(refine aC ?_;conv=>whnf)
     refine aF rfl (r:=.one (.sc (.str p.tx[i]))) (by simp[ak,rS,hi1,eS]) ?_
     (conv=>whnf)<;>repeat' first|(refine aD ?_;conv=>whnf)|(refine aC ?_;conv=>whnf)
     refine CondP.mk (fun h8=>?_) (fun h8=>?_)<;>conv=>whnf
     ·refine⟨?_,rfl⟩;rw[hi.2,cC hi1 hi2,eJ,h9];simp at h0 h8;simp[h0,h8,dB]
     ·refine⟨i+1,by omega,⟨by omega,?_⟩,?_,rfl,rfl⟩
      ·rw[hi.2,cC hi1 hi2,eJ,h9];simp at h0 h8;simp[h0,h8]
      ·rw[←up hi2 h2];rfl
   ·refine⟨?_,rfl⟩;have:i=p.rf.length:=by
                   have:¬i<p.rf.length:=by simpa using h
                   omega
    subst this;have:=hi.2;rw[List.drop_eq_nil_of_le (by omega),e9]at this;rw[this];rfl
    all_goals simp
end Go.Qm
namespace Go.Qm
open Go.Cq Go.Cq.D Go.RowKit Go.Proofs
set_option maxRecDepth 10000
def aA(a:Area):List DC:=[dI a.fr,dI a.mn,dB a.wr,dB a.sh]
theorem ldA{b:Bool}{l:List Area}{i:Nat}(h:i<l.length):(ak b (l.map rA) i 0 4).map DV.agg=some (.agg (aA l[i])):=by simp[ak,rA,h,eI,eB,aA,dI,dB]
theorem ix{i:Nat}{n:Nat}(h:i<n)(hn:n≤4611686018427387904)(hi:i≠0):some (IntKind.wrap .i64 ((i:Int)-1))=some (((i-1:Nat):Nat):Int):=by rw[wrap64 (by omega) (by omega)];congr 1;omega
theorem aDJ{a:Area}(h:an a=true):IntKind.wrap .i64 (a.fr+a.mn)=a.fr+a.mn:=by have:=au.1 h;exact wrap64 (by omega) (by omega)
set_option maxHeartbeats 2000000 in
theorem iG(b:Bool)(l:List Area)(hl:l.length≤4611686018427387904):bC Try.prog 83 [.one (.ro b 4 (l.map rA))] (.v (.one (dB (aO l)))):=by
 refine aK hmix Try.func83 ok83 ?_;conv=>whnf
 refine aq (fun i:Nat=>[(0,.v (.one (.ro b 4 (l.map rA)))),(5,.v (.one (.ro b 4 (l.map rA)))),(6,.v (.one (dI (l.map rA).length))),(7,.v (.one (dI i)))]) (fun _=>[]) (fun _=>0)
  (fun i=>i≤l.length∧aO l=(dp l i&&decide (l.length≤6))∧∀j(hj:j<l.length),j<i→an l[j]=true) (fun i=>l.length-i) 0 ⟨by omega,rfl,by omega⟩ rfl rfl rfl fun i hi=>?_
 obtain⟨hi1,hi2,hi3⟩:=hi;conv=>whnf
 refine CondP.mk (fun h=>?_) (fun h=>?_)<;>conv=>whnf
 ·have hlt:i<l.length:=by simpa using h
  refine aI (k:=i) rfl rfl (by simpa using hlt) ?_;conv=>whnf
  refine aF rfl (r:=.agg (aA l[i])) (ldA hlt) ?_;conv=>whnf
  refine aB [.pass] rfl rfl rfl (mo l[i]) rfl ?_;conv=>whnf
  have fin:an l[i]=false→DT.v (DV.one (DC.sc (.bool false)))= .v (.one (dB (aO l))):=fun e=>by rw[hi2,dT hlt,e];rfl
  refine CondP.mk (fun h1=>?_) (fun h1=>?_)<;>rw[h1]<;>(conv=>whnf)<;>repeat' first|(refine aD ?_;conv=>whnf)|(refine aC ?_;conv=>whnf)
  ·exact⟨fin (by simpa using h1),rfl⟩
  ·have ho:an l[i]=true:=by simpa using h1
   have hstep:decide (0< (i:Int))=false∨kI l i l[i]=true→aO l=(dp l (i+1)&&decide (l.length≤6)):=fun e=>by
    rw[hi2,dT hlt,ho];rcases e with e|e
    ·have:i=0:=by simp at e;omega
     simp[this]
    ·rw[e];simp
   have hall:∀j(hj:j<l.length),j<i+1→an l[j]=true:=fun j hj h2=>by
    by_cases e:j=i
    ·subst e;exact ho
    ·exact hi3 j hj (by omega)
   refine CondP.mk (fun h2=>?_) (fun h2=>?_)<;>rw[h2]<;>(conv=>whnf)<;>repeat' first|(refine aD ?_;conv=>whnf)|(refine aC ?_;conv=>whnf)
   ·have hi0:i≠0:=by simp at h2;omega
    have hlt':i-1<l.length:=by omega
    refine aI (k:=i-1) rfl (ix hlt hl hi0) (by simpa using hlt') ?_
    (conv=>whnf)<;>repeat' first|(refine aD ?_;conv=>whnf)|(refine aC ?_;conv=>whnf)
    refine aF rfl (r:=.agg (aA l[i-1])) (ldA hlt') ?_
    (conv=>whnf)<;>repeat' first|(refine aD ?_;conv=>whnf)|(refine aC ?_;conv=>whnf)
    refine aB [.pass] rfl rfl rfl (fY l[i-1]) rfl ?_
    (conv=>whnf)<;>repeat' first|(refine aD ?_;conv=>whnf)|(refine aC ?_;conv=>whnf)
    have he:=aDJ (hi3 (i-1) hlt' (by omega));rw[he];refine CondP.mk (fun h3=>?_) (fun h3=>?_)<;>conv=>whnf
    ·refine⟨?_,rfl⟩;rw[hi2,dT hlt,ho,kI,List.getElem?_eq_getElem hlt'];have:¬l[i-1].fr+l[i-1].mn≤l[i].fr:=by simpa using h3
     simp[this,hi0,dB]
    ·refine⟨i+1,by omega,⟨by omega,hstep (.inr ?_),hall⟩,?_,rfl,rfl⟩
     ·rw[kI,List.getElem?_eq_getElem hlt'];simpa using h3
     ·rw[←up hlt hl];rfl
   ·refine⟨i+1,by omega,⟨by omega,hstep (.inl h2),hall⟩,?_,rfl,rfl⟩;rw[←up hlt hl];rfl
 ·refine⟨?_,rfl⟩;have:i=l.length:=by
               have:¬i<l.length:=by simpa using h
               omega
  subst this;rw[hi2,dp,List.drop_length];simp[cA,dB];omega
end Go.Qm
namespace Go.Qm
open Go.Cq Go.Cq.D Go.RowKit Go.Proofs
set_option maxRecDepth 10000
end Go.Qm
namespace Go.Qm
open Go.Cq Go.Cq.D Go.RowKit Go.Proofs
set_option maxRecDepth 10000
def aL(a:Slot):List DC:=[dI a.kd,dI a.pl,dB a.ow,dB a.us]
def aP(b:Bool)(s:Space):List DC:=[dB s.lv,.ro b 4 (s.ar.map rA),.ro b 4 (s.sl.map rL)]
theorem ldL{b:Bool}{l:List Slot}{i:Nat}(h:i<l.length):(ak b (l.map rL) i 0 4).map DV.agg=some (.agg (aL l[i])):=by simp[ak,rL,h,eI,eB,aL,dI,dB]
theorem ldP{b:Bool}{l:List Space}{i:Nat}(h:i<l.length):(ak b (l.map rP) i 0 3).map DV.agg=some (.agg (aP b l[i])):=by simp[ak,rP,h,eB,aP,dB]
def p5(n:Nat)(l:List Space):Prop:=∀s,s∈l→s.ar.length≤n∧s.sl.length≤n
structure Mem.fits(n:Nat)(m:Mem):Prop where
 rt:m.ram.tx.length≤n
 rr:m.ram.rf.length≤n
 st:m.swp.tx.length≤n
 sr:m.swp.rf.length≤n
 sp:m.sp.length≤n
 ss:p5 n m.sp
def aM(b1 b2 b3 b4 b5:Bool)(m:Mem):DV:=.agg [.ro b1 1 (m.ram.tx.map rS),.ro b2 1 (m.ram.rf.map rI),.ro b3 1 (m.swp.tx.map rS),.ro b4 1 (m.swp.rf.map rI),.ro b5 3 (m.sp.map rP),dI m.hd]
end Go.Qm
namespace Go.Qm
open Go.Cq Go.Cq.D Go.RowKit Go.Proofs
set_option maxRecDepth 10000
end Go.Qm
namespace Go.Qm
open Go.Cq Go.Cq.D Go.RowKit Go.Proofs
set_option maxRecDepth 10000
end Go.Qm
namespace Go.Qm
open Go.Cq Go.Cq.D Go.RowKit Go.Proofs
set_option maxRecDepth 10000
def oM(m:Mem):DV:=.agg [.own 1 (m.ram.tx.map rS),.own 1 (m.ram.rf.map rI),.own 1 (m.swp.tx.map rS),.own 1 (m.swp.rf.map rI),.own 3 (m.sp.map rP),dI m.hd]
end Go.Qm
namespace Go.Qm
open Go.Cq Go.Cq.D Go.RowKit Go.Proofs
set_option maxRecDepth 10000
end Go.Qm
namespace Go.Qm
open Go.Cq Go.Cq.D Go.RowKit Go.Proofs
set_option maxRecDepth 10000
end Go.Qm
namespace Go.Qm
open Go.Cq Go.Cq.D Go.RowKit Go.Proofs
set_option maxRecDepth 10000
theorem bE{es:List (List PV)}{i:Nat}{row:List PV}{f:List PV→List PV}(h:es[i]?=some row):es.modify i f=es.set i (f row):=by
 refine List.ext_getElem? fun j=>?_
 rw[List.getElem?_modify,List.getElem?_set];by_cases e:i=j
 ·subst e;obtain⟨hi,e⟩:=List.getElem?_eq_some_iff.1 h;rw[h,if_pos rfl,if_pos hi];simp
 ·rw[if_neg e];cases es[j]?<;>simp[e]
theorem av{α:Type}{f:α→List PV}{l:List α}{i:Nat}{a:α}(h:l[i]?=some a):(l.map f)[i]?=some (f a):=by simp[h]
theorem dD{α:Type}{f:α→List PV}(hf:∀a,(f a).length=4){l:List α}{i:Nat}:∀row,(l.map f)[i]?=some row→row.length=4:=by intro row h;obtain⟨a, -,rfl⟩:=List.mem_map.1 (List.mem_of_getElem? h);exact hf a
end Go.Qm
namespace Go.Qm
open Go.Cq Go.Cq.D Go.RowKit Go.Proofs
set_option maxRecDepth 10000
end Go.Qm
namespace Go.Qm
open Go.Cq Go.Cq.D Go.RowKit Go.Proofs
set_option maxRecDepth 10000
theorem q9(b:Bool)(l:List Area)(hl:l.length≤1048576):bC Try.prog 101 [.one (.ro b 4 (l.map rA))] (.v (.one (.own 4 (l.map rA)))):=by
 refine aK hmix Try.func101 ok101 ?_;have hl':(l.map rA).length≤1048576:=by rw[List.length_map];exact hl
 conv=>whnf
 refine rD rfl fun v hv=>?_
 conv=>whnf
 refine CondP.mk (fun h=>?_) (fun h=>?_)
 ·subst h;have e:=hv rfl;rw[e];conv=>whnf
  exact⟨rfl,rfl⟩
 ·subst h;conv=>whnf
  refine bR rfl rfl rfl ?_;conv=>whnf
  refine fQ rfl rfl rfl rfl (i5 fW l) rfl (by omega) (by omega) ?_;conv=>whnf
  refine⟨?_,rfl⟩;simp
theorem y7(b:Bool)(l:List Slot)(hl:l.length≤1048576):bC Try.prog 102 [.one (.ro b 4 (l.map rL))] (.v (.one (.own 4 (l.map rL)))):=by
 refine aK hmix Try.func102 ok102 ?_;have hl':(l.map rL).length≤1048576:=by rw[List.length_map];exact hl
 conv=>whnf
 refine rD rfl fun v hv=>?_
 conv=>whnf
 refine CondP.mk (fun h=>?_) (fun h=>?_)
 ·subst h;have e:=hv rfl;rw[e];conv=>whnf
  exact⟨rfl,rfl⟩
 ·subst h;conv=>whnf
  refine bR rfl rfl rfl ?_;conv=>whnf
  refine fQ rfl rfl rfl rfl (i5 cV l) rfl (by omega) (by omega) ?_;conv=>whnf
  refine⟨?_,rfl⟩;simp
theorem kz(b1 b2:Bool)(p:Pages)(h1:p.tx.length≤1048576)(h2:p.rf.length≤1048576):bC Try.prog 129 [.agg [.ro b1 1 (p.tx.map rS),.ro b2 1 (p.rf.map rI)]] (.v (.agg [.own 1 (p.tx.map rS),.own 1 (p.rf.map rI)])):=by
 refine aK hmix Try.func129 ok129 ?_;have h1':(p.tx.map rS).length≤1048576:=by rw[List.length_map];exact h1
 have h2':(p.rf.map rI).length≤1048576:=by rw[List.length_map];exact h2
 conv=>whnf
 refine bR rfl rfl rfl ?_;conv=>whnf
 refine fQ rfl rfl rfl rfl (i5 we p.tx) rfl (by omega) (by omega) ?_;conv=>whnf
 refine bR rfl rfl rfl ?_;conv=>whnf
 refine fQ rfl rfl rfl rfl (i5 wZ p.rf) rfl (by omega) (by omega) ?_;conv=>whnf
 refine⟨?_,rfl⟩;simp
theorem rV(b1 b2:Bool)(p:Pages)(h1:p.tx.length≤1048576)(h2:p.rf.length≤1048576):bC Try.prog 125 [.agg [.ro b1 1 (p.tx.map rS),.ro b2 1 (p.rf.map rI)]] (.v (.agg [.own 1 (p.tx.map rS),.own 1 (p.rf.map rI)])):=by
 refine aK hmix Try.func125 ok125 ?_;have h1':(p.tx.map rS).length≤1048576:=by rw[List.length_map];exact h1
 have h2':(p.rf.map rI).length≤1048576:=by rw[List.length_map];exact h2
 conv=>whnf
 refine bR rfl rfl rfl ?_;conv=>whnf
 refine fQ rfl rfl rfl rfl (i5 we p.tx) rfl (by omega) (by omega) ?_;conv=>whnf
 refine bR rfl rfl rfl ?_;conv=>whnf
 refine fQ rfl rfl rfl rfl (i5 wZ p.rf) rfl (by omega) (by omega) ?_;conv=>whnf
 refine⟨?_,rfl⟩;simp
set_option maxHeartbeats 1000000 in
theorem nR(b1 b2 b3 b4 b5:Bool)(m:Mem)(h:m.fits 1048576):bC Try.prog 64 [aM b1 b2 b3 b4 b5 m] (.v (oM m)):=by
 refine aK hmix Try.func64 ok64 ?_;conv=>whnf
 refine aB [.pass] rfl rfl rfl (kz _ _ m.ram h.rt h.rr) rfl ?_;conv=>whnf
 refine aB [.pass] rfl rfl rfl (kz _ _ m.swp h.st h.sr) rfl ?_;conv=>whnf
 refine aq (fun i:Nat=>[(2,.v (.one (.ptr 1 0 0))),(3,.v (.one (.ptr 6 0 0))),(16,.v (.one (.ro b5 3 (m.sp.map rP)))),(17,.v (.one (dI (m.sp.map rP).length))),(18,.v (.one (dI i)))])
  (fun i=>[(6,.box [.own 1 (m.ram.tx.map rS),.own 1 (m.ram.rf.map rI),.own 1 (m.swp.tx.map rS),.own 1 (m.swp.rf.map rI),.own 3 ((m.sp.take i).map rP),dI m.hd]),(1,.box [.own 1 [],.own 1 [],.own 1 [],.own 1 [],.own 3 [],dI 0])]) (fun _=>7)
  (fun i=>i≤m.sp.length) (fun i=>m.sp.length-i) 0 (by omega) rfl (by simp[dI]) rfl fun i hi=>?_
 conv=>whnf
 refine CondP.mk (fun h1=>?_) (fun h1=>?_)<;>conv=>whnf
 ·have hlt:i<m.sp.length:=by simpa using h1
  have hs:=h.ss _ (List.getElem_mem hlt);have hz:((m.sp.take i).map rP).length=i:=by rw[List.length_map,List.length_take];omega
  refine aI (k:=i) rfl rfl (by simpa using hlt) ?_;conv=>whnf
  refine aF rfl (ldP hlt) ?_;conv=>whnf
  refine aB [.pass] rfl rfl rfl (q9 _ m.sp[i].ar hs.1) rfl ?_;conv=>whnf
  refine aB [.pass] rfl rfl rfl (y7 _ m.sp[i].sl hs.2) rfl ?_;conv=>whnf
  refine bR rfl rfl rfl ?_;conv=>whnf
  refine cH [28,31,32] [.h 11 0 1,.h 11 0 2] 1 (sz:=3) rfl rfl rfl rfl rfl rfl rfl rfl (by rw[hz];have:=h.sp;omega) (by rw[hz];have:=h.sp;omega) ?_;conv=>whnf
  refine⟨i+1,by omega,by omega,?_,?_,rfl⟩
  ·rw[up hlt (by have:=h.sp;omega)];rfl
  ·simp only[List.map_take,List.take_succ_eq_append_getElem (show i< (m.sp.map rP).length by simpa using hlt)];simp[rP,eB,dI,List.replicate,List.take_of_length_le]
 ·have:i=m.sp.length:=by
                 have:¬i<m.sp.length:=by simpa using h1
                 omega
  subst this;refine⟨?_,rfl⟩;simp[oM,dI]
end Go.Qm
namespace Go.Qm
open Go.Cq Go.Cq.D Go.RowKit Go.Proofs
set_option maxRecDepth 10000
set_option maxHeartbeats 1000000 in
theorem eF(b1 b2 b3 b4 b5:Bool)(m:Mem)(h:m.fits 1048576):bC Try.prog 60 [aM b1 b2 b3 b4 b5 m] (.v (oM m)):=by
 refine aK hmix Try.func60 ok60 ?_;conv=>whnf
 refine aB [.pass] rfl rfl rfl (rV _ _ m.ram h.rt h.rr) rfl ?_;conv=>whnf
 refine aB [.pass] rfl rfl rfl (rV _ _ m.swp h.st h.sr) rfl ?_;conv=>whnf
 refine bR rfl rfl rfl ?_;conv=>whnf
 refine aq (fun i:Nat=>[(1,.v (.one (.ptr 0 0 0))),(2,.v (.one (.ptr 1 0 0))),(3,.v (.one (.ptr 7 0 0))),(4,.v (.one (dI i)))])
  (fun i=>[(7,.box [.own 1 (m.ram.tx.map rS),.own 1 (m.ram.rf.map rI),.own 1 (m.swp.tx.map rS),.own 1 (m.swp.rf.map rI),.own 3 ((m.sp.take i).map rP),dI m.hd]),(1,.box [.own 1 [],.own 1 [],.own 1 [],.own 1 [],.own 3 [],dI 0]),(0,.box [.ro b1 1 (m.ram.tx.map rS),.ro b2 1 (m.ram.rf.map rI),.ro b3 1 (m.swp.tx.map rS),.ro b4 1 (m.swp.rf.map rI),.ro b5 3 (m.sp.map rP),dI m.hd])]) (fun _=>8)
  (fun i=>i≤m.sp.length) (fun i=>m.sp.length-i) 0 (by omega) rfl (by simp[dI]) rfl fun i hi=>?_
 conv=>whnf
 refine CondP.mk (fun h1=>?_) (fun h1=>?_)<;>conv=>whnf
 ·have hlt:i<m.sp.length:=by simpa using h1
  have hs:=h.ss _ (List.getElem_mem hlt);have hz:((m.sp.take i).map rP).length=i:=by rw[List.length_map,List.length_take];omega
  have hz1:(m.sp[i].ar.map rA).length≤1048576:=by rw[List.length_map];exact hs.1
  have hz2:(m.sp[i].sl.map rL).length≤1048576:=by rw[List.length_map];exact hs.2
  refine aI (k:=i) rfl rfl (by simpa using hlt) ?_;conv=>whnf
  refine aF rfl (ldP hlt) ?_;conv=>whnf
  refine bR rfl rfl rfl ?_;conv=>whnf
  refine fQ rfl rfl rfl rfl (i5 fW _) rfl (by omega) (by omega) ?_;conv=>whnf
  refine bR rfl rfl rfl ?_;conv=>whnf
  refine fQ rfl rfl rfl rfl (i5 cV _) rfl (by omega) (by omega) ?_;conv=>whnf
  refine bR rfl rfl rfl ?_;conv=>whnf
  refine cH [] [.h 12 0 1,.h 12 0 2] 1 (sz:=3) rfl rfl rfl rfl rfl rfl rfl rfl (by rw[hz];have:=h.sp;omega) (by rw[hz];have:=h.sp;omega) ?_;conv=>whnf
  refine⟨i+1,by omega,by omega,?_,?_,rfl⟩
  ·rw[up hlt (by have:=h.sp;omega)];rfl
  ·simp only[List.map_take,List.take_succ_eq_append_getElem (show i< (m.sp.map rP).length by simpa using hlt)];simp[rP,eB,dI,List.replicate,List.take_of_length_le]
 ·have:i=m.sp.length:=by
                 have:¬i<m.sp.length:=by simpa using h1
                 omega
  subst this;refine⟨?_,rfl⟩;simp[oM,dI]
end Go.Qm
namespace Go.Qm
open Go.Cq Go.Cq.D Go.RowKit Go.Proofs
set_option maxRecDepth 10000
theorem aDm{l:List Area}(h:∀a,a∈l→an a=true){i:Nat}(hi:i<l.length):an l[i]=true:=h _ (List.getElem_mem hi)
set_option maxHeartbeats 1000000 in
theorem oC(b:Bool)(l:List Area)(page:Int)(hl:l.length≤4611686018427387904)(ho:∀a,a∈l→an a=true):bC Try.prog 146 [.one (.ro b 4 (l.map rA)),.one (dI page)] (.v (.one (dI (ah l page)))):=by
 refine aK hmix Try.func146 ok146 ?_;conv=>whnf
 refine aq (fun i:Nat=>[(0,.v (.one (.ro b 4 (l.map rA)))),(1,.v (.one (dI page))),(5,.v (.one (dI i)))]) (fun _=>[]) (fun _=>0)
  (fun i=>i≤l.length∧ah l page=dt page (l.drop i) i) (fun i=>l.length-i) 0 ⟨by omega,rfl⟩ rfl rfl rfl fun i hi=>?_
 obtain⟨hi1,hi2⟩:=hi;conv=>whnf
 refine CondP.mk (fun h=>?_) (fun h=>?_)<;>conv=>whnf
 ·have hlt:i<l.length:=by simpa using h
  have hok:=au.1 (aDm ho hlt);refine aI (k:=i) rfl rfl (by simpa using hlt) ?_;conv=>whnf
  refine aF rfl (r:=.one (dI l[i].fr)) (by simp[ak,rA,hlt,eI,dI]) ?_;conv=>whnf
  refine aI (k:=i) rfl rfl (by simpa using hlt) ?_;conv=>whnf
  refine aF rfl (r:=.one (dI l[i].fr)) (by simp[ak,rA,hlt,eI,dI]) ?_;conv=>whnf
  refine aI (k:=i) rfl rfl (by simpa using hlt) ?_;conv=>whnf
  refine aF rfl (r:=.one (dI l[i].mn)) (by simp[ak,rA,hlt,eI,dI]) ?_;conv=>whnf
  refine aB [.pass,.pass,.pass] rfl rfl rfl (i9 _ _ _) rfl ?_;conv=>whnf
  have e1:IntKind.wrap .i64 (l[i].fr+l[i].mn)=l[i].fr+l[i].mn:=wrap64 (by omega) (by omega);have e2:IntKind.wrap .i64 (l[i].fr+l[i].mn-1)=l[i].fr+l[i].mn-1:=wrap64 (by omega) (by omega);refine CondP.mk (fun h1=>?_) (fun h1=>?_)<;>conv=>whnf
  ·refine⟨?_,rfl⟩;rw[e1,e2]at h1;have:l[i].fr≤page∧page<l[i].fr+l[i].mn:=by simp only[inB,Bool.and_eq_true,decide_eq_true_eq]at h1;omega
   rw[hi2,iO hlt,if_pos this];rfl
  ·refine⟨i+1,by omega,⟨by omega,?_⟩,?_,rfl,rfl⟩
   ·rw[e1,e2]at h1;have:¬(l[i].fr≤page∧page<l[i].fr+l[i].mn):=by
     intro ⟨k1,k2⟩;have:inB page l[i].fr (l[i].fr+l[i].mn-1)=true:=by simp only[inB,Bool.and_eq_true,decide_eq_true_eq];omega
     rw[this]at h1;simp at h1
    rw[hi2,iO hlt,if_neg this]
   ·rw[←up hlt hl];rfl
 ·refine⟨?_,rfl⟩;have:i=l.length:=by
               have:¬i<l.length:=by simpa using h
               omega
  subst this;rw[hi2,List.drop_length];rfl
theorem aB2(a:Area)(page:Int)(ho:an a=true):aC1 Try.prog 97 [.agg (aA a),.one (.ptr 0 0 0)] [dI page] (.v (.one (dB (decide (a.fr≤page)&&decide (page<a.fr+a.mn))))) [dI page]:=by
 refine aK hmix Try.func97 ok97 ?_;conv=>whnf
 refine CondP.mk (fun h=>?_) (fun h=>?_)<;>rw[h]<;>(conv=>whnf)<;>repeat' first|(refine aD ?_;conv=>whnf)|(refine aC ?_;conv=>whnf)
 ·refine aB [.pass] rfl rfl rfl (fY a) rfl ?_
  (conv=>whnf)<;>repeat' first|(refine aD ?_;conv=>whnf)|(refine aC ?_;conv=>whnf)
  rw[aDJ ho];exact⟨rfl,rfl⟩
 ·exact⟨rfl,rfl⟩
set_option maxHeartbeats 1000000 in
theorem rX(b:Bool)(l:List Area)(page:Int)(hl:l.length≤4611686018427387904)(ho:∀a,a∈l→an a=true):
  aC1 Try.prog 96 [.one (.ro b 4 (l.map rA)),.one (.fn 97 [(0,0,0)])] [dI page] (.v (.one (dI (ah l page)))) [dI page]:=by
 refine aK hmix Try.func96 ok96 ?_;conv=>whnf
 refine aq (fun i:Nat=>[(0,.v (.one (.ro b 4 (l.map rA)))),(1,.v (.one (.fn 97 [(0,0,0)]))),(7,.v (.one (dI (l.map rA).length))),(8,.v (.one (dI i)))]) (fun _=>[(0,.box [dI page])]) (fun _=>1)
  (fun i=>i≤l.length∧ah l page=dt page (l.drop i) i) (fun i=>l.length-i) 0 ⟨by omega,rfl⟩ rfl rfl rfl fun i hi=>?_
 obtain⟨hi1,hi2⟩:=hi;conv=>whnf
 refine CondP.mk (fun h=>?_) (fun h=>?_)<;>conv=>whnf
 ·have hlt:i<l.length:=by simpa using h
  refine aI (k:=i) rfl rfl (by simpa using hlt) ?_;conv=>whnf
  refine aF rfl (r:=.agg (aA l[i])) (ldA hlt) ?_;conv=>whnf
  refine mf [.pass,.pass] [0] rfl rfl rfl rfl rfl (aB2 l[i] page (aDm ho hlt)) fun res H3 hp=>?_
  obtain⟨rfl,rfl⟩:=hp;refine⟨rfl,rfl,_,rfl,?_⟩;conv=>whnf
  refine CondP.mk (fun h1=>?_) (fun h1=>?_)<;>conv=>whnf
  ·refine⟨?_,rfl⟩;have:l[i].fr≤page∧page<l[i].fr+l[i].mn:=by simpa using h1
   rw[hi2,iO hlt,if_pos this];rfl
  ·refine⟨i+1,by omega,⟨by omega,?_⟩,?_,rfl,rfl⟩
   ·have:¬(l[i].fr≤page∧page<l[i].fr+l[i].mn):=by intro ⟨k1,k2⟩;simp[k1,k2]at h1
    rw[hi2,iO hlt,if_neg this]
   ·rw[←up hlt hl];rfl
 ·refine⟨?_,rfl⟩;have:i=l.length:=by
               have:¬i<l.length:=by simpa using h
               omega
  subst this;rw[hi2,List.drop_length];rfl
theorem lX(b:Bool)(l:List Area)(page:Int)(hl:l.length≤4611686018427387904):bC Try.prog 40 [.one (.ro b 4 (l.map rA)),.one (dI page)] (.v (.one (dI (dZ l page)))):=by
 refine aK hmix Try.func40 ok40 ?_;conv=>whnf
 refine aB [.pass] rfl rfl rfl (iG b l hl) rfl ?_;conv=>whnf
 refine CondP.mk (fun h=>?_) (fun h=>?_)<;>conv=>whnf
 ·refine⟨?_,rfl⟩;have:aO l=false:=by simpa using h
  rw[dZ,this];rfl
 ·have h:aO l=true:=by simpa using h
  refine aCw rfl rfl ?_;conv=>whnf
  refine fg [.pass,.pass] [0] rfl rfl rfl rfl (rX b l page hl (cr h)) fun res H3 hp=>?_
  obtain⟨rfl,rfl⟩:=hp;refine⟨rfl,rfl,_,rfl,?_⟩;conv=>whnf
  refine⟨?_,rfl⟩;rw[dZ,h];rfl
end Go.Qm
namespace Go.Qm
open Go.Cq Go.Cq.D Go.RowKit Go.Proofs
set_option maxRecDepth 10000
set_option maxHeartbeats 2000000 in
theorem gL(b:Bool)(l:List Area)(hl:l.length≤4611686018427387904):bC Try.prog 148 [.one (.ro b 4 (l.map rA))] (.v (.one (dB (aO l)))):=by
 refine aK hmix Try.func148 ok148 ?_;conv=>whnf
 refine aq (fun i:Nat=>[(0,.v (.one (.ro b 4 (l.map rA)))),(3,.v (.one (dI i)))]) (fun _=>[]) (fun _=>0)
  (fun i=>i≤l.length∧aO l=(dp l i&&decide (l.length≤6))∧∀j(hj:j<l.length),j<i→an l[j]=true) (fun i=>l.length-i) 0 ⟨by omega,rfl,by omega⟩ rfl rfl rfl fun i hi=>?_
 obtain⟨hi1,hi2,hi3⟩:=hi;conv=>whnf
 refine CondP.mk (fun h=>?_) (fun h=>?_)<;>conv=>whnf
 ·have hlt:i<l.length:=by simpa using h
  refine aI (k:=i) rfl rfl (by simpa using hlt) ?_;conv=>whnf
  refine aF rfl (r:=.agg (aA l[i])) (ldA hlt) ?_;conv=>whnf
  refine aB [.pass] rfl rfl rfl (lO l[i]) rfl ?_;conv=>whnf
  have fin:an l[i]=false→DT.v (DV.one (DC.sc (.bool false)))= .v (.one (dB (aO l))):=fun e=>by rw[hi2,dT hlt,e];rfl
  refine CondP.mk (fun h1=>?_) (fun h1=>?_)<;>rw[h1]<;>(conv=>whnf)<;>repeat' first|(refine aD ?_;conv=>whnf)|(refine aC ?_;conv=>whnf)
  ·exact⟨fin (by simpa using h1),rfl⟩
  ·have ho:an l[i]=true:=by simpa using h1
   have hstep:decide (0< (i:Int))=false∨kI l i l[i]=true→aO l=(dp l (i+1)&&decide (l.length≤6)):=fun e=>by
    rw[hi2,dT hlt,ho];rcases e with e|e
    ·have:i=0:=by simp at e;omega
     simp[this]
    ·rw[e];simp
   have hall:∀j(hj:j<l.length),j<i+1→an l[j]=true:=fun j hj h2=>by
    by_cases e:j=i
    ·subst e;exact ho
    ·exact hi3 j hj (by omega)
   refine CondP.mk (fun h2=>?_) (fun h2=>?_)<;>rw[h2]<;>(conv=>whnf)<;>repeat' first|(refine aD ?_;conv=>whnf)|(refine aC ?_;conv=>whnf)
   ·have hi0:i≠0:=by simp at h2;omega
    have hlt':i-1<l.length:=by omega
    refine aI (k:=i-1) rfl (ix hlt hl hi0) (by simpa using hlt') ?_
    (conv=>whnf)<;>repeat' first|(refine aD ?_;conv=>whnf)|(refine aC ?_;conv=>whnf)
    refine aF rfl (r:=.one (dI l[i-1].fr)) (by simp[ak,rA,hlt',eI,dI]) ?_
    (conv=>whnf)<;>repeat' first|(refine aD ?_;conv=>whnf)|(refine aC ?_;conv=>whnf)
    refine aI (k:=i-1) rfl (ix hlt hl hi0) (by simpa using hlt') ?_
    (conv=>whnf)<;>repeat' first|(refine aD ?_;conv=>whnf)|(refine aC ?_;conv=>whnf)
    refine aF rfl (r:=.one (dI l[i-1].mn)) (by simp[ak,rA,hlt',eI,dI]) ?_
    (conv=>whnf)<;>repeat' first|(refine aD ?_;conv=>whnf)|(refine aC ?_;conv=>whnf)
    refine aI (k:=i) rfl rfl (by simpa using hlt) ?_
    (conv=>whnf)<;>repeat' first|(refine aD ?_;conv=>whnf)|(refine aC ?_;conv=>whnf)
    refine aF rfl (r:=.one (dI l[i].fr)) (by simp[ak,rA,hlt,eI,dI]) ?_
    (conv=>whnf)<;>repeat' first|(refine aD ?_;conv=>whnf)|(refine aC ?_;conv=>whnf)
    have he:=aDJ (hi3 (i-1) hlt' (by omega));rw[he];refine CondP.mk (fun h3=>?_) (fun h3=>?_)<;>conv=>whnf
    ·refine⟨?_,rfl⟩;rw[hi2,dT hlt,ho,kI,List.getElem?_eq_getElem hlt'];have:¬l[i-1].fr+l[i-1].mn≤l[i].fr:=by simpa using h3
     simp[this,hi0,dB]
    ·refine⟨i+1,by omega,⟨by omega,hstep (.inr ?_),hall⟩,?_,rfl,rfl⟩
     ·rw[kI,List.getElem?_eq_getElem hlt'];simpa using h3
     ·rw[←up hlt hl];rfl
   ·refine⟨i+1,by omega,⟨by omega,hstep (.inl h2),hall⟩,?_,rfl,rfl⟩;rw[←up hlt hl];rfl
 ·refine⟨?_,rfl⟩;have:i=l.length:=by
               have:¬i<l.length:=by simpa using h
               omega
  subst this;rw[hi2,dp,List.drop_length];simp[cA,dB];omega
theorem qd(b1 b2:Bool)(s:Space)(page:Int)(hl:s.ar.length≤4611686018427387904):bC Try.prog 85 [.agg [dB s.lv,.ro b1 4 (s.ar.map rA),.ro b2 4 (s.sl.map rL)],.one (dI page)] (.v (.one (dB (gW s.ar (dZ s.ar page))))):=by
 refine aK hmix Try.func85 ok85 ?_;conv=>whnf
 refine aB [.pass,.pass] rfl rfl rfl (lX b1 s.ar page hl) rfl ?_;conv=>whnf
 refine CondP.mk (fun h=>?_) (fun h=>?_)<;>rw[h]<;>(conv=>whnf)<;>repeat' first|(refine aD ?_;conv=>whnf)|(refine aC ?_;conv=>whnf)
 ·have h0:0≤dZ s.ar page:=by simpa using h
  have hlt:(dZ s.ar page).toNat<s.ar.length:=by
   have e:dZ s.ar page=ah s.ar page:=by
    by_cases e:aO s.ar=true
    ·rw[dZ,if_pos e]
    ·rw[dZ,if_neg e]at h0;exact absurd h0 (by decide)
   rw[e]at h0 ⊢;exact ku h0
  refine aI (k:=(dZ s.ar page).toNat) rfl (by show some (dZ s.ar page)=_;congr 1;omega) (by simpa using hlt) ?_
  (conv=>whnf)<;>repeat' first|(refine aD ?_;conv=>whnf)|(refine aC ?_;conv=>whnf)
  refine aF rfl (r:=.one (dB s.ar[(dZ s.ar page).toNat].sh)) (by simp[ak,rA,hlt,eB,dB]) ?_;conv=>whnf
  refine⟨?_,rfl⟩;simp[gW,h0,hlt,dB]
 ·refine⟨?_,rfl⟩;have h0:¬0≤dZ s.ar page:=by simpa using h
  simp[gW,h0,dB]
theorem lZ(b1 b2:Bool)(s:Space)(page:Int)(hl:s.ar.length≤4611686018427387904)(ho:∀a,a∈s.ar→an a=true):bC Try.prog 149 [.agg [dB s.lv,.ro b1 4 (s.ar.map rA),.ro b2 4 (s.sl.map rL)],.one (dI page)] (.v (.one (dB (gW s.ar (ah s.ar page))))):=by
 refine aK hmix Try.func149 ok149 ?_;conv=>whnf
 refine aB [.pass,.pass] rfl rfl rfl (oC b1 s.ar page hl ho) rfl ?_;conv=>whnf
 refine CondP.mk (fun h=>?_) (fun h=>?_)<;>rw[h]<;>(conv=>whnf)<;>repeat' first|(refine aD ?_;conv=>whnf)|(refine aC ?_;conv=>whnf)
 ·have h0:0≤ah s.ar page:=by simpa using h
  have hlt:(ah s.ar page).toNat<s.ar.length:=by exact ku h0
  refine aI (k:=(ah s.ar page).toNat) rfl (by show some (ah s.ar page)=_;congr 1;omega) (by simpa using hlt) ?_
  (conv=>whnf)<;>repeat' first|(refine aD ?_;conv=>whnf)|(refine aC ?_;conv=>whnf)
  refine aF rfl (r:=.one (dB s.ar[(ah s.ar page).toNat].sh)) (by simp[ak,rA,hlt,eB,dB]) ?_;conv=>whnf
  refine⟨?_,rfl⟩;simp[gW,h0,hlt,dB]
 ·refine⟨?_,rfl⟩;have h0:¬0≤ah s.ar page:=by simpa using h
  simp[gW,h0,dB]
theorem sd(b1 b2 b3 b4 b5:Bool)(m:Mem)(k:Int)(hl:m.sp.length≤4611686018427387904):bC Try.prog 63 [.agg [.ro b1 1 (m.ram.tx.map rS),.ro b2 1 (m.ram.rf.map rI),.ro b3 1 (m.swp.tx.map rS),.ro b4 1 (m.swp.rf.map rI),.ro b5 3 (m.sp.map rP),dI m.hd],.one (dI k)] (.v (.one (dB (dR m.sp k)))):=by
 refine aK hmix Try.func63 ok63 ?_;conv=>whnf
 refine aB [.pass,.pass,.pass] rfl rfl rfl (kO _ _ _) rfl ?_;conv=>whnf
 have hw:IntKind.wrap .i64 ((m.sp.map rP).length-1)=m.sp.length-1:=by rw[List.length_map];exact wrap64 (by omega) (by omega)
 refine CondP.mk (fun h=>?_) (fun h=>?_)<;>rw[h]<;>(conv=>whnf)<;>repeat' first|(refine aD ?_;conv=>whnf)|(refine aC ?_;conv=>whnf)
 ·have h':=h;rw[show IntKind.wrap .i64 _=_ from hw]at h';have hk:=h';simp only[inB,Bool.and_eq_true,decide_eq_true_eq]at hk;have hlt:k.toNat<m.sp.length:=by omega
  refine aI (k:=k.toNat) rfl (by show some k=_;congr 1;omega) (by simpa using hlt) ?_
  (conv=>whnf)<;>repeat' first|(refine aD ?_;conv=>whnf)|(refine aC ?_;conv=>whnf)
  refine aF rfl (r:=.one (dB m.sp[k.toNat].lv)) (by simp[ak,rP,hlt,eB,dB]) ?_;conv=>whnf
  refine⟨?_,rfl⟩;simp[dR,h',hlt,dB]
 ·rw[show IntKind.wrap .i64 _=_ from hw]at h;refine⟨?_,rfl⟩;rw[dR,h];rfl
theorem mA(b1 b2 b3 b4 b5:Bool)(m:Mem)(k:Int)(hl:m.sp.length≤4611686018427387904):bC Try.prog 58 [.agg [.ro b1 1 (m.ram.tx.map rS),.ro b2 1 (m.ram.rf.map rI),.ro b3 1 (m.swp.tx.map rS),.ro b4 1 (m.swp.rf.map rI),.ro b5 3 (m.sp.map rP),dI m.hd],.one (dI k)] (.v (.one (dB (dR m.sp k)))):=by
 refine aK hmix Try.func58 ok58 ?_;conv=>whnf
 refine aB [.pass,.pass,.pass] rfl rfl rfl (i9 _ _ _) rfl ?_;conv=>whnf
 have hw:IntKind.wrap .i64 ((m.sp.map rP).length-1)=m.sp.length-1:=by rw[List.length_map];exact wrap64 (by omega) (by omega)
 refine CondP.mk (fun h=>?_) (fun h=>?_)<;>rw[h]<;>(conv=>whnf)<;>repeat' first|(refine aD ?_;conv=>whnf)|(refine aC ?_;conv=>whnf)
 ·have h':=h;rw[show IntKind.wrap .i64 _=_ from hw]at h';have hk:=h';simp only[inB,Bool.and_eq_true,decide_eq_true_eq]at hk;have hlt:k.toNat<m.sp.length:=by omega
  refine aI (k:=k.toNat) rfl (by show some k=_;congr 1;omega) (by simpa using hlt) ?_
  (conv=>whnf)<;>repeat' first|(refine aD ?_;conv=>whnf)|(refine aC ?_;conv=>whnf)
  refine aF rfl (r:=.one (dB m.sp[k.toNat].lv)) (by simp[ak,rP,hlt,eB,dB]) ?_;conv=>whnf
  refine⟨?_,rfl⟩;simp[dR,h',hlt,dB]
 ·rw[show IntKind.wrap .i64 _=_ from hw]at h;refine⟨?_,rfl⟩;rw[dR,h];rfl
end Go.Qm
namespace Go.Qm
open Go.Cq Go.Cq.D Go.RowKit Go.Proofs
set_option maxRecDepth 10000
set_option maxHeartbeats 1000000 in
theorem nh(b1 b2:Bool)(p:Pages)(h1:p.tx.length≤4611686018427387904)(h2:p.rf.length≤4611686018427387904):bC Try.prog 86 [.agg [.ro b1 1 (p.tx.map rS),.ro b2 1 (p.rf.map rI)]] (.v (.one (dB (cR p)))):=by
 refine aK hmix Try.func86 ok86 ?_;conv=>whnf
 refine CondP.mk (fun h=>?_) (fun h=>?_)<;>rw[h]<;>(conv=>whnf)<;>repeat' first|(refine aD ?_;conv=>whnf)|(refine aC ?_;conv=>whnf)
 ·refine⟨?_,rfl⟩;have:¬p.tx.length=p.rf.length:=by simp at h;omega
  simp[cR,this,dB]
 ·have hl:p.tx.length=p.rf.length:=by simp at h;omega
  refine aB [.pass,.pass,.pass] rfl rfl rfl (i9 _ _ _) rfl ?_
  (conv=>whnf)<;>repeat' first|(refine aD ?_;conv=>whnf)|(refine aC ?_;conv=>whnf)
  refine CondP.mk (fun h=>?_) (fun h=>?_)<;>conv=>whnf
  ·refine⟨?_,rfl⟩;have h:inB p.tx.length 1 12=false:=by simpa using h
   simp[cR,h,dB]
  ·have hb:inB p.tx.length 1 12=true:=by simpa using h
   refine aq (fun i:Nat=>[(1,.v (.one (.ptr 0 0 0))),(3,.v (.one (dI i)))]) (fun _=>[(0,.box [.ro b1 1 (p.tx.map rS),.ro b2 1 (p.rf.map rI)])]) (fun _=>1)
    (fun i=>i≤p.rf.length∧cR p=e9 (p.tx.drop i) (p.rf.drop i)) (fun i=>p.rf.length-i) 0 ⟨by omega,by simp[cR,hl,hl▸hb]⟩ rfl rfl rfl fun i hi=>?_
   conv=>whnf
   refine CondP.mk (fun h=>?_) (fun h=>?_)<;>conv=>whnf
   ·have hi1:i<p.tx.length:=by simpa using h
    have hi2:i<p.rf.length:=by omega
    refine aI (k:=i) rfl rfl (by simpa using hi2) ?_;conv=>whnf
    refine aF rfl (r:=.one (dI p.rf[i])) (by simp[ak,rI,hi2,eI,dI]) ?_;conv=>whnf
    refine CondP.mk (fun h0=>?_) (fun h0=>?_)<;>conv=>whnf
    all_goals
     refine aI (k:=i) rfl rfl (by simpa using hi2) ?_;conv=>whnf
     refine aF rfl (r:=.one (dI p.rf[i])) (by simp[ak,rI,hi2,eI,dI]) ?_;conv=>whnf
     refine aB [.pass,.pass,.pass] rfl rfl rfl (i9 _ _ _) rfl ?_;conv=>whnf
     refine CondP.mk (fun h9=>?_) (fun h9=>?_)<;>rw[h9]<;>(conv=>whnf)<;>repeat' first|(refine aD ?_;conv=>whnf)|(refine aC ?_;conv=>whnf)
    ·refine⟨?_,rfl⟩;have h9:inB p.rf[i] 0 99=false:=by simpa using h9
     rw[hi.2,cC hi1 hi2,eJ,h9];rfl
    ·have h9:inB p.rf[i] 0 99=true:=by simpa using h9
     refine aI (k:=i) rfl rfl (by simpa using hi1) ?_
     (conv=>whnf)<;>repeat' first|(refine aD ?_;conv=>whnf)|(refine aC ?_;conv=>whnf)
     refine aF rfl (r:=.one (.sc (.str p.tx[i]))) (by simp[ak,rS,hi1,eS]) ?_
     (conv=>whnf)<;>repeat' first|(refine aD ?_;conv=>whnf)|(refine aC ?_;conv=>whnf)
     refine CondP.mk (fun h8=>?_) (fun h8=>?_)<;>conv=>whnf
     ·refine⟨?_,rfl⟩;rw[hi.2,cC hi1 hi2,eJ,h9];simp at h0 h8;simp[h0,h8,dB]
     ·refine⟨i+1,by omega,⟨by omega,?_⟩,?_,rfl,rfl⟩
      ·rw[hi.2,cC hi1 hi2,eJ,h9];simp at h0 h8;simp[h0,h8]
      ·rw[←up hi2 h2];rfl
    ·refine⟨?_,rfl⟩;have h9:inB p.rf[i] 0 99=false:=by simpa using h9
     rw[hi.2,cC hi1 hi2,eJ,h9];rfl
    ·have h9:inB p.rf[i] 0 99=true:=by simpa using h9
     refine aI (k:=i) rfl rfl (by simpa using hi1) ?_
     (conv=>whnf)<;>repeat' first|(refine aD ?_;conv=>whnf)|(refine aC ?_;conv=>whnf)
     refine aF rfl (r:=.one (.sc (.str p.tx[i]))) (by simp[ak,rS,hi1,eS]) ?_
     (conv=>whnf)<;>repeat' first|(refine aD ?_;conv=>whnf)|(refine aC ?_;conv=>whnf)
     refine CondP.mk (fun h8=>?_) (fun h8=>?_)<;>conv=>whnf
     ·refine⟨?_,rfl⟩;rw[hi.2,cC hi1 hi2,eJ,h9];simp at h0 h8;simp[h0,h8,dB]
     ·refine⟨i+1,by omega,⟨by omega,?_⟩,?_,rfl,rfl⟩
      ·rw[hi.2,cC hi1 hi2,eJ,h9];simp at h0 h8;simp[h0,h8]
      ·rw[←up hi2 h2];rfl
   ·refine⟨?_,rfl⟩;have:i=p.tx.length:=by
                   have:¬i<p.tx.length:=by simpa using h
                   omega
    subst this;have:=hi.2;rw[List.drop_eq_nil_of_le (by omega),e9]at this;rw[this];rfl
    all_goals simp
end Go.Qm
namespace Go.Qm
open Go.Cq Go.Cq.D Go.RowKit Go.Proofs
set_option maxRecDepth 10000
theorem fc{b:Bool}(h:b=false):DT.v (DV.one (DC.sc (.bool false)))= .v (.one (dB b))∧([]:DH)=[]:=by rw[h];exact⟨rfl,rfl⟩
theorem aC3{b:Bool}(h:b=true):DT.v (DV.one (DC.sc (.bool true)))= .v (.one (dB b))∧([]:DH)=[]:=by rw[h];exact⟨rfl,rfl⟩
theorem od{P:Prg}{ts:DTs}{H:DH}{n:Nat}{K:DT→DTs→DH→Nat→List Nat→Prop}{neg:Bool}{ks:List LK}{x y:Opd}{xs ys:List DC}{cs ds:List CV}{b:Bool}(h1:evD ts x=some (.agg xs))(h2:evD ts y=some (.agg ys))(h3:gB xs=some cs)(h4:gB ys=some ds)(h5:bJ ks cs ds=some b)(h:K (.v (.one (.sc (.bool (if neg then !b else b))))) ts H n []):OpP P (.eqA neg ks x y) ts H n K:=⟨⟨xs,ys,cs,ds,b,h1,h2,h3,h4,h5,h⟩⟩
set_option maxHeartbeats 1000000 in
theorem vE(b1 b2:Bool)(s:Space)(h1:s.ar.length≤4611686018427387904)(h2:s.sl.length≤4611686018427387904):bC Try.prog 88 [.agg [dB s.lv,.ro b1 4 (s.ar.map rA),.ro b2 4 (s.sl.map rL)]] (.v (.one (dB (bY s)))):=by
 refine aK hmix Try.func88 ok88 ?_;conv=>whnf
 refine CondP.mk (fun h=>?_) (fun h=>?_)<;>conv=>whnf
 ·have h:s.lv=false:=by simpa using h
  refine CondP.mk (fun h3=>?_) (fun h3=>?_)<;>rw[h3]<;>(conv=>whnf)<;>repeat' first|(refine aD ?_;conv=>whnf)|(refine aC ?_;conv=>whnf)
  ·refine⟨?_,rfl⟩;simp at h3;simp[bY,h,h3,dB]
  ·refine fc ?_;simp at h3;simp[bY,h,h3]
 have hv:s.lv=true:=by simpa using h
 refine aB [.pass] rfl rfl rfl (gL b1 s.ar h1) rfl ?_;conv=>whnf
 refine CondP.mk (fun h=>?_) (fun h=>?_)<;>rw[h]<;>(conv=>whnf)<;>repeat' first|(refine aD ?_;conv=>whnf)|(refine aC ?_;conv=>whnf)
 ·refine fc ?_;have h:aO s.ar=false:=by simpa using h
  simp[bY,hv,h]
 have ho:aO s.ar=true:=by simpa using h
 refine CondP.mk (fun h=>?_) (fun h=>?_)<;>conv=>whnf
 ·refine fc ?_;have h:¬s.sl.length=16:=by simp at h;omega
  simp[bY,hv,ho,h]
 have hl:s.sl.length=16:=by simp at h;omega
 refine aq (fun i:Nat=>[(1,.v (.one (.ptr 0 0 0))),(3,.v (.one (dI i)))]) (fun _=>[(0,.box [dB s.lv,.ro b1 4 (s.ar.map rA),.ro b2 4 (s.sl.map rL)])]) (fun _=>1)
  (fun i=>i≤s.sl.length∧bY s=bW s.ar i (s.sl.drop i)) (fun i=>s.sl.length-i) 0 ⟨by omega,by simp[bY,hv,ho,hl]⟩ rfl rfl rfl fun i hi=>?_
 obtain⟨hi1,hi2⟩:=hi;conv=>whnf
 refine CondP.mk (fun h=>?_) (fun h=>?_)<;>conv=>whnf
 ·have hlt:i<s.sl.length:=by simp at h;omega
  have no:cF s.ar i s.sl[i]=false→bY s=false:=fun e=>by rw[hi2,ju hlt,e];rfl
  refine aI (k:=i) rfl rfl (by simpa using hlt) ?_;conv=>whnf
  refine aF rfl (ldL hlt) ?_;conv=>whnf
  refine aB [.pass,.pass] rfl rfl rfl (oC b1 s.ar i h1 (cr ho)) rfl ?_;conv=>whnf
  have yes:cF s.ar i s.sl[i]=true→bY s=bW s.ar (i+1) (s.sl.drop (i+1)):=fun e=>by rw[hi2,ju hlt,e];rfl
  refine CondP.mk (fun h3=>?_) (fun h3=>?_)<;>rw[h3]<;>conv=>whnf
  ·have h3:s.sl[i].kd=0:=by simpa using h3
   refine od rfl rfl rfl rfl rfl ?_;conv=>whnf
   have e:(s.sl[i].kd==0&&(s.sl[i].pl==0&&(s.sl[i].ow==false&&(s.sl[i].us==false&&true))))=cF s.ar i s.sl[i]:=by
    rw[cF,if_pos h3];rcases s.sl[i]with⟨k,p,o,u⟩
    rw[Bool.eq_iff_iff];simp[cQ]
   refine CondP.mk (fun h4=>?_) (fun h4=>?_)<;>conv=>whnf
   ·refine fc (no ?_);rw[e]at h4;simpa using h4
   ·refine⟨i+1,by omega,⟨by omega,yes ?_⟩,?_,rfl,rfl⟩
    ·rw[e]at h4;simpa using h4
    ·rw[up hlt h2];rfl
  ·have h3:¬s.sl[i].kd=0:=by simpa using h3
   refine CondP.mk (fun h4=>?_) (fun h4=>?_)<;>rw[h4]<;>(conv=>whnf)<;>repeat' first|(refine aD ?_;conv=>whnf)|(refine aC ?_;conv=>whnf)
   ·refine fc (no ?_);have h4:ah s.ar i<0:=by simpa using h4
    rw[cF,if_neg h3,decide_eq_false (by omega)];rfl
   have h4:0≤ah s.ar i:=by simpa using h4
   refine aB [.pass,.pass,.pass] rfl rfl rfl (i9 _ _ _) rfl ?_
   (conv=>whnf)<;>repeat' first|(refine aD ?_;conv=>whnf)|(refine aC ?_;conv=>whnf)
   refine CondP.mk (fun h5=>?_) (fun h5=>?_)<;>conv=>whnf
   ·refine fc (no ?_);have h5:inB s.sl[i].kd 1 2=false:=by simpa using h5
    rw[cF,if_neg h3,h5];simp
   have h5:inB s.sl[i].kd 1 2=true:=by simpa using h5
   have hat:(ah s.ar i).toNat<s.ar.length:=ku h4;refine aI (k:=(ah s.ar i).toNat) rfl (by show some (ah s.ar i)=_;congr 1;omega) (by simpa using hat) ?_;conv=>whnf
   refine aF rfl (r:=.one (dB s.ar[(ah s.ar i).toNat].sh)) (by simp[ak,rA,hat,eB,dB]) ?_;conv=>whnf
   have e:cF s.ar i s.sl[i]= !(s.ar[(ah s.ar i).toNat].sh&&!s.sl[i].ow):=by rw[cF,if_neg h3,h5,decide_eq_true h4,gW,decide_eq_true h4];simp[hat]
   refine CondP.mk (fun h6=>?_) (fun h6=>?_)<;>rw[h6]<;>(conv=>whnf)<;>repeat' first|(refine aD ?_;conv=>whnf)|(refine aC ?_;conv=>whnf)
   ·refine CondP.mk (fun h7=>?_) (fun h7=>?_)<;>conv=>whnf
    ·refine fc (no ?_);rw[e,h6];simp at h7;simp[h7]
    ·refine⟨i+1,by omega,⟨by omega,yes ?_⟩,?_,rfl,rfl⟩
     ·rw[e,h6];simp at h7;simp[h7]
     ·rw[up hlt h2];rfl
   ·refine⟨i+1,by omega,⟨by omega,yes ?_⟩,?_,rfl,rfl⟩
    ·rw[e,h6];simp
    ·rw[up hlt h2];rfl
 ·refine aC3 ?_;have:i=s.sl.length:=by
                 have:¬i<s.sl.length:=by simp at h;omega
                 omega
  subst this;rw[hi2,List.drop_length];rfl
end Go.Qm
namespace Go.Qm
open Go.Cq Go.Cq.D Go.RowKit Go.Proofs
set_option maxRecDepth 10000
theorem aDr{P:Prg}{ts:DTs}{H:DH}{n:Nat}{K:DT→DTs→DH→Nat→List Nat→Prop}{x y:Opd}{a b:Int}(h1:evS ts x=some (.int .i64 a))(h2:evS ts y=some (.int .i64 b))(h:K (.v (.one (.sc (.int .i64 (max a b))))) ts H n []):OpP P (.mm true x y) ts H n K:=⟨⟨_,_,.int .i64 (max a b),h1,h2,by simp only[vj,if_true];congr 2;split<;>omega,h⟩⟩
theorem aDk{P:Prg}{ts:DTs}{H:DH}{n:Nat}{K:DT→DTs→DH→Nat→List Nat→Prop}{x y:Opd}{a b:Int}(h1:evS ts x=some (.int .i64 a))(h2:evS ts y=some (.int .i64 b))(h:K (.v (.one (.sc (.int .i64 (min a b))))) ts H n []):OpP P (.mm false x y) ts H n K:=⟨⟨_,_,.int .i64 (min a b),h1,h2,by simp only[vj,if_true];rw[if_neg (by decide)];congr 2;split<;>omega,h⟩⟩
theorem rJ(a:Area)(lo hi:Int)(ho:an a=true)(h1: -1000≤lo∧lo≤1000)(h2: -1000≤hi∧hi≤1000):bC Try.prog 181 [.agg (aA a),.one (dI lo),.one (dI hi)] (.tup [.agg (aA ((gw a lo hi).getD zH)),.one (dB (gw a lo hi).isSome)]):=by
 refine aK hmix Try.func181 ok181 ?_;have hb:=au.1 ho;conv=>whnf
 refine aDr rfl rfl ?_;conv=>whnf
 have e1:IntKind.wrap .i64 (IntKind.wrap .i64 (a.fr+a.mn)-1)=a.fr+a.mn-1:=by rw[wrap64 (x:=a.fr+a.mn) (by omega) (by omega),wrap64 (by omega) (by omega)]
 rw[e1];refine aDk rfl rfl ?_;conv=>whnf
 refine CondP.mk (fun h=>?_) (fun h=>?_)<;>conv=>whnf
 ·have h:min (a.fr+a.mn-1) hi<max a.fr lo:=by simpa using h
  refine⟨?_,rfl⟩;rw[gw,if_pos h];rfl
 ·have h:¬min (a.fr+a.mn-1) hi<max a.fr lo:=by simpa using h
  refine⟨?_,rfl⟩;rw[gw,if_neg h,wrap64 (x:=min (a.fr+a.mn-1) hi-max a.fr lo) (by omega) (by omega),wrap64 (by omega) (by omega)];rfl
theorem qR{l:List Area}{fr to:Int}{i:Nat}(h:i<l.length):fT (l.take (i+1)) fr to=fT (l.take i) fr to++pQ l[i] fr to:=by rw[List.take_succ_eq_append_getElem h,fT,fT,List.flatMap_append];simp
theorem aAr{a:Area}{fr to:Int}:(pQ a fr to).length≤2:=by unfold pQ;cases gw a 0 (fr-1)<;>cases gw a (to+1) 15<;>simp
theorem pM{l:List Area}{fr to:Int}:(fT l fr to).length≤2*l.length:=by
 induction l with
 |nil=>simp[fT]
 |cons a l ih=>have:=aAr (a:=a) (fr:=fr) (to:=to);simp only[fT,List.flatMap_cons,List.length_append,List.length_cons]at ih ⊢;omega
theorem aD9{α:Type}{a b:List α}{i:Nat}(h:a.length≤2*i)(hi:i≤1048576):((((a.take a.length++b.take 1).drop 0).take (a.length+1)).length+1)*24≤140737488355328:=by rw[List.length_take];omega
theorem ga{α:Type}{a b:List α}{i:Nat}(h:a.length≤2*i)(hi:i≤1048576):(((a.take a.length++b.take 1).drop 0).take (a.length+1)).length+1≤140737488355328:=by rw[List.length_take];omega
set_option maxHeartbeats 1000000 in
theorem aBC(b:Bool)(l:List Area)(fr to:Int)(hl:l.length≤1048576)(ho:∀a,a∈l→an a=true)(h1:0≤fr∧fr≤100)(h2:0≤to∧to≤100):bC Try.prog 163 [.one (.ro b 4 (l.map rA)),.one (dI fr),.one (dI to)] (.v (.one (.own 4 ((fT l fr to).map rA)))):=by
 refine aK hmix Try.func163 ok163 ?_;conv=>whnf
 refine bR rfl rfl rfl ?_;conv=>whnf
 refine aq (fun i:Nat=>[(0,.v (.one (.ro b 4 (l.map rA)))),(1,.v (.one (dI fr))),(2,.v (.one (dI to))),(7,.v (.one (.own 4 ((fT (l.take i) fr to).map rA)))),(8,.v (.one (dI i)))]) (fun _=>[]) (fun _=>0)
  (fun i=>i≤l.length) (fun i=>l.length-i) 0 (by omega) (by simp[fT,dI]) rfl rfl fun i hi=>?_
 conv=>whnf
 refine CondP.mk (fun h=>?_) (fun h=>?_)<;>conv=>whnf
 ·have hlt:i<l.length:=by simpa using h
  have hoi:=ho _ (List.getElem_mem hlt);have hn:=pM (l:=l.take i) (fr:=fr) (to:=to);rw[List.length_take,Nat.min_eq_left hi]at hn;have hn':((fT (l.take i) fr to).map rA).length≤2*i:=by rw[List.length_map];exact hn
  refine aI (k:=i) rfl rfl (by simpa using hlt) ?_;conv=>whnf
  refine aF rfl (ldA hlt) ?_;conv=>whnf
  rw[wrap64 (x:=fr-1) (by omega) (by omega)];refine aB [.pass,.pass,.pass] rfl rfl rfl (rJ l[i] 0 (fr-1) hoi (by omega) (by omega)) rfl ?_;conv=>whnf
  refine aI (k:=i) rfl rfl (by simpa using hlt) ?_;conv=>whnf
  refine aF rfl (ldA hlt) ?_;conv=>whnf
  rw[wrap64 (x:=to+1) (by omega) (by omega)];refine aB [.pass,.pass,.pass] rfl rfl rfl (rJ l[i] (to+1) 15 hoi (by omega) (by omega)) rfl ?_;conv=>whnf
  have hc:=qR (fr:=fr) (to:=to) hlt;cases hp:gw l[i] 0 (fr-1)with
  |none=>
   (conv=>whnf)<;>repeat' first|(refine aD ?_;conv=>whnf)|(refine aC ?_;conv=>whnf)
   cases hq:gw l[i] (to+1) 15 with
   |none=>
    (conv=>whnf)<;>repeat' first|(refine aD ?_;conv=>whnf)|(refine aC ?_;conv=>whnf)
    refine⟨i+1,by omega,by omega,?_,rfl,rfl⟩;rw[up hlt (by omega),hc,pQ,hp,hq];simp[dI]
   |some y=>
    (conv=>whnf)<;>repeat' first|(refine aD ?_;conv=>whnf)|(refine aC ?_;conv=>whnf)
    refine bR rfl rfl rfl ?_;conv=>whnf
    refine cH [] [] 1 (sz:=4) rfl rfl rfl rfl rfl rfl rfl rfl (by omega) (by omega) ?_;conv=>whnf
    refine⟨i+1,by omega,by omega,?_,rfl,rfl⟩;rw[up hlt (by omega),hc,pQ,hp,hq];simp[dI,rA,eI,eB,List.replicate,List.take_of_length_le]
  |some x=>
   (conv=>whnf)<;>repeat' first|(refine aD ?_;conv=>whnf)|(refine aC ?_;conv=>whnf)
   refine bR rfl rfl rfl ?_;conv=>whnf
   refine cH [] [] 1 (sz:=4) rfl rfl rfl rfl rfl rfl rfl rfl (by omega) (by omega) ?_;conv=>whnf
   cases hq:gw l[i] (to+1) 15 with
   |none=>
    (conv=>whnf)<;>repeat' first|(refine aD ?_;conv=>whnf)|(refine aC ?_;conv=>whnf)
    refine⟨i+1,by omega,by omega,?_,rfl,rfl⟩;rw[up hlt (by omega),hc,pQ,hp,hq];simp[dI,rA,eI,eB,List.replicate,List.take_of_length_le]
   |some y=>
    (conv=>whnf)<;>repeat' first|(refine aD ?_;conv=>whnf)|(refine aC ?_;conv=>whnf)
    refine bR rfl rfl rfl ?_;conv=>whnf
    refine cH [] [] 1 (sz:=4) rfl rfl rfl rfl rfl rfl rfl rfl (aD9 hn' (by omega)) (ga hn' (by omega)) ?_;conv=>whnf
    refine⟨i+1,by omega,by omega,?_,rfl,rfl⟩;rw[up hlt (by omega),hc,pQ,hp,hq];simp[dI,rA,eI,eB,List.replicate,List.take_of_length_le]
 ·have:i=l.length:=by
               have:¬i<l.length:=by simpa using h
               omega
  subst this;refine⟨?_,rfl⟩;simp
end Go.Qm
namespace Go.Qm
open Go.Cq Go.Cq.D Go.RowKit Go.Proofs
set_option maxRecDepth 10000
def eA(l:List Area)(fr mn:Int):Option (List Area):=if aO l&&an ⟨fr,mn,false,false⟩then(if aO (fT l fr (fr+mn-1))then some (fT l fr (fr+mn-1))else none)else none
set_option maxHeartbeats 1000000 in
theorem sX(b:Bool)(l:List Area)(fr mn:Int)(hl:l.length≤1048576):bC Try.prog 123 [.one (.ro b 4 (l.map rA)),.one (dI fr),.one (dI mn)] (.tup [.one (.own 4 (((eA l fr mn).getD []).map rA)),.one (dB (eA l fr mn).isSome)]):=by
 refine aK hmix Try.func123 ok123 ?_;conv=>whnf
 refine aB [.pass] rfl rfl rfl (gL b l (by omega)) rfl ?_;conv=>whnf
 refine CondP.mk (fun h1=>?_) (fun h1=>?_)<;>rw[h1]<;>(conv=>whnf)<;>repeat' first|(refine aD ?_;conv=>whnf)|(refine aC ?_;conv=>whnf)
 ·refine bR rfl rfl rfl ?_;conv=>whnf
  refine⟨?_,rfl⟩;rw[eA,show aO l=false by simpa using h1];simp[dB]
 have h1:aO l=true:=by simpa using h1
 refine aB [.pass] rfl rfl rfl (lO ⟨fr,mn,false,false⟩) rfl ?_
 (conv=>whnf)<;>repeat' first|(refine aD ?_;conv=>whnf)|(refine aC ?_;conv=>whnf)
 refine CondP.mk (fun h2=>?_) (fun h2=>?_)<;>conv=>whnf
 ·refine bR rfl rfl rfl ?_;conv=>whnf
  refine⟨?_,rfl⟩;rw[eA,show an ⟨fr,mn,false,false⟩=false by simpa using h2];simp[dB]
 have h2:an ⟨fr,mn,false,false⟩=true:=by simpa using h2
 have hb:=au.1 h2;simp only at hb;rw[wrap64 (x:=fr+mn) (by omega) (by omega),wrap64 (x:=fr+mn-1) (by omega) (by omega)];refine aB [.pass,.pass,.pass] rfl rfl rfl (aBC b l fr (fr+mn-1) hl (cr h1) (by omega) (by omega)) rfl ?_;conv=>whnf
 have hn:=pM (l:=l) (fr:=fr) (to:=fr+mn-1);simp only[List.drop_zero,List.take_length];refine aB [.lend] rfl (by show some [DV.one (DC.ro true 4 (List.take _ (List.drop 0 _)))]=_;rw[List.drop_zero,List.take_length]) rfl (gL true (fT l fr (fr+mn-1)) (by omega)) rfl ?_;conv=>whnf
 refine CondP.mk (fun h3=>?_) (fun h3=>?_)<;>conv=>whnf
 ·refine bR rfl rfl rfl ?_;conv=>whnf
  refine⟨?_,rfl⟩;rw[eA,h1,h2,show aO (fT l fr (fr+mn-1))=false by simpa using h3];simp[dB]
 ·refine⟨?_,rfl⟩;rw[eA,h1,h2,show aO (fT l fr (fr+mn-1))=true by simpa using h3];simp[dB]
end Go.Qm
namespace Go.Qm
open Go.Cq Go.Cq.D Go.RowKit Go.Proofs
set_option maxRecDepth 10000
set_option maxHeartbeats 1000000 in
theorem uA(b:Bool)(l:List Area)(fr mn:Int)(hl:l.length≤1048576):bC Try.prog 65 [.one (.ro b 4 (l.map rA)),.one (dI fr),.one (dI mn)] (.tup [.one (.own 4 (((uO l fr mn).getD []).map rA)),.one (dB (uO l fr mn).isSome)]):=by
 refine aK hmix Try.func65 ok65 ?_;conv=>whnf
 refine aB [.pass] rfl rfl rfl (iG b l (by omega)) rfl ?_;conv=>whnf
 refine CondP.mk (fun h1=>?_) (fun h1=>?_)<;>rw[h1]<;>(conv=>whnf)<;>repeat' first|(refine aD ?_;conv=>whnf)|(refine aC ?_;conv=>whnf)
 ·refine⟨?_,rfl⟩;rw[uO,show aO l=false by simpa using h1];simp[dB]
 have h1:aO l=true:=by simpa using h1
 refine aB [.pass] rfl rfl rfl (mo ⟨fr,mn,false,false⟩) rfl ?_
 (conv=>whnf)<;>repeat' first|(refine aD ?_;conv=>whnf)|(refine aC ?_;conv=>whnf)
 refine CondP.mk (fun h2=>?_) (fun h2=>?_)<;>conv=>whnf
 ·refine⟨?_,rfl⟩;rw[uO,show an ⟨fr,mn,false,false⟩=false by simpa using h2];simp[dB]
 have h2:an ⟨fr,mn,false,false⟩=true:=by simpa using h2
 have hb:=au.1 h2;simp only at hb;refine bR rfl rfl rfl ?_;conv=>whnf
 refine aq (fun i:Nat=>[(8,.v (.one (.ptr 0 0 0))),(9,.v (.one (.own 4 ((fT (l.take i) fr (fr+mn-1)).map rA)))),(26,.v (.one (.ro b 4 (l.map rA)))),(27,.v (.one (dI (l.map rA).length))),(28,.v (.one (dI i)))]) (fun _=>[(0,.box [dI fr,dI mn,dB false,dB false])]) (fun _=>1)
  (fun i=>i≤l.length) (fun i=>l.length-i) 0 (by omega) (by simp[fT,dI]) rfl rfl fun i hi=>?_
 conv=>whnf
 refine CondP.mk (fun h=>?_) (fun h=>?_)<;>conv=>whnf
 ·have hlt:i<l.length:=by simpa using h
  have hoi:=cr h1 _ (List.getElem_mem hlt);have hbi:=au.1 hoi;have hn:=pM (l:=l.take i) (fr:=fr) (to:=fr+mn-1);rw[List.length_take,Nat.min_eq_left hi]at hn;have hn':((fT (l.take i) fr (fr+mn-1)).map rA).length≤2*i:=by rw[List.length_map];exact hn
  have hc:=qR (fr:=fr) (to:=fr+mn-1) hlt;rw[xA hoi h2]at hc;refine aI (k:=i) rfl rfl (by simpa using hlt) ?_;conv=>whnf
  refine aF rfl (ldA hlt) ?_;conv=>whnf
  refine aB [.pass] rfl rfl rfl (fY ⟨fr,mn,false,false⟩) rfl ?_;conv=>whnf
  have ec:IntKind.wrap .i64 (fr+mn)=fr+mn:=wrap64 (by omega) (by omega);have ea:IntKind.wrap .i64 (l[i].fr+l[i].mn)=l[i].fr+l[i].mn:=wrap64 (by omega) (by omega);simp only[ec];refine CondP.mk (fun c1=>?_) (fun c1=>?_)<;>rw[c1]<;>(conv=>whnf)<;>repeat' first|(refine aD ?_;conv=>whnf)|(refine aC ?_;conv=>whnf)
  ·have c1:fr+mn≤l[i].fr:=by simpa using c1
   rw[if_pos (Or.inl c1)]at hc;refine bR rfl rfl rfl ?_;conv=>whnf
   refine cH [] [] 1 (sz:=4) rfl rfl rfl rfl rfl rfl rfl rfl (by omega) (by omega) ?_;conv=>whnf
   refine⟨i+1,by omega,by omega,?_,rfl,rfl⟩;rw[up hlt (by omega),hc];simp[dI,rA,eI,eB,List.replicate,List.take_of_length_le]
  have c1:¬fr+mn≤l[i].fr:=by simpa using c1
  refine aB [.pass] rfl rfl rfl (fY l[i]) rfl ?_
  (conv=>whnf)<;>repeat' first|(refine aD ?_;conv=>whnf)|(refine aC ?_;conv=>whnf)
  simp only[ea];refine CondP.mk (fun c2=>?_) (fun c2=>?_)<;>conv=>whnf
  ·have c2:l[i].fr+l[i].mn≤fr:=by simpa using c2
   rw[if_pos (Or.inr c2)]at hc;refine bR rfl rfl rfl ?_;conv=>whnf
   refine cH [] [] 1 (sz:=4) rfl rfl rfl rfl rfl rfl rfl rfl (by omega) (by omega) ?_;conv=>whnf
   refine⟨i+1,by omega,by omega,?_,rfl,rfl⟩;rw[up hlt (by omega),hc];simp[dI,rA,eI,eB,List.replicate,List.take_of_length_le]
  have c2:¬l[i].fr+l[i].mn≤fr:=by simpa using c2
  rw[if_neg (by omega)]at hc;have e5:IntKind.wrap .i64 (l[i].fr+l[i].mn-(fr+mn))=l[i].fr+l[i].mn-(fr+mn):=wrap64 (by omega) (by omega);refine CondP.mk (fun c3=>?_) (fun c3=>?_)<;>conv=>whnf
  ·have c3:l[i].fr<fr:=by simpa using c3
   rw[if_pos c3]at hc;simp only[wrap64 (x:=fr-l[i].fr) (by omega) (by omega)];refine bR rfl rfl rfl ?_;conv=>whnf
   refine cH [] [] 1 (sz:=4) rfl rfl rfl rfl rfl rfl rfl rfl (by omega) (by omega) ?_;conv=>whnf
   refine aB [.pass] rfl rfl rfl (fY ⟨fr,mn,false,false⟩) rfl ?_;conv=>whnf
   refine aB [.pass] rfl rfl rfl (fY l[i]) rfl ?_;conv=>whnf
   simp only[ec,ea];refine CondP.mk (fun c4=>?_) (fun c4=>?_)<;>conv=>whnf
   ·have c4:fr+mn<l[i].fr+l[i].mn:=by simpa using c4
    rw[if_pos c4]at hc;refine aB [.pass] rfl rfl rfl (fY ⟨fr,mn,false,false⟩) rfl ?_;conv=>whnf
    refine aB [.pass] rfl rfl rfl (fY l[i]) rfl ?_;conv=>whnf
    refine aB [.pass] rfl rfl rfl (fY ⟨fr,mn,false,false⟩) rfl ?_;conv=>whnf
    simp only[ec,ea,e5];refine bR rfl rfl rfl ?_;conv=>whnf
    refine cH [] [] 1 (sz:=4) rfl rfl rfl rfl rfl rfl rfl rfl (aD9 hn' (by omega)) (ga hn' (by omega)) ?_;conv=>whnf
    refine⟨i+1,by omega,by omega,?_,rfl,rfl⟩;rw[up hlt (by omega),hc];simp[dI,rA,eI,eB,List.replicate,List.take_of_length_le]
   ·have c4:¬fr+mn<l[i].fr+l[i].mn:=by simpa using c4
    rw[if_neg c4]at hc;refine⟨i+1,by omega,by omega,?_,rfl,rfl⟩;rw[up hlt (by omega),hc];simp[dI,rA,eI,eB,List.replicate,List.take_of_length_le]
  ·have c3:¬l[i].fr<fr:=by simpa using c3
   rw[if_neg c3]at hc;refine aB [.pass] rfl rfl rfl (fY ⟨fr,mn,false,false⟩) rfl ?_;conv=>whnf
   refine aB [.pass] rfl rfl rfl (fY l[i]) rfl ?_;conv=>whnf
   simp only[ec,ea];refine CondP.mk (fun c4=>?_) (fun c4=>?_)<;>conv=>whnf
   ·have c4:fr+mn<l[i].fr+l[i].mn:=by simpa using c4
    rw[if_pos c4]at hc;refine aB [.pass] rfl rfl rfl (fY ⟨fr,mn,false,false⟩) rfl ?_;conv=>whnf
    refine aB [.pass] rfl rfl rfl (fY l[i]) rfl ?_;conv=>whnf
    refine aB [.pass] rfl rfl rfl (fY ⟨fr,mn,false,false⟩) rfl ?_;conv=>whnf
    simp only[ec,ea,e5];refine bR rfl rfl rfl ?_;conv=>whnf
    refine cH [] [] 1 (sz:=4) rfl rfl rfl rfl rfl rfl rfl rfl (by omega) (by omega) ?_;conv=>whnf
    refine⟨i+1,by omega,by omega,?_,rfl,rfl⟩;rw[up hlt (by omega),hc];simp[dI,rA,eI,eB,List.replicate,List.take_of_length_le]
   ·have c4:¬fr+mn<l[i].fr+l[i].mn:=by simpa using c4
    rw[if_neg c4]at hc;refine⟨i+1,by omega,by omega,?_,rfl,rfl⟩;rw[up hlt (by omega),hc];simp[dI]
 ·have:i=l.length:=by
               have:¬i<l.length:=by simpa using h
               omega
  subst this;rw[List.take_length];refine CondP.mk (fun c=>?_) (fun c=>?_)<;>conv=>whnf
  ·refine⟨?_,rfl⟩;have c:¬(fT l fr (fr+mn-1)).length≤6:=by simp at c;omega
   rw[uO,h1,h2];simp[c,dB]
  ·refine⟨?_,rfl⟩;have c:(fT l fr (fr+mn-1)).length≤6:=by simp at c;omega
   rw[uO,h1,h2];simp[c,dB]
end Go.Qm
namespace Go.Qm
open Go.Cq Go.Cq.D Go.RowKit Go.Proofs
set_option maxRecDepth 10000
theorem qM(p:Pages)(k:Nat)(h1:k<p.tx.length)(h2:k<p.rf.length)(hb: -1000≤p.rf[k]∧p.rf[k]≤1000):bC Try.prog 164 [.agg [.own 1 (p.tx.map rS),.own 1 (p.rf.map rI)],.one (dI k)] (.v (.agg [.own 1 ((cS p k).tx.map rS),.own 1 ((cS p k).rf.map rI)])):=by
 refine aK hmix Try.func164 ok164 ?_;conv=>whnf
 refine aE (k:=k) rfl rfl rfl (by simpa using h2) ?_;conv=>whnf
 refine cz rfl rfl rfl (aW (row:=rI p.rf[k]) (by simp[h2]) rfl rfl rfl) rfl ?_;conv=>whnf
 have ew:IntKind.wrap .i64 (p.rf[k]-1)=p.rf[k]-1:=wrap64 (by omega) (by omega);simp only[ew];refine aE (k:=k) rfl rfl rfl (by simpa using h2) ?_;conv=>whnf
 refine af rfl rfl rfl (by simpa using h2) (by decide) ?_;conv=>whnf
 refine aE (k:=k) rfl rfl rfl (by simpa using h2) ?_;conv=>whnf
 refine cz rfl rfl rfl (aW (row:=rI (p.rf[k]-1)) (by simp[h2,rI,eI]) rfl rfl rfl) rfl ?_;conv=>whnf
 have hr:p.rf[k]?.getD 0=p.rf[k]:=by simp[h2]
 have hset:(p.rf.map rI).set k (rI (p.rf[k]-1))=(p.rf.set k (p.rf[k]-1)).map rI:=map_set;have hm:(p.rf.map rI).modify k (fun row=>row.set 0 (.sc (.int .i64 (p.rf[k]-1))))=(p.rf.set k (p.rf[k]-1)).map rI:=by rw[bE (av (f:=rI) (List.getElem?_eq_getElem h2)),←hset];rfl
 refine CondP.mk (fun h=>?_) (fun h=>?_)<;>conv=>whnf
 ·have h:p.rf[k]=1:=by simp at h;omega
  refine aE (k:=k) rfl rfl rfl (by simpa using h1) ?_;conv=>whnf
  refine af rfl rfl rfl (by simpa using h1) (by decide) ?_;conv=>whnf
  refine⟨?_,rfl⟩;have ht:(p.tx.map rS).modify k (fun row=>row.set 0 (.sc (.str [])))=(p.tx.set k []).map rS:=by rw[bE (av (f:=rS) (List.getElem?_eq_getElem h1)),←map_set];rfl
  simp only[cS,hr,if_pos h,List.drop_zero,ht,hm,List.take_of_length_le,List.length_map,List.length_set,Nat.le_refl]
 ·have h:¬p.rf[k]=1:=by simp at h;omega
  refine⟨?_,rfl⟩;simp only[cS,hr,if_neg h,List.drop_zero,hm,List.take_of_length_le,List.length_map,List.length_set,Nat.le_refl]
end Go.Qm
namespace Go.Qm
open Go.Cq Go.Cq.D Go.RowKit Go.Proofs
set_option maxRecDepth 10000
theorem jC{α:Type}{es:List α}{i:Nat}{row:α}(h:es[i]?=some row):es.set i row=es:=by obtain⟨hi,rfl⟩:=List.getElem?_eq_some_iff.1 h;exact List.set_getElem_self hi
theorem bo{sp:List Space}{i j:Nat}{x:Slot}(hi:i<sp.length):(sp.map rP).modify i (fun row=>row.set 2 (.sl 4 ((sp[i].sl.map rL).set j (rL x))))=(aH sp i j x).map rP:=by rw[bE (av (f:=rP) (List.getElem?_eq_getElem hi)),aH,iW (List.getElem?_eq_getElem hi),←map_set,map_set (f:=rL)];rfl
set_option maxHeartbeats 1000000 in
theorem qK(m:Mem)(i j:Nat)(hi:i<m.sp.length)(hj:j<m.sp[i].sl.length)(hr:m.sp[i].sl[j].kd=1→∃k:Nat,m.sp[i].sl[j].pl=k∧k<m.ram.tx.length∧∃h:k<m.ram.rf.length, -1000≤m.ram.rf[k]∧m.ram.rf[k]≤1000)(hw:m.sp[i].sl[j].kd=2→∃k:Nat,m.sp[i].sl[j].pl=k∧k<m.swp.tx.length∧∃h:k<m.swp.rf.length, -1000≤m.swp.rf[k]∧m.swp.rf[k]≤1000):
  bC Try.prog 124 [oM m,.one (dI i),.one (dI j)] (.v (oM (gD m i j))):=by
 refine aK hmix Try.func124 ok124 ?_;conv=>whnf
 refine aE (k:=i) rfl rfl rfl (by simpa using hi) ?_;conv=>whnf
 have hg:(m.sp.map rP)[i]?=some (rP m.sp[i]):=by simp[hi]
 refine cE (i:=i) (k:=2) (sz':=4) (es':=m.sp[i].sl.map rL) m.sp[i].sl.length rfl rfl rfl (aW (by rw[List.drop_zero,List.take_length];exact hg) rfl rfl rfl) rfl (by simp) ?_;conv=>whnf
 refine aE (k:=j) rfl rfl rfl hj ?_;conv=>whnf
 refine gU (row:=rL m.sp[i].sl[j]) rfl rfl rfl (by simp[hj]) (cV _) rfl rfl ?_;conv=>whnf
 have hback:(m.sp.map rP).modify i (fun row=>row.set 2 (.sl 4 (m.sp[i].sl.map rL)))=m.sp.map rP:=by rw[bE hg];exact jC hg
 refine aX (i:=i) (k:=2) (g':=8) (lo:=0) (len:=m.sp[i].sl.length) (es2:=m.sp.map rP) (ov2:=[]) rfl (ai (by rw[List.drop_zero,List.take_length];exact hg) (by simp[rP]) (by simp only[aa,if_true];rfl)) rfl rfl (by rw[List.drop_zero,List.take_length,List.drop_zero,aU];exact hback) (by simp only[aZ,if_true];rfl) ?_;conv=>whnf
 have hbd:(m.sp[i]?.bind fun s=>s.sl[j]?)=some m.sp[i].sl[j]:=by simp[hi,hj]
 have hsl:(aH m.sp i j cQ).length=m.sp.length:=by simp[aH]
 have htk:((aH m.sp i j cQ).map rP).take m.sp.length=(aH m.sp i j cQ).map rP:=List.take_of_length_le (by simp[hsl]);simp only[List.drop_zero,List.take_length];refine CondP.mk (fun c1=>?_) (fun c1=>?_)<;>conv=>whnf
 ·have c1:m.sp[i].sl[j].kd=1:=by simpa using c1
  obtain⟨k,e1,e2,e3,e4⟩:=hr c1;simp only[e1];refine aB [.fS,.pass] rfl rfl rfl (by simpa [dI]using qM m.ram k e2 e3 e4) rfl ?_;conv=>whnf
  refine aE (k:=i) rfl rfl rfl (by simpa using hi) ?_;conv=>whnf
  refine cE (i:=i) (k:=2) (sz':=4) (es':=m.sp[i].sl.map rL) m.sp[i].sl.length rfl rfl rfl (aW hg rfl rfl rfl) rfl (by simp) ?_;conv=>whnf
  refine aE (k:=j) rfl rfl rfl hj ?_;conv=>whnf
  refine bU (row':=rL cQ) rfl rfl rfl (by simpa using hj) (dD (fun _=>rfl)) (cV _) rfl rfl rfl ?_;conv=>whnf
  refine aX (i:=i) (k:=2) (g':=8) (lo:=0) (len:=m.sp[i].sl.length) (es2:=(aH m.sp i j cQ).map rP) (ov2:=[]) rfl (ai hg (by simp[rP]) (by simp only[aa,if_true];rfl)) rfl rfl (by rw[List.drop_zero,List.take_of_length_le (by simp)];exact bo hi) (by simp only[aZ,if_true];rfl) ?_;conv=>whnf
  refine⟨?_,rfl⟩;simp only[gD,hbd];simp[oM,dI,c1,e1,htk]
 ·have c1:¬m.sp[i].sl[j].kd=1:=by simpa using c1
  refine CondP.mk (fun c2=>?_) (fun c2=>?_)<;>conv=>whnf
  ·have c2:m.sp[i].sl[j].kd=2:=by simpa using c2
   obtain⟨k,e1,e2,e3,e4⟩:=hw c2;simp only[e1];refine aB [.fS,.pass] rfl rfl rfl (by simpa [dI]using qM m.swp k e2 e3 e4) rfl ?_;conv=>whnf
   refine aE (k:=i) rfl rfl rfl (by simpa using hi) ?_;conv=>whnf
   refine cE (i:=i) (k:=2) (sz':=4) (es':=m.sp[i].sl.map rL) m.sp[i].sl.length rfl rfl rfl (aW hg rfl rfl rfl) rfl (by simp) ?_;conv=>whnf
   refine aE (k:=j) rfl rfl rfl hj ?_;conv=>whnf
   refine bU (row':=rL cQ) rfl rfl rfl (by simpa using hj) (dD (fun _=>rfl)) (cV _) rfl rfl rfl ?_;conv=>whnf
   refine aX (i:=i) (k:=2) (g':=8) (lo:=0) (len:=m.sp[i].sl.length) (es2:=(aH m.sp i j cQ).map rP) (ov2:=[]) rfl (ai hg (by simp[rP]) (by simp only[aa,if_true];rfl)) rfl rfl (by rw[List.drop_zero,List.take_of_length_le (by simp)];exact bo hi) (by simp only[aZ,if_true];rfl) ?_;conv=>whnf
   refine⟨?_,rfl⟩;simp only[gD,hbd];simp[oM,dI,c2,e1,htk]
  ·have c2:¬m.sp[i].sl[j].kd=2:=by simpa using c2
   refine aE (k:=i) rfl rfl rfl (by simpa using hi) ?_;conv=>whnf
   refine cE (i:=i) (k:=2) (sz':=4) (es':=m.sp[i].sl.map rL) m.sp[i].sl.length rfl rfl rfl (aW hg rfl rfl rfl) rfl (by simp) ?_;conv=>whnf
   refine aE (k:=j) rfl rfl rfl hj ?_;conv=>whnf
   refine bU (row':=rL cQ) rfl rfl rfl (by simpa using hj) (dD (fun _=>rfl)) (cV _) rfl rfl rfl ?_;conv=>whnf
   refine aX (i:=i) (k:=2) (g':=11) (lo:=0) (len:=m.sp[i].sl.length) (es2:=(aH m.sp i j cQ).map rP) (ov2:=[]) rfl (ai hg (by simp[rP]) (by simp only[aa,if_true];rfl)) rfl rfl (by rw[List.drop_zero,List.take_of_length_le (by simp)];exact bo hi) (by simp only[aZ,if_true];rfl) ?_;conv=>whnf
   refine⟨?_,rfl⟩;simp only[gD,hbd];simp[oM,dI,c1,c2,htk]
end Go.Qm
namespace Go.Qm
open Go.Cq Go.Cq.D Go.RowKit Go.Proofs
set_option maxRecDepth 10000
def dq(m:Mem)(i:Nat):List Area:=(m.sp[i]?.map (·.ar)).getD []
def oi(c:Option (List Area))(m:Mem)(i:Nat)(fr mn:Int):Mem×Int:=match c with
 |some l=>(bG (ag m i l) i fr.toNat mn.toNat,0)
 |none=>(m,4)
theorem mI{m:Mem}{i:Nat}(h:b7 m=true)(hi:i<m.sp.length)(hlv:m.sp[i].lv=true):aO m.sp[i].ar=true∧m.sp[i].ar.length≤6∧m.sp[i].sl.length=16:=by simp only[b7,Bool.and_eq_true,decide_eq_true_eq]at h;have hs:=List.all_eq_true.1 h.1.1.2 _ (List.getElem_mem hi);simp only[Bool.and_eq_true]at hs;have hso:=hs.1;rw[bY,if_pos hlv]at hso;simp only[Bool.and_eq_true,decide_eq_true_eq]at hso;have:=hso.1;simp only[aO,Bool.and_eq_true,decide_eq_true_eq]at this;exact⟨hso.1,this.2,hso.2.1⟩
def eh:Mem:=⟨⟨[],[]⟩,⟨[],[]⟩,[],0⟩
def bO(m:Mem):DB:=.box [.own 1 (m.ram.tx.map rS),.own 1 (m.ram.rf.map rI),.own 1 (m.swp.tx.map rS),.own 1 (m.swp.rf.map rI),.own 3 (m.sp.map rP),dI m.hd]
theorem jX{l0 l:List Area}{fr mn:Int}(h:eA l0 fr mn=some l):an ⟨fr,mn,false,false⟩=true∧aO l=true:=by
 unfold eA at h;split at h
 ·rename_i h1;simp only[Bool.and_eq_true]at h1;split at h
  ·rename_i h2;cases h;exact⟨h1.2,h2⟩
  ·simp at h
 ·simp at h
theorem iA{m:Mem}{i:Nat}{l:List Area}(hi:i<m.sp.length):(m.sp.map rP).modify i (fun row=>row.set 1 (.sl 4 (l.map rA)))=(ag m i l).sp.map rP:=by rw[bE (av (f:=rP) (List.getElem?_eq_getElem hi)),ag,iW (List.getElem?_eq_getElem hi),←map_set];rfl
set_option maxHeartbeats 1000000 in
theorem qc(m:Mem)(i:Nat)(fr mn:Int)(hi:i<m.sp.length)(hal:m.sp[i].ar.length≤6)(hL:∀l fr,LsOk (ag m i l) i fr 0):
  bC Try.prog 59 [oM m,.one (dI i),.one (dI fr),.one (dI mn)] (.tup [oM (oi (eA (dq m i) fr mn) m i fr mn).1,.one (dI (oi (eA (dq m i) fr mn) m i fr mn).2)]):=by
 have har:dq m i=m.sp[i].ar:=by simp[dq,hi]
 rw[har];refine aK hmix Try.func59 ok59 ?_;conv=>whnf
 refine aE (k:=i) rfl rfl rfl (by simpa using hi) ?_;conv=>whnf
 have hg:(m.sp.map rP)[i]?=some (rP m.sp[i]):=by simp[hi]
 refine cE (i:=i) (k:=1) (sz':=4) (es':=m.sp[i].ar.map rA) m.sp[i].ar.length rfl rfl rfl (aW (by rw[List.drop_zero,List.take_length];exact hg) rfl rfl rfl) rfl (by simp) ?_;conv=>whnf
 simp only[List.drop_zero,List.take_length];refine aB [.lend,.pass,.pass] rfl (by show some [DV.one (DC.ro true 4 (List.take _ (List.drop 0 _))),DV.one (dI _),DV.one (dI _)]=_;rw[List.drop_zero,aU]) rfl (sX true m.sp[i].ar fr mn (by omega)) rfl ?_;conv=>whnf
 have hback:(m.sp.map rP).modify i (fun row=>row.set 1 (.sl 4 (m.sp[i].ar.map rA)))=m.sp.map rP:=by rw[bE hg];exact jC hg
 refine aX (i:=i) (k:=1) (g':=8) (lo:=0) (len:=m.sp[i].ar.length) (es2:=m.sp.map rP) (ov2:=[]) rfl (ai hg (by simp[rP]) (by simp only[aa,if_true];rfl)) rfl rfl (by rw[List.drop_zero,aU];exact hback) (by simp only[aZ,if_true];rfl) ?_;conv=>whnf
 simp only[List.drop_zero,List.take_length];cases hc:eA m.sp[i].ar fr mn with
 |none=>
  refine CondP.mk (fun c1=>?_) (fun c1=>?_)<;>conv=>whnf
  ·refine⟨?_,rfl⟩;simp[oM,oi,dI]
  ·simp at c1
 |some l=>
  refine CondP.mk (fun c1=>?_) (fun c1=>?_)<;>conv=>whnf
  ·simp at c1
  ·refine aE (k:=i) rfl rfl rfl (by simpa using hi) ?_;conv=>whnf
   simp only[Option.getD_some];refine dV rfl rfl rfl rfl rfl (by simp[wrN,wr1,DV.cells,hi];rfl) ?_;conv=>whnf
   refine aX (i:=i) (k:=1) (g':=8) (lo:=0) (len:=l.length) (es2:=(ag m i l).sp.map rP) (ov2:=[]) rfl (ai (by simpa using hg) (by simp[rP]) (by simp only[aa,if_true];rfl)) rfl rfl (by rw[List.drop_zero,aU];exact iA hi) (by simp only[aZ,if_true];rfl) ?_;conv=>whnf
   obtain⟨h2,h4⟩:=jX hc;have hb:=au.1 h2;simp only at hb;obtain⟨f,rfl⟩:=Int.eq_ofNat_of_zero_le hb.1;obtain⟨g,rfl⟩:=Int.eq_ofNat_of_zero_le (show 0≤mn by omega);have hls:LsOk (ag m i l) i f 0:=hL l f;refine aq (fun t:Nat=>[(1,.v (.one (dI i))),(2,.v (.one (dI f))),(3,.v (.one (dI g))),(4,.v (.one (.ptr 5 0 0))),(8,.v (.one (.ptr 6 0 0))),(12,.v (.one (dI ((f+t:Nat):Int))))]) (fun t=>[(6,bO eh),(5,bO (bG (ag m i l) i f t))]) (fun _=>7)
    (fun t=>t≤g) (fun t=>g-t) 0 (by omega) rfl (by rw[List.drop_zero,List.take_of_length_le (by simp[ag])];rfl) rfl fun t ht=>?_
   have hlt:=kp hls (t:=t) (by omega);conv=>whnf
   rw[wrap64 (x:=(f:Int)+g) (by omega) (by omega)];refine CondP.mk (fun c2=>?_) (fun c2=>?_)<;>conv=>whnf
   ·have c2:t<g:=by simp at c2;omega
    have hj:f+t< ((bG (ag m i l) i f t).sp[i]'hlt.hi).sl.length:=by rw[hlt.sl];omega
    have hok:=hlt.ok (by omega) (Nat.le_refl _) hlt.hi hj;refine aB [.fS,.pass,.pass] rfl rfl rfl (by simpa [oM,dI]using qK (bG (ag m i l) i f t) i (f+t) hlt.hi hj hok.1 hok.2) rfl ?_;conv=>whnf
    refine⟨t+1,by omega,by omega,?_,?_,rfl⟩
    ·rw[wrap64 (x:=((f+t:Nat):Int)+1) (by omega) (by omega),show((f+t:Nat):Int)+1=((f+(t+1):Nat):Int) by omega];rfl
    ·simp[bO,bG,dI]
   ·have c2:t=g:=by simp at c2;omega
    subst c2;refine⟨?_,rfl⟩;simp[oM,oi,dI]
theorem yw(m:Mem)(i:Nat)(fr mn:Int)(hm:b7 m=true)(hi:i<m.sp.length)(hlv:m.sp[i].lv=true):
  bC Try.prog 59 [oM m,.one (dI i),.one (dI fr),.one (dI mn)] (.tup [oM (oi (eA (dq m i) fr mn) m i fr mn).1,.one (dI (oi (eA (dq m i) fr mn) m i fr mn).2)]):=
 qc m i fr mn hi (mI hm hi hlv).2.1 fun _ _=>ph hm hi hlv
end Go.Qm
namespace Go.Qm
open Go.Cq Go.Cq.D Go.RowKit Go.Proofs
set_option maxRecDepth 10000
def bM(b1 b2 b3 b4 b5:Bool)(m:Mem):DB:=.box [.ro b1 1 (m.ram.tx.map rS),.ro b2 1 (m.ram.rf.map rI),.ro b3 1 (m.swp.tx.map rS),.ro b4 1 (m.swp.rf.map rI),.ro b5 3 (m.sp.map rP),dI m.hd]
set_option maxHeartbeats 1000000 in
theorem qv(b1 b2 b3 b4 b5:Bool)(m:Mem)(kd pl:Int)(h:m.fits 4611686018427387904)(hb:(tel kd pl m.sp).length≤4611686018427387904):bC Try.prog 89 [aM b1 b2 b3 b4 b5 m,.one (dI kd),.one (dI pl)] (.v (.one (dI (tel kd pl m.sp).length))):=by
 refine aK hmix Try.func89 ok89 ?_;conv=>whnf
 refine aq (fun p:Nat×Nat=>[(1,.v (.one (dI kd))),(2,.v (.one (dI pl))),(3,.v (.one (.ptr 0 0 0))),(7,.v (.one (dI p.2))),(8,.v (.one (dI p.1)))]) (fun _=>[(0,bM b1 b2 b3 b4 b5 m)]) (fun _=>1)
  (fun p=>p.1≤m.sp.length∧p.2+(tel kd pl (m.sp.drop p.1)).length=(tel kd pl m.sp).length) (fun p=>m.sp.length-p.1) (0,0) ⟨by omega,by simp⟩ rfl rfl rfl fun p hi=>?_
 obtain⟨i,c⟩:=p;obtain⟨hi1,hi2⟩:=hi;simp only at hi1 hi2;conv=>whnf
 refine CondP.mk (fun h1=>?_) (fun h1=>?_)<;>conv=>whnf
 ·have hlt:i<m.sp.length:=by simpa using h1
  have hs:=h.ss _ (List.getElem_mem hlt);rw[uM hlt,List.length_append]at hi2;refine aq (fun p:Nat×Nat=>[(1,.v (.one (dI kd))),(2,.v (.one (dI pl))),(3,.v (.one (.ptr 0 0 0))),(7,.v (.one (dI p.2))),(8,.v (.one (dI i))),(9,.v (.one (dI p.1)))]) (fun _=>[(0,bM b1 b2 b3 b4 b5 m)]) (fun _=>1)
   (fun p=>p.1≤m.sp[i].sl.length∧p.2+(ei m.sp[i].ar kd pl p.1 (m.sp[i].sl.drop p.1)).length+(tel kd pl (m.sp.drop (i+1))).length=(tel kd pl m.sp).length) (fun p=>m.sp[i].sl.length-p.1) (0,c) ⟨by omega,by simp only[List.drop_zero];omega⟩ rfl rfl rfl fun p hj=>?_
  obtain⟨j,d⟩:=p;obtain⟨hj1,hj2⟩:=hj;simp only at hj1 hj2;conv=>whnf
  refine aI (k:=i) rfl rfl (by simpa using hlt) ?_;conv=>whnf
  refine aF rfl (r:=.one (.ro b5 4 (m.sp[i].sl.map rL))) (by simp[ak,rP,hlt]) ?_;conv=>whnf
  refine CondP.mk (fun h2=>?_) (fun h2=>?_)<;>conv=>whnf
  ·have hlj:j<m.sp[i].sl.length:=by simpa using h2
   rw[rU hlj]at hj2;refine aI (k:=i) rfl rfl (by simpa using hlt) ?_;conv=>whnf
   refine aF rfl (r:=.one (.ro b5 4 (m.sp[i].sl.map rL))) (by simp[ak,rP,hlt]) ?_;conv=>whnf
   refine aI (k:=j) rfl rfl (by simpa using hlj) ?_;conv=>whnf
   refine aF rfl (ldL hlj) ?_;conv=>whnf
   refine CondP.mk (fun h3=>?_) (fun h3=>?_)<;>rw[h3]<;>(conv=>whnf)<;>repeat' first|(refine aD ?_;conv=>whnf)|(refine aC ?_;conv=>whnf)
   ·have h3:m.sp[i].sl[j].kd=kd:=by simpa using h3
    refine CondP.mk (fun h4=>?_) (fun h4=>?_)<;>conv=>whnf
    ·have h4:m.sp[i].sl[j].pl=pl:=by simpa using h4
     rw[if_pos ⟨h3,h4⟩,List.length_cons]at hj2;refine⟨(j+1,d+1),by simp only;omega,⟨by simp only;omega,by simp only;omega⟩,?_,rfl,rfl⟩;rw[up hlj hs.2,wrap64 (by omega) (by omega),show(d:Int)+1=((d+1:Nat):Int) by omega];rfl
    ·have h4:¬m.sp[i].sl[j].pl=pl:=by simpa using h4
     rw[if_neg fun e=>h4 e.2]at hj2;refine⟨(j+1,d),by simp only;omega,⟨by simp only;omega,by simp only;omega⟩,?_,rfl,rfl⟩;rw[up hlj hs.2];rfl
   ·have h3:¬m.sp[i].sl[j].kd=kd:=by simpa using h3
    rw[if_neg fun e=>h3 e.1]at hj2;refine⟨(j+1,d),by simp only;omega,⟨by simp only;omega,by simp only;omega⟩,?_,rfl,rfl⟩;rw[up hlj hs.2];rfl
  ·have:j=m.sp[i].sl.length:=by
                     have:¬j<m.sp[i].sl.length:=by simpa using h2
                     omega
   subst this;rw[List.drop_length]at hj2;simp only[ei,List.length_nil]at hj2;refine⟨(i+1,d),by simp only;omega,⟨by simp only;omega,by simp only;omega⟩,?_,rfl,rfl⟩;rw[up hlt h.sp];rfl
 ·have:i=m.sp.length:=by
                 have:¬i<m.sp.length:=by simpa using h1
                 omega
  subst this;rw[List.drop_length]at hi2;simp only[tel,List.length_nil]at hi2;refine⟨?_,rfl⟩;simp only[dI];rw[←hi2];rfl
end Go.Qm
namespace Go.Qm
open Go.Cq Go.Cq.D Go.RowKit Go.Proofs
set_option maxRecDepth 10000
structure Sofar where
 i:Nat
 c:Nat
 o:Bool
 q:Bool
structure Sofar.ok(T:List (Bool×Bool))(s:Sofar)(r:List (Bool×Bool)):Prop where
 c:s.c+r.length=T.length
 o:(s.o||r.any (·.1))=T.any (·.1)
 q:(s.q||r.any (!·.2))=T.any (!·.2)
theorem Sofar.ok.step{T:List (Bool×Bool)}{i i' c:Nat}{o q:Bool}{x:Bool×Bool}{r:List (Bool×Bool)}(h:Sofar.ok T ⟨i,c,o,q⟩ (x::r)):Sofar.ok T ⟨i',c+1,o||x.1,q||!x.2⟩ r:=by
 refine⟨?_,?_,?_⟩
 ·have:=h.c;simp only[List.length_cons]at this ⊢;omega
 ·have:=h.o;simp only[List.any_cons]at this ⊢;rw[Bool.or_assoc];exact this
 ·have:=h.q;simp only[List.any_cons]at this ⊢;rw[Bool.or_assoc];exact this
set_option maxHeartbeats 2000000 in
theorem o6(b1 b2 b3 b4 b5:Bool)(m:Mem)(kd pl:Int)(h:m.fits 4611686018427387904)(hb:(tel kd pl m.sp).length≤4611686018427387904)(ho:∀s,s∈m.sp→∀a,a∈s.ar→an a=true):bC Try.prog 90 [aM b1 b2 b3 b4 b5 m,.one (dI kd),.one (dI pl)] (.v (.one (dB (alone (tel kd pl m.sp))))):=by
 refine aK hmix Try.func90 ok90 ?_;conv=>whnf
 refine aq (fun p:Sofar=>[(1,.v (.one (dI kd))),(2,.v (.one (dI pl))),(3,.v (.one (.ptr 0 0 0))),(7,.v (.one (dI p.c))),(8,.v (.one (dB p.o))),(9,.v (.one (dB p.q))),(10,.v (.one (dI p.i)))]) (fun _=>[(0,bM b1 b2 b3 b4 b5 m)]) (fun _=>1)
  (fun p=>p.i≤m.sp.length∧Sofar.ok (tel kd pl m.sp) p (tel kd pl (m.sp.drop p.i))) (fun p=>m.sp.length-p.i) ⟨0,0,false,false⟩ ⟨by simp,by simp,by simp,by simp⟩ rfl rfl rfl fun p hi=>?_
 obtain⟨i,c,o,q⟩:=p;obtain⟨hi1,hi2⟩:=hi;simp only at hi1 hi2;conv=>whnf
 refine CondP.mk (fun h1=>?_) (fun h1=>?_)<;>conv=>whnf
 ·have hlt:i<m.sp.length:=by simpa using h1
  have hs:=h.ss _ (List.getElem_mem hlt);have hoi:=ho _ (List.getElem_mem hlt);rw[uM hlt]at hi2;refine aq (fun p:Sofar=>[(1,.v (.one (dI kd))),(2,.v (.one (dI pl))),(3,.v (.one (.ptr 0 0 0))),(7,.v (.one (dI p.c))),(8,.v (.one (dB p.o))),(9,.v (.one (dB p.q))),(10,.v (.one (dI i))),(11,.v (.one (dI p.i)))]) (fun _=>[(0,bM b1 b2 b3 b4 b5 m)]) (fun _=>1)
   (fun p=>p.i≤m.sp[i].sl.length∧Sofar.ok (tel kd pl m.sp) p (ei m.sp[i].ar kd pl p.i (m.sp[i].sl.drop p.i)++tel kd pl (m.sp.drop (i+1)))) (fun p=>m.sp[i].sl.length-p.i) ⟨0,c,o,q⟩ ⟨by simp,by simp only[List.drop_zero];exact⟨hi2.c,hi2.o,hi2.q⟩⟩ rfl rfl rfl fun p hj=>?_
  obtain⟨j,d,o1,q1⟩:=p;obtain⟨hj1,hj2⟩:=hj;simp only at hj1 hj2;conv=>whnf
  refine aI (k:=i) rfl rfl (by simpa using hlt) ?_;conv=>whnf
  refine aF rfl (r:=.one (.ro b5 4 (m.sp[i].sl.map rL))) (by simp[ak,rP,hlt]) ?_;conv=>whnf
  refine CondP.mk (fun h2=>?_) (fun h2=>?_)<;>conv=>whnf
  ·have hlj:j<m.sp[i].sl.length:=by simpa using h2
   rw[rU hlj]at hj2;refine aI (k:=i) rfl rfl (by simpa using hlt) ?_;conv=>whnf
   refine aF rfl (r:=.one (.ro b5 4 (m.sp[i].sl.map rL))) (by simp[ak,rP,hlt]) ?_;conv=>whnf
   refine aI (k:=j) rfl rfl (by simpa using hlj) ?_;conv=>whnf
   refine aF rfl (ldL hlj) ?_;conv=>whnf
   refine CondP.mk (fun h3=>?_) (fun h3=>?_)<;>rw[h3]<;>(conv=>whnf)<;>repeat' first|(refine aD ?_;conv=>whnf)|(refine aC ?_;conv=>whnf)
   ·have h3:m.sp[i].sl[j].kd=kd:=by simpa using h3
    refine CondP.mk (fun h4=>?_) (fun h4=>?_)<;>conv=>whnf
    ·have h4:m.sp[i].sl[j].pl=pl:=by simpa using h4
     rw[if_pos ⟨h3,h4⟩,List.cons_append]at hj2;have hd:d+1≤(tel kd pl m.sp).length:=by have:=hj2.c;simp only[List.length_cons]at this;omega
     have hst:=hj2.step (i':=j+1);have ec:IntKind.wrap .i64 ((d:Int)+1)=((d+1:Nat):Int):=by rw[wrap64 (by omega) (by omega)];omega
     have el:IntKind.wrap .i64 ((j:Int)+1)=((j+1:Nat):Int):=up hlj hs.2;cases q1
     ·cases o1<;>(conv=>whnf)<;>repeat' first|(refine aD ?_;conv=>whnf)|(refine aC ?_;conv=>whnf)
      all_goals
       refine aI (k:=i) rfl rfl (by simpa using hlt) ?_
       (conv=>whnf)<;>repeat' first|(refine aD ?_;conv=>whnf)|(refine aC ?_;conv=>whnf)
       refine aF rfl (ldP hlt) ?_
       (conv=>whnf)<;>repeat' first|(refine aD ?_;conv=>whnf)|(refine aC ?_;conv=>whnf)
       refine aB [.pass,.pass] rfl rfl rfl (lZ b5 b5 m.sp[i] j hs.1 hoi) rfl ?_
       (conv=>whnf)<;>repeat' first|(refine aD ?_;conv=>whnf)|(refine aC ?_;conv=>whnf)
      ·refine⟨⟨j+1,d+1,m.sp[i].sl[j].ow,!gW m.sp[i].ar (ah m.sp[i].ar j)⟩,by simp only;omega,⟨by simp only;omega,hst⟩,?_,rfl,rfl⟩;rw[ec,el];rfl
      ·refine⟨⟨j+1,d+1,true,!gW m.sp[i].ar (ah m.sp[i].ar j)⟩,by simp only;omega,⟨by simp only;omega,hst⟩,?_,rfl,rfl⟩;rw[ec,el];rfl
     ·cases o1<;>(conv=>whnf)<;>repeat' first|(refine aD ?_;conv=>whnf)|(refine aC ?_;conv=>whnf)
      ·refine⟨⟨j+1,d+1,m.sp[i].sl[j].ow,true⟩,by simp only;omega,⟨by simp only;omega,hst⟩,?_,rfl,rfl⟩;rw[ec,el];rfl
      ·refine⟨⟨j+1,d+1,true,true⟩,by simp only;omega,⟨by simp only;omega,hst⟩,?_,rfl,rfl⟩;rw[ec,el];rfl
    ·have h4:¬m.sp[i].sl[j].pl=pl:=by simpa using h4
     rw[if_neg fun e=>h4 e.2]at hj2;refine⟨⟨j+1,d,o1,q1⟩,by simp only;omega,⟨by simp only;omega,⟨hj2.c,hj2.o,hj2.q⟩⟩,?_,rfl,rfl⟩;rw[up hlj hs.2];rfl
   ·have h3:¬m.sp[i].sl[j].kd=kd:=by simpa using h3
    rw[if_neg fun e=>h3 e.1]at hj2;refine⟨⟨j+1,d,o1,q1⟩,by simp only;omega,⟨by simp only;omega,⟨hj2.c,hj2.o,hj2.q⟩⟩,?_,rfl,rfl⟩;rw[up hlj hs.2];rfl
  ·have:j=m.sp[i].sl.length:=by
                     have:¬j<m.sp[i].sl.length:=by simpa using h2
                     omega
   subst this;rw[List.drop_length]at hj2;simp only[ei,List.nil_append]at hj2;refine⟨⟨i+1,d,o1,q1⟩,by simp only;omega,⟨by simp only;omega,⟨hj2.c,hj2.o,hj2.q⟩⟩,?_,rfl,rfl⟩;rw[up hlt h.sp];rfl
 ·have:i=m.sp.length:=by
                 have:¬i<m.sp.length:=by simpa using h1
                 omega
  subst this;rw[List.drop_length]at hi2;have k1:=hi2.c;have k2:=hi2.o;have k3:=hi2.q;simp only[tel,List.length_nil,List.any_nil,Bool.or_false,Nat.add_zero]at k1 k2 k3;have hal:alone (tel kd pl m.sp)=(decide ((c:Int)<2)||!o||!q):=by rw[alone,←k1,←k2,←k3,show decide (c<2)=decide ((c:Int)<2)from decide_eq_decide.2 (by omega)]
  refine CondP.mk (fun h2=>?_) (fun h2=>?_)<;>rw[h2]<;>cases o<;>cases q<;>(conv=>whnf)<;>repeat' first|(refine aD ?_;conv=>whnf)|(refine aC ?_;conv=>whnf)
  all_goals
   simp only at h2;rw[hal,h2];exact⟨rfl,rfl⟩
end Go.Qm
namespace Go.Qm
open Go.Cq Go.Cq.D Go.RowKit Go.Proofs
set_option maxRecDepth 10000
theorem zW{ar:List Area}{kd pl:Int}:∀{l:List Slot}{i:Nat},(ei ar kd pl i l).length≤l.length:=by
 intro l;induction l with
 |nil=>intro i;simp[ei]
 |cons x l ih=>intro i;simp only[ei];have:=ih (i:=i+1);split<;>simp only[List.length_cons]<;>omega
theorem wO{kd pl:Int}{n:Nat}:∀{l:List Space},(∀s,s∈l→s.sl.length≤n)→(tel kd pl l).length≤n*l.length:=by
 intro l;induction l with
 |nil=>intro _;simp[tel]
 |cons s l ih=>
  intro h;have h1:=ih fun s hs=>h s (List.mem_cons_of_mem _ hs)
  have h2:=h s (List.mem_cons_self ..);have h3:=zW (ar:=s.ar) (kd:=kd) (pl:=pl) (l:=s.sl) (i:=0);simp only[tel,List.length_append,List.length_cons,Nat.mul_add,Nat.mul_one];omega
theorem n7{s:Space}(h:bY s=true):s.sl.length≤16:=by unfold bY at h;split at h<;>simp only[Bool.and_eq_true,decide_eq_true_eq]at h<;>omega
theorem vG{s:Space}(h:bY s=true):∀a,a∈s.ar→an a=true:=by
 unfold bY at h;split at h
 ·simp only[Bool.and_eq_true]at h;exact cr h.1
 ·simp only[Bool.and_eq_true,decide_eq_true_eq]at h;intro a ha;rw[List.length_eq_zero_iff.1 h.1]at ha;simp at ha
def iK(s:Space):Bool:=bY s&&s.sl.all gZ
theorem ca{m:Mem}{b:Bool}(h:(cR m.ram&&cR m.swp&&decide (m.ram.rf.length=12)&&decide (m.swp.rf.length=12)&&decide (m.sp.length=5)&&inB m.hd 0 11)=b):b7 m=(b&&m.sp.all iK&&cO 1 m.sp 0 m.ram.rf&&cO 2 m.sp 0 m.swp.rf):=by rw[←h];rfl
set_option maxHeartbeats 4000000 in
theorem rC (b1 b2 b3 b4 b5 : Bool) (m : Mem) (h : m.fits 4611686018427387904) : bC Try.prog 35 [aM b1 b2 b3 b4 b5 m] (.v (.one (dB (b7 m)))) := by
 refine aK hmix Try.func35 ok35 ?_; conv => whnf
 refine aB [.pass] rfl rfl rfl (nh b1 b2 m.ram h.rt h.rr) rfl ?_; conv => whnf
 refine CondP.mk (fun h1 => ?_) (fun h1 => ?_) <;> rw [h1] <;> (conv=>whnf)<;>repeat' first|(refine aD ?_;conv=>whnf)|(refine aC ?_;conv=>whnf)
 ·exact fc (by rw [ca rfl, show cR m.ram = false by simpa using h1]; simp)
 refine aB [.pass] rfl rfl rfl (nh b3 b4 m.swp h.st h.sr) rfl ?_
 (conv=>whnf)<;>repeat' first|(refine aD ?_;conv=>whnf)|(refine aC ?_;conv=>whnf)
 refine CondP.mk (fun h2 => ?_) (fun h2 => ?_) <;> rw [h2] <;> (conv=>whnf)<;>repeat' first|(refine aD ?_;conv=>whnf)|(refine aC ?_;conv=>whnf)
 ·exact fc (by rw [ca rfl, show cR m.swp = false by simpa using h2]; simp)
 refine CondP.mk (fun h3 => ?_) (fun h3 => ?_) <;> rw [h3] <;> (conv=>whnf)<;>repeat' first|(refine aD ?_;conv=>whnf)|(refine aC ?_;conv=>whnf)
 ·exact fc (by rw [ca rfl, show decide (m.ram.rf.length = 12) = false by simp at h3 ⊢; omega]; simp)
 refine CondP.mk (fun h4 => ?_) (fun h4 => ?_) <;> rw [h4] <;> (conv=>whnf)<;>repeat' first|(refine aD ?_;conv=>whnf)|(refine aC ?_;conv=>whnf)
 ·exact fc (by rw [ca rfl, show decide (m.swp.rf.length = 12) = false by simp at h4 ⊢; omega]; simp)
 refine CondP.mk (fun h5 => ?_) (fun h5 => ?_) <;> rw [h5] <;> (conv=>whnf)<;>repeat' first|(refine aD ?_;conv=>whnf)|(refine aC ?_;conv=>whnf)
 ·exact fc (by rw [ca rfl, show decide (m.sp.length = 5) = false by simp at h5 ⊢; omega]; simp)
 refine aB [.pass, .pass, .pass] rfl rfl rfl (i9 _ _ _) rfl ?_
 (conv=>whnf)<;>repeat' first|(refine aD ?_;conv=>whnf)|(refine aC ?_;conv=>whnf)
 refine CondP.mk (fun h6 => ?_) (fun h6 => ?_) <;> conv => whnf
 ·exact fc (by rw [ca rfl, show inB m.hd 0 11 = false by simpa using h6]; simp)
 have hl1 : m.ram.rf.length = 12 := by simp at h3; omega
 have hl2 : m.swp.rf.length = 12 := by simp at h4; omega
 have hl5 : m.sp.length = 5 := by simp at h5; omega
 have hd := ca (m := m) (b := true) (by simp at h1 h2 h6; simp [h1, h2, hl1, hl2, hl5, h6]); rw [Bool.true_and] at hd; refine aq (fun i : Nat => [(1, .v (.one (.ptr 0 0 0))), (3, .v (.one (dI i)))]) (fun _ => [(0, bM b1 b2 b3 b4 b5 m)]) (fun _ => 1)
  (fun i => i ≤ m.sp.length ∧ ∀ j (hj : j < m.sp.length), j < i → iK m.sp[j] = true) (fun i => m.sp.length - i) 0 ⟨by omega, by omega⟩ rfl rfl rfl fun i hi => ?_
 obtain ⟨hi1, hi2⟩ := hi; conv => whnf
 refine CondP.mk (fun h7 => ?_) (fun h7 => ?_) <;> conv => whnf
 ·have hlt : i < m.sp.length := by simp at h7; omega
  have hs := h.ss _ (List.getElem_mem hlt); have no : iK m.sp[i] = false → b7 m = false := fun e => by
   have : m.sp.all iK = false := by rw [List.all_eq_false]; exact ⟨_, List.getElem_mem hlt, by simp [e]⟩
   rw [hd, this]; rfl
  refine aI (k := i) rfl rfl (by simpa using hlt) ?_; conv => whnf
  refine aF rfl (ldP hlt) ?_; conv => whnf
  refine aB [.pass] rfl rfl rfl (vE b5 b5 m.sp[i] hs.1 hs.2) rfl ?_; conv => whnf
  refine CondP.mk (fun h8 => ?_) (fun h8 => ?_) <;> conv => whnf
  ·exact fc (no (by rw [iK, show bY m.sp[i] = false by simpa using h8]; rfl))
  have h8 : bY m.sp[i] = true := by simpa using h8
  refine aq (fun k : Nat => [(1, .v (.one (.ptr 0 0 0))), (3, .v (.one (dI i))), (4, .v (.one (dI k)))]) (fun _ => [(0, bM b1 b2 b3 b4 b5 m)]) (fun _ => 1)
   (fun k => k ≤ m.sp[i].sl.length ∧ ∀ j (hj : j < m.sp[i].sl.length), j < k → gZ m.sp[i].sl[j] = true) (fun k => m.sp[i].sl.length - k) 0 ⟨by omega, by omega⟩ rfl rfl rfl fun k hk => ?_
  obtain ⟨hk1, hk2⟩ := hk; conv => whnf
  refine aI (k := i) rfl rfl (by simpa using hlt) ?_; conv => whnf
  refine aF rfl (r := .one (.ro b5 4 (m.sp[i].sl.map rL))) (by simp [ak, rP, hlt]) ?_; conv => whnf
  refine CondP.mk (fun h9 => ?_) (fun h9 => ?_) <;> conv => whnf
  ·have hlk : k < m.sp[i].sl.length := by simpa using h9
   refine aI (k := i) rfl rfl (by simpa using hlt) ?_; conv => whnf
   refine aF rfl (r := .one (.ro b5 4 (m.sp[i].sl.map rL))) (by simp [ak, rP, hlt]) ?_; conv => whnf
   refine aI (k := k) rfl rfl (by simpa using hlk) ?_; conv => whnf
   refine aF rfl (ldL hlk) ?_; conv => whnf
   have next : gZ m.sp[i].sl[k] = true → ∀ j (hj : j < m.sp[i].sl.length), j < k + 1 → gZ m.sp[i].sl[j] = true := fun e j hj hjk => by
    by_cases e2 : j = k
    ·subst e2; exact e
    ·exact hk2 j hj (by omega)
   have bad : gZ m.sp[i].sl[k] = false → b7 m = false := fun e => no (by rw [iK, h8, Bool.true_and, List.all_eq_false]; exact ⟨_, List.getElem_mem hlk, by simp [e]⟩)
   refine CondP.mk (fun ha => ?_) (fun ha => ?_) <;> conv => whnf
   all_goals
    refine CondP.mk (fun hb => ?_) (fun hb => ?_) <;> rw [hb] <;> (conv=>whnf)<;>repeat' first|(refine aD ?_;conv=>whnf)|(refine aC ?_;conv=>whnf)
    ·have hb : ¬ m.sp[i].sl[k].kd = 0 := by simpa using hb
     refine aB [.pass, .pass, .pass] rfl rfl rfl (i9 _ _ _) rfl ?_
     (conv=>whnf)<;>repeat' first|(refine aD ?_;conv=>whnf)|(refine aC ?_;conv=>whnf)
     have e11 : IntKind.wrap .i64 (12 - 1) = 11 := by decide
     refine CondP.mk (fun hc => ?_) (fun hc => ?_) <;> conv => whnf
     ·rw [e11] at hc; exact fc (bad (by rw [gZ, decide_eq_false hb, show inB m.sp[i].sl[k].pl 0 11 = false by simpa using hc]; rfl))
     ·rw [e11] at hc; refine ⟨k + 1, by omega, ⟨by omega, next (by rw [gZ, show inB m.sp[i].sl[k].pl 0 11 = true by simpa using hc, Bool.or_true])⟩, ?_, rfl, rfl⟩; rw [up hlk hs.2]; rfl
    ·have hb : m.sp[i].sl[k].kd = 0 := by simpa using hb
     refine ⟨k + 1, by omega, ⟨by omega, next (by rw [gZ, decide_eq_true hb, Bool.true_or])⟩, ?_, rfl, rfl⟩; rw [up hlk hs.2]; rfl
  ·have hke : k = m.sp[i].sl.length := by
                       have : ¬ k < m.sp[i].sl.length := by simpa using h9
                       omega
   refine ⟨i + 1, by omega, ⟨by omega, fun j hj hji => ?_⟩, ?_, rfl, rfl⟩
   ·by_cases e : j = i
    ·subst e; rw [iK, h8, Bool.true_and, List.all_eq_true]; intro x hx; obtain ⟨j', hj', rfl⟩ := List.getElem_of_mem hx; exact hk2 j' hj' (by omega)
    ·exact hi2 j hj (by omega)
   ·rw [up hlt (by omega)]; rfl
 ·have hall : ∀ s, s ∈ m.sp → iK s = true := fun s hs => by obtain ⟨j, hj, rfl⟩ := List.getElem_of_mem hs; exact hi2 j hj (by simp at h7; omega)
  have hsl : ∀ s, s ∈ m.sp → s.sl.length ≤ 16 := fun s hs => n7 (by have := hall s hs; simp only [iK, Bool.and_eq_true] at this; exact this.1)
  have har : ∀ s, s ∈ m.sp → ∀ a, a ∈ s.ar → an a = true := fun s hs => vG (by have := hall s hs; simp only [iK, Bool.and_eq_true] at this; exact this.1)
  rw [show m.sp.all iK = true from List.all_eq_true.2 hall, Bool.true_and] at hd; have htel : ∀ kd pl, (tel kd pl m.sp).length ≤ 4611686018427387904 := fun kd pl => by have := wO (kd := kd) (pl := pl) hsl; omega
  refine aq (fun i : Nat => [(1, .v (.one (.ptr 0 0 0))), (7, .v (.one (dI i)))]) (fun _ => [(0, bM b1 b2 b3 b4 b5 m)]) (fun _ => 1)
   (fun i => i ≤ m.ram.rf.length ∧ cO 1 m.sp 0 m.ram.rf = cO 1 m.sp i (m.ram.rf.drop i)) (fun i => m.ram.rf.length - i) 0 ⟨by omega, by simp⟩ rfl rfl rfl fun p hp => ?_
  obtain ⟨hp1, hp2⟩ := hp; conv => whnf
  refine CondP.mk (fun h8 => ?_) (fun h8 => ?_) <;> conv => whnf
  ·have hlt : p < m.ram.rf.length := by simp at h8; omega
   rw [kK hlt] at hp2; have no : gH 1 m.sp p m.ram.rf[p] = false → b7 m = false := fun e => by rw [hd, hp2, e]; rfl
   refine aI (k := p) rfl rfl (by simpa using hlt) ?_; conv => whnf
   refine aF rfl (r := .one (dI m.ram.rf[p])) (by simp [ak, rI, hlt, eI, dI]) ?_; conv => whnf
   refine aB [.pass, .pass, .pass] rfl rfl rfl (qv b1 b2 b3 b4 b5 m 1 p h (htel _ _)) rfl ?_; conv => whnf
   refine CondP.mk (fun h9 => ?_) (fun h9 => ?_) <;> rw [h9] <;> (conv=>whnf)<;>repeat' first|(refine aD ?_;conv=>whnf)|(refine aC ?_;conv=>whnf)
   ·exact fc (no (by rw [gH, show decide (((tel 1 (p : Int) m.sp).length : Int) = m.ram.rf[p]) = false by simpa using h9]; rfl))
   have h9 : decide (((tel 1 (p : Int) m.sp).length : Int) = m.ram.rf[p]) = true := by simpa using h9
   refine aB [.pass, .pass, .pass] rfl rfl rfl (o6 b1 b2 b3 b4 b5 m 1 p h (htel _ _) har) rfl ?_
   (conv=>whnf)<;>repeat' first|(refine aD ?_;conv=>whnf)|(refine aC ?_;conv=>whnf)
   refine CondP.mk (fun ha => ?_) (fun ha => ?_) <;> conv => whnf
   ·exact fc (no (by rw [gH, h9, show alone (tel 1 (p : Int) m.sp) = false by simpa using ha]; rfl))
   have ha : alone (tel 1 (p : Int) m.sp) = true := by simpa using ha
   refine ⟨p + 1, by omega, ⟨by omega, by rw [hp2, gH, h9, ha]; rfl⟩, ?_, rfl, rfl⟩; rw [up hlt h.rr]; rfl
  have hpe : p = m.ram.rf.length := by
                     have : ¬ p < m.ram.rf.length := by simp at h8; omega
                     omega
  subst hpe; rw [List.drop_length] at hp2; simp only [cO] at hp2; rw [hp2, Bool.true_and] at hd; refine aq (fun i : Nat => [(1, .v (.one (.ptr 0 0 0))), (8, .v (.one (dI i)))]) (fun _ => [(0, bM b1 b2 b3 b4 b5 m)]) (fun _ => 1)
   (fun i => i ≤ m.swp.rf.length ∧ cO 2 m.sp 0 m.swp.rf = cO 2 m.sp i (m.swp.rf.drop i)) (fun i => m.swp.rf.length - i) 0 ⟨by omega, by simp⟩ rfl rfl rfl fun p hq => ?_
  obtain ⟨hq1, hq2⟩ := hq; conv => whnf
  refine CondP.mk (fun h8 => ?_) (fun h8 => ?_) <;> conv => whnf
  ·have hlt : p < m.swp.rf.length := by simp at h8; omega
   rw [kK hlt] at hq2; have no : gH 2 m.sp p m.swp.rf[p] = false → b7 m = false := fun e => by rw [hd, hq2, e]; rfl
   refine aI (k := p) rfl rfl (by simpa using hlt) ?_; conv => whnf
   refine aF rfl (r := .one (dI m.swp.rf[p])) (by simp [ak, rI, hlt, eI, dI]) ?_; conv => whnf
   refine aB [.pass, .pass, .pass] rfl rfl rfl (qv b1 b2 b3 b4 b5 m 2 p h (htel _ _)) rfl ?_; conv => whnf
   refine CondP.mk (fun h9 => ?_) (fun h9 => ?_) <;> rw [h9] <;> (conv=>whnf)<;>repeat' first|(refine aD ?_;conv=>whnf)|(refine aC ?_;conv=>whnf)
   ·exact fc (no (by rw [gH, show decide (((tel 2 (p : Int) m.sp).length : Int) = m.swp.rf[p]) = false by simpa using h9]; rfl))
   have h9 : decide (((tel 2 (p : Int) m.sp).length : Int) = m.swp.rf[p]) = true := by simpa using h9
   refine aB [.pass, .pass, .pass] rfl rfl rfl (o6 b1 b2 b3 b4 b5 m 2 p h (htel _ _) har) rfl ?_
   (conv=>whnf)<;>repeat' first|(refine aD ?_;conv=>whnf)|(refine aC ?_;conv=>whnf)
   refine CondP.mk (fun ha => ?_) (fun ha => ?_) <;> conv => whnf
   ·exact fc (no (by rw [gH, h9, show alone (tel 2 (p : Int) m.sp) = false by simpa using ha]; rfl))
   have ha : alone (tel 2 (p : Int) m.sp) = true := by simpa using ha
   refine ⟨p + 1, by omega, ⟨by omega, by rw [hq2, gH, h9, ha]; rfl⟩, ?_, rfl, rfl⟩; rw [up hlt h.sr]; rfl
  have hqe : p = m.swp.rf.length := by
                     have : ¬ p < m.swp.rf.length := by simp at h8; omega
                     omega
  subst hqe; rw [List.drop_length] at hq2; simp only [cO] at hq2; exact aC3 (by rw [hd, hq2])
end Go.Qm
namespace Go.Qm
open Go.Cq Go.Cq.D Go.RowKit Go.Proofs
set_option maxRecDepth 10000
def fV(cut:List Area→Int→Int→Option (List Area))(m:Mem)(who fr mn:Int):Mem×Int:=if b7 m&&dR m.sp who then oi (cut (dq m who.toNat) fr mn) m who.toNat fr mn else(eh,1)
theorem Mem.fits.mono{n n':Nat}{m:Mem}(h:m.fits n)(hn:n≤n'):m.fits n':=⟨Nat.le_trans h.rt hn,Nat.le_trans h.rr hn,Nat.le_trans h.st hn,Nat.le_trans h.sr hn,Nat.le_trans h.sp hn,fun s hs=>⟨Nat.le_trans (h.ss s hs).1 hn,Nat.le_trans (h.ss s hs).2 hn⟩⟩
theorem eQ{l:List Space}{k:Int}(h:dR l k=true):∃i:Nat,k=i∧∃hi:i<l.length,l[i].lv=true:=by
 simp only[dR,inB,Bool.and_eq_true,decide_eq_true_eq]at h;obtain⟨⟨h1,h2⟩,h3⟩:=h;have hk:k.toNat<l.length:=by omega
 refine⟨k.toNat,by omega,hk,?_⟩;simpa [hk]using h3
end Go.Qm
namespace Go.Qm
open Go.Cq Go.Cq.D Go.RowKit Go.Proofs
set_option maxRecDepth 10000
def bX(m:Mem)(len:Nat):DB:=.box [.own 1 (m.ram.tx.map rS),.own 1 (m.ram.rf.map rI),.own 1 (m.swp.tx.map rS),.own 1 (m.swp.rf.map rI),.sl 1 0 len,dI m.hd]
set_option maxHeartbeats 1000000 in
theorem zL(m:Mem)(k len i ga:Nat)(es es2:List (List PV))(h1:k<m.ram.tx.length)(h2:k<m.ram.rf.length)(hb: -1000≤m.ram.rf[k]∧m.ram.rf[k]≤1000):
  di Try.prog 93 [.one (.ptr 0 0 0),.one (dI k)] [(0,bX m len),(1,.arr 3 es [(i,2,.sl 2 0 ga)]),(2,.arr 4 es2 [])] 3 (fun x H'=>x= .tup []∧H'=[(0,bX {m with ram:=cS m.ram k} len),(1,.arr 3 es [(i,2,.sl 2 0 ga)]),(2,.arr 4 es2 [])]):=by
 refine aK hmix Try.func93 ok93 ?_;conv=>whnf
 refine aE (k:=k) rfl rfl rfl (by simpa using h2) ?_;conv=>whnf
 refine cz rfl rfl rfl (aW (row:=rI m.ram.rf[k]) (by simp[h2]) rfl rfl rfl) rfl ?_;conv=>whnf
 have ew:IntKind.wrap .i64 (m.ram.rf[k]-1)=m.ram.rf[k]-1:=wrap64 (by omega) (by omega);simp only[ew];refine aE (k:=k) rfl rfl rfl (by simpa using h2) ?_;conv=>whnf
 refine af rfl rfl rfl (by simpa using h2) (by decide) ?_;conv=>whnf
 refine aE (k:=k) rfl rfl rfl (by simpa using h2) ?_;conv=>whnf
 refine cz rfl rfl rfl (aW (row:=rI (m.ram.rf[k]-1)) (by simp[h2,rI,eI]) rfl rfl rfl) rfl ?_;conv=>whnf
 have hr:m.ram.rf[k]?.getD 0=m.ram.rf[k]:=by simp[h2]
 have hset:(m.ram.rf.map rI).set k (rI (m.ram.rf[k]-1))=(m.ram.rf.set k (m.ram.rf[k]-1)).map rI:=map_set;have hm:(m.ram.rf.map rI).modify k (fun row=>row.set 0 (.sc (.int .i64 (m.ram.rf[k]-1))))=(m.ram.rf.set k (m.ram.rf[k]-1)).map rI:=by rw[bE (av (f:=rI) (List.getElem?_eq_getElem h2)),←hset];rfl
 refine CondP.mk (fun h=>?_) (fun h=>?_)<;>conv=>whnf
 ·have h:m.ram.rf[k]=1:=by simp at h;omega
  refine aE (k:=k) rfl rfl rfl (by simpa using h1) ?_;conv=>whnf
  refine af rfl rfl rfl (by simpa using h1) (by decide) ?_;conv=>whnf
  have ht:(m.ram.tx.map rS).modify k (fun row=>row.set 0 (.sc (.str [])))=(m.ram.tx.set k []).map rS:=by rw[bE (av (f:=rS) (List.getElem?_eq_getElem h1)),←map_set];rfl
  refine⟨rfl,?_⟩;simp only[bX,cS,hr,if_pos h,List.drop_zero,ht,hm,List.take_of_length_le,List.length_map,List.length_set,Nat.le_refl];rfl
 ·have h:¬m.ram.rf[k]=1:=by simp at h;omega
  refine⟨rfl,?_⟩;simp only[bX,cS,hr,if_neg h,List.drop_zero,hm,List.take_of_length_le,List.length_map,List.length_set,Nat.le_refl];rfl
set_option maxHeartbeats 1000000 in
theorem aAZ(m:Mem)(k len i ga:Nat)(es es2:List (List PV))(h1:k<m.swp.tx.length)(h2:k<m.swp.rf.length)(hb: -1000≤m.swp.rf[k]∧m.swp.rf[k]≤1000):
  di Try.prog 93 [.one (.ptr 0 0 2),.one (dI k)] [(0,bX m len),(1,.arr 3 es [(i,2,.sl 2 0 ga)]),(2,.arr 4 es2 [])] 3 (fun x H'=>x= .tup []∧H'=[(0,bX {m with swp:=cS m.swp k} len),(1,.arr 3 es [(i,2,.sl 2 0 ga)]),(2,.arr 4 es2 [])]):=by
 refine aK hmix Try.func93 ok93 ?_;conv=>whnf
 refine aE (k:=k) rfl rfl rfl (by simpa using h2) ?_;conv=>whnf
 refine cz rfl rfl rfl (aW (row:=rI m.swp.rf[k]) (by simp[h2]) rfl rfl rfl) rfl ?_;conv=>whnf
 have ew:IntKind.wrap .i64 (m.swp.rf[k]-1)=m.swp.rf[k]-1:=wrap64 (by omega) (by omega);simp only[ew];refine aE (k:=k) rfl rfl rfl (by simpa using h2) ?_;conv=>whnf
 refine af rfl rfl rfl (by simpa using h2) (by decide) ?_;conv=>whnf
 refine aE (k:=k) rfl rfl rfl (by simpa using h2) ?_;conv=>whnf
 refine cz rfl rfl rfl (aW (row:=rI (m.swp.rf[k]-1)) (by simp[h2,rI,eI]) rfl rfl rfl) rfl ?_;conv=>whnf
 have hr:m.swp.rf[k]?.getD 0=m.swp.rf[k]:=by simp[h2]
 have hset:(m.swp.rf.map rI).set k (rI (m.swp.rf[k]-1))=(m.swp.rf.set k (m.swp.rf[k]-1)).map rI:=map_set;have hm:(m.swp.rf.map rI).modify k (fun row=>row.set 0 (.sc (.int .i64 (m.swp.rf[k]-1))))=(m.swp.rf.set k (m.swp.rf[k]-1)).map rI:=by rw[bE (av (f:=rI) (List.getElem?_eq_getElem h2)),←hset];rfl
 refine CondP.mk (fun h=>?_) (fun h=>?_)<;>conv=>whnf
 ·have h:m.swp.rf[k]=1:=by simp at h;omega
  refine aE (k:=k) rfl rfl rfl (by simpa using h1) ?_;conv=>whnf
  refine af rfl rfl rfl (by simpa using h1) (by decide) ?_;conv=>whnf
  have ht:(m.swp.tx.map rS).modify k (fun row=>row.set 0 (.sc (.str [])))=(m.swp.tx.set k []).map rS:=by rw[bE (av (f:=rS) (List.getElem?_eq_getElem h1)),←map_set];rfl
  refine⟨rfl,?_⟩;simp only[bX,cS,hr,if_pos h,List.drop_zero,ht,hm,List.take_of_length_le,List.length_map,List.length_set,Nat.le_refl];rfl
 ·have h:¬m.swp.rf[k]=1:=by simp at h;omega
  refine⟨rfl,?_⟩;simp only[bX,cS,hr,if_neg h,List.drop_zero,hm,List.take_of_length_le,List.length_map,List.length_set,Nat.le_refl];rfl
end Go.Qm
namespace Go.Qm
open Go.Cq Go.Cq.D Go.RowKit Go.Proofs
set_option maxRecDepth 10000
def tc(m:Mem)(x:Slot):Mem:={m with ram:=if x.kd=1 then cS m.ram x.pl.toNat else m.ram,swp:=if x.kd=2 then cS m.swp x.pl.toNat else m.swp}
theorem oy{f:Nat→Option Nat}{H3 H:DH}{g t:Nat}{l:List Nat}{cs cs0:List DC}{db':DB}(h1:aG H3 t=some (.box cs))(h2:aG H g=some (.box cs0))(h3:cs.length=cs0.length)(h4:ed f (.box cs)=some db'):bS f H3 (g::l) t H=bS f H3 l (t+1) (dC g db' H):=tP h1 h2 h3 h4
theorem ki{f:Nat→Option Nat}{H3 H:DH}{g t sz:Nat}{l:List Nat}{es es0:List (List PV)}{ov ov0:List (Nat×Nat×DC)}{db':DB}(h1:aG H3 t=some (.arr sz es ov))(h2:aG H g=some (.arr sz es0 ov0))(h3:es.length=es0.length)(h4:ed f (.arr sz es ov)=some db'):bS f H3 (g::l) t H=bS f H3 l (t+1) (dC g db' H):=tP h1 h2 ⟨rfl,h3⟩ h4
set_option maxHeartbeats 1000000 in
theorem yX(m:Mem)(len i ga:Nat)(es:List (List PV))(sl:List Slot)(j:Nat)(hj:j<sl.length)(hr:sl[j].kd=1→∃k:Nat,sl[j].pl=k∧k<m.ram.tx.length∧∃h:k<m.ram.rf.length, -1000≤m.ram.rf[k]∧m.ram.rf[k]≤1000)(hw:sl[j].kd=2→∃k:Nat,sl[j].pl=k∧k<m.swp.tx.length∧∃h:k<m.swp.rf.length, -1000≤m.swp.rf[k]∧m.swp.rf[k]≤1000):
  di Try.prog 66 [.one (.ptr 0 0 0),.one (.ptr 2 j 0)] [(0,bX m len),(1,.arr 3 es [(i,2,.sl 2 0 ga)]),(2,.arr 4 (sl.map rL) [])] 3
   (fun x H'=>x= .tup []∧H'=[(0,bX (tc m sl[j]) len),(1,.arr 3 es [(i,2,.sl 2 0 ga)]),(2,.arr 4 ((sl.set j cQ).map rL) [])]):=by
 refine aK hmix Try.func66 ok66 ?_;conv=>whnf
 refine cz rfl rfl rfl (aW (row:=rL sl[j]) (by simp[hj]) rfl rfl rfl) rfl ?_;conv=>whnf
 refine CondP.mk (fun c1=>?_) (fun c1=>?_)<;>conv=>whnf
 ·have c1:sl[j].kd=1:=by simpa using c1
  obtain⟨k,e1,e2,e3,e4⟩:=hr c1;refine cz rfl rfl rfl (aW (row:=rL sl[j]) (by simp[hj]) rfl rfl rfl) rfl ?_;conv=>whnf
  simp only[e1];refine fg [.pass,.pass] [0,1,2] rfl rfl rfl rfl (zL m k len i ga es (sl.map rL) e2 e3 e4) (fun res H3 hp=>?_);obtain⟨rfl,rfl⟩:=hp;refine⟨rfl,rfl,_,(oy rfl rfl (by rfl) rfl).trans ((ki rfl rfl (by rfl) rfl).trans ((ki rfl rfl (by rfl) rfl).trans rfl)),?_⟩;conv=>whnf
  refine bU (row':=rL cQ) rfl rfl rfl (by simpa using hj) (dD (fun _=>rfl)) (cV _) rfl rfl rfl ?_;conv=>whnf
  refine⟨rfl,?_⟩;simp[bX,tc,c1,e1,List.map_set,dI]
 ·have c1:¬sl[j].kd=1:=by simpa using c1
  refine CondP.mk (fun c2=>?_) (fun c2=>?_)<;>conv=>whnf
  ·have c2:sl[j].kd=2:=by simpa using c2
   obtain⟨k,e1,e2,e3,e4⟩:=hw c2;refine cz rfl rfl rfl (aW (row:=rL sl[j]) (by simp[hj]) rfl rfl rfl) rfl ?_;conv=>whnf
   simp only[e1];refine fg [.pass,.pass] [0,1,2] rfl rfl rfl rfl (aAZ m k len i ga es (sl.map rL) e2 e3 e4) (fun res H3 hp=>?_);obtain⟨rfl,rfl⟩:=hp;refine⟨rfl,rfl,_,(oy rfl rfl (by rfl) rfl).trans ((ki rfl rfl (by rfl) rfl).trans ((ki rfl rfl (by rfl) rfl).trans rfl)),?_⟩;conv=>whnf
   refine bU (row':=rL cQ) rfl rfl rfl (by simpa using hj) (dD (fun _=>rfl)) (cV _) rfl rfl rfl ?_;conv=>whnf
   refine⟨rfl,?_⟩;simp[bX,tc,c2,e1,List.map_set,dI]
  ·have c2:¬sl[j].kd=2:=by simpa using c2
   refine bU (row':=rL cQ) rfl rfl rfl (by simpa using hj) (dD (fun _=>rfl)) (cV _) rfl rfl rfl ?_;conv=>whnf
   refine⟨rfl,?_⟩;simp[bX,tc,c1,c2,List.map_set,dI]
end Go.Qm
namespace Go.Qm
open Go.Cq Go.Cq.D Go.RowKit Go.Proofs
set_option maxRecDepth 10000
theorem aCS{l:List Area}{fr mn:Int}:uO l fr mn=eA l fr mn:=by
 unfold uO eA;cases h:(aO l&&an ⟨fr,mn,false,false⟩)with
 |false=>rfl
 |true=>simp only[Bool.and_eq_true]at h;rw[tf h.1 h.2];simp
def oS:Prop:=∀(b1 b2 b3 b4 b5:Bool)(m:Mem),m.fits 1048576→bC Try.prog 34 [aM b1 b2 b3 b4 b5 m] (.v (.one (dB (b7 m))))
set_option maxHeartbeats 1000000 in
theorem xi(hc:oS)(b1 b2 b3 b4 b5:Bool)(m:Mem)(who fr mn:Int)(h:m.fits 1048576):bC Try.prog 25 [aM b1 b2 b3 b4 b5 m,.one (dI who),.one (dI fr),.one (dI mn)] (.tup [oM (fV eA m who fr mn).1,.one (dI (fV eA m who fr mn).2)]):=by
 refine aK hmix Try.func25 ok25 ?_;conv=>whnf
 refine aB [.pass] rfl rfl rfl (hc b1 b2 b3 b4 b5 m h) rfl ?_;conv=>whnf
 refine CondP.mk (fun h1=>?_) (fun h1=>?_)<;>rw[h1]<;>(conv=>whnf)<;>repeat' first|(refine aD ?_;conv=>whnf)|(refine aC ?_;conv=>whnf)
 ·refine⟨?_,rfl⟩;have h1:b7 m=false:=by simpa using h1
  simp[fV,h1,oM,eh,dI]
 have h1:b7 m=true:=by simpa using h1
 refine aB [.pass,.pass] rfl rfl rfl (sd b1 b2 b3 b4 b5 m who (by have:=h.sp;omega)) rfl ?_
 (conv=>whnf)<;>repeat' first|(refine aD ?_;conv=>whnf)|(refine aC ?_;conv=>whnf)
 refine CondP.mk (fun h2=>?_) (fun h2=>?_)<;>rw[h2]<;>conv=>whnf
 ·refine⟨?_,rfl⟩;have h2:dR m.sp who=false:=by simpa using h2
  simp[fV,h2,oM,eh,dI]
 have h2:dR m.sp who=true:=by simpa using h2
 obtain⟨i,rfl,hi,hlv⟩:=eQ h2;obtain⟨ha,hal,hsl⟩:=mI h1 hi hlv;have har:dq m i=m.sp[i].ar:=by simp[dq,hi]
 refine aB [.pass] rfl rfl rfl (nR b1 b2 b3 b4 b5 m h) rfl ?_;conv=>whnf
 refine aI (k:=i) rfl rfl (by simpa using hi) ?_;conv=>whnf
 refine aF rfl (r:=.one (.ro b5 4 (m.sp[i].ar.map rA))) (by simp[ak,rP,hi]) ?_;conv=>whnf
 refine aB [.pass,.pass,.pass] rfl rfl rfl (uA b5 m.sp[i].ar fr mn (by omega)) rfl ?_;conv=>whnf
 rw[aCS];simp only[List.drop_zero,List.take_length];cases hcu:eA m.sp[i].ar fr mn with
 |none=>
  refine CondP.mk (fun c1=>?_) (fun c1=>?_)<;>conv=>whnf
  ·refine⟨?_,rfl⟩;simp[fV,h1,h2,har,hcu,oi,oM,dI]
  ·simp at c1
 |some l=>
  refine CondP.mk (fun c1=>?_) (fun c1=>?_)<;>conv=>whnf
  ·simp at c1
  ·refine aE (k:=i) rfl rfl rfl (by simpa using hi) ?_;conv=>whnf
   simp only[Option.getD_some];refine dV rfl rfl rfl rfl rfl (by simp[wrN,wr1,DV.cells,hi];rfl) ?_;conv=>whnf
   refine aX (i:=i) (k:=1) (g':=4) (lo:=0) (len:=l.length) (es2:=(ag m i l).sp.map rP) (ov2:=[]) rfl (ai (by simp[hi];rfl) (by simp[rP]) (by simp only[aa,if_true];rfl)) rfl rfl (by rw[List.drop_zero,aU];exact iA hi) (by simp only[aZ,if_true];rfl) ?_;conv=>whnf
   obtain⟨h3,h4⟩:=jX hcu;have hb:=au.1 h3;simp only at hb;obtain⟨f,rfl⟩:=Int.eq_ofNat_of_zero_le hb.1;obtain⟨g,rfl⟩:=Int.eq_ofNat_of_zero_le (show 0≤mn by omega);have hls:LsOk (ag m i l) i f 0:=ph h1 hi hlv;refine aq (fun t:Nat=>[(1,.v (.one (dI i))),(2,.v (.one (dI f))),(3,.v (.one (dI g))),(8,.v (.one (.ptr 1 0 0))),(10,.v (.one (.ptr 2 0 0))),(13,.v (.one (dI ((f+t:Nat):Int))))]) (fun t=>[(2,bO (bG (ag m i l) i f t)),(1,bO eh)]) (fun _=>3)
    (fun t=>t≤g) (fun t=>g-t) 0 (by omega) rfl (by rw[List.drop_zero,List.take_of_length_le (by simp[ag])];rfl) rfl fun t ht=>?_
   have hlt:=kp hls (t:=t) (by omega);conv=>whnf
   rw[wrap64 (x:=(f:Int)+g) (by omega) (by omega)];refine CondP.mk (fun c2=>?_) (fun c2=>?_)<;>conv=>whnf
   ·have c2:t<g:=by simp at c2;omega
    have hi':=hlt.hi;have hj:f+t< (bG (ag m i l) i f t).sp[i].sl.length:=by rw[hlt.sl];omega
    have hok:=hlt.ok (by omega) (Nat.le_refl _) hlt.hi hj;refine aE (k:=i) rfl rfl rfl (by simpa using hi') ?_;conv=>whnf
    have hg:((bG (ag m i l) i f t).sp.map rP)[i]?=some (rP (bG (ag m i l) i f t).sp[i]):=by simp[hi']
    refine cE (i:=i) (k:=2) (sz':=4) (es':=(bG (ag m i l) i f t).sp[i].sl.map rL) (bG (ag m i l) i f t).sp[i].sl.length rfl rfl rfl (aW hg rfl rfl rfl) rfl (by simp) ?_;conv=>whnf
    refine aE (k:=f+t) rfl rfl rfl hj ?_;conv=>whnf
    refine fg [.pass,.pass] [2,3,4] rfl rfl rfl rfl (yX (bG (ag m i l) i f t) ((bG (ag m i l) i f t).sp.map rP).length i (bG (ag m i l) i f t).sp[i].sl.length ((bG (ag m i l) i f t).sp.map rP) (bG (ag m i l) i f t).sp[i].sl (f+t) hj hok.1 hok.2) (fun res H3 hp=>?_);obtain⟨rfl,rfl⟩:=hp;refine⟨rfl,rfl,_,(oy rfl rfl (by rfl) rfl).trans ((ki rfl rfl (by rfl) rfl).trans ((ki rfl rfl (by simp) rfl).trans rfl)),?_⟩;conv=>whnf
    refine aX (i:=i) (k:=2) (g':=4) (lo:=0) (len:=(bG (ag m i l) i f t).sp[i].sl.length) (es2:=(aH (bG (ag m i l) i f t).sp i (f+t) cQ).map rP) (ov2:=[]) rfl (ai hg (by simp[rP]) (by simp only[aa,if_true];rfl)) rfl rfl (by rw[List.drop_zero,List.take_of_length_le (by simp),←map_set];exact bo hi') (by simp only[aZ,if_true];rfl) ?_;conv=>whnf
    have hbd:((bG (ag m i l) i f t).sp[i]?.bind fun s=>s.sl[f+t]?)=some (bG (ag m i l) i f t).sp[i].sl[f+t]:=by simp[hi',hj]
    have htk:((aH (bG (ag m i l) i f t).sp i (f+t) cQ).map rP).take (bG (ag m i l) i f t).sp.length=(aH (bG (ag m i l) i f t).sp i (f+t) cQ).map rP:=List.take_of_length_le (by simp[aH]);refine⟨t+1,by omega,by omega,?_,?_,rfl⟩
    ·rw[wrap64 (x:=((f+t:Nat):Int)+1) (by omega) (by omega),show((f+t:Nat):Int)+1=((f+(t+1):Nat):Int) by omega];rfl
    ·simp only[bG,gD,hbd];simp[bO,tc,dI,htk]
   ·have c2:t=g:=by simp at c2;omega
    subst c2;refine⟨?_,rfl⟩;simp[fV,h1,h2,har,hcu,oi,oM,dI]
end Go.Qm
namespace Go.Qm
open Go.Cq Go.Cq.D Go.RowKit Go.Proofs
set_option maxRecDepth 10000
theorem nU{m:Mem}{i j:Nat}:(gD m i j).sp.length=m.sp.length∧∀n,p5 n m.sp→p5 n (gD m i j).sp:=by
 unfold gD;split
 ·exact⟨rfl,fun _ h=>h⟩
 ·refine⟨by simp[aH],fun n h s hs=>?_⟩;obtain⟨q,hq,rfl⟩:=List.getElem_of_mem hs;simp only[aH,List.length_modify]at hq;have:=h _ (List.getElem_mem hq);simp only[aH,List.getElem_modify];split
  ·simpa using this
  ·exact this
theorem ru{m:Mem}{i fr:Nat}:∀{t:Nat},(bG m i fr t).sp.length=m.sp.length∧∀n,p5 n m.sp→p5 n (bG m i fr t).sp:=by
 intro t;induction t with
 |zero=>exact⟨rfl,fun _ h=>h⟩
 |succ t ih=>exact⟨nU.1.trans ih.1,fun n h=>nU.2 n (ih.2 n h)⟩
theorem n6{m:Mem}(h:b7 m=true):m.fits 16:=by
 simp only[b7,Bool.and_eq_true,decide_eq_true_eq]at h;obtain⟨⟨⟨⟨⟨⟨⟨⟨h1,h2⟩,h3⟩,h4⟩,h5⟩,h6⟩,h7⟩,h8⟩,h9⟩:=h;simp only[cR,Bool.and_eq_true,decide_eq_true_eq]at h1 h2;refine⟨by omega,by omega,by omega,by omega,by omega,fun s hs=>?_⟩;have hs:=List.all_eq_true.1 h7 s hs;simp only[Bool.and_eq_true]at hs;have hso:=hs.1;unfold bY at hso;split at hso
 ·simp only[Bool.and_eq_true,decide_eq_true_eq]at hso;have:=hso.1;simp only[aO,Bool.and_eq_true,decide_eq_true_eq]at this;omega
 ·simp only[Bool.and_eq_true,decide_eq_true_eq]at hso;omega
theorem ra{m:Mem}{who fr mn:Int}:(fV eA m who fr mn).1.fits 16:=by
 unfold fV;split
 ·rename_i h;simp only[Bool.and_eq_true]at h;obtain⟨h1,h2⟩:=h;obtain⟨i,rfl,hi,hlv⟩:=eQ h2;have hs:=n6 h1;cases hc:eA (dq m (i:Int).toNat) fr mn with
  |none=>exact hs
  |some l=>
   simp only[oi];obtain⟨h3,h4⟩:=jX hc;have hb:=au.1 h3;simp only at hb;obtain⟨f,rfl⟩:=Int.eq_ofNat_of_zero_le hb.1;obtain⟨g,rfl⟩:=Int.eq_ofNat_of_zero_le (show 0≤mn by omega);simp only[Int.toNat_natCast];have hls:=kp (ph (l:=l) (fr:=f) h1 hi hlv) (t:=g) (by omega);obtain⟨k1,k2⟩:=ru (m:=ag m i l) (i:=i) (fr:=f) (t:=g);have hl6:l.length≤6:=by simp only[aO,Bool.and_eq_true,decide_eq_true_eq]at h4;exact h4.2
   refine⟨by rw[hls.ram.tx];omega,by rw[hls.ram.rf];omega,by rw[hls.swp.tx];omega,by rw[hls.swp.rf];omega,?_,k2 16 fun s hs'=>?_⟩
   ·rw[k1];simpa [ag]using hs.sp
   ·obtain⟨q,hq,rfl⟩:=List.getElem_of_mem hs';simp only[ag,List.length_modify]at hq;have:=hs.ss _ (List.getElem_mem hq);simp only[ag,List.getElem_modify];split
    ·exact⟨by simp only;omega,this.2⟩
    ·exact this
 ·exact⟨by simp[eh],by simp[eh],by simp[eh],by simp[eh],by simp[eh],fun s hs=>by simp[eh]at hs⟩
end Go.Qm
namespace Go.Qm
open Go.Cq Go.Cq.D Go.RowKit Go.Proofs
set_option maxRecDepth 10000
end Go.Qm
namespace Go.Qm
open Go.Cq Go.Cq.D Go.RowKit Go.Proofs
set_option maxRecDepth 10000
theorem fj{b r:Bool}{ts:DTs}(hl:ao ts 2=some (.v (.one (.sc (.bool b)))))(hr:r=b):(X.ret= .nrm∨X.ret= .ret)∧ao ts 2=some (.v (.one (.sc (.bool r)))):=⟨.inr rfl,by rw[hr];exact hl⟩
set_option maxHeartbeats 4000000 in
theorem zl:oS:=by
 intro b1 b2 b3 b4 b5 m h;refine aAx hmix Try.func34 ok34 (Nat.le_of_ble_eq_true rfl) rfl rfl (fun U0 h0 c0 hU0=>?_);have hf:=h.mono (n':=4611686018427387904) (by decide);refine lU ?_;refine iM (bZ wh ?_);conv=>whnf
 refine lU ?_;refine iM (bZ wh ?_);conv=>whnf
 refine aB [.pass] rfl rfl rfl (pN b1 b2 m.ram hf.rt hf.rr) rfl ?_;conv=>whnf
 refine CondP.mk (fun h1=>?_) (fun h1=>?_)<;>rw[h1]<;>(conv=>whnf)<;>repeat' first|(refine aD ?_;conv=>whnf)|(refine aC ?_;conv=>whnf)
 ·exact fj rfl (by rw[ca rfl,show cR m.ram=false by simpa using h1];simp)
 refine CondP.mk (fun h3=>?_) (fun h3=>?_)<;>rw[h3]<;>(conv=>whnf)<;>repeat' first|(refine aD ?_;conv=>whnf)|(refine aC ?_;conv=>whnf)
 ·exact fj rfl (by rw[ca rfl,show decide (m.ram.rf.length=12)=false by simp at h3 ⊢;omega];simp)
 refine aB [.pass] rfl rfl rfl (pN b3 b4 m.swp hf.st hf.sr) rfl ?_
 (conv=>whnf)<;>repeat' first|(refine aD ?_;conv=>whnf)|(refine aC ?_;conv=>whnf)
 refine CondP.mk (fun h2=>?_) (fun h2=>?_)<;>rw[h2]<;>(conv=>whnf)<;>repeat' first|(refine aD ?_;conv=>whnf)|(refine aC ?_;conv=>whnf)
 ·exact fj rfl (by rw[ca rfl,show cR m.swp=false by simpa using h2];simp)
 refine CondP.mk (fun h4=>?_) (fun h4=>?_)<;>rw[h4]<;>(conv=>whnf)<;>repeat' first|(refine aD ?_;conv=>whnf)|(refine aC ?_;conv=>whnf)
 ·exact fj rfl (by rw[ca rfl,show decide (m.swp.rf.length=12)=false by simp at h4 ⊢;omega];simp)
 refine CondP.mk (fun h5=>?_) (fun h5=>?_)<;>rw[h5]<;>(conv=>whnf)<;>repeat' first|(refine aD ?_;conv=>whnf)|(refine aC ?_;conv=>whnf)
 ·exact fj rfl (by rw[ca rfl,show decide (m.sp.length=5)=false by simp at h5 ⊢;omega];simp)
 refine aB [.pass,.pass,.pass] rfl rfl rfl (kO _ _ _) rfl ?_
 (conv=>whnf)<;>repeat' first|(refine aD ?_;conv=>whnf)|(refine aC ?_;conv=>whnf)
 refine CondP.mk (fun h6=>?_) (fun h6=>?_)<;>conv=>whnf
 ·exact fj rfl (by rw[ca rfl,show inB m.hd 0 11=false by simpa using h6];simp)
 have hl1:m.ram.rf.length=12:=by simp at h3;omega
 have hl2:m.swp.rf.length=12:=by simp at h4;omega
 have hl5:m.sp.length=5:=by simp at h5;omega
 have hd:=ca (m:=m) (b:=true) (by simp at h1 h2 h6;simp[h1,h2,hl1,hl2,hl5,h6]);rw[Bool.true_and]at hd;refine lU (iM (sY (aDS fun mid=>?_)));refine aCe [⟨none,some 3,.cp 54⟩] [] rfl rfl (cZ ..) ?_;conv=>whnf
 refine sT ⟨cZ ..,?_⟩;conv=>whnf
 refine lU (iM (dF (bZ (cZ ..) ?_)));conv=>whnf
 refine kG ?_;refine sQ (fun q:Nat×Tl=>[(1,.v (.one (.ptr 0 0 0))),(3,.v (.one (.sc (.mp mid)))),(56,.v (.one (.ro b5 3 (m.sp.map rP)))),(57,.v (.one (dI (m.sp.map rP).length))),(58,.v (.one (dI q.1)))]) (fun _=>[(0,bM b1 b2 b3 b4 b5 m)]) (fun _=>1) (fun q=>GT c0 mid q.2)
  (fun q=>q.1≤m.sp.length∧Tells m q.2 q.1 0∧∀j(hj:j<m.sp.length),j<q.1→iK m.sp[j]=true) (fun q=>m.sp.length-q.1) (0,[]) ⟨by omega,Tells.zero m,by omega⟩ rfl rfl rfl rfl fun q hq=>?_
 obtain⟨i,L⟩:=q;obtain⟨hi1,hi2,hi3⟩:=hq;simp only at hi1 hi2 hi3;refine dF (bZ (cZ ..) ?_);conv=>whnf
 refine dF (bZ (cZ ..) ?_);conv=>whnf
 refine CondP.mk (fun h7=>?_) (fun h7=>?_)<;>conv=>whnf
 ·have hlt:i<m.sp.length:=by simp at h7;omega
  have hs:=hf.ss _ (List.getElem_mem hlt);refine dF (kG (dF (bZ (cZ ..) ?_)));conv=>whnf
  refine aI (k:=i) rfl rfl (by simpa using hlt) ?_;conv=>whnf
  refine aF rfl (ldP hlt) ?_;conv=>whnf
  have no:iK m.sp[i]=false→b7 m=false:=fun e=>by
   have:m.sp.all iK=false:=by rw[List.all_eq_false];exact⟨_,List.getElem_mem hlt,by simp[e]⟩
   rw[hd,this];rfl
  refine dF (bZ (cZ ..) ?_);conv=>whnf
  refine CondP.mk (fun h8=>?_) (fun h8=>?_)<;>conv=>whnf
  ·
   have hlv:m.sp[i].lv=false:=by simpa using h8
   refine CondP.mk (fun h9=>?_) (fun h9=>?_)<;>rw[h9]<;>(conv=>whnf)<;>repeat' first|(refine aD ?_;conv=>whnf)|(refine aC ?_;conv=>whnf)
   ·refine fj rfl (no ?_);have:¬m.sp[i].ar.length=0:=by simp at h9;omega
    simp[iK,bY,hlv,this]
   refine CondP.mk (fun ha=>?_) (fun ha=>?_)<;>conv=>whnf
   ·refine fj rfl (no ?_);have:¬m.sp[i].sl.length=0:=by simp at ha;omega
    simp[iK,bY,hlv,this]
   ·have e1:m.sp[i].ar.length=0:=by simpa using h9
    have e2:m.sp[i].sl.length=0:=by simpa using ha
    refine bZ (cZ ..) ?_;conv=>whnf
    refine⟨(i+1,L),by simp only;omega,⟨by simp only;omega,hi2.dead hlt e2,fun j hj hji=>?_⟩,?_,rfl,rfl,rfl⟩
    ·by_cases e:j=i
     ·subst e;simp only[iK,bY,hlv,e1,e2,decide_true,Bool.and_true,Bool.true_and,if_false,Bool.false_eq_true];rw[List.length_eq_zero_iff.1 e2];rfl
     ·exact hi3 j hj (by simp only at hji;omega)
    ·simp only[up hlt (by omega)];rfl
  have hlv:m.sp[i].lv=true:=by simpa using h8
  refine dF (bZ (cZ ..) ?_);conv=>whnf
  refine aB [.pass] rfl rfl rfl (iG b5 m.sp[i].ar hs.1) rfl ?_;conv=>whnf
  refine CondP.mk (fun h9=>?_) (fun h9=>?_)<;>rw[h9]<;>(conv=>whnf)<;>repeat' first|(refine aD ?_;conv=>whnf)|(refine aC ?_;conv=>whnf)
  ·refine fj rfl (no ?_);simp[iK,bY,hlv,show aO m.sp[i].ar=false by simpa using h9]
  have h9:aO m.sp[i].ar=true:=by simpa using h9
  refine CondP.mk (fun ha=>?_) (fun ha=>?_)<;>conv=>whnf
  ·refine fj rfl (no ?_);have:¬m.sp[i].sl.length=16:=by simp at ha;omega
   simp[iK,bY,hlv,this]
  have ha:m.sp[i].sl.length=16:=by simp at ha;omega
  have hat:∀page:Int,dZ m.sp[i].ar page=ah m.sp[i].ar page:=fun page=>by rw[dZ,h9,if_pos rfl]
  refine dF (bZ (cZ ..) ?_);conv=>whnf
  refine kG ?_;refine sQ (fun q:Nat×Tl=>[(1,.v (.one (.ptr 0 0 0))),(3,.v (.one (.sc (.mp mid)))),(5,.v (.one (.ptr 1 0 0))),(56,.v (.one (.ro b5 3 (m.sp.map rP)))),(57,.v (.one (dI (m.sp.map rP).length))),(58,.v (.one (dI i))),(86,.v (.one (.ro b5 4 (m.sp[i].sl.map rL)))),(87,.v (.one (dI (m.sp[i].sl.map rL).length))),(88,.v (.one (dI q.1)))])
   (fun _=>[(1,.box [dB m.sp[i].lv,.ro b5 4 (m.sp[i].ar.map rA),.ro b5 4 (m.sp[i].sl.map rL)]),(0,bM b1 b2 b3 b4 b5 m)]) (fun _=>2) (fun q=>GT c0 mid q.2)
   (fun q=>q.1≤m.sp[i].sl.length∧Tells m q.2 i q.1∧∀j(hj:j<m.sp[i].sl.length),j<q.1→cF m.sp[i].ar j m.sp[i].sl[j]=true∧gZ m.sp[i].sl[j]=true) (fun q=>m.sp[i].sl.length-q.1) (0,L) ⟨by omega,hi2,by omega⟩ rfl rfl rfl rfl fun q hq=>?_
  obtain⟨j,L⟩:=q;obtain⟨hj1,hj2,hj3⟩:=hq;simp only at hj1 hj2 hj3;refine dF (bZ (cZ ..) ?_);conv=>whnf
  refine dF (bZ (cZ ..) ?_);conv=>whnf
  refine CondP.mk (fun hb=>?_) (fun hb=>?_)<;>conv=>whnf
  ·have hlj:j<m.sp[i].sl.length:=by simpa using hb
   have nos:(cF m.sp[i].ar j m.sp[i].sl[j]=false∨gZ m.sp[i].sl[j]=false)→b7 m=false:=fun e=>by
    cases hm:b7 m with
    |false=>rfl
    |true=>
     rcases e with e|e
     ·rw[wI hm hlt hlj hlv]at e;simp at e
     ·have:=List.all_eq_true.1 (sv hm hlt).2 _ (List.getElem_mem hlj);rw[this]at e;simp at e
   refine dF (kG (dF (bZ (cZ ..) ?_)));conv=>whnf
   refine aI (k:=j) rfl rfl (by simpa using hlj) ?_;conv=>whnf
   refine aF rfl (ldL hlj) ?_;conv=>whnf
   refine wy (fun ts H n γ=>∃v:Bool,ts=[(1,.v (.one (.ptr 0 0 0))),(3,.v (.one (.sc (.mp mid)))),(5,.v (.one (.ptr 1 0 0))),(6,.v (.one (dI j))),(7,.v (.one (.ptr 2 0 0))),(56,.v (.one (.ro b5 3 (m.sp.map rP)))),(57,.v (.one (dI (m.sp.map rP).length))),(58,.v (.one (dI i))),(86,.v (.one (.ro b5 4 (m.sp[i].sl.map rL)))),(87,.v (.one (dI (m.sp[i].sl.map rL).length))),(88,.v (.one (dI j))),(134,.v (.one (dB v)))]∧
    H=[(2,.box [dI m.sp[i].sl[j].kd,dI m.sp[i].sl[j].pl,dB m.sp[i].sl[j].ow,dB m.sp[i].sl[j].us]),(1,.box [dB m.sp[i].lv,.ro b5 4 (m.sp[i].ar.map rA),.ro b5 4 (m.sp[i].sl.map rL)]),(0,bM b1 b2 b3 b4 b5 m)]∧n=3∧γ=GT c0 mid L∧cF m.sp[i].ar j m.sp[i].sl[j]=true∧gZ m.sp[i].sl[j]=true∧¬m.sp[i].sl[j].kd=0) (kG (dF (bZ (cZ ..) ?_))) ?_
   rotate_left
   ·rintro ts H n γ ⟨v,rfl,rfl,rfl,rfl,hs1,hs2,hs3⟩;refine dF (bZ (cZ ..) ?_);conv=>whnf
    refine aA3 hU0 rfl rfl rfl rfl (fun p hp=>by have:=hj2.len p hp;omega) ?_;conv=>whnf
    refine aB [.pass,.pass] rfl rfl rfl (qd b5 b5 m.sp[i] j hs.1) rfl ?_;conv=>whnf
    simp only[hat];refine bR rfl rfl rfl ?_;conv=>whnf
    refine⟨⟨(m.sp[i].sl[j].kd,m.sp[i].sl[j].pl),(m.sp[i].sl[j].ow,gW m.sp[i].ar (ah m.sp[i].ar (j:Int))),_,rfl,rfl,rfl,rfl,⟨rfl,rfl,rfl,rfl⟩,?_⟩⟩;conv=>whnf
    refine bZ (cZ ..) ?_;conv=>whnf
    refine⟨(j+1,i4 (m.sp[i].sl[j].kd,m.sp[i].sl[j].pl) (m.sp[i].sl[j].ow,gW m.sp[i].ar (ah m.sp[i].ar (j:Int))) L),by simp only;omega,⟨by simp only;omega,hj2.add hlt hlj,fun j' hj' hjj=>?_⟩,?_,rfl,rfl,rfl⟩
    ·by_cases e:j'=j
     ·subst e;exact⟨hs1,hs2⟩
     ·exact hj3 j' hj' (by simp only at hjj;omega)
    ·simp only[up hlj (by omega)];rfl
   conv=>whnf
   have e0:(m.sp[i].sl[j].kd==0&&(m.sp[i].sl[j].pl==0&&(m.sp[i].sl[j].ow==false&&(m.sp[i].sl[j].us==false&&true))))=decide (m.sp[i].sl[j]=cQ):=by
    rcases m.sp[i].sl[j]with⟨k,p,o,u⟩
    rw[Bool.eq_iff_iff];simp[cQ]
   refine CondP.mk (fun hk=>?_) (fun hk=>?_)<;>rw[hk]<;>(conv=>whnf)<;>repeat' first|(refine aD ?_;conv=>whnf)|(refine aC ?_;conv=>whnf)
   ·have hk:m.sp[i].sl[j].kd=0:=by simpa using hk
    refine bZ (cZ ..) ?_
    (conv=>whnf)<;>repeat' first|(refine aD ?_;conv=>whnf)|(refine aC ?_;conv=>whnf)
    refine od rfl rfl rfl rfl rfl ?_;conv=>whnf
    refine CondP.mk (fun h4=>?_) (fun h4=>?_)<;>conv=>whnf
    ·refine fj rfl (nos (.inl ?_));rw[e0]at h4;rw[cF,if_pos hk];simpa using h4
    ·rw[e0]at h4;have h4:m.sp[i].sl[j]=cQ:=by simpa using h4
     refine bZ (cZ ..) ?_;conv=>whnf
     refine⟨(j+1,L),by simp only;omega,⟨by simp only;omega,hj2.skip hlt hlj hk,fun j' hj' hjj=>?_⟩,?_,rfl,rfl,rfl⟩
     ·by_cases e:j'=j
      ·subst e;exact⟨by rw[cF,if_pos hk];simpa using h4,by simp[gZ,hk]⟩
      ·exact hj3 j' hj' (by simp only at hjj;omega)
     ·simp only[up hlj (by omega)];rfl
   have hk:¬m.sp[i].sl[j].kd=0:=by simpa using hk
   refine aB [.pass,.pass] rfl rfl rfl (lX b5 m.sp[i].ar j hs.1) rfl ?_
   (conv=>whnf)<;>repeat' first|(refine aD ?_;conv=>whnf)|(refine aC ?_;conv=>whnf)
   rw[hat];refine aB9 rfl (fun hp=>?_) (fun hp=>?_)
   ·have hp:ah m.sp[i].ar j<0:=by simpa using hp
    refine bZ (cZ ..) ?_;conv=>whnf
    refine od rfl rfl rfl rfl rfl ?_;conv=>whnf
    refine CondP.mk (fun h4=>?_) (fun h4=>?_)<;>conv=>whnf
    ·refine fj rfl (nos (.inl ?_));rw[cF,if_neg hk,show decide (0≤ah m.sp[i].ar (j:Int))=false by simp;omega];rfl
    ·exfalso;rw[e0]at h4;have h4:m.sp[i].sl[j]=cQ:=by simpa using h4
     exact hk (by rw[h4];rfl)
   have hp:0≤ah m.sp[i].ar j:=by simp at hp;omega
   have hpb:decide (ah m.sp[i].ar (j:Int)<0)=false:=by simp;omega
   refine wy (fun ts H n γ=>∃v:Bool,ts=[(1,.v (.one (.ptr 0 0 0))),(3,.v (.one (.sc (.mp mid)))),(5,.v (.one (.ptr 1 0 0))),(6,.v (.one (dI j))),(7,.v (.one (.ptr 2 0 0))),(56,.v (.one (.ro b5 3 (m.sp.map rP)))),(57,.v (.one (dI (m.sp.map rP).length))),(58,.v (.one (dI i))),(86,.v (.one (.ro b5 4 (m.sp[i].sl.map rL)))),(87,.v (.one (dI (m.sp[i].sl.map rL).length))),(88,.v (.one (dI j))),(107,.v (.one (dB v)))]∧
    H=[(2,.box [dI m.sp[i].sl[j].kd,dI m.sp[i].sl[j].pl,dB m.sp[i].sl[j].ow,dB m.sp[i].sl[j].us]),(1,.box [dB m.sp[i].lv,.ro b5 4 (m.sp[i].ar.map rA),.ro b5 4 (m.sp[i].sl.map rL)]),(0,bM b1 b2 b3 b4 b5 m)]∧n=3∧γ=GT c0 mid L∧(v=true→b7 m=false)∧(v=false→inB m.sp[i].sl[j].kd 1 2=true∧gZ m.sp[i].sl[j]=true)) ?_ ?_
   ·refine bZ (cZ ..) ?_;conv=>whnf
    have noh:∀{p:Pages},(m.sp[i].sl[j].kd=1∧p=m.ram∨m.sp[i].sl[j].kd=2∧p=m.swp)→(inB m.sp[i].sl[j].pl 0 (p.rf.length-1)&&decide (0<p.rf[m.sp[i].sl[j].pl.toNat]?.getD 0))=false→b7 m=false:=fun{p} hp hh=>by
     cases hm:b7 m with
     |false=>rfl
     |true=>
      exfalso;obtain⟨k1,k2⟩:=aCl hm (List.getElem_mem hlt) (List.getElem_mem hlj);rcases hp with⟨e,rfl⟩| ⟨e,rfl⟩
      ·obtain⟨q1,q2⟩:=k1 e;rw[hl1,show((12:Nat):Int)-1=11 from rfl,q1]at hh;simp at hh;omega
      ·obtain⟨q1,q2⟩:=k2 e;rw[hl2,show((12:Nat):Int)-1=11 from rfl,q1]at hh;simp at hh;omega
    have nin:(!inB m.sp[i].sl[j].kd 1 2)=true→b7 m=false:=fun e=>nos (.inl (by rw[cF,if_neg hk,show inB m.sp[i].sl[j].kd 1 2=false by simpa using e];simp))
    refine CondP.mk (fun c1=>?_) (fun c1=>?_)<;>rw[c1]<;>(conv=>whnf)<;>repeat' first|(refine aD ?_;conv=>whnf)|(refine aC ?_;conv=>whnf)
    ·have c1:m.sp[i].sl[j].kd=1:=by simpa using c1
     refine aB [.pass,.pass] rfl rfl rfl (zy b1 b2 m.ram m.sp[i].sl[j].pl (by omega)) rfl ?_
     (conv=>whnf)<;>repeat' first|(refine aD ?_;conv=>whnf)|(refine aC ?_;conv=>whnf)
     refine CondP.mk (fun hh=>?_) (fun hh=>?_)<;>conv=>whnf
     ·exact⟨_,rfl,rfl,rfl,rfl,fun _=>noh (.inl ⟨c1,rfl⟩) (by simpa only[Bool.not_eq_true']using hh),fun e=>by rw[hh]at e;simp at e⟩
     ·refine CondP.mk (fun c2=>?_) (fun c2=>?_)<;>rw[c2]<;>(conv=>whnf)<;>repeat' first|(refine aD ?_;conv=>whnf)|(refine aC ?_;conv=>whnf)
      ·simp at c2;omega
      ·refine aB [.pass,.pass,.pass] rfl rfl rfl (kO _ _ _) rfl ?_;conv=>whnf
       refine⟨_,rfl,rfl,rfl,rfl,nin,fun e=>⟨by simpa using e,?_⟩⟩;rw[hl1,show((12:Nat):Int)-1=11 from rfl]at hh;simp only[Bool.not_eq_false',Bool.and_eq_true]at hh;rw[gZ,hh.1,Bool.or_true]
    ·have c1:¬m.sp[i].sl[j].kd=1:=by simpa using c1
     refine CondP.mk (fun c2=>?_) (fun c2=>?_)<;>rw[c2]<;>(conv=>whnf)<;>repeat' first|(refine aD ?_;conv=>whnf)|(refine aC ?_;conv=>whnf)
     ·have c2:m.sp[i].sl[j].kd=2:=by simpa using c2
      refine aB [.pass,.pass] rfl rfl rfl (zy b3 b4 m.swp m.sp[i].sl[j].pl (by omega)) rfl ?_
      (conv=>whnf)<;>repeat' first|(refine aD ?_;conv=>whnf)|(refine aC ?_;conv=>whnf)
      refine CondP.mk (fun hh=>?_) (fun hh=>?_)<;>conv=>whnf
      ·exact⟨_,rfl,rfl,rfl,rfl,fun _=>noh (.inr ⟨c2,rfl⟩) (by simpa only[Bool.not_eq_true']using hh),fun e=>by rw[hh]at e;simp at e⟩
      ·refine aB [.pass,.pass,.pass] rfl rfl rfl (kO _ _ _) rfl ?_;conv=>whnf
       refine⟨_,rfl,rfl,rfl,rfl,nin,fun e=>⟨by simpa using e,?_⟩⟩;rw[hl2,show((12:Nat):Int)-1=11 from rfl]at hh;simp only[Bool.not_eq_false',Bool.and_eq_true]at hh;rw[gZ,hh.1,Bool.or_true]
     ·have c2:¬m.sp[i].sl[j].kd=2:=by simpa using c2
      refine aB [.pass,.pass,.pass] rfl rfl rfl (kO _ _ _) rfl ?_;conv=>whnf
      refine⟨_,rfl,rfl,rfl,rfl,nin,fun e=>⟨by simpa using e,?_⟩⟩;simp only[Bool.not_eq_false',inB,Bool.and_eq_true,decide_eq_true_eq]at e;omega
   ·rintro ts H n γ ⟨v,rfl,rfl,rfl,rfl,hv1,hv2⟩;refine bZ (cZ ..) ?_;conv=>whnf
    refine CondP.mk (fun hv=>?_) (fun hv=>?_)<;>rw[hv]<;>conv=>whnf
    ·exact fj rfl (hv1 hv)
    obtain⟨hin,hpl⟩:=hv2 hv;refine aB [.pass,.pass] rfl rfl rfl (qd b5 b5 m.sp[i] j hs.1) rfl ?_;conv=>whnf
    rw[hat];refine CondP.mk (fun hsh=>?_) (fun hsh=>?_)<;>rw[hsh]<;>(conv=>whnf)<;>repeat' first|(refine aD ?_;conv=>whnf)|(refine aC ?_;conv=>whnf)
    ·refine CondP.mk (fun how=>?_) (fun how=>?_)<;>conv=>whnf
     ·refine fj rfl (nos (.inl ?_));rw[cF,if_neg hk,hsh];have:m.sp[i].sl[j].ow=false:=by simpa using how
      simp[this]
     ·refine⟨_,rfl,rfl,rfl,rfl,?_,hpl,hk⟩;have:m.sp[i].sl[j].ow=true:=by simpa using how
      rw[cF,if_neg hk,hin,this];simp[hp]
    ·refine⟨_,rfl,rfl,rfl,rfl,?_,hpl,hk⟩;rw[cF,if_neg hk,hin,hsh];simp[hp]
  ·have hje:j=m.sp[i].sl.length:=by
                       have:¬j<m.sp[i].sl.length:=by simpa using hb
                       omega
   refine bZ (cZ ..) ?_;conv=>whnf
   refine⟨(i+1,L),by simp only;omega,⟨by simp only;omega,hj2.next hlt hje.symm (by omega),fun i' hi' hii=>?_⟩,?_,rfl,rfl,rfl⟩
   ·by_cases e:i'=i
    ·subst e;have h1:bW m.sp[i'].ar 0 m.sp[i'].sl=true:=sG fun j' x hx=>by obtain⟨hj',rfl⟩:=List.getElem?_eq_some_iff.1 hx;rw[Nat.zero_add];exact(hj3 j' hj' (by omega)).1
     have h2:m.sp[i'].sl.all gZ=true:=List.all_eq_true.2 fun x hx=>by obtain⟨j',hj',rfl⟩:=List.getElem_of_mem hx;exact(hj3 j' hj' (by omega)).2
     rw[iK,bY,if_pos hlv,h9,ha,h1,h2];rfl
    ·exact hi3 i' hi' (by simp only at hii;omega)
   ·simp only[up hlt (by omega)];rfl
 ·have hie:i=m.sp.length:=by simp at h7;omega
  have hall:m.sp.all iK=true:=List.all_eq_true.2 fun x hx=>by obtain⟨j',hj',rfl⟩:=List.getElem_of_mem hx;exact hi3 j' hj' (by omega)
  rw[hall,Bool.true_and]at hd;have htell:∀{kd pl:Int},kd≠0→dk L (kd,pl)=tel kd pl m.sp:=fun hk=>hi2.all hie hk
  refine lU (lU (iM (sY (aDV fun oid=>?_))));refine qz 2 (oE ..) rfl ?_;conv=>whnf
  refine aAO (p:=m.ram) rfl rfl (by simp) ?_;refine qz 2 (oE ..) rfl ?_;conv=>whnf
  refine aAO (p:=m.swp) rfl rfl (by simp) ?_;refine qz 1 (oE ..) rfl ?_;conv=>whnf
  refine aD4 rfl fun iid=>?_
  refine sT ⟨dY ..,?_⟩;conv=>whnf
  let refJ:Nat→Bool:=fun j=>if j=0 then cO 1 m.sp 0 m.ram.rf else cO 2 m.sp 0 m.swp.rf
  refine aDL ?_;refine aB4 (fun _:List Nat=>[(3,.v (.one (.sc (.mp mid)))),(169,.v (.one (.sc (.ptr iid 0))))]) (fun _=>[]) (fun _=>0) (fun seen=>G2 c0 mid oid iid L [(1,m.ram),(2,m.swp)] seen)
   (fun seen=>(seen=[]∨seen=[0]∨seen=[1]∨seen=[0,1]∨seen=[1,0])∧∀j,j∈seen→refJ j=true) (fun seen=>2-seen.length) [] ⟨.inl rfl,by simp⟩ rfl rfl rfl rfl fun seen hseen=>?_
  obtain⟨hs1,hs2⟩:=hseen;refine lU (aDT rfl rfl (fun hend=>⟨dY ..,?_⟩) (fun j hj hjn=>⟨dY ..,?_⟩))
  ·conv=>whnf
   refine iM (dF (bZ (dY ..) ?_))
   (conv=>whnf)<;>repeat' first|(refine aD ?_;conv=>whnf)|(refine aC ?_;conv=>whnf)
   refine iM (bZ (dY ..) ?_);conv=>whnf
   refine fj rfl ?_;have r0:=hs2 0 (hend 0 (by simp));have r1:=hs2 1 (hend 1 (by simp));simp only[refJ,if_true]at r0 r1;rw[if_neg (by decide)]at r1;rw[hd,r0,r1];rfl
  ·conv=>whnf
   obtain⟨kd,pg,hp,hkd,hrl,href⟩:∃(kd:Int)(pg:Pages),[((1:Int),m.ram),(2,m.swp)][j]?=some (kd,pg)∧kd≠0∧pg.rf.length=12∧cO kd m.sp 0 pg.rf=refJ j:=by
    match j,hj with
    |0,_=>exact⟨1,m.ram,rfl,by decide,hl1,rfl⟩
    |1,_=>exact⟨2,m.swp,rfl,by decide,hl2,rfl⟩
   have hno:cO kd m.sp 0 pg.rf=false→b7 m=false:=fun e=>by
    rw[hd]
    match j,hj with
    |0,_=>rw[href]at e;simp only[refJ,if_true]at e;rw[e];rfl
    |1,_=>rw[href]at e;simp only[refJ]at e;rw[if_neg (by decide)]at e;rw[e];simp
   refine iM (dF (bZ (dY ..) ?_))
   (conv=>whnf)<;>repeat' first|(refine aD ?_;conv=>whnf)|(refine aC ?_;conv=>whnf)
   refine kG (dF (sY (aCk rfl hp ?_)));refine qz 5 (dY ..) rfl ?_;conv=>whnf
   refine sT ⟨dY ..,?_⟩;conv=>whnf
   refine dF (bZ (dY ..) ?_);conv=>whnf
   refine kG ?_;refine sQ (fun a:Nat=>[(3,.v (.one (.sc (.mp mid)))),(9,.v (.one (dI kd))),(169,.v (.one (.sc (.ptr iid 0)))),(176,.v (.one (.ro true 1 (pg.rf.map rI)))),(177,.v (.one (dI (pg.rf.map rI).length))),(178,.v (.one (dI a)))]) (fun _=>[]) (fun _=>0) (fun _=>G2 c0 mid oid iid L [(1,m.ram),(2,m.swp)] (seen++[j]))
    (fun a=>a≤pg.rf.length∧cO kd m.sp 0 pg.rf=cO kd m.sp a (pg.rf.drop a)) (fun a=>pg.rf.length-a) 0 ⟨by omega,by simp⟩ rfl rfl rfl rfl fun a ha=>?_
   obtain⟨ha1,ha2⟩:=ha;refine dF (bZ (dY ..) ?_);conv=>whnf
   refine dF (bZ (dY ..) ?_);conv=>whnf
   refine CondP.mk (fun hb=>?_) (fun hb=>?_)<;>conv=>whnf
   ·have hla:a<pg.rf.length:=by simpa using hb
    rw[kK hla]at ha2;have no2:gH kd m.sp a pg.rf[a]=false→b7 m=false:=fun e=>hno (by rw[ha2,e];rfl)
    refine dF (kG (dF (bZ (dY ..) ?_)));conv=>whnf
    refine aI (k:=a) rfl rfl (by simpa using hla) ?_;conv=>whnf
    refine aF rfl (r:=.one (dI pg.rf[a])) (by simp[ak,rI,hla,eI,dI]) ?_;conv=>whnf
    refine dF (sY (qz 4 (dY ..) rfl ?_));conv=>whnf
    refine aB0 (k:=(kd,(a:Int))) rfl rfl ?_;rw[htell hkd];refine qz 1 (dY ..) rfl ?_;conv=>whnf
    refine sT ⟨dY ..,?_⟩;conv=>whnf
    have hrefT:gH kd m.sp a pg.rf[a]=(decide (((tel kd (a:Int) m.sp).length:Int)=pg.rf[a])&&alone (tel kd (a:Int) m.sp)):=rfl;have hTl:(tel kd (a:Int) m.sp).length≤4611686018427387904:=by
     have:=wO (kd:=kd) (pl:=(a:Int)) (n:=16) (l:=m.sp) fun s hs=>by have:=List.all_eq_true.1 hall s hs;simp only[iK,Bool.and_eq_true]at this;exact n7 this.1
     omega
    generalize tel kd (a:Int) m.sp=T at*;refine bZ (dY ..) ?_;conv=>whnf
    refine CondP.mk (fun h8=>?_) (fun h8=>?_)<;>conv=>whnf
    ·refine fj rfl (no2 ?_);rw[hrefT,show decide ((T.length:Int)=pg.rf[a])=false by simpa using h8];rfl
    have hlen:(T.length:Int)=pg.rf[a]:=by simpa using h8
    have bad:∀{x y:Nat},x<T.length→y<T.length→eu T x y=false→b7 m=false:=fun hx hy e=>no2 (by rw[hrefT,yg hx hy e];simp)
    refine aq (fun x:Nat=>[(3,.v (.one (.sc (.mp mid)))),(9,.v (.one (dI kd))),(13,.v (.one (.ro true 2 (T.map rT)))),(169,.v (.one (.sc (.ptr iid 0)))),(176,.v (.one (.ro true 1 (pg.rf.map rI)))),(177,.v (.one (dI (pg.rf.map rI).length))),(178,.v (.one (dI a))),(192,.v (.one (.ro true 2 (T.map rT)))),(193,.v (.one (dI (T.map rT).length))),(194,.v (.one (dI x)))]) (fun _=>[]) (fun _=>0) (fun x=>x≤T.length∧∀x' y',x'<x→y'<T.length→eu T x' y'=true) (fun x=>T.length-x) 0 ⟨by omega,by omega⟩ rfl rfl rfl fun x hx=>?_
    obtain⟨hx1,hx2⟩:=hx;conv=>whnf
    refine CondP.mk (fun h9=>?_) (fun h9=>?_)<;>conv=>whnf
    ·have hlx:x<T.length:=by simpa using h9
     refine aI (k:=x) rfl rfl (by simpa using hlx) ?_;conv=>whnf
     refine aF rfl (r:=.agg [dB T[x].1,dB T[x].2]) (by simp[ak,rT,hlx,eB,dB]) ?_;conv=>whnf
     refine aq (fun y:Nat=>[(3,.v (.one (.sc (.mp mid)))),(9,.v (.one (dI kd))),(13,.v (.one (.ro true 2 (T.map rT)))),(14,.v (.one (dI x))),(15,.v (.one (.ptr 0 0 0))),(169,.v (.one (.sc (.ptr iid 0)))),(176,.v (.one (.ro true 1 (pg.rf.map rI)))),(177,.v (.one (dI (pg.rf.map rI).length))),(178,.v (.one (dI a))),(192,.v (.one (.ro true 2 (T.map rT)))),(193,.v (.one (dI (T.map rT).length))),(194,.v (.one (dI x))),(199,.v (.one (.ro true 2 (T.map rT)))),(200,.v (.one (dI (T.map rT).length))),(201,.v (.one (dI y)))]) (fun _=>[(0,.box [dB T[x].1,dB T[x].2])]) (fun _=>1) (fun y=>y≤T.length∧∀y',y'<y→eu T x y'=true) (fun y=>T.length-y) 0 ⟨by omega,by omega⟩ rfl rfl rfl fun y hy=>?_
     obtain⟨hy1,hy2⟩:=hy;conv=>whnf
     refine CondP.mk (fun hc=>?_) (fun hc=>?_)<;>conv=>whnf
     ·have hly:y<T.length:=by simpa using hc
      refine aI (k:=y) rfl rfl (by simpa using hly) ?_;conv=>whnf
      refine aF rfl (r:=.agg [dB T[y].1,dB T[y].2]) (by simp[ak,rT,hly,eB,dB]) ?_;conv=>whnf
      have pe:eu T x y=(decide (x=y)||!(T[x].1&&!(T[x].2&&T[y].2))):=by simp[eu,hlx,hly]
      have nexty:eu T x y=true→∀y',y'<y+1→eu T x y'=true:=fun e y' hy'=>by
       by_cases e2:y'=y
       ·subst e2;exact e
       ·exact hy2 y' (by omega)
      refine CondP.mk (fun d1=>?_) (fun d1=>?_)<;>rw[d1]<;>(conv=>whnf)<;>repeat' first|(refine aD ?_;conv=>whnf)|(refine aC ?_;conv=>whnf)
      ·have d1:¬x=y:=by simp at d1;omega
       refine CondP.mk (fun d2=>?_) (fun d2=>?_)<;>rw[d2]<;>(conv=>whnf)<;>repeat' first|(refine aD ?_;conv=>whnf)|(refine aC ?_;conv=>whnf)
       ·refine CondP.mk (fun d3=>?_) (fun d3=>?_)<;>rw[d3]<;>(conv=>whnf)<;>repeat' first|(refine aD ?_;conv=>whnf)|(refine aC ?_;conv=>whnf)
        ·refine CondP.mk (fun d4=>?_) (fun d4=>?_)<;>conv=>whnf
         ·exact fj rfl (bad hlx hly (by rw[pe,d2,d3,show T[y].2=false by simpa using d4];simp[d1]))
         ·refine⟨y+1,by omega,⟨by omega,nexty (by rw[pe,d2,d3,show T[y].2=true by simpa using d4];simp)⟩,?_,rfl,rfl⟩;rw[up hly hTl];rfl
        ·exact fj rfl (bad hlx hly (by rw[pe,d2,d3];simp[d1]))
       ·refine⟨y+1,by omega,⟨by omega,nexty (by rw[pe,d2];simp)⟩,?_,rfl,rfl⟩;rw[up hly hTl];rfl
      ·have d1:x=y:=by simp at d1;omega
       refine⟨y+1,by omega,⟨by omega,nexty (by rw[pe];simp[d1])⟩,?_,rfl,rfl⟩;rw[up hly hTl];rfl
     ·have hye:y=T.length:=by
                     have:¬y<T.length:=by simpa using hc
                     omega
      refine⟨x+1,by omega,⟨by omega,fun x' y' hx' hy'=>?_⟩,?_,rfl,rfl⟩
      ·by_cases e:x'=x
       ·subst e;exact hy2 y' (by omega)
       ·exact hx2 x' y' (by omega) hy'
      ·rw[up hlx hTl];rfl
    ·have hxe:x=T.length:=by
                    have:¬x<T.length:=by simpa using h9
                    omega
     have hal:alone T=true:=aBE fun x' y' hx' hy'=>hx2 x' y' (by omega) hy'
     refine bZ (dY ..) ?_;conv=>whnf
     refine⟨a+1,by omega,⟨by omega,?_⟩,?_,rfl,rfl,rfl⟩
     ·rw[ha2,hrefT,hal,decide_eq_true hlen];rfl
     ·rw[up hla (by omega)];rfl
   ·have hae:a=pg.rf.length:=by
                     have:¬a<pg.rf.length:=by simpa using hb
                     omega
    subst hae;rw[List.drop_length]at ha2;simp only[cO]at ha2;refine⟨seen++[j],[3,169],?_,⟨?_,fun j' hj'=>?_⟩,rfl,rfl,rfl,rfl⟩
    ·simp only[List.length_append,List.length_cons,List.length_nil];rcases hs1 with rfl|rfl|rfl|rfl|rfl<;>simp at hjn ⊢
     all_goals (simp at hj;omega)
    ·simp only[List.length_cons,List.length_nil]at hj;have:j=0∨j=1:=by omega
     rcases hs1 with rfl|rfl|rfl|rfl|rfl<;>rcases this with rfl|rfl<;>simp at hjn ⊢
    ·rcases List.mem_append.1 hj' with hj'|hj'
     ·exact hs2 j' hj'
     ·simp only[List.mem_singleton]at hj';subst hj';rw[←href,ha2]
end Go.Qm
namespace Go.Qm
open Go.Cq Go.Cq.D Go.RowKit Go.Proofs Go.ChangeShapes Go.WideShapes Go.ChangeAt
set_option maxRecDepth 10000
section
variable{H:Type}{enc:TypeId×Value→H}{W:World}{sp:Nat→Bool}{held:Bool}
abbrev aEG(W:World):Prop:=∃(B:Nat)(c:Array Value)(e:TypeId)(fr:Nat×Nat),W.heap[B]?=some (.cells c e fr)
instance:Inhabited Area:=⟨⟨0,0,false,false⟩⟩
instance:Inhabited Slot:=⟨⟨0,0,false,false⟩⟩
instance:Inhabited Space:=⟨⟨false,[],[]⟩⟩
theorem laidOut:laidOutB Try.prog=true:=by kernel_rfl
end
end Go.Qm
namespace Go.Qm
open Go.Cq Go.Cq.D Go.RowKit Go.Proofs Go.ChangeShapes Go.WideShapes Go.ChangeAt
set_option maxRecDepth 10000
section
variable{H:Type}{enc:TypeId×Value→H}{W:World}{sp:Nat→Bool}{held:Bool}
theorem c5:Try.prog.cellsOf 5=1:=by kernel_rfl
theorem aA5(hB:aEG W){v:Value}{n:Nat}{x:DataW H×List MemPlace}(h:DataW.trod enc Try.prog W 0 (fun _=>true) held n 40 [v]=some x):∃l:List UInt8,WV W (.sl 1 (l.map dU)) v:=by
 obtain⟨l, -, -,h2⟩:=aDG (row:=dU) (good:=fun _=>True) Try.underlying40 c5 (by decide) (fun n cs x _ hl h=>by
  obtain⟨k,h1, -,h3⟩:=DataW.trod_int Try.underlying5 h;subst h1;simp only[Lit.wf,Bool.and_eq_true,decide_eq_true_eq]at h3;have h4:(0:Int)≤k:=h3.1;have h5:k≤(255:Int):=h3.2;refine⟨UInt8.ofNat k.toNat,rfl,trivial,fun j p hp=>?_⟩
  match j,hp with
  |0,hp=>simp only[dU,List.getElem?_cons_zero,Option.some.injEq]at hp;subst hp;refine⟨_,rfl,?_⟩;rw[show((UInt8.ofNat k.toNat).toNat:Int)=k by rw[UInt8.toNat_ofNat'];omega];exact .int
  |j+1,hp=>simp[dU]at hp) hB h
 exact⟨l,h2⟩
theorem xc{base:Nat}{v:Value}{d:DataW H}{p:List MemPlace}(hval:Value.okWide Try.prog W .any base 40 v)(h0:DataW.Trod enc Try.prog W 0 (fun _=>true) held 40 v d p):∃l:List UInt8,WDV W (.one (.ro true 1 (l.map dU))) v:=by
 obtain⟨a,len,cap,rfl⟩:=okWide_slice Try.underlying40 hval;obtain⟨fuel,h⟩:=h0;have h:DataW.trod enc Try.prog W 0 (fun _=>true) held fuel 40 [.slice a len cap]=some (d,p):=h;cases a with
 |none=>
  rcases DataW.trod_slice Try.underlying40 h with⟨q, -⟩| ⟨ad,len,cap,_,_,_, -,q, -⟩
  ·simp only[List.cons.injEq,and_true]at q;rw[q];exact⟨[],rfl,.nil⟩
  ·simp at q
 |some a=>simp only[Value.okWide,Try.underlying40]at hval;obtain⟨l,hl⟩:=aA5 (hasB hval) h;exact⟨l,rfl,hl⟩
theorem aC4:Try.prog.readableRec 40=true:=by kernel_rfl
theorem aED:InBook Try.prog 40 40:=⟨of_decide_eq_true (by kernel_rfl),book_self 40⟩
theorem K40:Kids Try.prog (InBook Try.prog 40):=kids_book laidOut aC4
end
end Go.Qm
namespace Go.Qm
open Go.Cq Go.Cq.D Go.RowKit Go.Proofs
set_option maxRecDepth 10000
end Go.Qm
namespace Go.Qm
open Go.Cq Go.Cq.D Go.RowKit Go.Proofs
set_option maxRecDepth 10000
end Go.Qm
namespace Go.Qm
open Go.Cq Go.Cq.D Go.RowKit Go.Proofs
set_option maxRecDepth 10000
end Go.Qm
namespace Go.Qm
open Go.Cq Go.Cq.D Go.RowKit Go.Proofs
set_option maxRecDepth 10000
def cM(m:Mem):List DC:=[.sl 0 0 m.ram.tx.length,.sl 1 0 m.ram.rf.length,.sl 2 0 m.swp.tx.length,.sl 3 0 m.swp.rf.length,.sl 4 0 m.sp.length,dI m.hd]
def hM(m:Mem):DH:=[(0,.arr 1 (m.ram.tx.map rS) []),(1,.arr 1 (m.ram.rf.map rI) []),(2,.arr 1 (m.swp.tx.map rS) []),(3,.arr 1 (m.swp.rf.map rI) []),(4,.arr 3 (m.sp.map rP) [])]
def cP(p:Pages):List DC:=[.sl 0 0 p.tx.length,.sl 1 0 p.rf.length]
def hP(p:Pages):DH:=[(0,.arr 1 (p.tx.map rS) []),(1,.arr 1 (p.rf.map rI) [])]
theorem qu(b1 b2:Bool)(p:Pages)(hl:p.rf.length≤1048576):bC Try.prog 185 [.agg [.ro b1 1 (p.tx.map rS),.ro b2 1 (p.rf.map rI)]] (.v (.one (dI (jG p.rf)))):=by
 refine aK hmix Try.func185 ok185 ?_;conv=>whnf
 refine aq (fun i:Nat=>[(1,.v (.one (.ptr 0 0 0))),(3,.v (.one (dI (jG (p.rf.take i))))),(4,.v (.one (dI i)))]) (fun _=>[(0,.box [.ro b1 1 (p.tx.map rS),.ro b2 1 (p.rf.map rI)])]) (fun _=>1)
  (fun i=>i≤p.rf.length) (fun i=>p.rf.length-i) 0 (by omega) rfl rfl rfl fun i hi=>?_
 conv=>whnf
 refine CondP.mk (fun h=>?_) (fun h=>?_)<;>conv=>whnf
 ·have hlt:i<p.rf.length:=by simpa using h
  refine aI (k:=i) rfl rfl (by simpa using hlt) ?_;conv=>whnf
  refine aF rfl (r:=.one (dI p.rf[i])) (by simp[ak,rI,hlt,eI,dI]) ?_;conv=>whnf
  have hc:=yI hlt;have hb:=aCE (l:=p.rf.take i);rw[List.length_take,Nat.min_eq_left hi]at hb;refine CondP.mk (fun h1=>?_) (fun h1=>?_)<;>conv=>whnf
  ·refine⟨i+1,by omega,by omega,?_,rfl,rfl⟩;have h1:p.rf[i]=0:=by simpa using h1
   rw[up hlt (by omega),hc,if_pos h1,wrap64 (by omega) (by omega)];rfl
  ·refine⟨i+1,by omega,by omega,?_,rfl,rfl⟩;have h1:¬p.rf[i]=0:=by simpa using h1
   rw[up hlt (by omega),hc,if_neg h1];rfl
 ·have:i=p.rf.length:=by
                 have:¬i<p.rf.length:=by simpa using h
                 omega
  subst this;refine⟨?_,rfl⟩;rw[List.take_length];rfl
theorem yL:bC Try.prog 176 [] (.v (.one (.sc (.str kE)))):=by
 refine aK hmix Try.func176 ok176 ?_;conv=>whnf
 refine qf rfl rfl (m:=4) (c:=4) rfl rfl (by decide) (by decide) (by decide) ?_;conv=>whnf
 refine po rfl rfl (bs:=kE) rfl ?_;conv=>whnf
 exact⟨rfl,rfl⟩
theorem xH(p:Pages)(t:Str)(hl:p.rf.length≤1048576)(ht:p.tx.length=p.rf.length)(hf:aR p.rf<p.rf.length):di Try.prog 175 [.agg (cP p),.one (.sc (.str t))] (hP p) 2 fun x H'=>x= .tup [.agg (cP p),.one (dI (aR p.rf))]∧H'=hP (ax p (aR p.rf) t 1):=by
 refine aK hmix Try.func175 ok175 ?_;conv=>whnf
 refine aq (fun i:Nat=>[(1,.v (.one (.sc (.str t)))),(2,.v (.one (.ptr 2 0 0))),(4,.v (.one (.ptr 3 0 0))),(6,.v (.one (dI i)))]) (fun _=>[(3,.box [.own 1 [],.own 1 []]),(2,.box (cP p)),(0,.arr 1 (p.tx.map rS) []),(1,.arr 1 (p.rf.map rI) [])]) (fun _=>4)
  (fun i=>i≤aR p.rf) (fun i=>p.rf.length-i) 0 (by omega) rfl rfl rfl fun i hi=>?_
 conv=>whnf
 have hlt:i<p.rf.length:=by omega
 have hlt':i<p.tx.length:=by omega
 refine CondP.mk (fun h=>?_) (fun h=>?_)<;>conv=>whnf
 ·refine aE (k:=i) rfl rfl rfl hlt ?_;conv=>whnf
  refine cz rfl rfl rfl (aW (row:=rI p.rf[i]) (by simp[hlt]) rfl rfl rfl) rfl ?_;conv=>whnf
  refine CondP.mk (fun h1=>?_) (fun h1=>?_)<;>conv=>whnf
  ·have h1:p.rf[i]=0:=by simpa using h1
   have e:aR p.rf=i:=by have:=oX hlt h1;omega
   rw[e];refine aE (k:=i) rfl rfl rfl hlt ?_;conv=>whnf
   refine af rfl rfl rfl (by simpa using hlt) (by decide) ?_;conv=>whnf
   refine aE (k:=i) rfl rfl rfl hlt' ?_;conv=>whnf
   refine af rfl rfl rfl (by simpa using hlt') (by decide) ?_;conv=>whnf
   refine⟨rfl,?_⟩;rw[bE (av (f:=rI) (List.getElem?_eq_getElem hlt)),bE (av (f:=rS) (List.getElem?_eq_getElem hlt'))];simp only[hP,ax,←map_set];rfl
  ·have h1:¬p.rf[i]=0:=by simpa using h1
   refine⟨i+1,by omega,?_,?_,rfl,rfl⟩
   ·rcases Nat.lt_or_ge i (aR p.rf)with c|c
    ·omega
    ·have e:aR p.rf=i:=by omega
     have:=oY hf;simp only[e]at this;exact absurd this h1
   ·rw[up hlt (by omega)];rfl
 ·have:¬(i:Int)< (p.rf.length:Int):=by simpa using h
  omega
end Go.Qm
namespace Go.Qm
open Go.Cq Go.Cq.D Go.RowKit Go.Proofs
set_option maxRecDepth 10000
theorem mB{f:Slot→Slot}{sp:List Space}{i k:Nat}(hi:i<sp.length):∃S:List Space,dL f sp i k=S∧S.length=sp.length∧∃hi':i<S.length,S[i].sl.length=sp[i].sl.length∧∀(hk:k<sp[i].sl.length)(hk':k<S[i].sl.length),S[i].sl[k]=sp[i].sl[k]∧aH S i k (f sp[i].sl[k])=dL f sp i (k+1)∧(f sp[i].sl[k]=sp[i].sl[k]→S=dL f sp i (k+1)):=⟨_,rfl,dz,by rw[dz];exact hi,qo hi,fun hk _=>⟨yS hi hk,vF hi hk,tz hi hk⟩⟩
theorem dJ{S:List Space}{i:Nat}(hi:i<S.length):(S.map rP).modify i (fun row=>row.set 2 (.sl 4 (S[i].sl.map rL)))=S.map rP:=by rw[bE (av (f:=rP) (List.getElem?_eq_getElem hi))];exact jC (av (f:=rP) (List.getElem?_eq_getElem hi))
def hT(m:Mem)(S:List Space):DH:=[(6,bO eh),(5,.box (cM m)),(0,.arr 1 (m.ram.tx.map rS) []),(1,.arr 1 (m.ram.rf.map rI) []),(2,.arr 1 (m.swp.tx.map rS) []),(3,.arr 1 (m.swp.rf.map rI) []),(4,.arr 3 (S.map rP) [])]
def wV(kd pl to p:Int)(x:Slot):Slot:=if x.kd=kd∧x.pl=pl then dM to p x else x
set_option maxHeartbeats 2000000 in
theorem xm(m:Mem)(kd pl to p:Int)(hn:m.sp.length≤1048576)(hl:∀s,s∈m.sp→s.sl.length≤1048576):di Try.prog 177 [.agg (cM m),.one (dI kd),.one (dI pl),.one (dI to),.one (dI p)] (hM m) 5
  fun x H'=>x= .v (.agg (cM m))∧H'=hM {m with sp:=ae kd pl (dM to p) m.sp}:=by
 refine aK hmix Try.func177 ok177 ?_;conv=>whnf
 refine aq (fun i:Nat=>[(1,.v (.one (dI kd))),(2,.v (.one (dI pl))),(3,.v (.one (dI to))),(4,.v (.one (dI p))),(5,.v (.one (.ptr 5 0 0))),(10,.v (.one (.ptr 6 0 0))),(11,.v (.one (dI i)))]) (fun i=>hT m (dL (wV kd pl to p) m.sp i 0)) (fun _=>7)
  (fun i=>i≤m.sp.length) (fun i=>m.sp.length-i) 0 (by omega) rfl (by rw[nM];rfl) rfl fun i hi=>?_
 conv=>whnf
 refine CondP.mk (fun h=>?_) (fun h=>?_)<;>conv=>whnf
 ·have hi:i<m.sp.length:=by simpa using h
  have hl:=hl _ (List.getElem_mem hi);refine aq (fun k:Nat=>[(1,.v (.one (dI kd))),(2,.v (.one (dI pl))),(3,.v (.one (dI to))),(4,.v (.one (dI p))),(5,.v (.one (.ptr 5 0 0))),(10,.v (.one (.ptr 6 0 0))),(11,.v (.one (dI i))),(12,.v (.one (dI k)))]) (fun k=>hT m (dL (wV kd pl to p) m.sp i k)) (fun _=>7)
   (fun k=>k≤m.sp[i].sl.length) (fun k=>m.sp[i].sl.length-k) 0 (by omega) rfl rfl rfl fun k hk=>?_
  obtain⟨S,hS,hSn,hi',hsl,hfx⟩:=mB (f:=wV kd pl to p) (k:=k) hi;rw[hS];have hg:=av (f:=rP) (List.getElem?_eq_getElem hi');conv=>whnf
  refine aE (k:=i) rfl rfl rfl (by omega) ?_;conv=>whnf
  refine cE (i:=i) (k:=2) (sz':=4) (es':=S[i].sl.map rL) S[i].sl.length rfl rfl rfl (aW hg rfl rfl rfl) rfl (by simp) ?_;conv=>whnf
  refine aX (i:=i) (k:=2) (g':=7) (lo:=0) (len:=S[i].sl.length) (es2:=S.map rP) (ov2:=[]) rfl (ai hg (by simp[rP]) (by simp only[aa,if_true];rfl)) rfl rfl (by rw[List.drop_zero,aU];exact dJ hi') (by simp only[aZ,if_true];rfl) ?_;conv=>whnf
  refine CondP.mk (fun h1=>?_) (fun h1=>?_)<;>conv=>whnf
  ·have hk1:k<m.sp[i].sl.length:=by
                       have:(k:Int)< (S[i].sl.length:Int):=by simpa using h1
                       omega
   have hk':k<S[i].sl.length:=by omega
   obtain⟨x1,x2,x3⟩:=hfx hk1 hk';have next:=up hk1 (by omega)
   refine aE (k:=i) rfl rfl rfl (by omega) ?_;conv=>whnf
   refine cE (i:=i) (k:=2) (sz':=4) (es':=S[i].sl.map rL) S[i].sl.length rfl rfl rfl (aW hg rfl rfl rfl) rfl (by simp) ?_;conv=>whnf
   refine aE (k:=k) rfl rfl rfl hk' ?_;conv=>whnf
   refine gU (row:=rL m.sp[i].sl[k]) rfl rfl rfl (by rw[←x1];simp[hk']) (cV _) rfl rfl ?_;conv=>whnf
   refine aX (i:=i) (k:=2) (g':=7) (lo:=0) (len:=S[i].sl.length) (es2:=S.map rP) (ov2:=[]) rfl (ai hg (by simp[rP]) (by simp only[aa,if_true];rfl)) rfl rfl (by rw[List.drop_zero,aU];exact dJ hi') (by simp only[aZ,if_true];rfl) ?_;conv=>whnf
   refine CondP.mk (fun c1=>?_) (fun c1=>?_)<;>rw[c1]<;>(conv=>whnf)<;>repeat' first|(refine aD ?_;conv=>whnf)|(refine aC ?_;conv=>whnf)
   ·have c1:m.sp[i].sl[k].kd=kd:=by simpa using c1
    refine CondP.mk (fun c2=>?_) (fun c2=>?_)<;>conv=>whnf
    ·have c2:m.sp[i].sl[k].pl=pl:=by simpa using c2
     have ef:wV kd pl to p m.sp[i].sl[k]=dM to p m.sp[i].sl[k]:=if_pos ⟨c1,c2⟩;rw[ef]at x2;refine aE (k:=i) rfl rfl rfl (by omega) ?_;conv=>whnf
     refine cE (i:=i) (k:=2) (sz':=4) (es':=S[i].sl.map rL) S[i].sl.length rfl rfl rfl (aW hg rfl rfl rfl) rfl (by simp) ?_;conv=>whnf
     refine aE (k:=k) rfl rfl rfl hk' ?_;conv=>whnf
     refine bU (row':=rL (dM to p m.sp[i].sl[k])) rfl rfl rfl (by simpa using hk') (dD (fun _=>rfl)) (cV _) rfl rfl rfl ?_;conv=>whnf
     refine aX (i:=i) (k:=2) (g':=9) (lo:=0) (len:=S[i].sl.length) (es2:=(aH S i k (dM to p m.sp[i].sl[k])).map rP) (ov2:=[]) rfl (ai hg (by simp[rP]) (by simp only[aa,if_true];rfl)) rfl rfl (by rw[List.drop_zero,List.take_of_length_le (by simp)];exact bo hi') (by simp only[aZ,if_true];rfl) ?_;conv=>whnf
     rw[x2];refine⟨k+1,by omega,by omega,?_,rfl,rfl⟩;rw[next];rfl
    ·have c2:¬m.sp[i].sl[k].pl=pl:=by simpa using c2
     refine⟨k+1,by omega,by omega,?_,?_,rfl⟩
     ·rw[next];rfl
     ·rw[←x3 (if_neg fun c=>c2 c.2)];rfl
   ·have c1:¬m.sp[i].sl[k].kd=kd:=by simpa using c1
    refine⟨k+1,by omega,by omega,?_,?_,rfl⟩
    ·rw[next];rfl
    ·rw[←x3 (if_neg fun c=>c1 c.1)];rfl
  ·have:k=m.sp[i].sl.length:=by
                     have:¬(k:Int)< (S[i].sl.length:Int):=by simpa using h1
                     omega
   subst this;refine⟨i+1,by omega,by omega,?_,?_,rfl⟩
   ·rw[up hi (by omega)];rfl
   ·rw[←pr hi,hS];rfl
 ·have:i=m.sp.length:=by
                 have:¬i<m.sp.length:=by simpa using h
                 omega
  subst this;refine⟨rfl,?_⟩;rw[ou];rfl
end Go.Qm
namespace Go.Qm
open Go.Cq Go.Cq.D Go.RowKit Go.Proofs
set_option maxRecDepth 10000
def sx(pl:Int)(x:Slot):Slot:=if x.kd=1∧x.pl=pl then gN x else x
set_option maxHeartbeats 2000000 in
theorem xE(m:Mem)(pl:Int)(hn:m.sp.length≤1048576)(hl:∀s,s∈m.sp→s.sl.length≤1048576):di Try.prog 186 [.agg (cM m),.one (dI pl)] (hM m) 5
  fun x H'=>x= .tup [.agg (cM m),.one (dB (dw 1 pl m.sp))]∧H'=hM (gG m pl):=by
 refine aK hmix Try.func186 ok186 ?_;conv=>whnf
 refine aq (fun s:Nat×Bool=>[(1,.v (.one (dI pl))),(2,.v (.one (.ptr 5 0 0))),(4,.v (.one (.ptr 6 0 0))),(6,.v (.one (dB s.2))),(7,.v (.one (dI s.1)))]) (fun s=>hT m (dL (sx pl) m.sp s.1 0)) (fun _=>7)
  (fun s=>s.1≤m.sp.length∧dw 1 pl m.sp=(s.2||dw 1 pl (m.sp.drop s.1))) (fun s=>m.sp.length-s.1) (0,false) ⟨Nat.zero_le _,by simp⟩ rfl (by rw[nM];rfl) rfl fun s hs=>?_
 obtain⟨i,w⟩:=s;obtain⟨hi,hu⟩:=hs;simp only at hi hu;conv=>whnf
 refine CondP.mk (fun h=>?_) (fun h=>?_)<;>conv=>whnf
 ·have hi:i<m.sp.length:=by simpa using h
  have hl:=hl _ (List.getElem_mem hi);rw[r6 hi]at hu;refine aq (fun s:Nat×Bool=>[(1,.v (.one (dI pl))),(2,.v (.one (.ptr 5 0 0))),(4,.v (.one (.ptr 6 0 0))),(6,.v (.one (dB s.2))),(7,.v (.one (dI i))),(8,.v (.one (dI s.1)))]) (fun s=>hT m (dL (sx pl) m.sp i s.1)) (fun _=>7)
   (fun s=>s.1≤m.sp[i].sl.length∧dw 1 pl m.sp=(s.2||gC 1 pl m.sp i s.1)) (fun s=>m.sp[i].sl.length-s.1) (0,w) ⟨Nat.zero_le _,hu⟩ rfl rfl rfl fun s hs=>?_
  obtain⟨k,w⟩:=s;obtain⟨hk,hu⟩:=hs;simp only at hk hu;obtain⟨S,hS,hSn,hi',hsl,hfx⟩:=mB (f:=sx pl) (k:=k) hi;simp only[hS];have hg:=av (f:=rP) (List.getElem?_eq_getElem hi');conv=>whnf
  refine aE (k:=i) rfl rfl rfl (by omega) ?_;conv=>whnf
  refine cE (i:=i) (k:=2) (sz':=4) (es':=S[i].sl.map rL) S[i].sl.length rfl rfl rfl (aW hg rfl rfl rfl) rfl (by simp) ?_;conv=>whnf
  refine aX (i:=i) (k:=2) (g':=7) (lo:=0) (len:=S[i].sl.length) (es2:=S.map rP) (ov2:=[]) rfl (ai hg (by simp[rP]) (by simp only[aa,if_true];rfl)) rfl rfl (by rw[List.drop_zero,aU];exact dJ hi') (by simp only[aZ,if_true];rfl) ?_;conv=>whnf
  refine CondP.mk (fun h1=>?_) (fun h1=>?_)<;>conv=>whnf
  ·have hk1:k<m.sp[i].sl.length:=by
                       have:(k:Int)< (S[i].sl.length:Int):=by simpa using h1
                       omega
   have hk':k<S[i].sl.length:=by omega
   obtain⟨x1,x2,x3⟩:=hfx hk1 hk';have next:=up hk1 (by omega)
   rw[qI hi hk1]at hu;refine aE (k:=i) rfl rfl rfl (by omega) ?_;conv=>whnf
   refine cE (i:=i) (k:=2) (sz':=4) (es':=S[i].sl.map rL) S[i].sl.length rfl rfl rfl (aW hg rfl rfl rfl) rfl (by simp) ?_;conv=>whnf
   refine aE (k:=k) rfl rfl rfl hk' ?_;conv=>whnf
   refine gU (row:=rL m.sp[i].sl[k]) rfl rfl rfl (by rw[←x1];simp[hk']) (cV _) rfl rfl ?_;conv=>whnf
   refine aX (i:=i) (k:=2) (g':=7) (lo:=0) (len:=S[i].sl.length) (es2:=S.map rP) (ov2:=[]) rfl (ai hg (by simp[rP]) (by simp only[aa,if_true];rfl)) rfl rfl (by rw[List.drop_zero,aU];exact dJ hi') (by simp only[aZ,if_true];rfl) ?_;conv=>whnf
   refine CondP.mk (fun c1=>?_) (fun c1=>?_)<;>rw[c1]<;>(conv=>whnf)<;>repeat' first|(refine aD ?_;conv=>whnf)|(refine aC ?_;conv=>whnf)
   ·have c1:m.sp[i].sl[k].kd=1:=by simpa using c1
    refine CondP.mk (fun c2=>?_) (fun c2=>?_)<;>conv=>whnf
    ·have c2:m.sp[i].sl[k].pl=pl:=by simpa using c2
     have ef:sx pl m.sp[i].sl[k]=gN m.sp[i].sl[k]:=if_pos ⟨c1,c2⟩;rw[ef]at x2;have hm:(S[i].sl.map rL).modify k (fun row=>row.set 3 (.sc (.bool false)))=(S[i].sl.map rL).set k (rL (gN m.sp[i].sl[k])):=by rw[bE (av (f:=rL) (List.getElem?_eq_getElem hk')),x1];rfl
     cases w
     all_goals
      (conv=>whnf)<;>repeat' first|(refine aD ?_;conv=>whnf)|(refine aC ?_;conv=>whnf)
      refine aE (k:=i) rfl rfl rfl (by omega) ?_;conv=>whnf
      refine cE (i:=i) (k:=2) (sz':=4) (es':=S[i].sl.map rL) S[i].sl.length rfl rfl rfl (aW hg rfl rfl rfl) rfl (by simp) ?_;conv=>whnf
      refine aE (k:=k) rfl rfl rfl hk' ?_;conv=>whnf
      refine af rfl rfl rfl (by simpa using hk') (by decide) ?_;conv=>whnf
      refine aX (i:=i) (k:=2) (g':=7) (lo:=0) (len:=S[i].sl.length) (es2:=(aH S i k (gN m.sp[i].sl[k])).map rP) (ov2:=[]) rfl (ai hg (by simp[rP]) (by simp only[aa,if_true];rfl)) rfl rfl (by rw[List.drop_zero,List.take_of_length_le (by simp),hm];exact bo hi') (by simp only[aZ,if_true];rfl) ?_;conv=>whnf
      rw[x2]
     ·refine⟨(k+1,m.sp[i].sl[k].us),by show m.sp[i].sl.length-(k+1)<m.sp[i].sl.length-k;omega,⟨by show k+1≤_;omega,by rw[hu];simp[c1,c2]⟩,?_,rfl,rfl⟩;rw[next];rfl
     ·refine⟨(k+1,true),by show m.sp[i].sl.length-(k+1)<m.sp[i].sl.length-k;omega,⟨by show k+1≤_;omega,by rw[hu];simp⟩,?_,rfl,rfl⟩;rw[next];rfl
    ·have c2:¬m.sp[i].sl[k].pl=pl:=by simpa using c2
     refine⟨(k+1,w),by show m.sp[i].sl.length-(k+1)<m.sp[i].sl.length-k;omega,⟨by show k+1≤_;omega,by rw[hu];simp[c2]⟩,?_,?_,rfl⟩
     ·rw[next];rfl
     ·rw[←x3 (if_neg fun c=>c2 c.2)];rfl
   ·have c1:¬m.sp[i].sl[k].kd=1:=by simpa using c1
    refine⟨(k+1,w),by show m.sp[i].sl.length-(k+1)<m.sp[i].sl.length-k;omega,⟨by show k+1≤_;omega,by rw[hu];simp[c1]⟩,?_,?_,rfl⟩
    ·rw[next];rfl
    ·rw[←x3 (if_neg fun c=>c1 c.1)];rfl
  ·have:k=m.sp[i].sl.length:=by
                     have:¬(k:Int)< (S[i].sl.length:Int):=by simpa using h1
                     omega
   subst this;rw[sR hi]at hu;refine⟨(i+1,w),by show m.sp.length-(i+1)<m.sp.length-i;omega,⟨by show i+1≤_;omega,hu⟩,?_,?_,rfl⟩
   ·rw[up hi (by omega)];rfl
   ·show _=hT m (dL (sx pl) m.sp (i+1) 0);rw[←pr hi,hS];rfl
 ·have:i=m.sp.length:=by
                 have:¬i<m.sp.length:=by simpa using h
                 omega
  subst this;rw[List.drop_length]at hu;have hu:dw 1 pl m.sp=w:=by rw[hu];simp[dw]
  refine⟨by rw[hu];rfl,?_⟩;rw[ou];rfl
end Go.Qm
namespace Go.Qm
open Go.Cq Go.Cq.D Go.RowKit Go.Proofs
set_option maxRecDepth 10000
structure Lw(m:Mem):Prop where
 rt:m.ram.tx.length=12
 rr:m.ram.rf.length=12
 st:m.swp.tx.length=12
 sr:m.swp.rf.length=12
 sp:m.sp.length=5
def cW(h:Int):List DC:=[.sl 0 0 12,.sl 1 0 12,.sl 2 0 12,.sl 3 0 12,.sl 4 0 5,dI h]
theorem Wf.L{m:Mem}(w:Wf m):Lw m:=⟨w.ram.tx,w.ram.rf,w.swp.tx,w.swp.rf,w.sp⟩
theorem aDp{m:Mem}(l:Lw m):cM m=cW m.hd:=by rw[cM,l.rt,l.rr,l.st,l.sr,l.sp];rfl
theorem kB{pre H:DH}{g:Nat}(hg:Nat.blt g 5=true):pre.all (fun p=>Nat.ble 5 p.1)=true→aG (pre++H) g=aG H g:=by
 intro h;induction pre with
 |nil=>rfl
 |cons p l ih=>
  obtain⟨k,x⟩:=p;simp only[List.all_cons,Bool.and_eq_true]at h;have h1:5≤k:=by simpa using h.1
  have h2:g<5:=by simpa using hg
  rw[List.cons_append,aS,if_neg (by omega)];exact ih h.2
theorem jx{pre H:DH}{g:Nat}{x:DB}(hg:Nat.blt g 5=true):pre.all (fun p=>Nat.ble 5 p.1)=true→dC g x (pre++H)=pre++dC g x H:=by
 intro h;induction pre with
 |nil=>rfl
 |cons p l ih=>
  obtain⟨k,y⟩:=p;simp only[List.all_cons,Bool.and_eq_true]at h;have h1:5≤k:=by simpa using h.1
  have h2:g<5:=by simpa using hg
  have hb:Nat.beq k g=false:=by
   cases hb:Nat.beq k g with
   |false=>rfl
   |true=>have:=Nat.eq_of_beq_eq_true hb;omega
  rw[List.cons_append,dC,hb,cond_false,ih h.2];rfl
theorem aDg(m m':Mem)(l:Lw m)(l':Lw m')(pre:DH)(hp:pre.all (fun p=>Nat.ble 5 p.1)=true):bS (fun t=>([0,1,2,3,4]:List Nat)[t]?) (hM m') [0,1,2,3,4] 0 (pre++hM m)=some (pre++hM m'):=by have e0:=kB (H:=hM m) (g:=0) rfl hp;refine(bh (sz:=1) (es:=m'.ram.tx.map rS) (es0:=m.ram.tx.map rS) (ov0:=[]) rfl e0 (by simp[l.rt,l'.rt])).trans ?_;rw[jx rfl hp];refine(bh (sz:=1) (es:=m'.ram.rf.map rI) (es0:=m.ram.rf.map rI) (ov0:=[]) rfl (kB rfl hp) (by simp[l.rr,l'.rr])).trans ?_;rw[jx rfl hp];refine(bh (sz:=1) (es:=m'.swp.tx.map rS) (es0:=m.swp.tx.map rS) (ov0:=[]) rfl (kB rfl hp) (by simp[l.st,l'.st])).trans ?_;rw[jx rfl hp];refine(bh (sz:=1) (es:=m'.swp.rf.map rI) (es0:=m.swp.rf.map rI) (ov0:=[]) rfl (kB rfl hp) (by simp[l.sr,l'.sr])).trans ?_;rw[jx rfl hp];refine(bh (sz:=3) (es:=m'.sp.map rP) (es0:=m.sp.map rP) (ov0:=[]) rfl (kB rfl hp) (by simp[l.sp,l'.sp])).trans ?_;rw[jx rfl hp];rfl
abbrev hA(m:Mem):DH:=[(0,.arr 1 (m.ram.tx.map rS) []),(1,.arr 1 (m.ram.rf.map rI) []),(2,.arr 1 (m.swp.tx.map rS) []),(3,.arr 1 (m.swp.rf.map rI) []),(4,.arr 3 (m.sp.map rP) [])]
theorem aCh{m m':Mem}(l:Lw m)(l':Lw m'){k1 k2:Nat}{d1 d2:DB}(hp:(Nat.ble 5 k1&&(Nat.ble 5 k2&&true))=true):bS (fun t=>([0,1,2,3,4]:List Nat)[t]?) (hM m') [0,1,2,3,4] 0 ((k1,d1)::(k2,d2)::hA m)=some ((k1,d1)::(k2,d2)::hA m'):=aDg m m' l l' [(k1,d1),(k2,d2)] hp
theorem uj{m m':Mem}(l:Lw m)(l':Lw m'){k1 k2 k3:Nat}{d1 d2 d3:DB}(hp:(Nat.ble 5 k1&&(Nat.ble 5 k2&&(Nat.ble 5 k3&&true)))=true):bS (fun t=>([0,1,2,3,4]:List Nat)[t]?) (hM m') [0,1,2,3,4] 0 ((k1,d1)::(k2,d2)::(k3,d3)::hA m)=some ((k1,d1)::(k2,d2)::(k3,d3)::hA m'):=aDg m m' l l' [(k1,d1),(k2,d2),(k3,d3)] hp
theorem t9{f:Nat→Option Nat}{m m':Mem}(l:Lw m)(l':Lw m'){g0 g1 g2 g3 g4:Nat}{H:DH}(hn:nodup [g0,g1,g2,g3,g4]=true)(h0:aG H g0=some (.arr 1 (m.ram.tx.map rS) []))(h1:aG H g1=some (.arr 1 (m.ram.rf.map rI) []))(h2:aG H g2=some (.arr 1 (m.swp.tx.map rS) []))(h3:aG H g3=some (.arr 1 (m.swp.rf.map rI) []))(h4:aG H g4=some (.arr 3 (m.sp.map rP) [])):
  bS f (hM m') [g0,g1,g2,g3,g4] 0 H=some (dC g4 (.arr 3 (m'.sp.map rP) []) (dC g3 (.arr 1 (m'.swp.rf.map rI) []) (dC g2 (.arr 1 (m'.swp.tx.map rS) []) (dC g1 (.arr 1 (m'.ram.rf.map rI) []) (dC g0 (.arr 1 (m'.ram.tx.map rS) []) H))))):=by
 obtain⟨n0,hn⟩:=nodup_cons hn;obtain⟨n1,hn⟩:=nodup_cons hn;obtain⟨n2,hn⟩:=nodup_cons hn;obtain⟨n3, -⟩:=nodup_cons hn;simp only[List.mem_cons,List.not_mem_nil,or_false,not_or]at n0 n1 n2 n3;refine(bh (sz:=1) (es:=m'.ram.tx.map rS) (es0:=m.ram.tx.map rS) (ov0:=[]) rfl h0 (by simp[l.rt,l'.rt])).trans ?_;refine(bh (sz:=1) (es:=m'.ram.rf.map rI) (es0:=m.ram.rf.map rI) (ov0:=[]) rfl (by rw[bB,if_neg (fun e=>n0.1 e.symm)];exact h1) (by simp[l.rr,l'.rr])).trans ?_;refine(bh (sz:=1) (es:=m'.swp.tx.map rS) (es0:=m.swp.tx.map rS) (ov0:=[]) rfl (by rw[bB,if_neg (fun e=>n1.1 e.symm),bB,if_neg (fun e=>n0.2.1 e.symm)];exact h2) (by simp[l.st,l'.st])).trans ?_;refine(bh (sz:=1) (es:=m'.swp.rf.map rI) (es0:=m.swp.rf.map rI) (ov0:=[]) rfl (by rw[bB,if_neg (fun e=>n2.1 e.symm),bB,if_neg (fun e=>n1.2.1 e.symm),bB,if_neg (fun e=>n0.2.2.1 e.symm)];exact h3) (by simp[l.sr,l'.sr])).trans ?_;refine(bh (sz:=3) (es:=m'.sp.map rP) (es0:=m.sp.map rP) (ov0:=[]) rfl (by rw[bB,if_neg (fun e=>n3 e.symm),bB,if_neg (fun e=>n2.2 e.symm),bB,if_neg (fun e=>n1.2.2 e.symm),bB,if_neg (fun e=>n0.2.2.2 e.symm)];exact h4) (by simp[l.sp,l'.sp])).trans ?_;rfl
end Go.Qm
namespace Go.Qm
open Go.Cq Go.Cq.D Go.RowKit Go.Proofs
set_option maxRecDepth 10000
theorem xq{h:Int}(h1:0≤h∧h≤11):(IntKind.wrap .i64 (h+1)).tmod 12=(h+1) % 12:=by rw[wrap64 (by omega) (by omega),Int.tmod_eq_emod_of_nonneg (by omega)]
theorem aBp(p:Pages):decide (0< (jG p.rf:Int))=decide (aR p.rf<p.rf.length):=by
 have:=oh (l:=p.rf);by_cases c:aR p.rf<p.rf.length
 ·rw[decide_eq_true c,decide_eq_true (by have:=this.2 c;omega)]
 ·rw[decide_eq_false c,decide_eq_false (by intro h;exact c (this.1 (by omega)))]
theorem wQ(m:Mem)(kd pl to p:Int)(l:Lw m)(hl:∀s,s∈m.sp→s.sl.length≤16):di Try.prog 177 [.agg (cW m.hd),.one (dI kd),.one (dI pl),.one (dI to),.one (dI p)] (hM m) 5
  fun x H'=>x= .v (.agg (cW m.hd))∧H'=hM {m with sp:=ae kd pl (dM to p) m.sp}:=by
 have:=xm m kd pl to p (by rw[l.sp];omega) (fun s hs=>by have:=hl s hs;omega);rwa[aDp l]at this
theorem aBn(m:Mem)(pl:Int)(l:Lw m)(hl:∀s,s∈m.sp→s.sl.length≤16):di Try.prog 186 [.agg (cW m.hd),.one (dI pl)] (hM m) 5
  fun x H'=>x= .tup [.agg (cW m.hd),.one (dB (dw 1 pl m.sp))]∧H'=hM (gG m pl):=by
 have:=xE m pl (by rw[l.sp];omega) (fun s hs=>by have:=hl s hs;omega);rwa[aDp l]at this
theorem nz(p:Pages)(t:Str)(h1:p.tx.length=12)(h2:p.rf.length=12)(hf:aR p.rf<12):di Try.prog 175 [.agg [.sl 0 0 12,.sl 1 0 12],.one (.sc (.str t))] (hP p) 2 fun x H'=>x= .tup [.agg [.sl 0 0 12,.sl 1 0 12],.one (dI (aR p.rf))]∧H'=hP (ax p (aR p.rf) t 1):=by have:=xH p t (by omega) (by omega) (by omega);rwa[cP,h1,h2]at this
def hW(m:Mem):DH:=[(6,bO eh),(5,.box (cW m.hd)),(0,.arr 1 (m.ram.tx.map rS) []),(1,.arr 1 (m.ram.rf.map rI) []),(2,.arr 1 (m.swp.tx.map rS) []),(3,.arr 1 (m.swp.rf.map rI) []),(4,.arr 3 (m.sp.map rP) [])]
theorem take_set{p:Pages}{k:Nat}{t:Str}{n:Int}(hk:k<p.rf.length):((ax p k t 1).rf.map rI).modify k (fun row=>row.set 0 (.sc (.int .i64 n)))=(ax p k t n).rf.map rI:=by rw[bE (av (f:=rI) (a:=1) (by simp[ax,hk]))];simp only[ax];rw[show(rI 1).set 0 (.sc (.int .i64 n))=rI n from rfl,map_set,List.set_set]
theorem pP{p:Pages}{k:Nat}{n:Int}(hk:k<p.rf.length):(p.rf.map rI).modify k (fun row=>row.set 0 (.sc (.int .i64 n)))=(p.rf.set k n).map rI:=by rw[bE (av (f:=rI) (List.getElem?_eq_getElem hk)),←map_set];rfl
theorem sV{p:Pages}{k:Nat}{t:Str}(hk:k<p.tx.length):(p.tx.map rS).modify k (fun row=>row.set 0 (.sc (.str t)))=(p.tx.set k t).map rS:=by rw[bE (av (f:=rS) (List.getElem?_eq_getElem hk)),←map_set];rfl
set_option maxHeartbeats 4000000 in
theorem rN(m:Mem)(but:Int)(w:Wf m):di Try.prog 174 [.agg (cW m.hd),.one (dI but)] (hM m) 5
  fun x H'=>x= .tup [.agg (cW ((dP m but).getD m).hd),.one (dB (dP m but).isSome)]∧H'=hM ((dP m but).getD m):=by
 refine aK hmix Try.func174 ok174 ?_;have l:=w.L;conv=>whnf
 refine aB (cas:=[.agg [.ro true 1 (m.ram.tx.map rS),.ro true 1 (m.ram.rf.map rI)]]) [.lend] rfl (by show some [DV.agg [DC.ro true 1 (List.take 12 (List.drop 0 _)),DC.ro true 1 (List.take 12 (List.drop 0 _))]]=_;rw[List.drop_zero,List.drop_zero,List.take_of_length_le (by simp[l.rt]),List.take_of_length_le (by simp[l.rr])]) rfl (qu true true m.ram (by rw[l.rr];omega)) rfl ?_;conv=>whnf
 rw[aBp m.ram];refine CondP.mk (fun h=>?_) (fun h=>?_)<;>conv=>whnf
 ·have h:aR m.ram.rf<m.ram.rf.length:=by simpa using h
  rw[dP,if_pos h];exact⟨rfl,rfl⟩
 have h:¬aR m.ram.rf<m.ram.rf.length:=by simpa using h
 refine aB (cas:=[.agg [.ro true 1 (m.swp.tx.map rS),.ro true 1 (m.swp.rf.map rI)]]) [.lend] rfl (by show some [DV.agg [DC.ro true 1 (List.take 12 (List.drop 0 _)),DC.ro true 1 (List.take 12 (List.drop 0 _))]]=_;rw[List.drop_zero,List.drop_zero,List.take_of_length_le (by simp[l.st]),List.take_of_length_le (by simp[l.sr])]) rfl (qu true true m.swp (by rw[l.sr];omega)) rfl ?_;conv=>whnf
 refine CondP.mk (fun h2=>?_) (fun h2=>?_)<;>conv=>whnf
 ·have h2:¬aR m.swp.rf<m.swp.rf.length:=fun c=>by
   have:=oh.2 c;have h2:jG m.swp.rf=0:=by simpa using h2
   omega
  rw[dP,if_neg h,if_neg h2];exact⟨rfl,rfl⟩
 have h2:aR m.swp.rf<m.swp.rf.length:=by
  have h2:¬jG m.swp.rf=0:=by simpa using h2
  exact oh.1 (by omega)
 rw[dP,if_neg h,if_pos h2];simp only[Option.getD_some,Option.isSome_some];rw[w.swp.rf]at h2;refine aq (fun s:Mem×DTs=>(1,.v (.one (dI but)))::(2,.v (.one (.ptr 5 0 0)))::(4,.v (.one (.ptr 6 0 0)))::s.2) (fun s=>hW s.1) (fun _=>7)
  (fun s=>Wf s.1∧aR s.1.swp.rf<12∧dj s.1 but=dj m but) (fun s=>mu s.1 but) (m,[(20,.v (.one (.sc (.bool (decide ((jG m.swp.rf:Int)=0))))))]) ⟨w,h2,rfl⟩ rfl rfl rfl fun s hs=>?_
 clear l w h h2;obtain⟨s,rest⟩:=s;obtain⟨ws,hf,hr⟩:=hs;simp only at ws hf hr;obtain⟨a,ha⟩:=Int.eq_ofNat_of_zero_le ws.hd.1;have ha12:a<12:=by have:=ws.hd;omega
 conv=>whnf
 refine fo rfl ?_;conv=>whnf
 simp only[xq ws.hd];refine CondP.mk (fun h3=>?_) (fun h3=>?_)<;>conv=>whnf
 ·have h3:s.hd=but:=by simpa using h3
  have hc:clk s but= .inl (fR s):=by rw[clk,if_pos h3]
  exact⟨(fR s,_),jz hc,⟨ws.hand,hf,by rw[←hr,jS hc]⟩,rfl,rfl,rfl⟩
 have h3:¬s.hd=but:=by simpa using h3
 have w2:=ws.hand.calm s.hd;have l2:=w2.L;refine cJ [.pass,.pass] [0,1,2,3,4] rfl rfl rfl rfl (aBn (fR s) s.hd ws.hand.L ws.hand.sl) rfl (aCh ws.hand.L l2 rfl) ?_;conv=>whnf
 refine CondP.mk (fun h4=>?_) (fun h4=>?_)<;>conv=>whnf
 ·have hc:clk s but= .inl (gG (fR s) s.hd):=by rw[clk,if_neg h3,if_pos (show dw 1 s.hd s.sp=true from h4)]
  exact⟨(gG (fR s) s.hd,_),jz hc,⟨w2,hf,by rw[←hr,jS hc]⟩,rfl,rfl,rfl⟩
 have h4:¬dw 1 s.hd s.sp=true:=by rw[show dw 1 s.hd s.sp=false from h4];decide
 have hc:clk s but= .inr (f0 (gG (fR s) s.hd) s.hd.toNat):=by rw[clk,if_neg h3,if_neg h4]
 rw[←hr,kg hc];have hf2:aR (gG (fR s) s.hd).swp.rf<12:=hf;have hto:s.hd.toNat=a:=by omega
 rw[hto];generalize hs2:gG (fR s) s.hd=s2 at*;have hh2:(fR s).hd=s2.hd:=by rw[←hs2];rfl
 simp only[hh2,ha];refine aE (k:=a) rfl rfl rfl ha12 ?_;conv=>whnf
 refine cz rfl rfl rfl (aW (row:=rI (s2.ram.rf[a]'(by rw[l2.rr];exact ha12))) (by simp[l2.rr,ha12]) rfl rfl rfl) rfl ?_;conv=>whnf
 refine aE (k:=a) rfl rfl rfl ha12 ?_;conv=>whnf
 refine cz rfl rfl rfl (aW (row:=rS (s2.ram.tx[a]'(by rw[l2.rt];exact ha12))) (by simp[l2.rt,ha12]) rfl rfl rfl) rfl ?_;conv=>whnf
 refine cJ [.pass,.pass] [2,3] rfl rfl rfl rfl (nz s2.swp (s2.ram.tx[a]'(by rw[l2.rt];exact ha12)) l2.st l2.sr hf2) rfl ((bh (sz:=1) (es:=(ax s2.swp (aR s2.swp.rf) (s2.ram.tx[a]'(by rw[l2.rt];exact ha12)) 1).tx.map rS) (es0:=s2.swp.tx.map rS) (ov0:=[]) rfl rfl (by simp[ax])).trans ((bh (sz:=1) (es:=(ax s2.swp (aR s2.swp.rf) (s2.ram.tx[a]'(by rw[l2.rt];exact ha12)) 1).rf.map rI) (es0:=s2.swp.rf.map rI) (ov0:=[]) rfl rfl (by simp[ax])).trans rfl)) ?_;conv=>whnf
 refine aE (k:=aR s2.swp.rf) rfl rfl rfl hf2 ?_;conv=>whnf
 refine af rfl rfl rfl (by simpa [ax,l2.sr]using hf2) (by decide) ?_;conv=>whnf
 rw[take_set (by rw[l2.sr];exact hf2)];have l3:Lw {s2 with swp:=ax s2.swp (aR s2.swp.rf) (s2.ram.tx[a]'(by rw[l2.rt];exact ha12)) (s2.ram.rf[a]'(by rw[l2.rr];exact ha12))}:=⟨l2.rt,l2.rr,by simp[ax,l2.st],by simp[ax,l2.sr],l2.sp⟩;have l4:Lw ⟨s2.ram,ax s2.swp (aR s2.swp.rf) (s2.ram.tx[a]'(by rw[l2.rt];exact ha12)) (s2.ram.rf[a]'(by rw[l2.rr];exact ha12)),ae 1 a (dM 2 (aR s2.swp.rf)) s2.sp,s2.hd⟩:=⟨l3.rt,l3.rr,l3.st,l3.sr,by simp[ae,l2.sp]⟩;refine cJ [.pass,.pass,.pass,.pass,.pass] [0,1,2,3,4] rfl rfl rfl rfl (wQ {s2 with swp:=ax s2.swp (aR s2.swp.rf) (s2.ram.tx[a]'(by rw[l2.rt];exact ha12)) (s2.ram.rf[a]'(by rw[l2.rr];exact ha12))} 1 a 2 (aR s2.swp.rf) l3 w2.sl) rfl (aCh l3 l4 rfl) ?_;conv=>whnf
 refine aE (k:=a) rfl rfl rfl ha12 ?_;conv=>whnf
 refine af rfl rfl rfl (by simpa [l2.rr]using ha12) (by decide) ?_;conv=>whnf
 refine aE (k:=a) rfl rfl rfl ha12 ?_;conv=>whnf
 refine af rfl rfl rfl (by simpa [l2.rt]using ha12) (by decide) ?_;conv=>whnf
 refine⟨rfl,?_⟩;rw[pP (by rw[l2.rr];exact ha12),sV (by rw[l2.rt];exact ha12)];have e1:s2.ram.tx[a]?.getD []=s2.ram.tx[a]'(by rw[l2.rt];exact ha12):=by simp[l2.rt,ha12]
 have e2:s2.ram.rf[a]?.getD 0=s2.ram.rf[a]'(by rw[l2.rr];exact ha12):=by simp[l2.rr,ha12]
 simp only[f0,e1,e2];rfl
end Go.Qm
namespace Go.Qm
open Go.Cq Go.Cq.D Go.RowKit Go.Proofs
set_option maxRecDepth 10000
end Go.Qm
namespace Go.Qm
open Go.Cq Go.Cq.D Go.RowKit Go.Proofs
set_option maxRecDepth 10000
end Go.Qm
namespace Go.Qm
open Go.Cq Go.Cq.D Go.RowKit Go.Proofs
set_option maxRecDepth 10000
end Go.Qm
namespace Go.Qm
open Go.Cq Go.Cq.D Go.RowKit Go.Proofs
set_option maxRecDepth 10000
theorem uq{sp:List Space}{i j:Nat}{x y:Slot}:aH (aH sp i j x) i j y=aH sp i j y:=by
 simp only[aH];refine List.ext_getElem (by simp) fun q h1 h2=>?_
 simp only[List.getElem_modify];split<;>simp
theorem aDN{l:List Slot}{j:Nat}{b:Bool}(h:j<l.length):(l.map rL).modify j (fun row=>row.set 3 (.sc (.bool b)))=(l.map rL).set j (rL {l[j]with us:=b}):=by rw[bE (av (f:=rL) (List.getElem?_eq_getElem h))];rfl
theorem vm{sp:List Space}{i j:Nat}{x:Slot}(hi:i<sp.length)(hj:j<sp[i].sl.length):∃(h1:i< (aH sp i j x).length)(h2:j< (aH sp i j x)[i].sl.length),(aH sp i j x)[i].sl[j]=x:=⟨by simpa [aH]using hi,by simpa [aH]using hj,by simp[aH]⟩
theorem sC{S:List Space}{i j:Nat}{b:Bool}(hi:i<S.length)(hj:j<S[i].sl.length):(S.map rP).modify i (fun row=>row.set 2 (.sl 4 ((((S[i].sl.map rL).modify j (fun row=>row.set 3 (.sc (.bool b)))).drop 0).take S[i].sl.length)))=(aH S i j {S[i].sl[j]with us:=b}).map rP:=by rw[List.drop_zero,List.take_of_length_le (by simp),aDN hj];exact bo hi
set_option maxHeartbeats 8000000 in
theorem lr(m:Mem)(i j:Nat)(w:Wf m)(hi:i<m.sp.length)(hj:j<m.sp[i].sl.length):di Try.prog 147 [.agg (cW m.hd),.one (dI i),.one (dI j)] (hM m) 5
  fun x H'=>x= .tup [.agg (cW ((cm m i j).getD m).hd),.one (dB (cm m i j).isSome)]∧H'=hM ((cm m i j).getD m):=by
 refine aK hmix Try.func147 ok147 ?_;have l:=w.L;have hi5:i<5:=by rw[←l.sp];exact hi
 have hg:=av (f:=rP) (List.getElem?_eq_getElem hi);have hx:=bp hi hj;conv=>whnf
 refine aE (k:=i) rfl rfl rfl hi5 ?_;conv=>whnf
 refine cE (i:=i) (k:=2) (sz':=4) (es':=m.sp[i].sl.map rL) m.sp[i].sl.length rfl rfl rfl (aW hg rfl rfl rfl) rfl (by simp) ?_;conv=>whnf
 refine aE (k:=j) rfl rfl rfl hj ?_;conv=>whnf
 refine gU (row:=rL (aJ m i j)) rfl rfl rfl (by rw[hx];simp[hj]) (cV _) rfl rfl ?_;conv=>whnf
 refine aX (i:=i) (k:=2) (g':=7) (lo:=0) (len:=m.sp[i].sl.length) (es2:=m.sp.map rP) (ov2:=[]) rfl (ai hg (by simp[rP]) (by simp only[aa,if_true];rfl)) rfl rfl (by rw[List.drop_zero,aU];exact dJ hi) (by simp only[aZ,if_true];rfl) ?_;conv=>whnf
 obtain⟨s1,s2⟩:=w.slot hi hj;have skd:(aJ m i j).kd=0∨(aJ m i j).kd=1∨(aJ m i j).kd=2:=by rw[hx];exact w.kd _ (List.getElem_mem hi) _ (List.getElem_mem hj)
 refine CondP.mk (fun c1=>?_) (fun c1=>?_)<;>conv=>whnf
 ·have c1:¬(aJ m i j).kd=1:=by simpa using c1
  have hcall:=rN m (-1) w;cases hr:dP m (-1)with
  |none=>
   have hb:cm m i j=none:=by rw[cm,if_neg c1,hr];rfl
   rw[hr]at hcall;refine cJ (r:=.tup [.agg (cW m.hd),.one (dB false)]) (Hr:=hM m) [.pass,.pass] [0,1,2,3,4] rfl rfl rfl rfl hcall rfl (uj l l rfl) ?_
   (conv=>whnf)<;>repeat' first|(refine aD ?_;conv=>whnf)|(refine aC ?_;conv=>whnf)
   rw[hb];exact⟨rfl,rfl⟩
  |some m1=>
   obtain⟨w1,hf⟩:=w.dP hr;have l1:=w1.L;have ha:=eP w hr;obtain⟨hi1,hj1,ex, -⟩:=gA ha hi hj (.inl c1);have hg1:=av (f:=rP) (List.getElem?_eq_getElem hi1);rw[hr]at hcall;refine cJ (r:=.tup [.agg (cW m1.hd),.one (dB true)]) (Hr:=hM m1) [.pass,.pass] [0,1,2,3,4] rfl rfl rfl rfl hcall rfl (uj l l1 rfl) ?_
   (conv=>whnf)<;>repeat' first|(refine aD ?_;conv=>whnf)|(refine aC ?_;conv=>whnf)
   refine CondP.mk (fun c0=>?_) (fun c0=>?_)<;>conv=>whnf
   ·have c0:(aJ m i j).kd=0:=by simpa using c0
    have hb:cm m i j=some {m1 with ram:=ax m1.ram (aR m1.ram.rf) kE 1,sp:=aH m1.sp i j ⟨1,aR m1.ram.rf,true,true⟩}:=by rw[cm,if_neg c1,hr,Option.map_some,if_pos c0]
    refine aB [] rfl rfl rfl yL rfl ?_;conv=>whnf
    refine cJ [.pass,.pass] [0,1] rfl rfl rfl rfl (nz m1.ram kE l1.rt l1.rr hf) rfl ((bh (sz:=1) (es:=(ax m1.ram (aR m1.ram.rf) kE 1).tx.map rS) (es0:=m1.ram.tx.map rS) (ov0:=[]) rfl rfl (by simp[ax])).trans ((bh (sz:=1) (es:=(ax m1.ram (aR m1.ram.rf) kE 1).rf.map rI) (es0:=m1.ram.rf.map rI) (ov0:=[]) rfl rfl (by simp[ax])).trans rfl)) ?_;conv=>whnf
    refine aE (k:=i) rfl rfl rfl hi5 ?_;conv=>whnf
    refine cE (i:=i) (k:=2) (sz':=4) (es':=m1.sp[i].sl.map rL) m1.sp[i].sl.length rfl rfl rfl (aW hg1 rfl rfl rfl) rfl (by simp) ?_;conv=>whnf
    refine aE (k:=j) rfl rfl rfl hj1 ?_;conv=>whnf
    refine bU (row':=rL ⟨1,aR m1.ram.rf,true,false⟩) rfl rfl rfl (by simpa using hj1) (dD (fun _=>rfl)) (cV _) rfl rfl rfl ?_;conv=>whnf
    refine aX (i:=i) (k:=2) (g':=7) (lo:=0) (len:=m1.sp[i].sl.length) (es2:=(aH m1.sp i j ⟨1,aR m1.ram.rf,true,false⟩).map rP) (ov2:=[]) rfl (ai hg1 (by simp[rP]) (by simp only[aa,if_true];rfl)) rfl rfl (by rw[List.drop_zero,List.take_of_length_le (by simp)];exact bo hi1) (by simp only[aZ,if_true];rfl) ?_;conv=>whnf
    obtain⟨hi2,hj2,e2⟩:=vm (x:=⟨1,aR m1.ram.rf,true,false⟩) hi1 hj1;have hg2:=av (f:=rP) (List.getElem?_eq_getElem hi2);refine aE (k:=i) rfl rfl rfl hi5 ?_;conv=>whnf
    refine cE (i:=i) (k:=2) (sz':=4) (es':=(aH m1.sp i j ⟨1,aR m1.ram.rf,true,false⟩)[i].sl.map rL) (aH m1.sp i j ⟨1,aR m1.ram.rf,true,false⟩)[i].sl.length rfl rfl rfl (aW hg2 rfl rfl rfl) rfl (by simp) ?_;conv=>whnf
    refine aE (k:=j) rfl rfl rfl hj2 ?_;conv=>whnf
    refine af rfl rfl rfl (by simpa using hj2) (by decide) ?_;conv=>whnf
    refine aX (i:=i) (k:=2) (g':=7) (lo:=0) (len:=(aH m1.sp i j ⟨1,aR m1.ram.rf,true,false⟩)[i].sl.length) (es2:=(aH m1.sp i j ⟨1,aR m1.ram.rf,true,true⟩).map rP) (ov2:=[]) rfl (ai hg2 (by simp[rP]) (by simp only[aa,if_true];rfl)) rfl rfl (by rw[sC hi2 hj2,e2,uq]) (by simp only[aZ,if_true];rfl) ?_;conv=>whnf
    rw[hb];exact⟨rfl,rfl⟩
   ·have c0:¬(aJ m i j).kd=0:=by simpa using c0
    have hk2:(aJ m i j).kd=2:=by omega
    obtain⟨f,e1,hf12,e3,e4⟩:=w1.aAE ha hi hj hk2;have hft:f<m1.swp.tx.length:=by rw[l1.st];exact hf12
    have hfr:f<m1.swp.rf.length:=by rw[l1.sr];exact hf12
    have gt:m1.swp.tx[f]?.getD []=m1.swp.tx[f]:=by simp[hft]
    have gr:m1.swp.rf[f]?.getD 0=m1.swp.rf[f]:=by simp[hfr]
    have hb:cm m i j=some ⟨ax m1.ram (aR m1.ram.rf) m1.swp.tx[f] m1.swp.rf[f],ax m1.swp f [] 0,aH (ae 2 f (dM 1 (aR m1.ram.rf)) m1.sp) i j ⟨1,aR m1.ram.rf,(aJ m i j).ow,true⟩,m1.hd⟩:=by rw[cm,if_neg c1,hr,Option.map_some,if_neg c0,e1,Int.toNat_natCast,gt,gr]
    refine aE (k:=f) rfl rfl (by show some _=some _;rw[e1]) hf12 ?_;conv=>whnf
    refine cz rfl rfl rfl (aW (row:=rS m1.swp.tx[f]) (by simp[hft]) rfl rfl rfl) rfl ?_;conv=>whnf
    refine cJ [.pass,.pass] [0,1] rfl rfl rfl rfl (nz m1.ram m1.swp.tx[f] l1.rt l1.rr hf) rfl ((bh (sz:=1) (es:=(ax m1.ram (aR m1.ram.rf) m1.swp.tx[f] 1).tx.map rS) (es0:=m1.ram.tx.map rS) (ov0:=[]) rfl rfl (by simp[ax])).trans ((bh (sz:=1) (es:=(ax m1.ram (aR m1.ram.rf) m1.swp.tx[f] 1).rf.map rI) (es0:=m1.ram.rf.map rI) (ov0:=[]) rfl rfl (by simp[ax])).trans rfl)) ?_;conv=>whnf
    refine aE (k:=f) rfl rfl (by show some _=some _;rw[e1]) hf12 ?_;conv=>whnf
    refine cz rfl rfl rfl (aW (row:=rI m1.swp.rf[f]) (by simp[hfr]) rfl rfl rfl) rfl ?_;conv=>whnf
    refine aE (k:=aR m1.ram.rf) rfl rfl rfl hf ?_;conv=>whnf
    refine af rfl rfl rfl (by simpa [ax,l1.rr]using hf) (by decide) ?_;conv=>whnf
    rw[take_set (by rw[l1.rr];exact hf)];have l3:Lw ⟨ax m1.ram (aR m1.ram.rf) m1.swp.tx[f] m1.swp.rf[f],m1.swp,m1.sp,m1.hd⟩:=⟨by simp[ax,l1.rt],by simp[ax,l1.rr],l1.st,l1.sr,l1.sp⟩;have l4:Lw ⟨ax m1.ram (aR m1.ram.rf) m1.swp.tx[f] m1.swp.rf[f],m1.swp,ae 2 f (dM 1 (aR m1.ram.rf)) m1.sp,m1.hd⟩:=⟨l3.rt,l3.rr,l3.st,l3.sr,by simp[ae,l1.sp]⟩;simp only[e1];refine cJ [.pass,.pass,.pass,.pass,.pass] [0,1,2,3,4] rfl rfl rfl rfl (wQ ⟨ax m1.ram (aR m1.ram.rf) m1.swp.tx[f] m1.swp.rf[f],m1.swp,m1.sp,m1.hd⟩ 2 f 1 (aR m1.ram.rf) l3 w1.sl) rfl (uj l3 l4 rfl) ?_;conv=>whnf
    refine aE (k:=f) rfl rfl rfl hf12 ?_;conv=>whnf
    refine af rfl rfl rfl (by simpa using hfr) (by decide) ?_;conv=>whnf
    refine aE (k:=f) rfl rfl rfl hf12 ?_;conv=>whnf
    refine af rfl rfl rfl (by simpa using hft) (by decide) ?_;conv=>whnf
    rw[pP hfr,sV hft];obtain⟨S,hS⟩:∃S,ae 2 f (dM 1 (aR m1.ram.rf)) m1.sp=S:=⟨_,rfl⟩;have hi2:i<S.length:=by rw[←hS];simpa [ae]using hi1
    have hj2:j<S[i].sl.length:=by simp only[←hS];simpa [ae]using hj1
    have e2:S[i].sl[j]=dM 1 (aR m1.ram.rf) (aJ m i j):=by simp only[←hS,ae,List.getElem_map,ex];rw[if_pos ⟨hk2,e1⟩]
    rw[hS]at hb ⊢;have hg2:=av (f:=rP) (List.getElem?_eq_getElem hi2);refine aE (k:=i) rfl rfl rfl hi5 ?_;conv=>whnf
    refine cE (i:=i) (k:=2) (sz':=4) (es':=S[i].sl.map rL) S[i].sl.length rfl rfl rfl (aW hg2 rfl rfl rfl) rfl (by simp) ?_;conv=>whnf
    refine aE (k:=j) rfl rfl rfl hj2 ?_;conv=>whnf
    refine af rfl rfl rfl (by simpa using hj2) (by decide) ?_;conv=>whnf
    refine aX (i:=i) (k:=2) (g':=7) (lo:=0) (len:=S[i].sl.length) (es2:=(aH S i j ⟨1,aR m1.ram.rf,(aJ m i j).ow,true⟩).map rP) (ov2:=[]) rfl (ai hg2 (by simp[rP]) (by simp only[aa,if_true];rfl)) rfl rfl (by rw[sC hi2 hj2,e2];rfl) (by simp only[aZ,if_true];rfl) ?_;conv=>whnf
    rw[hb];exact⟨rfl,rfl⟩
 ·have c1:(aJ m i j).kd=1:=by simpa using c1
  have hb:cm m i j=some {m with sp:=aH m.sp i j {aJ m i j with us:=true}}:=by rw[cm,if_pos c1]
  refine aE (k:=i) rfl rfl rfl hi5 ?_;conv=>whnf
  refine cE (i:=i) (k:=2) (sz':=4) (es':=m.sp[i].sl.map rL) m.sp[i].sl.length rfl rfl rfl (aW hg rfl rfl rfl) rfl (by simp) ?_;conv=>whnf
  refine aE (k:=j) rfl rfl rfl hj ?_;conv=>whnf
  refine af rfl rfl rfl (by simpa using hj) (by decide) ?_;conv=>whnf
  refine aX (i:=i) (k:=2) (g':=9) (lo:=0) (len:=m.sp[i].sl.length) (es2:=(aH m.sp i j {aJ m i j with us:=true}).map rP) (ov2:=[]) rfl (ai hg (by simp[rP]) (by simp only[aa,if_true];rfl)) rfl rfl (by rw[hx];exact sC hi hj) (by simp only[aZ,if_true];rfl) ?_;conv=>whnf
  rw[hb];exact⟨rfl,rfl⟩
end Go.Qm
namespace Go.Qm
open Go.Cq Go.Cq.D Go.RowKit Go.Proofs
set_option maxRecDepth 10000
end Go.Qm
namespace Go.Qm
open Go.Cq Go.Cq.D Go.RowKit Go.Proofs
set_option maxRecDepth 10000
theorem ud{P:Prg}{ts:DTs}{H:DH}{n:Nat}{K:DT→DTs→DH→Nat→List Nat→Prop}{x y:Opd}{s:Str}{k:Nat}(hx:evS ts x=some (.str s))(hy:eG ts y=some (k:Int))(hk:k<s.length)(h:K (.v (.one (.sc (.int .u8 (s[k].toNat:Int))))) ts H n []):OpP P (.fl (.index x y)) ts H n K:=by refine fo ?_ h;simp only[dfl,hx,hy];rw[if_pos (by omega)];simp[hk]
def byteOf(t:Str)(k:Nat):Int:=((t[k]?.getD 0).toNat:Int)
def getM(m:Mem)(i:Nat)(a:Nat):Mem×Int×Int:=
 if ah (dq m i) (a / 4:Nat)<0 then(m, -1,2)else match cm m i (a / 4)with
  |none=>(m, -1,4)
  |some m'=>(m',byteOf (m'.ram.tx[(aJ m' i (a / 4)).pl.toNat]?.getD []) (a % 4),0)
theorem aB7{a:Nat}(h:a≤1000):IntKind.wrap .i64 ((a:Int).tdiv 4)=((a / 4:Nat):Int):=by rw[Int.tdiv_eq_ediv_of_nonneg (by omega),wrap64 (by omega) (by omega)];omega
theorem aCn{a:Nat}:(a:Int).tmod 4=((a % 4:Nat):Int):=by rw[Int.tmod_eq_emod_of_nonneg (by omega)];omega
theorem qb{b:UInt8}:IntKind.wrap .i64 (b.toNat:Int)=(b.toNat:Int):=by have:=b.toNat_lt;exact wrap64 (by omega) (by omega)
set_option maxHeartbeats 4000000 in
theorem oT(m:Mem)(i a:Nat)(w:Wf m)(hi:i<m.sp.length)(har:∀x,x∈m.sp[i].ar→an x=true)(hal:m.sp[i].ar.length≤1048576)(hsl:m.sp[i].sl.length=16)(ha:a≤63)(h:m.fits 1048576):
  bC Try.prog 80 [oM m,.one (dI i),.one (dI a)] (.tup [oM (getM m i a).1,.one (dI (getM m i a).2.1),.one (dI (getM m i a).2.2)]):=by
 refine aK hmix Try.func80 ok80 ?_;have hae:dq m i=m.sp[i].ar:=by simp[dq,hi]
 have hj:a / 4<m.sp[i].sl.length:=by omega
 conv=>whnf
 refine fo rfl ?_;conv=>whnf
 simp only[aB7 (show a≤1000 by omega),List.drop_zero,List.take_length];have hg:=av (f:=rP) (List.getElem?_eq_getElem hi);refine aE (k:=i) rfl rfl rfl (by simpa using hi) ?_;conv=>whnf
 refine cE (i:=i) (k:=1) (sz':=4) (es':=m.sp[i].ar.map rA) m.sp[i].ar.length rfl rfl rfl (aW hg rfl rfl rfl) rfl (by simp) ?_;conv=>whnf
 refine aB [.lend,.pass] rfl (by show some [DV.one (DC.ro true 4 (List.take _ (List.drop 0 _))),_]=_;rw[List.drop_zero,aU];rfl) rfl (oC true m.sp[i].ar ((a / 4:Nat):Int) (by omega) har) rfl ?_;conv=>whnf
 have hback:(m.sp.map rP).modify i (fun row=>row.set 1 (.sl 4 (m.sp[i].ar.map rA)))=m.sp.map rP:=by rw[bE hg];exact jC hg
 refine aX (i:=i) (k:=1) (g':=8) (lo:=0) (len:=m.sp[i].ar.length) (es2:=m.sp.map rP) (ov2:=[]) rfl (ai hg (by simp[rP]) (by simp only[aa,if_true];rfl)) rfl rfl (by rw[List.drop_zero,aU];exact hback) (by simp only[aZ,if_true];rfl) ?_;conv=>whnf
 simp only[List.drop_zero,List.take_length];refine CondP.mk (fun c1=>?_) (fun c1=>?_)<;>conv=>whnf
 ·have c1:ah m.sp[i].ar ((a / 4:Nat):Int)<0:=by simpa using c1
  refine⟨?_,rfl⟩;rw[getM,hae,if_pos c1];simp[oM,dI]
 have c1:¬ah m.sp[i].ar ((a / 4:Nat):Int)<0:=by simpa using c1
 simp only;refine aB (cas:=[aM true true true true true m]) [.lend] rfl (by show some [DV.agg [DC.ro true 1 (List.take _ (List.drop 0 _)),DC.ro true 1 (List.take _ (List.drop 0 _)),DC.ro true 1 (List.take _ (List.drop 0 _)),DC.ro true 1 (List.take _ (List.drop 0 _)),DC.ro true 3 (List.take _ (List.drop 0 _)),_]]=_;simp only[List.drop_zero,List.take_length];rfl) rfl (eF true true true true true m h) rfl ?_;conv=>whnf
 have l:=w.L;have hcall:=lr m i (a / 4) w hi hj;have hcas:some [DV.agg [DC.sl 0 0 (m.ram.tx.map rS).length,.sl 1 0 (m.ram.rf.map rI).length,.sl 2 0 (m.swp.tx.map rS).length,.sl 3 0 (m.swp.rf.map rI).length,.sl 4 0 (m.sp.map rP).length,dI m.hd],.one (dI i),.one (dI ((a / 4:Nat):Int))]=some [.agg (cW m.hd),.one (dI i),.one (dI ((a / 4:Nat):Int))]:=by simp only[List.length_map,l.rt,l.rr,l.st,l.sr,l.sp];rfl
 cases hb:cm m i (a / 4)with
 |none=>
  have hget:getM m i a=(m, -1,4):=by rw[getM,hae,if_neg c1,hb]
  rw[hb]at hcall;refine cJ (r:=.tup [.agg (cW m.hd),.one (dB false)]) (Hr:=hM m) [.pass,.pass,.pass] [12,13,14,15,16] rfl hcas rfl rfl hcall rfl (t9 l l rfl rfl rfl rfl rfl rfl) ?_
  (conv=>whnf)<;>repeat' first|(refine aD ?_;conv=>whnf)|(refine aC ?_;conv=>whnf)
  rw[hget];refine⟨?_,rfl⟩;simp[oM,dI]
 |some m'=>
  have w':=w.mX hi hj hb;have l':=w'.L;obtain⟨hi',hj',hk1⟩:=jP w hi hj hb;obtain⟨k,e1,hk12, -,e4⟩:=w'.at1 _ (List.getElem_mem hi') _ (List.getElem_mem hj') hk1;have hkt:k<m'.ram.tx.length:=by rw[l'.rt];exact hk12
  have e4:m'.ram.tx[k].length=4:=by simpa [hkt]using e4
  have hb4:a % 4<m'.ram.tx[k].length:=by omega
  have hget:getM m i a=(m',(m'.ram.tx[k][a % 4].toNat:Int),0):=by rw[getM,hae,if_neg c1,hb];simp only[bp hi' hj',e1,Int.toNat_natCast,byteOf];simp[hkt,hb4]
  rw[hb]at hcall;refine cJ (r:=.tup [.agg (cW m'.hd),.one (dB true)]) (Hr:=hM m') [.pass,.pass,.pass] [12,13,14,15,16] rfl hcas rfl rfl hcall rfl (t9 l l' rfl rfl rfl rfl rfl rfl) ?_
  (conv=>whnf)<;>repeat' first|(refine aD ?_;conv=>whnf)|(refine aC ?_;conv=>whnf)
  have t0:(m'.ram.tx.map rS).take 12=m'.ram.tx.map rS:=List.take_of_length_le (by simp[l'.rt]);have t1:(m'.ram.rf.map rI).take 12=m'.ram.rf.map rI:=List.take_of_length_le (by simp[l'.rr]);have t2:(m'.swp.tx.map rS).take 12=m'.swp.tx.map rS:=List.take_of_length_le (by simp[l'.st]);have t3:(m'.swp.rf.map rI).take 12=m'.swp.rf.map rI:=List.take_of_length_le (by simp[l'.sr]);have t4:(m'.sp.map rP).take 5=m'.sp.map rP:=List.take_of_length_le (by simp[l'.sp]);have hg':=av (f:=rP) (List.getElem?_eq_getElem hi');simp only[List.drop_zero,t0,t1,t2,t3,t4];refine aE (k:=i) rfl rfl rfl (by simpa using hi') ?_;conv=>whnf
  refine cE (i:=i) (k:=2) (sz':=4) (es':=m'.sp[i].sl.map rL) m'.sp[i].sl.length rfl rfl rfl (aW hg' rfl rfl rfl) rfl (by simp) ?_;conv=>whnf
  refine aE (k:=a / 4) rfl rfl rfl hj' ?_;conv=>whnf
  refine cz rfl rfl rfl (aW (row:=rL m'.sp[i].sl[a / 4]) (by simp[hj']) rfl rfl rfl) rfl ?_;conv=>whnf
  refine aE (k:=k) rfl rfl (by show some _=some _;rw[e1]) (by simpa using hkt) ?_;conv=>whnf
  refine cz rfl rfl rfl (aW (row:=rS m'.ram.tx[k]) (by simp[hkt]) rfl rfl rfl) rfl ?_;conv=>whnf
  refine fo rfl ?_;conv=>whnf
  refine ud rfl (by show some ((a:Int).tmod 4)=_;rw[aCn]) hb4 ?_;conv=>whnf
  refine aX (i:=i) (k:=2) (g':=23) (lo:=0) (len:=m'.sp[i].sl.length) (es2:=m'.sp.map rP) (ov2:=[]) rfl (ai hg' (by simp[rP]) (by simp only[aa,if_true];rfl)) rfl rfl (by rw[List.drop_zero,aU];exact dJ hi') (by simp only[aZ,if_true];rfl) ?_;conv=>whnf
  rw[hget,qb];refine⟨?_,rfl⟩;simp[oM,dI]
end Go.Qm
namespace Go.Qm
open Go.Cq Go.Cq.D Go.RowKit Go.Proofs
set_option maxRecDepth 10000
end Go.Qm
namespace Go.Qm
open Go.Cq Go.Cq.D Go.RowKit Go.Proofs
set_option maxRecDepth 10000
end Go.Qm
namespace Go.Qm
open Go.Cq Go.Cq.D Go.RowKit Go.Proofs
set_option maxRecDepth 10000
def lK(m:Mem)(who a:Int):Int×Bool:=if b7 m&&(dR m.sp who&&(inB a 0 63&&decide (0≤ah (dq m who.toNat) (a.toNat / 4:Nat))))then(byteOf (jQ m (aJ m who.toNat (a.toNat / 4))) (a.toNat % 4),true)else(0,false)
set_option maxHeartbeats 4000000 in
theorem aB6(b1 b2 b3 b4 b5:Bool)(m:Mem)(i j:Nat)(w:Wf m)(hi:i<m.sp.length)(hj:j<m.sp[i].sl.length):bC Try.prog 99 [aM b1 b2 b3 b4 b5 m,.one (dI i),.one (dI j)] (.v (.one (.sc (.str (jQ m m.sp[i].sl[j]))))):=by
 refine aK hmix Try.func99 ok99 ?_;conv=>whnf
 refine aI (k:=i) rfl rfl (by simpa using hi) ?_;conv=>whnf
 refine aF rfl (r:=.one (.ro b5 4 (m.sp[i].sl.map rL))) (by simp[ak,rP,hi]) ?_;conv=>whnf
 refine aI (k:=j) rfl rfl (by simpa using hj) ?_;conv=>whnf
 refine aF rfl (ldL hj) ?_;conv=>whnf
 refine CondP.mk (fun h=>?_) (fun h=>?_)<;>conv=>whnf
 ·have h:m.sp[i].sl[j].kd=1:=by simpa using h
  obtain⟨k,e1,e2, -, -⟩:=w.at1 _ (List.getElem_mem hi) _ (List.getElem_mem hj) h;have hk:k<m.ram.tx.length:=by rw[w.ram.tx];exact e2
  refine aI (k:=k) rfl (by show some _=some _;rw[e1]) (by simpa using hk) ?_;conv=>whnf
  refine aF rfl (r:=.one (.sc (.str m.ram.tx[k]))) (by simp[ak,rS,eS,hk]) ?_;conv=>whnf
  refine⟨?_,rfl⟩;simp[jQ,h,e1,hk]
 have h1:¬m.sp[i].sl[j].kd=1:=by simpa using h
 refine CondP.mk (fun h=>?_) (fun h=>?_)<;>conv=>whnf
 ·have h:m.sp[i].sl[j].kd=2:=by simpa using h
  obtain⟨k,e1,e2, -, -⟩:=w.at2 _ (List.getElem_mem hi) _ (List.getElem_mem hj) h;have hk:k<m.swp.tx.length:=by rw[w.swp.tx];exact e2
  refine aI (k:=k) rfl (by show some _=some _;rw[e1]) (by simpa using hk) ?_;conv=>whnf
  refine aF rfl (r:=.one (.sc (.str m.swp.tx[k]))) (by simp[ak,rS,eS,hk]) ?_;conv=>whnf
  refine⟨?_,rfl⟩;simp[jQ,h,e1,hk]
 ·have h:¬m.sp[i].sl[j].kd=2:=by simpa using h
  refine qf rfl rfl (m:=4) (c:=4) rfl rfl (by decide) (by decide) (by decide) ?_;conv=>whnf
  refine po rfl rfl (bs:=kE) rfl ?_;conv=>whnf
  refine⟨?_,rfl⟩;simp[jQ,h,h1]
theorem vd{m:Mem}(w:Wf m){i j:Nat}(hi:i<m.sp.length)(hj:j<m.sp[i].sl.length):(jQ m m.sp[i].sl[j]).length=4:=by
 unfold jQ;split
 ·rename_i h;obtain⟨k,e1, -, -,e4⟩:=w.at1 _ (List.getElem_mem hi) _ (List.getElem_mem hj) h;rw[e1,Int.toNat_natCast];exact e4
 ·split
  ·rename_i h;obtain⟨k,e1, -, -,e4⟩:=w.at2 _ (List.getElem_mem hi) _ (List.getElem_mem hj) h;rw[e1,Int.toNat_natCast];exact e4
  ·rfl
set_option maxHeartbeats 4000000 in
theorem vH(hc:oS)(b1 b2 b3 b4 b5:Bool)(m:Mem)(who a:Int)(h:m.fits 1048576):bC Try.prog 41 [aM b1 b2 b3 b4 b5 m,.one (dI who),.one (dI a)] (.tup [.one (dI (lK m who a).1),.one (dB (lK m who a).2)]):=by
 refine aK hmix Try.func41 ok41 ?_;conv=>whnf
 refine aB [.pass] rfl rfl rfl (hc b1 b2 b3 b4 b5 m h) rfl ?_;conv=>whnf
 cases h1:b7 m with
 |false=>
  (conv=>whnf)<;>repeat' first|(refine aD ?_;conv=>whnf)|(refine aC ?_;conv=>whnf)
  refine⟨?_,rfl⟩;simp[lK,h1,dI,dB]
 |true=>
 (conv=>whnf)<;>repeat' first|(refine aD ?_;conv=>whnf)|(refine aC ?_;conv=>whnf)
 refine aB [.pass,.pass] rfl rfl rfl (sd b1 b2 b3 b4 b5 m who (by have:=h.sp;omega)) rfl ?_
 (conv=>whnf)<;>repeat' first|(refine aD ?_;conv=>whnf)|(refine aC ?_;conv=>whnf)
 cases h2:dR m.sp who with
 |false=>
  (conv=>whnf)<;>repeat' first|(refine aD ?_;conv=>whnf)|(refine aC ?_;conv=>whnf)
  refine⟨?_,rfl⟩;simp[lK,h2,dI,dB]
 |true=>
 (conv=>whnf)<;>repeat' first|(refine aD ?_;conv=>whnf)|(refine aC ?_;conv=>whnf)
 refine aB [.pass,.pass,.pass] rfl rfl rfl (kO a 0 63) rfl ?_
 (conv=>whnf)<;>repeat' first|(refine aD ?_;conv=>whnf)|(refine aC ?_;conv=>whnf)
 cases h3:inB a 0 63 with
 |false=>
  (conv=>whnf)<;>repeat' first|(refine aD ?_;conv=>whnf)|(refine aC ?_;conv=>whnf)
  refine⟨?_,rfl⟩;simp[lK,h3,dI,dB]
 |true=>
 have h4:=h3;simp only[inB,Bool.and_eq_true,decide_eq_true_eq]at h4;obtain⟨c,rfl⟩:=Int.eq_ofNat_of_zero_le h4.1;obtain⟨i,rfl,hi,hlv⟩:=eQ h2;obtain⟨ha,hal,hsl⟩:=mI h1 hi hlv;have hae:dq m i=m.sp[i].ar:=by simp[dq,hi]
 have hat:dZ m.sp[i].ar ((c / 4:Nat):Int)=ah m.sp[i].ar ((c / 4:Nat):Int):=by rw[dZ,if_pos ha]
 have w:=pL h1;have hj:c / 4<m.sp[i].sl.length:=by omega
 (conv=>whnf)<;>repeat' first|(refine aD ?_;conv=>whnf)|(refine aC ?_;conv=>whnf)
 refine aI (k:=i) rfl rfl (by simpa using hi) ?_
 (conv=>whnf)<;>repeat' first|(refine aD ?_;conv=>whnf)|(refine aC ?_;conv=>whnf)
 refine aF rfl (r:=.one (.ro b5 4 (m.sp[i].ar.map rA))) (by simp[ak,rP,hi]) ?_
 (conv=>whnf)<;>repeat' first|(refine aD ?_;conv=>whnf)|(refine aC ?_;conv=>whnf)
 refine fo rfl ?_
 (conv=>whnf)<;>repeat' first|(refine aD ?_;conv=>whnf)|(refine aC ?_;conv=>whnf)
 simp only[aB7 (show c≤1000 by omega)];refine aB [.pass,.pass] rfl rfl rfl (lX b5 m.sp[i].ar ((c / 4:Nat):Int) (by omega)) rfl ?_
 (conv=>whnf)<;>repeat' first|(refine aD ?_;conv=>whnf)|(refine aC ?_;conv=>whnf)
 rw[hat];refine CondP.mk (fun c1=>?_) (fun c1=>?_)<;>(conv=>whnf)<;>repeat' first|(refine aD ?_;conv=>whnf)|(refine aC ?_;conv=>whnf)
 ·have c1:ah m.sp[i].ar ((c / 4:Nat):Int)<0:=by simpa using c1
  refine⟨?_,rfl⟩;rw[lK,Int.toNat_natCast,Int.toNat_natCast,hae,decide_eq_false (by omega)];simp[dI,dB]
 have c1:¬ah m.sp[i].ar ((c / 4:Nat):Int)<0:=by simpa using c1
 refine fo rfl ?_
 (conv=>whnf)<;>repeat' first|(refine aD ?_;conv=>whnf)|(refine aC ?_;conv=>whnf)
 simp only[aB7 (show c≤1000 by omega)];refine aB [.pass,.pass,.pass] rfl rfl rfl (aB6 b1 b2 b3 b4 b5 m i (c / 4) w hi hj) rfl ?_
 (conv=>whnf)<;>repeat' first|(refine aD ?_;conv=>whnf)|(refine aC ?_;conv=>whnf)
 have h4:=vd w hi hj;have hb4:c % 4< (jQ m m.sp[i].sl[c / 4]).length:=by omega
 refine fo rfl ?_
 (conv=>whnf)<;>repeat' first|(refine aD ?_;conv=>whnf)|(refine aC ?_;conv=>whnf)
 refine ud rfl (by show some ((c:Int).tmod 4)=_;rw[aCn]) hb4 ?_
 (conv=>whnf)<;>repeat' first|(refine aD ?_;conv=>whnf)|(refine aC ?_;conv=>whnf)
 rw[qb];refine⟨?_,rfl⟩;rw[lK,Int.toNat_natCast,Int.toNat_natCast,hae,h1,h2,h3,decide_eq_true (by omega),bp hi hj];simp[byteOf,hb4,dI,dB]
end Go.Qm
namespace Go.Qm
open Go.Cq Go.Cq.D Go.RowKit Go.Proofs
set_option maxRecDepth 10000
theorem yj(b1 b2:Bool)(l:List Int)(hb:l.length≤4611686018427387904):bC Try.prog 113 [.one (.ro b1 1 (l.map rI)),.one (.ro b2 1 (l.map rI))] (.v (.one (dB true))):=by
 refine aK hmix Try.func113 ok113 ?_;conv=>whnf
 refine CondP.mk (fun h=>by simp at h) (fun _=>?_);conv=>whnf
 refine aq (fun i:Nat=>[(0,.v (.one (.ro b1 1 (l.map rI)))),(1,.v (.one (.ro b2 1 (l.map rI)))),(5,.v (.one (dI i)))]) (fun _=>[]) (fun _=>0) (fun i=>i≤l.length) (fun i=>l.length-i) 0 (by omega) rfl rfl rfl fun i hi=>?_
 conv=>whnf
 refine CondP.mk (fun h=>?_) (fun h=>?_)<;>conv=>whnf
 ·have hi1:i<l.length:=by simpa using h
  refine aI (k:=i) rfl rfl (by simpa using hi1) ?_;conv=>whnf
  refine aF rfl (r:=.one (dI l[i])) (by simp[ak,hi1,rI,eI,dI]) ?_;conv=>whnf
  refine aI (k:=i) rfl rfl (by simpa using hi1) ?_;conv=>whnf
  refine aF rfl (r:=.one (dI l[i])) (by simp[ak,hi1,rI,eI,dI]) ?_;conv=>whnf
  refine CondP.mk (fun h=>by simp at h) (fun _=>?_);conv=>whnf
  refine⟨i+1,by omega,by omega,?_,rfl,rfl⟩;rw[←up hi1 hb];rfl
 ·exact⟨rfl,rfl⟩
theorem vU(b1 b2:Bool)(l:List Str)(hb:l.length≤4611686018427387904):bC Try.prog 114 [.one (.ro b1 1 (l.map rS)),.one (.ro b2 1 (l.map rS))] (.v (.one (dB true))):=by
 refine aK hmix Try.func114 ok114 ?_;conv=>whnf
 refine CondP.mk (fun h=>by simp at h) (fun _=>?_);conv=>whnf
 refine aq (fun i:Nat=>[(0,.v (.one (.ro b1 1 (l.map rS)))),(1,.v (.one (.ro b2 1 (l.map rS)))),(5,.v (.one (dI i)))]) (fun _=>[]) (fun _=>0) (fun i=>i≤l.length) (fun i=>l.length-i) 0 (by omega) rfl rfl rfl fun i hi=>?_
 conv=>whnf
 refine CondP.mk (fun h=>?_) (fun h=>?_)<;>conv=>whnf
 ·have hi1:i<l.length:=by simpa using h
  refine aI (k:=i) rfl rfl (by simpa using hi1) ?_;conv=>whnf
  refine aF rfl (r:=.one (.sc (.str l[i]))) (by simp[ak,hi1,rS,eS]) ?_;conv=>whnf
  refine aI (k:=i) rfl rfl (by simpa using hi1) ?_;conv=>whnf
  refine aF rfl (r:=.one (.sc (.str l[i]))) (by simp[ak,hi1,rS,eS]) ?_;conv=>whnf
  refine CondP.mk (fun h=>by simp at h) (fun _=>?_);conv=>whnf
  refine⟨i+1,by omega,by omega,?_,rfl,rfl⟩;rw[←up hi1 hb];rfl
 ·exact⟨rfl,rfl⟩
theorem wA(b1 b2:Bool)(l:List Area)(hb:l.length≤4611686018427387904):bC Try.prog 112 [.one (.ro b1 4 (l.map rA)),.one (.ro b2 4 (l.map rA))] (.v (.one (dB true))):=by
 refine aK hmix Try.func112 ok112 ?_;conv=>whnf
 refine CondP.mk (fun h=>by simp at h) (fun _=>?_);conv=>whnf
 refine aq (fun i:Nat=>[(0,.v (.one (.ro b1 4 (l.map rA)))),(1,.v (.one (.ro b2 4 (l.map rA)))),(5,.v (.one (dI i)))]) (fun _=>[]) (fun _=>0) (fun i=>i≤l.length) (fun i=>l.length-i) 0 (by omega) rfl rfl rfl fun i hi=>?_
 conv=>whnf
 refine CondP.mk (fun h=>?_) (fun h=>?_)<;>conv=>whnf
 ·have hi1:i<l.length:=by simpa using h
  refine aI (k:=i) rfl rfl (by simpa using hi1) ?_;conv=>whnf
  refine aF rfl (ldA hi1) ?_;conv=>whnf
  refine aI (k:=i) rfl rfl (by simpa using hi1) ?_;conv=>whnf
  refine aF rfl (ldA hi1) ?_;conv=>whnf
  refine od rfl rfl rfl rfl rfl ?_;conv=>whnf
  refine CondP.mk (fun h=>by simp at h) (fun _=>?_);conv=>whnf
  refine⟨i+1,by omega,by omega,?_,rfl,rfl⟩;rw[←up hi1 hb];rfl
 ·exact⟨rfl,rfl⟩
theorem vI(b1 b2:Bool)(x:Space)(h1:x.ar.length≤4611686018427387904)(h2:x.sl.length≤4611686018427387904):bC Try.prog 81 [.agg (aP b1 x),.agg (aP b2 x)] (.v (.one (dB true))):=by
 refine aK hmix Try.func81 ok81 ?_;conv=>whnf
 refine CondP.mk (fun h=>by simp at h) (fun h=>?_);rw[h]
 (conv=>whnf)<;>repeat' first|(refine aD ?_;conv=>whnf)|(refine aC ?_;conv=>whnf)
 refine aB [.pass,.pass] rfl rfl rfl (wA b1 b2 x.ar h1) rfl ?_
 (conv=>whnf)<;>repeat' first|(refine aD ?_;conv=>whnf)|(refine aC ?_;conv=>whnf)
 refine CondP.mk (fun h=>by simp at h) (fun _=>?_);conv=>whnf
 refine aq (fun i:Nat=>[(2,.v (.one (.ptr 0 0 0))),(3,.v (.one (.ptr 1 0 0))),(5,.v (.one (dI i)))]) (fun _=>[(1,.box (aP b2 x)),(0,.box (aP b1 x))]) (fun _=>2) (fun i=>i≤x.sl.length) (fun i=>x.sl.length-i) 0 (by omega) rfl rfl rfl fun i hi=>?_
 conv=>whnf
 refine CondP.mk (fun h=>?_) (fun h=>?_)<;>conv=>whnf
 ·have hi1:i<x.sl.length:=by simpa using h
  refine aI (k:=i) rfl rfl (by simpa using hi1) ?_;conv=>whnf
  refine aF rfl (ldL hi1) ?_;conv=>whnf
  refine aI (k:=i) rfl rfl (by simpa using hi1) ?_;conv=>whnf
  refine aF rfl (ldL hi1) ?_;conv=>whnf
  refine od rfl rfl rfl rfl rfl ?_;conv=>whnf
  refine CondP.mk (fun h=>by simp at h) (fun _=>?_);conv=>whnf
  refine⟨i+1,by omega,by omega,?_,rfl,rfl⟩;rw[←up hi1 h2];rfl
 ·exact⟨rfl,rfl⟩
theorem pc(b1 b2 b3 b4:Bool)(x:Pages)(h1:x.tx.length≤4611686018427387904)(h2:x.rf.length≤4611686018427387904):bC Try.prog 54 [.agg [.ro b1 1 (x.tx.map rS),.ro b2 1 (x.rf.map rI)],.agg [.ro b3 1 (x.tx.map rS),.ro b4 1 (x.rf.map rI)]] (.v (.one (dB true))):=by
 refine aK hmix Try.func54 ok54 ?_;conv=>whnf
 refine aB [.pass,.pass] rfl rfl rfl (vU _ _ x.tx h1) rfl ?_
 (conv=>whnf)<;>repeat' first|(refine aD ?_;conv=>whnf)|(refine aC ?_;conv=>whnf)
 refine aB [.pass,.pass] rfl rfl rfl (yj _ _ x.rf h2) rfl ?_
 (conv=>whnf)<;>repeat' first|(refine aD ?_;conv=>whnf)|(refine aC ?_;conv=>whnf)
 exact⟨rfl,rfl⟩
theorem ze(b1 b2 b3 b4 b5 c1 c2 c3 c4 c5:Bool)(x:Mem)(hf:x.fits 4611686018427387904):bC Try.prog 32 [aM b1 b2 b3 b4 b5 x,aM c1 c2 c3 c4 c5 x] (.v (.one (dB true))):=by
 refine aK hmix Try.func32 ok32 ?_;conv=>whnf
 refine aB [.pass,.pass] rfl rfl rfl (pc _ _ _ _ x.ram hf.rt hf.rr) rfl ?_
 (conv=>whnf)<;>repeat' first|(refine aD ?_;conv=>whnf)|(refine aC ?_;conv=>whnf)
 refine aB [.pass,.pass] rfl rfl rfl (pc _ _ _ _ x.swp hf.st hf.sr) rfl ?_
 (conv=>whnf)<;>repeat' first|(refine aD ?_;conv=>whnf)|(refine aC ?_;conv=>whnf)
 refine CondP.mk (fun h=>by simp at h) (fun h=>?_);rw[h]
 (conv=>whnf)<;>repeat' first|(refine aD ?_;conv=>whnf)|(refine aC ?_;conv=>whnf)
 refine CondP.mk (fun h=>by simp at h) (fun _=>?_);conv=>whnf
 refine aq (fun i:Nat=>[(2,.v (.one (.ptr 0 0 0))),(3,.v (.one (.ptr 1 0 0))),(5,.v (.one (dI i)))]) (fun _=>[(1,.box [.ro c1 1 (x.ram.tx.map rS),.ro c2 1 (x.ram.rf.map rI),.ro c3 1 (x.swp.tx.map rS),.ro c4 1 (x.swp.rf.map rI),.ro c5 3 (x.sp.map rP),dI x.hd]),(0,.box [.ro b1 1 (x.ram.tx.map rS),.ro b2 1 (x.ram.rf.map rI),.ro b3 1 (x.swp.tx.map rS),.ro b4 1 (x.swp.rf.map rI),.ro b5 3 (x.sp.map rP),dI x.hd])]) (fun _=>2) (fun i=>i≤x.sp.length) (fun i=>x.sp.length-i) 0 (by omega) rfl rfl rfl fun i hi=>?_
 conv=>whnf
 refine CondP.mk (fun h=>?_) (fun h=>?_)<;>conv=>whnf
 ·have hi1:i<x.sp.length:=by simpa using h
  refine aI (k:=i) rfl rfl (by simpa using hi1) ?_;conv=>whnf
  refine aF rfl (ldP hi1) ?_;conv=>whnf
  refine aI (k:=i) rfl rfl (by simpa using hi1) ?_;conv=>whnf
  refine aF rfl (ldP hi1) ?_;conv=>whnf
  refine aB [.pass,.pass] rfl rfl rfl (vI b5 c5 x.sp[i] (hf.ss _ (List.getElem_mem hi1)).1 (hf.ss _ (List.getElem_mem hi1)).2) rfl ?_
  (conv=>whnf)<;>repeat' first|(refine aD ?_;conv=>whnf)|(refine aC ?_;conv=>whnf)
  refine⟨i+1,by omega,by omega,?_,rfl,rfl⟩;rw[←up hi1 hf.sp];rfl
 ·exact⟨rfl,rfl⟩
end Go.Qm
namespace Go.Qm
open Go.Cq Go.Cq.D Go.RowKit Go.Proofs
set_option maxRecDepth 10000
def eb(l:List Area)(a:Area)(i:Nat):List Area:=if d8 a l<i then dK (l.take i) a (d8 a l)else l.take i
theorem pF{l:List Area}{i:Nat}(h:i<l.length):l.take i++[l[i]]=l.take (i+1):=(List.take_succ_eq_append_getElem h).symm
theorem aAP{l:List Area}{a:Area}{i:Nat}(h:i<l.length)(c:d8 a l<i):eb l a i++[l[i]]=eb l a (i+1):=by rw[eb,eb,if_pos c,if_pos (by omega),dK,dK,←pF h];simp only[List.append_assoc,List.cons_append];rw[List.take_append_of_le_length (by simp;omega),List.drop_append_of_le_length (by simp;omega)]
theorem aAR{l:List Area}{a:Area}{i:Nat}(h:i<l.length)(c:d8 a l=i):eb l a i++[a]++[l[i]]=eb l a (i+1):=by rw[eb,eb,if_neg (by omega),if_pos (by omega),c,dK,←pF h];rw[List.take_append_of_le_length (by simp;omega),List.drop_append_of_le_length (by simp;omega)];simp[List.take_take]
theorem zc{l:List Area}{a:Area}{i:Nat}(h:i<l.length)(c:i<d8 a l):eb l a i++[l[i]]=eb l a (i+1):=by rw[eb,eb,if_neg (by omega),if_neg (by omega)];exact pF h
theorem qU{l:List Area}{a:Area}{i:Nat}(h:i≤l.length):(eb l a i).length≤i+1:=by
 unfold eb;split
 ·rw[br,List.length_take];omega
 ·rw[List.length_take];omega
theorem yQ{l:List Area}{a:Area}(c:d8 a l<l.length):eb l a l.length=i6 l a:=by rw[eb,if_pos c,List.take_length];rfl
theorem xn{l:List Area}{a:Area}(c:¬d8 a l<l.length):eb l a l.length++[a]=i6 l a:=by
 have:d8 a l=l.length:=by have:=oF (a:=a) (l:=l);omega
 rw[eb,if_neg c,i6,dK,this];simp
theorem aEM{α:Type}{a b:List α}{i:Nat}(h:a.length≤i+1)(hi:i≤1048576):((((a.take a.length++b.take 1).drop 0).take (a.length+1)).length+1)*24≤140737488355328:=by rw[List.length_take];omega
theorem aEA{α:Type}{a b:List α}{i:Nat}(h:a.length≤i+1)(hi:i≤1048576):(((a.take a.length++b.take 1).drop 0).take (a.length+1)).length+1≤140737488355328:=by rw[List.length_take];omega
set_option maxHeartbeats 1000000 in
theorem yu(b:Bool)(l:List Area)(a:Area)(hl:l.length≤1048576):bC Try.prog 178 [.one (.ro b 4 (l.map rA)),.agg (aA a)] (.v (.one (.own 4 ((i6 l a).map rA)))):=by
 refine aK hmix Try.func178 ok178 ?_;conv=>whnf
 refine bR rfl rfl rfl ?_;conv=>whnf
 refine aq (fun i:Nat=>[(0,.v (.one (.ro b 4 (l.map rA)))),(3,.v (.one (.ptr 0 0 0))),(5,.v (.one (.own 4 ((eb l a i).map rA)))),(6,.v (.one (dB (decide (d8 a l<i))))),(7,.v (.one (dI i)))]) (fun _=>[(0,.box (aA a))]) (fun _=>1)
  (fun i=>i≤l.length) (fun i=>l.length-i) 0 (by omega) (by simp[eb,dI,dB]) rfl rfl fun i hi=>?_
 conv=>whnf
 refine CondP.mk (fun h=>?_) (fun h=>?_)<;>conv=>whnf
 ·have hlt:i<l.length:=by simpa using h
  have hn:=qU (a:=a) (show i≤l.length by omega);have hn':((eb l a i).map rA).length≤i+1:=by rw[List.length_map];exact hn
  refine CondP.mk (fun h1=>?_) (fun h1=>?_)<;>rw[h1]<;>(conv=>whnf)<;>repeat' first|(refine aD ?_;conv=>whnf)|(refine aC ?_;conv=>whnf)
  ·have c:¬d8 a l<i:=by simpa using h1
   refine aI (k:=i) rfl rfl (by simpa using hlt) ?_
   (conv=>whnf)<;>repeat' first|(refine aD ?_;conv=>whnf)|(refine aC ?_;conv=>whnf)
   refine aF rfl (r:=.one (dI l[i].fr)) (by simp[ak,rA,hlt,eI,dI]) ?_
   (conv=>whnf)<;>repeat' first|(refine aD ?_;conv=>whnf)|(refine aC ?_;conv=>whnf)
   refine CondP.mk (fun h2=>?_) (fun h2=>?_)<;>conv=>whnf
   ·have c2:a.fr≤l[i].fr:=by simpa using h2
    have c3:d8 a l=i:=by
     rcases Nat.lt_or_ge i (d8 a l)with c4|c4
     ·have:=w8 c4;omega
     ·omega
    refine bR rfl rfl rfl ?_;conv=>whnf
    refine cH [] [] 1 (sz:=4) rfl rfl rfl rfl rfl rfl rfl rfl (by omega) (by omega) ?_;conv=>whnf
    refine aI (k:=i) rfl rfl (by simpa using hlt) ?_;conv=>whnf
    refine aF rfl (ldA hlt) ?_;conv=>whnf
    refine bR rfl rfl rfl ?_;conv=>whnf
    refine cH [] [] 1 (sz:=4) rfl rfl rfl rfl rfl rfl rfl rfl (aEM hn' (by omega)) (aEA hn' (by omega)) ?_;conv=>whnf
    refine⟨i+1,by omega,by omega,?_,rfl,rfl⟩;rw[up hlt (by omega),←aAR hlt c3,show decide (d8 a l<i+1)=true from decide_eq_true (by omega)];simp[dI,dB,rA,eI,eB,List.replicate,List.take_of_length_le]
   ·have c2:¬a.fr≤l[i].fr:=by simpa using h2
    have c3:i<d8 a l:=by
     rcases Nat.lt_or_ge i (d8 a l)with c4|c4
     ·exact c4
     ·have:d8 a l=i:=by omega
      have:=wq (a:=a) (l:=l) (by omega);simp only[‹d8 a l=i›]at this;omega
    refine aI (k:=i) rfl rfl (by simpa using hlt) ?_;conv=>whnf
    refine aF rfl (ldA hlt) ?_;conv=>whnf
    refine bR rfl rfl rfl ?_;conv=>whnf
    refine cH [] [] 1 (sz:=4) rfl rfl rfl rfl rfl rfl rfl rfl (by omega) (by omega) ?_;conv=>whnf
    refine⟨i+1,by omega,by omega,?_,rfl,rfl⟩;rw[up hlt (by omega),←zc hlt c3,show decide (d8 a l<i)=false from decide_eq_false (by omega),show decide (d8 a l<i+1)=false from decide_eq_false (by omega)];simp[dI,dB,rA,eI,eB,List.replicate,List.take_of_length_le]
  ·have c:d8 a l<i:=by simpa using h1
   refine aI (k:=i) rfl rfl (by simpa using hlt) ?_;conv=>whnf
   refine aF rfl (ldA hlt) ?_;conv=>whnf
   refine bR rfl rfl rfl ?_;conv=>whnf
   refine cH [] [] 1 (sz:=4) rfl rfl rfl rfl rfl rfl rfl rfl (by omega) (by omega) ?_;conv=>whnf
   refine⟨i+1,by omega,by omega,?_,rfl,rfl⟩;rw[up hlt (by omega),←aAP hlt c,show decide (d8 a l<i)=true from decide_eq_true c,show decide (d8 a l<i+1)=true from decide_eq_true (by omega)];simp[dI,dB,rA,eI,eB,List.replicate,List.take_of_length_le]
 ·have:i=l.length:=by
               have:¬i<l.length:=by simpa using h
               omega
  subst this;have hn:=qU (a:=a) (Nat.le_refl l.length);have hn':((eb l a l.length).map rA).length≤l.length+1:=by rw[List.length_map];exact hn
  refine CondP.mk (fun h1=>?_) (fun h1=>?_)<;>conv=>whnf
  ·have c:¬d8 a l<l.length:=by simpa using h1
   refine bR rfl rfl rfl ?_;conv=>whnf
   refine cH [] [] 1 (sz:=4) rfl rfl rfl rfl rfl rfl rfl rfl (by omega) (by omega) ?_;conv=>whnf
   refine⟨?_,rfl⟩;rw[←xn c];simp[rA,eI,eB,List.replicate,List.take_of_length_le]
  ·have c:d8 a l<l.length:=by simpa using h1
   refine⟨?_,rfl⟩;rw[←yQ c];simp
set_option maxHeartbeats 1000000 in
theorem sO(b:Bool)(l:List Area)(a:Area)(hl:l.length≤1048576):bC Try.prog 157 [.one (.ro b 4 (l.map rA)),.agg (aA a)] (.tup [.one (.own 4 (((fD l a).getD []).map rA)),.one (dB (fD l a).isSome)]):=by
 refine aK hmix Try.func157 ok157 ?_;conv=>whnf
 refine aB [.pass] rfl rfl rfl (gL b l (by omega)) rfl ?_;conv=>whnf
 refine CondP.mk (fun h1=>?_) (fun h1=>?_)<;>rw[h1]<;>(conv=>whnf)<;>repeat' first|(refine aD ?_;conv=>whnf)|(refine aC ?_;conv=>whnf)
 ·refine bR rfl rfl rfl ?_;conv=>whnf
  refine⟨?_,rfl⟩;rw[fD,show aO l=false by simpa using h1];simp[dB]
 have h1:aO l=true:=by simpa using h1
 refine aB [.pass] rfl rfl rfl (lO a) rfl ?_
 (conv=>whnf)<;>repeat' first|(refine aD ?_;conv=>whnf)|(refine aC ?_;conv=>whnf)
 refine CondP.mk (fun h2=>?_) (fun h2=>?_)<;>conv=>whnf
 ·refine bR rfl rfl rfl ?_;conv=>whnf
  refine⟨?_,rfl⟩;rw[fD,show an a=false by simpa using h2];simp[dB]
 have h2:an a=true:=by simpa using h2
 refine aB [.pass,.pass] rfl rfl rfl (yu b l a hl) rfl ?_;conv=>whnf
 have hn:(i6 l a).length≤l.length+1:=by rw[i6,br];omega
 simp only[List.drop_zero,List.take_length];refine aB [.lend] rfl (by show some [DV.one (DC.ro true 4 (List.take _ (List.drop 0 _)))]=_;rw[List.drop_zero,List.take_length]) rfl (gL true (i6 l a) (by omega)) rfl ?_;conv=>whnf
 refine CondP.mk (fun h3=>?_) (fun h3=>?_)<;>conv=>whnf
 ·refine bR rfl rfl rfl ?_;conv=>whnf
  refine⟨?_,rfl⟩;rw[fD,h1,h2,show aO (i6 l a)=false by simpa using h3];simp[dB]
 ·refine⟨?_,rfl⟩;rw[fD,h1,h2,show aO (i6 l a)=true by simpa using h3];simp[dB]
def mapM(c:Option (List Area))(m:Mem)(i:Nat):Mem×Int:=match c with
 |some l=>(ag m i l,0)
 |none=>(m,4)
theorem kc{l0 l:List Area}{a:Area}(h:fD l0 a=some l):an a=true∧aO l=true:=by
 unfold fD at h;split at h
 ·rename_i h1;simp only[Bool.and_eq_true]at h1;split at h
  ·rename_i h2;cases h;exact⟨h1.2,h2⟩
  ·simp at h
 ·simp at h
set_option maxHeartbeats 1000000 in
theorem mW(m:Mem)(i:Nat)(a:Area)(hi:i<m.sp.length)(hal:m.sp[i].ar.length≤1048576):
  bC Try.prog 117 [oM m,.one (dI i),.agg (aA a)] (.tup [oM (mapM (fD (dq m i) a) m i).1,.one (dI (mapM (fD (dq m i) a) m i).2)]):=by
 have har:dq m i=m.sp[i].ar:=by simp[dq,hi]
 rw[har];refine aK hmix Try.func117 ok117 ?_;conv=>whnf
 refine aE (k:=i) rfl rfl rfl (by simpa using hi) ?_;conv=>whnf
 have hg:(m.sp.map rP)[i]?=some (rP m.sp[i]):=by simp[hi]
 refine cE (i:=i) (k:=1) (sz':=4) (es':=m.sp[i].ar.map rA) m.sp[i].ar.length rfl rfl rfl (aW (by rw[List.drop_zero,List.take_length];exact hg) rfl rfl rfl) rfl (by simp) ?_;conv=>whnf
 simp only[List.drop_zero,List.take_length];refine aB [.lend,.pass] rfl (by show some [DV.one (DC.ro true 4 (List.take _ (List.drop 0 _))),_]=_;rw[List.drop_zero,aU];rfl) rfl (sO true m.sp[i].ar a hal) rfl ?_;conv=>whnf
 have hback:(m.sp.map rP).modify i (fun row=>row.set 1 (.sl 4 (m.sp[i].ar.map rA)))=m.sp.map rP:=by rw[bE hg];exact jC hg
 refine aX (i:=i) (k:=1) (g':=9) (lo:=0) (len:=m.sp[i].ar.length) (es2:=m.sp.map rP) (ov2:=[]) rfl (ai hg (by simp[rP]) (by simp only[aa,if_true];rfl)) rfl rfl (by rw[List.drop_zero,aU];exact hback) (by simp only[aZ,if_true];rfl) ?_;conv=>whnf
 simp only[List.drop_zero,List.take_length];cases hc:fD m.sp[i].ar a with
 |none=>
  refine CondP.mk (fun c1=>?_) (fun c1=>?_)<;>conv=>whnf
  ·refine⟨?_,rfl⟩;simp[oM,mapM,dI]
  ·simp at c1
 |some l=>
  refine CondP.mk (fun c1=>?_) (fun c1=>?_)<;>conv=>whnf
  ·simp at c1
  ·refine aE (k:=i) rfl rfl rfl (by simpa using hi) ?_;conv=>whnf
   simp only[Option.getD_some];refine dV rfl rfl rfl rfl rfl (by simp[wrN,wr1,DV.cells,hi];rfl) ?_;conv=>whnf
   refine aX (i:=i) (k:=1) (g':=9) (lo:=0) (len:=l.length) (es2:=(ag m i l).sp.map rP) (ov2:=[]) rfl (ai (by simpa using hg) (by simp[rP]) (by simp only[aa,if_true];rfl)) rfl rfl (by rw[List.drop_zero,aU];exact iA hi) (by simp only[aZ,if_true];rfl) ?_;conv=>whnf
   refine⟨?_,rfl⟩;simp[oM,mapM,dI,ag,List.take_of_length_le]
def gY(m:Mem)(who:Int)(a:Area):Mem×Int:=if b7 m&&dR m.sp who then mapM (fD (dq m who.toNat) a) m who.toNat else(eh,1)
end Go.Qm
namespace Go.Qm
open Go.Cq Go.Cq.D Go.RowKit Go.Proofs
set_option maxRecDepth 10000
theorem my(b1 b2 b3 b4 b5:Bool)(m:Mem)(hl:m.sp.length≤1048576):bC Try.prog 155 [aM b1 b2 b3 b4 b5 m] (.v (.one (dI (gv m.sp)))):=by
 refine aK hmix Try.func155 ok155 ?_;conv=>whnf
 refine aq (fun i:Nat=>[(1,.v (.one (.ptr 0 0 0))),(3,.v (.one (dI i)))]) (fun _=>[(0,.box [.ro b1 1 (m.ram.tx.map rS),.ro b2 1 (m.ram.rf.map rI),.ro b3 1 (m.swp.tx.map rS),.ro b4 1 (m.swp.rf.map rI),.ro b5 3 (m.sp.map rP),dI m.hd])]) (fun _=>1)
  (fun i=>i≤m.sp.length∧i≤bu m.sp) (fun i=>m.sp.length-i) 0 (by omega) rfl rfl rfl fun i hi=>?_
 conv=>whnf
 refine CondP.mk (fun h=>?_) (fun h=>?_)<;>conv=>whnf
 ·have hlt:i<m.sp.length:=by simpa using h
  refine aI (k:=i) rfl rfl (by simpa using hlt) ?_;conv=>whnf
  refine aF rfl (r:=.one (dB m.sp[i].lv)) (by simp[ak,rP,hlt,eB,dB]) ?_;conv=>whnf
  refine CondP.mk (fun h1=>?_) (fun h1=>?_)<;>conv=>whnf
  ·have h1:m.sp[i].lv=false:=by simpa using h1
   have e:bu m.sp=i:=by have:=xl hlt h1;omega
   refine⟨?_,rfl⟩;rw[gv,e,if_pos hlt];rfl
  ·have h1:m.sp[i].lv=true:=by simpa using h1
   refine⟨i+1,by omega,⟨by omega,?_⟩,?_,rfl,rfl⟩
   ·rcases Nat.lt_or_ge i (bu m.sp)with c|c
    ·omega
    ·have e:bu m.sp=i:=by omega
     have:=kj (l:=m.sp) (by omega);simp only[e,h1]at this;exact absurd this (by decide)
   ·rw[up hlt (by omega)];rfl
 ·have:¬i<m.sp.length:=by simpa using h
  refine⟨?_,rfl⟩;rw[gv,if_neg (by omega)];rfl
end Go.Qm
namespace Go.Qm
open Go.Cq Go.Cq.D Go.RowKit Go.Proofs
set_option maxRecDepth 10000
theorem gf{α β:Type}{f:α→β}{l:List α}{n:Nat}(h:l.length=n):(l.map f).take n=l.map f:=List.take_of_length_le (by simp[h])
theorem mM{sp:List Space}{i:Nat}(hi:i<sp.length):(sp.map rP).modify i (fun row=>row.set 1 (.sl 4 (sp[i].ar.map rA)))=sp.map rP:=by have hg:=av (f:=rP) (List.getElem?_eq_getElem hi);rw[bE hg];exact jC hg
theorem tX{sp:List Space}{i j:Nat}{x:Slot}:(aH sp i j x).length=sp.length:=by simp[aH]
theorem qS{P:Prg}{ts:DTs}{H:DH}{n:Nat}{K:DT→DTs→DH→Nat→List Nat→Prop}{zs:List CV}{bytes:Nat}{x y:Opd}{g lo len g2 ga sz:Nat}{es0 es2:List (List PV)}(hx:cK ts x=some (.sl g lo len))(hy:cK ts y=some (.sl g2 0 ga))(hsz:Nat.beq zs.length sz=true)(h0:Nat.blt 0 sz=true)(hg:aG H g=some (.arr sz es0 []))(hg2:aG H g2=some (.arr sz es2 []))(hl:es2.length=ga)(hs:∀row,row∈es2→hO row)(h1:(len+ga)*bytes≤140737488355328)(h2:len+ga≤140737488355328)(h:K (.v (.one (.sl n 0 (len+ga)))) ts ((n,.arr sz ((es0.drop lo).take len++es2) [])::eH g H) (n+1) [g]):OpP P (.app zs bytes x y) ts H n K:=by
 have e:=Nat.eq_of_beq_eq_true hsz;have e0:0<sz:=by simpa using h0
 subst hl;have ee:(es2.drop 0).take es2.length=es2:=by rw[List.drop_zero,List.take_length]
 refine⟨mP ⟨.sl g lo len,.sl g2 0 es2.length,(es2.drop 0).take es2.length,none,hx,hy,?_,by omega,?_⟩⟩
 ·rw[e];exact .copy hg2 (by rw[ee];exact hs)
 ·rw[e,ee];exact⟨es0,hg,by simp,h1,h2,h⟩
theorem z7{sp:List Space}{Z:Nat}{A L:List (List PV)}(h:Z<sp.length):(((sp.map rP).modify Z (fun row=>row.set 0 (.sc (.bool true)))).modify Z (fun row=>row.set 2 (.sl 4 L))).modify Z (fun row=>row.set 1 (.sl 4 A))=(sp.map rP).set Z [eB true,.sl 4 A,.sl 4 L]:=by
 have hg:=av (f:=rP) (List.getElem?_eq_getElem h);have hl:Z< (sp.map rP).length:=by simpa using h
 rw[bE hg,bE (List.getElem?_set_self hl),List.set_set,bE (List.getElem?_set_self hl),List.set_set];rfl
theorem aC2{i a la b lb:Nat}{v:CV}{es:List (List PV)}{ov:List (Nat×Nat×DC)}(h:i<es.length)(h0:ov.all (fun p=>!Nat.beq p.2.1 0)=true):wrN i 0 [.sc v,.sl a 0 la,.sl b 0 lb] (.arr 3 es ov)=some (.arr 3 (es.modify i (·.set 0 (.sc v))) ((i,2,.sl b 0 lb)::(i,1,.sl a 0 la)::ov)):=by simp only[wrN,wr1,h,h0,true_and,List.length_modify,show(0:Nat)<3 by decide,show 0+1<3 by decide,show 0+1+1<3 by decide,if_true,ite_self]
theorem aAA{P:Prg}{ts:DTs}{H:DH}{n:Nat}{KL:DTs→DH→DT→DTs→DH→Nat→List Nat→Prop}{x:Opd}{g i sz s1 s2:Nat}{v:CV}{a b es:List (List PV)}(la lb:Nat)(hx:cK ts x=some (.ptr g i 0))(hr:jd ts H (cT ts (COp.fl (.load (some 3) x)).reads)=true)(hg:aG H g=some (.arr sz es []))(he:es[i]?=some [.sc v,.sl s1 a,.sl s2 b])(h1:Nat.beq n g=false)(h2:Nat.beq (n+1) g=false)(ha:a.length=la)(hb:b.length=lb)(h:KL ts (dC g (.arr sz es [(i,2,.sl (n+1) 0 lb),(i,1,.sl n 0 la)]) ((n+1,.arr s2 b [])::dC g (.arr sz es [(i,1,.sl n 0 la)]) ((n,.arr s1 a [])::H))) (.v (.agg [.sc v,.sl n 0 la,.sl (n+1) 0 lb])) ts (dC g (.arr sz es [(i,2,.sl (n+1) 0 lb),(i,1,.sl n 0 la)]) ((n+1,.arr s2 b [])::dC g (.arr sz es [(i,1,.sl n 0 la)]) ((n,.arr s1 a [])::H))) (n+2) []):LdP P (.fl (.load (some 3) x)) ts H n KL:=by
 subst ha hb;have n1:¬g=n:=fun e=>Nat.ne_of_beq_eq_false h1 e.symm
 have n2:¬g=n+1:=fun e=>Nat.ne_of_beq_eq_false h2 e.symm
 have e0:∀{H:DH}{ov:List (Nat×Nat×DC)}{k:Nat}{c:DC},aG H g=some (.arr sz es ov)→(DB.arr sz es ov).cell i k=some c→∀ts,aY ts H (.h g i k)=some c:=fun h hc ts=>by simp only[aY,h,Option.bind_some,hc]
 have g1:aG (dC g (.arr sz es [(i,1,.sl n 0 a.length)]) ((n,.arr s1 a [])::H)) g=some (.arr sz es [(i,1,.sl n 0 a.length)]):=by rw[bB,if_pos rfl]
 have g2:aG (dC g (.arr sz es [(i,2,.sl (n+1) 0 b.length),(i,1,.sl n 0 a.length)]) ((n+1,.arr s2 b [])::dC g (.arr sz es [(i,1,.sl n 0 a.length)]) ((n,.arr s1 a [])::H))) g=some (.arr sz es [(i,2,.sl (n+1) 0 b.length),(i,1,.sl n 0 a.length)]):=by rw[bB,if_pos rfl]
 have c0:∀{ov:List (Nat×Nat×DC)},aa ov i 0=none→(DB.arr sz es ov).cell i 0=some (.sc v):=fun ho=>aW (p:=.sc v) he rfl rfl ho
 have c1:(DB.arr sz es []).cell i 1=some (.own s1 a):=aW (p:=.sl s1 a) he rfl rfl rfl;have c2:(DB.arr sz es [(i,1,.sl n 0 a.length)]).cell i 2=some (.own s2 b):=aW (p:=.sl s2 b) he rfl rfl rfl;have d1:(DB.arr sz es [(i,2,.sl (n+1) 0 b.length),(i,1,.sl n 0 a.length)]).cell i 1=some (.sl n 0 a.length):=ai he (by simp) (if_pos rfl);have d2:(DB.arr sz es [(i,2,.sl (n+1) 0 b.length),(i,1,.sl n 0 a.length)]).cell i 2=some (.sl (n+1) 0 b.length):=ai he (by simp) (if_pos rfl);refine sE hx hr (ts1:=ts) (n1:=n+2) ?_ (yi (r:=.agg [.sc v,.sl n 0 a.length,.sl (n+1) 0 b.length]) ?_ h)
 ·simp only[Option.getD_some,show List.range 3=[0,1,2]from rfl,List.map_cons,List.map_nil,Nat.zero_add,dS,exp,e0 hg (c0 rfl),e0 hg c1];simp only[f9,aS,if_neg n1,hg,DB.ff];simp only[e0 g1 c2,g1,if_neg n2]
 ·simp only[dfl,hx,fm,Nat.zero_add,e0 g2 (c0 rfl),e0 g2 d1,e0 g2 d2];rfl
set_option maxHeartbeats 4000000 in
theorem xX(m:Mem)(i:Nat)(w:Wf m)(hi:i<m.sp.length)(har:∀x,x∈m.sp[i].ar→an x=true)(hal:m.sp[i].ar.length≤1048576)(hsl:m.sp[i].sl.length=16)(hlv:m.sp[i].lv=true):
  bC Try.prog 103 [oM m,.one (dI i)] (.tup [oM (lG m i).1,.one (dI (lG m i).2)]):=by
 refine aK hmix Try.func103 ok103 ?_;conv=>whnf
 simp only[List.drop_zero,List.take_length];refine aB (cas:=[aM true true true true true m]) [.lend] rfl (by show some [DV.agg [DC.ro true 1 (List.take _ (List.drop 0 _)),DC.ro true 1 (List.take _ (List.drop 0 _)),DC.ro true 1 (List.take _ (List.drop 0 _)),DC.ro true 1 (List.take _ (List.drop 0 _)),DC.ro true 3 (List.take _ (List.drop 0 _)),_]]=_;simp only[List.drop_zero,List.take_length];rfl) rfl (my true true true true true m (by rw[w.sp];omega)) rfl ?_;conv=>whnf
 refine CondP.mk (fun c1=>?_) (fun c1=>?_)<;>conv=>whnf
 ·have c1:¬bu m.sp<m.sp.length:=fun c=>by rw[gv,if_pos c]at c1;simp at c1;omega
  refine⟨?_,rfl⟩;rw[lG,if_neg c1];simp[oM,dI]
 have c1:bu m.sp<m.sp.length:=by
  rcases Nat.lt_or_ge (bu m.sp) m.sp.length with c|c
  ·exact c
  ·rw[gv,if_neg (by omega)]at c1;simp at c1
 rw[gv,if_pos c1];have hfm:lG m i=if(cI m i 16).2 then(iT (ja (cI m i 16).1 i 16) i (bu m.sp),((bu m.sp:Nat):Int))else((cI m i 16).1, -1):=by rw[lG,if_pos c1]
 have hZi:¬i=bu m.sp:=fun e=>by have:=kj c1;simp only[←e,hlv]at this;exact absurd this (by decide)
 obtain⟨Z,hZ⟩:∃Z,bu m.sp=Z:=⟨_,rfl⟩;rw[hZ]at c1 hfm hZi ⊢;simp only[List.drop_zero,List.take_length];refine aq (fun j:Nat=>[(1,.v (.one (dI i))),(2,.v (.one (.ptr 5 0 0))),(4,.v (.one (.ptr 6 0 0))),(6,.v (.one (dI Z))),(7,.v (.one (dI j)))]) (fun j=>[(6,bO eh),(5,bO (cI m i j).1)]) (fun _=>7)
  (fun j=>j≤16∧(cI m i j).2=true) (fun j=>16-j) 0 ⟨by omega,rfl⟩ rfl rfl rfl fun j hj=>?_
 obtain⟨hj16,hok⟩:=hj;obtain⟨w1,s1⟩:=zN w hi (j:=j) (by omega);have hstep:cI m i (j+1)=if(cI m i j).2&&(shP (cI m i j).1 i j&&decide ((aJ (cI m i j).1 i j).kd=0))then(match cm (cI m i j).1 i j with
  |some m2=>(m2,true)
  |none=>((cI m i j).1,false))else cI m i j:=rfl
 rw[hok,Bool.true_and,shP,yz s1 hi]at hstep;obtain⟨m1,hm1⟩:∃m1,(cI m i j).1=m1:=⟨_,rfl⟩;rw[hm1]at hstep w1 s1;simp only[hm1];have l1:=w1.L;have hi1:i<m1.sp.length:=by rw[s1.1];exact hi
 have hi5:i<5:=by rw[←l1.sp];exact hi1
 obtain⟨-,ear,esl⟩:=s1.2 i hi hi1;rw[←ear]at hstep hal har;have hg:=av (f:=rP) (List.getElem?_eq_getElem hi1);conv=>whnf
 refine CondP.mk (fun c2=>?_) (fun c2=>?_)<;>conv=>whnf
 ·have hj15:j<16:=by
               have:(j:Int)<16:=by simpa using c2
               omega
  have hj1:j<m1.sp[i].sl.length:=by omega
  refine aE (k:=i) rfl rfl rfl (by simpa using hi1) ?_;conv=>whnf
  refine aAA (v:=.bool m1.sp[i].lv) (a:=m1.sp[i].ar.map rA) (b:=m1.sp[i].sl.map rL) m1.sp[i].ar.length m1.sp[i].sl.length rfl rfl rfl hg rfl rfl (by simp) (by simp) ?_;conv=>whnf
  have hro:some [DV.agg [dB m1.sp[i].lv,.ro true 4 (((m1.sp[i].ar.map rA).drop 0).take m1.sp[i].ar.length),.ro true 4 (((m1.sp[i].sl.map rL).drop 0).take m1.sp[i].sl.length)],.one (dI j)]=some [.agg [dB m1.sp[i].lv,.ro true 4 (m1.sp[i].ar.map rA),.ro true 4 (m1.sp[i].sl.map rL)],.one (dI j)]:=by simp only[List.drop_zero,aU]
  refine aB [.lend,.pass] rfl hro rfl (lZ true true m1.sp[i] j (by omega) har) rfl ?_;cases hsh:gW m1.sp[i].ar (ah m1.sp[i].ar j)with
  |false=>
   rw[hsh,Bool.false_and]at hstep
   (conv=>whnf)<;>repeat' first|(refine aD ?_;conv=>whnf)|(refine aC ?_;conv=>whnf)
   refine aX (i:=i) (k:=2) (g':=9) (lo:=0) (len:=m1.sp[i].sl.length) (es2:=m1.sp.map rP) (ov2:=[(i,1,.sl 8 0 m1.sp[i].ar.length)]) rfl (ai hg (by simp[rP]) (by simp only[aa,if_true];rfl)) rfl rfl (by rw[List.drop_zero,aU];exact dJ hi1) (by simp only[aZ,if_true];rfl) ?_;conv=>whnf
   refine aX (i:=i) (k:=1) (g':=8) (lo:=0) (len:=m1.sp[i].ar.length) (es2:=m1.sp.map rP) (ov2:=[]) rfl (ai hg (by simp[rP]) (by simp only[aa,if_true];rfl)) rfl rfl (by rw[List.drop_zero,aU];exact mM hi1) (by simp only[aZ,if_true];rfl) ?_
   (conv=>whnf)<;>repeat' first|(refine aD ?_;conv=>whnf)|(refine aC ?_;conv=>whnf)
   refine⟨j+1,by omega,⟨by omega,by rw[hstep];exact hok⟩,?_,?_,rfl⟩
   ·rw[wrap64 (by omega) (by omega)];rfl
   ·rw[hstep];simp only[Bool.false_eq_true,if_false,hm1,List.drop_zero,List.take_length];rfl
  |true=>
   rw[hsh,Bool.true_and]at hstep
   (conv=>whnf)<;>repeat' first|(refine aD ?_;conv=>whnf)|(refine aC ?_;conv=>whnf)
   refine aE (k:=i) rfl rfl rfl (by simpa using hi1) ?_
   (conv=>whnf)<;>repeat' first|(refine aD ?_;conv=>whnf)|(refine aC ?_;conv=>whnf)
   refine cz rfl rfl rfl (ai hg (by simp[rP]) (if_pos rfl)) rfl ?_
   (conv=>whnf)<;>repeat' first|(refine aD ?_;conv=>whnf)|(refine aC ?_;conv=>whnf)
   refine aE (k:=j) rfl rfl rfl hj1 ?_
   (conv=>whnf)<;>repeat' first|(refine aD ?_;conv=>whnf)|(refine aC ?_;conv=>whnf)
   refine cz rfl rfl rfl (aW (row:=rL m1.sp[i].sl[j]) (by simp[hj1]) rfl rfl rfl) rfl ?_
   (conv=>whnf)<;>repeat' first|(refine aD ?_;conv=>whnf)|(refine aC ?_;conv=>whnf)
   refine aX (i:=i) (k:=2) (g':=9) (lo:=0) (len:=m1.sp[i].sl.length) (es2:=m1.sp.map rP) (ov2:=[(i,1,.sl 8 0 m1.sp[i].ar.length)]) rfl (ai hg (by simp[rP]) (by simp only[aa,if_true];rfl)) rfl rfl (by rw[List.drop_zero,aU];exact dJ hi1) (by simp only[aZ,if_true];rfl) ?_;conv=>whnf
   refine aX (i:=i) (k:=1) (g':=8) (lo:=0) (len:=m1.sp[i].ar.length) (es2:=m1.sp.map rP) (ov2:=[]) rfl (ai hg (by simp[rP]) (by simp only[aa,if_true];rfl)) rfl rfl (by rw[List.drop_zero,aU];exact mM hi1) (by simp only[aZ,if_true];rfl) ?_;conv=>whnf
   have hx:=bp hi1 hj1;refine CondP.mk (fun c3=>?_) (fun c3=>?_)<;>conv=>whnf
   ·have c3:(aJ m1 i j).kd=0:=by rw[hx];simpa using c3
    rw[decide_eq_true c3]at hstep;have hcall:=lr m1 i j w1 hi1 hj1;simp only[List.drop_zero,List.take_length];simp only[List.length_map,l1.rt,l1.rr,l1.st,l1.sr,l1.sp];cases hb:cm m1 i j with
    |none=>
     rw[hb]at hcall hstep;refine cJ (r:=.tup [.agg (cW m1.hd),.one (dB false)]) (Hr:=hM m1) [.pass,.pass,.pass] [7,8,9,10,11] rfl rfl rfl rfl hcall rfl (t9 l1 l1 rfl rfl rfl rfl rfl rfl) ?_
     (conv=>whnf)<;>repeat' first|(refine aD ?_;conv=>whnf)|(refine aC ?_;conv=>whnf)
     have hst:cI m i 16=(m1,false):=by have:=vQ (m:=m) (i:=i) (j:=j+1) (by rw[hstep];rfl) (15-j);rw[show j+1+(15-j)=16 by omega,hstep]at this;exact this
     rw[hfm,hst];refine⟨?_,rfl⟩;simp[oM,dI,gf l1.rt,gf l1.rr,gf l1.st,gf l1.sr,gf l1.sp]
    |some m2=>
     have w2:=w1.mX hi1 hj1 hb;have l2:=w2.L;rw[hb]at hcall hstep;refine cJ (r:=.tup [.agg (cW m2.hd),.one (dB true)]) (Hr:=hM m2) [.pass,.pass,.pass] [7,8,9,10,11] rfl rfl rfl rfl hcall rfl (t9 l1 l2 rfl rfl rfl rfl rfl rfl) ?_
     (conv=>whnf)<;>repeat' first|(refine aD ?_;conv=>whnf)|(refine aC ?_;conv=>whnf)
     have hst:cI m i (j+1)=(m2,true):=hstep;refine⟨j+1,by omega,⟨by omega,by rw[hst]⟩,?_,?_,rfl⟩
     ·rw[wrap64 (by omega) (by omega)];rfl
     ·rw[hst];simp only[List.drop_zero,gf l2.rt,gf l2.rr,gf l2.st,gf l2.sr,gf l2.sp];rfl
   ·have c3:¬(aJ m1 i j).kd=0:=by rw[hx];simpa using c3
    rw[decide_eq_false c3]at hstep;refine⟨j+1,by omega,⟨by omega,by rw[hstep];exact hok⟩,?_,?_,rfl⟩
    ·rw[wrap64 (by omega) (by omega)];rfl
    ·rw[hstep];simp only[Bool.false_eq_true,if_false,hm1,List.drop_zero,List.take_length];rfl
 have hje:j=16:=by
             have:¬(j:Int)<16:=by simpa using c2
             omega
 subst hje;rw[hok,hm1]at hfm;clear hstep c2 hok hj16;refine aq (fun j:Nat=>[(1,.v (.one (dI i))),(2,.v (.one (.ptr 5 0 0))),(4,.v (.one (.ptr 6 0 0))),(6,.v (.one (dI Z))),(10,.v (.one (dI j)))]) (fun j=>[(6,bO eh),(5,bO (ja m1 i j))]) (fun _=>7)
  (fun j=>j≤16) (fun j=>16-j) 0 (by omega) rfl rfl rfl fun j hj16=>?_
 have fk:=zU w1.ram w1.swp (i:=i) (j:=j);obtain⟨m3,hm3⟩:∃m3,ja m1 i j=m3:=⟨_,rfl⟩;have hstep:ja m1 i (j+1)=pB m3 i j:=by rw[←hm3];rfl
 rw[hm3]at fk;simp only[hm3];have hi3:i<m3.sp.length:=by rw[fk.sm.1];exact hi1
 obtain⟨-,ear3,esl3⟩:=fk.sm.2 i hi1 hi3;rw[←ear3]at hal har;have hg3:=av (f:=rP) (List.getElem?_eq_getElem hi3);conv=>whnf
 refine CondP.mk (fun c2=>?_) (fun c2=>?_)<;>conv=>whnf
 ·have hj15:j<16:=by
               have:(j:Int)<16:=by simpa using c2
               omega
  have hj3:j<m3.sp[i].sl.length:=by omega
  refine aE (k:=i) rfl rfl rfl (by simpa using hi3) ?_;conv=>whnf
  refine cE (i:=i) (k:=2) (sz':=4) (es':=m3.sp[i].sl.map rL) m3.sp[i].sl.length rfl rfl rfl (aW hg3 rfl rfl rfl) rfl (by simp) ?_;conv=>whnf
  refine aE (k:=j) rfl rfl rfl hj3 ?_;conv=>whnf
  refine gU (row:=rL (aJ m3 i j)) rfl rfl rfl (by rw[bp hi3 hj3];simp[hj3]) (cV _) rfl rfl ?_;conv=>whnf
  refine aX (i:=i) (k:=2) (g':=8) (lo:=0) (len:=m3.sp[i].sl.length) (es2:=m3.sp.map rP) (ov2:=[]) rfl (ai hg3 (by simp[rP]) (by simp only[aa,if_true];rfl)) rfl rfl (by rw[List.drop_zero,aU];exact dJ hi3) (by simp only[aZ,if_true];rfl) ?_;conv=>whnf
  obtain⟨x,hx⟩:∃x,aJ m3 i j=x:=⟨_,rfl⟩;obtain⟨sh,hsh⟩:∃sh,gW m3.sp[i].ar (ah m3.sp[i].ar j)=sh:=⟨_,rfl⟩;have hS:pB m3 i j=⟨gQ (x.kd=1) m3.ram x.pl.toNat,gQ (x.kd=2) m3.swp x.pl.toNat,aH m3.sp i j ⟨x.kd,x.pl,sh&&x.ow,x.us⟩,m3.hd⟩:=by rw[pB,shP,show arF m3 i=m3.sp[i].ar by simp[arF,hi3],hsh,hx];cases sh<;>rfl
  have htl:(x.kd=1→∃f:Nat,x.pl=f∧f<12)∧(x.kd=2→∃f:Nat,x.pl=f∧f<12):=by have e:=fk.at_ j (Nat.le_refl j);obtain⟨t1,t2⟩:=w1.slot (i:=i) (j:=j) hi1 (by omega);rw[←e,hx]at t1 t2;exact⟨fun c=>let⟨f,a,b,_⟩:=t1 c;⟨f,a,b⟩,fun c=>let⟨f,a,b,_⟩:=t2 c;⟨f,a,b⟩⟩
  simp only[hx,List.drop_zero,List.take_length];refine aE (k:=i) rfl rfl rfl (by simpa using hi3) ?_;conv=>whnf
  refine aAA (v:=.bool m3.sp[i].lv) (a:=m3.sp[i].ar.map rA) (b:=m3.sp[i].sl.map rL) m3.sp[i].ar.length m3.sp[i].sl.length rfl rfl rfl hg3 rfl rfl (by simp) (by simp) ?_;conv=>whnf
  have hro:some [DV.agg [dB m3.sp[i].lv,.ro true 4 (((m3.sp[i].ar.map rA).drop 0).take m3.sp[i].ar.length),.ro true 4 (((m3.sp[i].sl.map rL).drop 0).take m3.sp[i].sl.length)],.one (dI j)]=some [.agg [dB m3.sp[i].lv,.ro true 4 (m3.sp[i].ar.map rA),.ro true 4 (m3.sp[i].sl.map rL)],.one (dI j)]:=by simp only[List.drop_zero,aU]
  refine aB [.lend,.pass] rfl hro rfl (lZ true true m3.sp[i] j (by omega) har) rfl ?_;rw[hsh];cases sh
  all_goals
   (conv=>whnf)<;>repeat' first|(refine aD ?_;conv=>whnf)|(refine aC ?_;conv=>whnf)
   refine aX (i:=i) (k:=2) (g':=12) (lo:=0) (len:=m3.sp[i].sl.length) (es2:=m3.sp.map rP) (ov2:=[(i,1,.sl 11 0 m3.sp[i].ar.length)]) rfl (ai hg3 (by simp[rP]) (by simp only[aa,if_true];rfl)) rfl rfl (by rw[List.drop_zero,aU];exact dJ hi3) (by simp only[aZ,if_true];rfl) ?_;conv=>whnf
   refine aX (i:=i) (k:=1) (g':=11) (lo:=0) (len:=m3.sp[i].ar.length) (es2:=m3.sp.map rP) (ov2:=[]) rfl (ai hg3 (by simp[rP]) (by simp only[aa,if_true];rfl)) rfl rfl (by rw[List.drop_zero,aU];exact mM hi3) (by simp only[aZ,if_true];rfl) ?_
   (conv=>whnf)<;>repeat' first|(refine aD ?_;conv=>whnf)|(refine aC ?_;conv=>whnf)
   simp only[List.drop_zero,List.take_length];refine aE (k:=i) rfl rfl rfl (by simpa using hi3) ?_;conv=>whnf
   refine cE (i:=i) (k:=2) (sz':=4) (es':=m3.sp[i].sl.map rL) m3.sp[i].sl.length rfl rfl rfl (aW hg3 rfl rfl rfl) rfl (by simp) ?_;conv=>whnf
   refine aE (k:=j) rfl rfl rfl hj3 ?_;conv=>whnf
   first
    |refine bU (row':=rL ⟨x.kd,x.pl,false,x.us⟩) rfl rfl rfl (by simpa using hj3) (dD (fun _=>rfl)) (cV _) rfl rfl rfl ?_
    |refine bU (row':=rL x) rfl rfl rfl (by simpa using hj3) (dD (fun _=>rfl)) (cV _) rfl rfl rfl ?_
   conv=>whnf
   refine aX (i:=i) (k:=2) (g':=11) (lo:=0) (len:=m3.sp[i].sl.length) (ov2:=[]) rfl (ai hg3 (by simp[rP]) (by simp only[aa,if_true];rfl)) rfl rfl (by rw[List.drop_zero,List.take_of_length_le (by simp),bo hi3]) (by simp only[aZ,if_true];rfl) ?_;conv=>whnf
   simp only[List.drop_zero,List.take_of_length_le,List.length_map,tX,Nat.le_refl];refine CondP.mk (fun c3=>?_) (fun c3=>?_)<;>conv=>whnf
   ·have c3:x.kd=1:=by simpa using c3
    obtain⟨f,e1,e2⟩:=htl.1 c3;have e3:f<m3.ram.rf.length:=by rw[fk.rl,l1.rr];exact e2
    refine aE (k:=f) rfl rfl (by show some _=some _;rw[e1]) (by simpa using e3) ?_;conv=>whnf
    refine cz rfl rfl rfl (aW (row:=rI m3.ram.rf[f]) (by simp[e3]) rfl rfl rfl) rfl ?_;conv=>whnf
    refine aE (k:=f) rfl rfl (by show some _=some _;rw[e1]) (by simpa using e3) ?_;conv=>whnf
    refine af rfl rfl rfl (by simpa using e3) (by decide) ?_;conv=>whnf
    have hb:=fk.rb _ (List.getElem_mem e3);rw[rG c3 e1 e3,iv (show¬x.kd=2 by omega)]at hS;refine⟨j+1,by omega,by omega,?_,?_,rfl⟩
    ·rw[wrap64 (by omega) (by omega)];rfl
    ·rw[hstep,hS,pP e3,wrap64 (by omega) (by omega),List.drop_zero,List.take_of_length_le (by simp)];rfl
   ·have c3:¬x.kd=1:=by simpa using c3
    refine CondP.mk (fun c4=>?_) (fun c4=>?_)<;>conv=>whnf
    ·have c4:x.kd=2:=by simpa using c4
     obtain⟨f,e1,e2⟩:=htl.2 c4;have e3:f<m3.swp.rf.length:=by rw[fk.sl,l1.sr];exact e2
     refine aE (k:=f) rfl rfl (by show some _=some _;rw[e1]) (by simpa using e3) ?_;conv=>whnf
     refine cz rfl rfl rfl (aW (row:=rI m3.swp.rf[f]) (by simp[e3]) rfl rfl rfl) rfl ?_;conv=>whnf
     refine aE (k:=f) rfl rfl (by show some _=some _;rw[e1]) (by simpa using e3) ?_;conv=>whnf
     refine af rfl rfl rfl (by simpa using e3) (by decide) ?_;conv=>whnf
     have hb:=fk.sb _ (List.getElem_mem e3);rw[iv c3,rG c4 e1 e3]at hS;refine⟨j+1,by omega,by omega,?_,?_,rfl⟩
     ·rw[wrap64 (by omega) (by omega)];rfl
     ·rw[hstep,hS,pP e3,wrap64 (by omega) (by omega),List.drop_zero,List.take_of_length_le (by simp)];rfl
    ·have c4:¬x.kd=2:=by simpa using c4
     rw[iv c3,iv c4]at hS;refine⟨j+1,by omega,by omega,?_,?_,rfl⟩
     ·rw[wrap64 (by omega) (by omega)];rfl
     ·rw[hstep,hS];rfl
 have hje:j=16:=by
             have:¬(j:Int)<16:=by simpa using c2
             omega
 subst hje;rw[hm3]at hfm;refine aE (k:=i) rfl rfl rfl (by simpa using hi3) ?_;conv=>whnf
 refine aAA (v:=.bool m3.sp[i].lv) (a:=m3.sp[i].ar.map rA) (b:=m3.sp[i].sl.map rL) m3.sp[i].ar.length m3.sp[i].sl.length rfl rfl rfl hg3 rfl rfl (by simp) (by simp) ?_;conv=>whnf
 have hZ3:Z<m3.sp.length:=by rw[fk.sm.1,s1.1];exact c1
 refine bR rfl rfl rfl ?_;conv=>whnf
 refine qS rfl rfl rfl rfl rfl rfl (by simp) (i5 fW _) (by omega) (by omega) ?_;conv=>whnf
 refine bR rfl rfl rfl ?_;conv=>whnf
 refine qS rfl rfl rfl rfl rfl rfl (by simp) (i5 cV _) (by omega) (by omega) ?_;conv=>whnf
 refine aE (k:=Z) rfl rfl rfl (by simpa using hZ3) ?_;conv=>whnf
 refine dV rfl rfl rfl rfl rfl (aC2 (by simpa using hZ3) rfl) ?_;conv=>whnf
 have hgZ:=av (f:=rP) (List.getElem?_eq_getElem hZ3);have hiZ:¬Z=i:=fun e=>hZi e.symm
 have hm4:(iT m3 i Z).sp=m3.sp.set Z ⟨true,m3.sp[i].ar,m3.sp[i].sl⟩:=by simp[iT,arF,iL,hi3]
 have hi4:i< (iT m3 i Z).sp.length:=by rw[hm4,List.length_set];exact hi3
 have hx4:(iT m3 i Z).sp[i]=m3.sp[i]:=by simp only[hm4];exact List.getElem_set_ne hiZ _
 have hg4:=av (f:=rP) (List.getElem?_eq_getElem hi4);refine aX (i:=Z) (k:=2) (g':=14) (lo:=0) (len:=0+m3.sp[i].sl.length) (ov2:=[(Z,1,.sl 12 0 (0+m3.sp[i].ar.length)),(i,2,.sl 9 0 m3.sp[i].sl.length),(i,1,.sl 8 0 m3.sp[i].ar.length)]) rfl (ai (gh hgZ) (by simp[rP]) (by simp only[aa,if_true];rfl)) rfl rfl rfl (by simp only[aZ,if_true,if_neg hZi];rfl) ?_;conv=>whnf
 refine aX (i:=Z) (k:=1) (g':=12) (lo:=0) (len:=0+m3.sp[i].ar.length) (es2:=(iT m3 i Z).sp.map rP) (ov2:=[(i,2,.sl 9 0 m3.sp[i].sl.length),(i,1,.sl 8 0 m3.sp[i].ar.length)]) rfl (ai (gh (gh hgZ)) (by simp[rP]) (by simp only[aa,if_true];rfl)) rfl rfl (by rw[z7 hZ3,hm4,←map_set];simp[rP]) (by simp only[aZ,if_true,if_neg hZi];rfl) ?_;conv=>whnf
 refine aX (i:=i) (k:=2) (g':=9) (lo:=0) (len:=m3.sp[i].sl.length) (es2:=(iT m3 i Z).sp.map rP) (ov2:=[(i,1,.sl 8 0 m3.sp[i].ar.length)]) rfl (ai hg4 (by simp[rP]) (by simp only[aa,if_true];rfl)) rfl rfl (by rw[List.drop_zero,aU,←hx4];exact dJ hi4) (by simp only[aZ,if_true];rfl) ?_;conv=>whnf
 refine aX (i:=i) (k:=1) (g':=8) (lo:=0) (len:=m3.sp[i].ar.length) (es2:=(iT m3 i Z).sp.map rP) (ov2:=[]) rfl (ai hg4 (by simp[rP]) (by simp only[aa,if_true];rfl)) rfl rfl (by rw[List.drop_zero,aU,←hx4];exact mM hi4) (by simp only[aZ,if_true];rfl) ?_;conv=>whnf
 have e4:(iT m3 i Z).sp.length=m3.sp.length:=by rw[hm4,List.length_set]
 rw[hfm];refine⟨?_,rfl⟩;simp[oM,dI,e4,gf e4,show(iT m3 i Z).ram=m3.ram from rfl,show(iT m3 i Z).swp=m3.swp from rfl,show(iT m3 i Z).hd=m3.hd from rfl]
end Go.Qm
namespace Go.Qm
open Go.Cq Go.Cq.D Go.RowKit Go.Proofs
set_option maxRecDepth 10000
end Go.Qm
namespace Go.Qm
open Go.Cq Go.Cq.D Go.RowKit Go.Proofs
set_option maxRecDepth 10000
def ui(t:Str)(k:Nat)(b:Int):Str:=t.set k (vu b)
theorem wa{ts:DTs}{y:Opd}{d lim k:Nat}(h:eG ts y=some (k:Int))(hk:k≤lim):cU ts (some y) d lim=some k:=by simp only[cU,h];rw[if_pos ⟨by omega,by omega⟩,Int.toNat_natCast]
theorem aCY{P:Prg}{ts:DTs}{H:DH}{n:Nat}{K:DT→DTs→DH→Nat→List Nat→Prop}{x:Opd}{lo hi:Option Opd}{s:Str}{l h:Nat}(hx:evS ts x=some (.str s))(hh:cU ts hi s.length s.length=some h)(hl:cU ts lo 0 h=some l)(hK:K (.v (.one (.sc (.str ((s.drop l).take (h-l)))))) ts H n []):OpP P (.fl (.sliceS x lo hi)) ts H n K:=fo (by simp only[dfl,hx,hh,hl];rfl) hK
theorem aA6(t:Str)(k:Nat)(b:Int)(hk:k<t.length)(hl:t.length≤1000):bC Try.prog 152 [.one (.sc (.str t)),.one (dI k),.one (dI b)] (.v (.one (.sc (.str (ui t k b))))):=by
 refine aK hmix Try.func152 ok152 ?_;conv=>whnf
 refine aCY (s:=t) (h:=k) (l:=0) rfl (wa (k:=k) rfl (by omega)) rfl ?_;conv=>whnf
 refine bR rfl rfl rfl ?_;conv=>whnf
 refine po rfl rfl (bs:=[vu b]) (by simp[y8]) ?_;conv=>whnf
 refine aAq (l:=t.take k) (m:=[vu b]) rfl rfl (by simp;omega) ?_;conv=>whnf
 have e1:IntKind.wrap .i64 ((k:Int)+1)=((k+1:Nat):Int):=wrap64 (by omega) (by omega);simp only[e1];refine aCY (s:=t) (h:=t.length) (l:=k+1) rfl rfl (wa (k:=k+1) rfl (by omega)) ?_;conv=>whnf
 refine aAq (l:=t.take k++[vu b]) (m:=(t.drop (k+1)).take (t.length-(k+1))) rfl rfl (by simp;omega) ?_;conv=>whnf
 refine⟨?_,rfl⟩;rw[List.take_of_length_le (l:=t.drop (k+1)) (by simp),ui,List.set_eq_take_append_cons_drop,if_pos hk,List.append_assoc];rfl
end Go.Qm

