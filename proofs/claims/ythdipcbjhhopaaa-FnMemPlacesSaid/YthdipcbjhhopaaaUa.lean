import Derived.Test.YthdipcbjhhopaaaOa
import Derived.Test.YthdipcbjhhopaaaOb
import Derived.Test.YthdipcbjhhopaaaOc
import Derived.Test.YthdipcbjhhopaaaOd
import Derived.ChangeBook
import Derived.WalkKit
import Derived.ProofKit
import Derived.OpenShut
import Derived.JoinedOf
namespace Go.Qm
open Go.Cq Go.Cq.D Go.RowKit Go.Proofs
set_option maxRecDepth 10000
theorem hmix:Try.prog.follows .mixedOrders=true:=by decide+kernel
theorem kN(a b c:Int):bC Try.prog 77 [.one (dI a),.one (dI b),.one (dI c)] (.v (.one (dB (inB a b c)))):=by
 refine aQ hmix Try.func77 ok77 ?_;conv=>whnf
 refine CondP.mk (fun h=>?_) (fun h=>?_)<;>rw[h]<;>(conv=>whnf)<;>repeat' first|(refine aE ?_;conv=>whnf)|(refine aD ?_;conv=>whnf)
 ·refine⟨?_,rfl⟩;simp only[inB]at h ⊢;rw[h];rfl
 ·refine⟨?_,rfl⟩;simp only[inB]at h ⊢;rw[h];rfl
theorem hO(a b c:Int):bC Try.prog 87 [.one (dI a),.one (dI b),.one (dI c)] (.v (.one (dB (inB a b c)))):=by
 refine aQ hmix Try.func87 ok87 ?_;conv=>whnf
 refine CondP.mk (fun h=>?_) (fun h=>?_)<;>rw[h]<;>(conv=>whnf)<;>repeat' first|(refine aE ?_;conv=>whnf)|(refine aD ?_;conv=>whnf)
 ·refine⟨?_,rfl⟩;simp only[inB]at h ⊢;rw[h];rfl
 ·refine⟨?_,rfl⟩;simp only[inB]at h ⊢;rw[h];rfl
theorem zB(a:Area):bC Try.prog 98 [.agg [dI a.fr,dI a.mn,dB a.wr,dB a.sh]] (.v (.one (dI (IntKind.wrap .i64 (a.fr+a.mn))))):=by
 refine aQ hmix Try.func98 ok98 ?_;conv=>whnf
 exact⟨rfl,rfl⟩
theorem xT(a:Area):bC Try.prog 130 [.agg [dI a.fr,dI a.mn,dB a.wr,dB a.sh]] (.v (.one (dB (bI a)))):=by
 refine aQ hmix Try.func130 ok130 ?_;conv=>whnf
 refine aC [.pass,.pass,.pass] rfl rfl rfl (kN _ _ _) rfl ?_;conv=>whnf
 refine CondP.mk (fun h=>?_) (fun h=>?_)<;>rw[h]<;>(conv=>whnf)<;>repeat' first|(refine aE ?_;conv=>whnf)|(refine aD ?_;conv=>whnf)
 ·refine aC [.pass,.pass,.pass] rfl rfl rfl (kN _ _ _) rfl ?_;conv=>whnf
  refine⟨?_,rfl⟩;have hw:IntKind.wrap .i64 (16-a.fr)=16-a.fr:=by simp only[inB,Bool.and_eq_true,decide_eq_true_eq]at h;exact wrap64 (by omega) (by omega)
  rw[bI,h,Bool.true_and];show DT.v (.one (dB (inB a.mn 1 (IntKind.wrap .i64 (16-a.fr)))))=_;rw[hw]
 ·refine⟨?_,rfl⟩;rw[bI,h];rfl
theorem lB(a:Area):bC Try.prog 162 [.agg [dI a.fr,dI a.mn,dB a.wr,dB a.sh]] (.v (.one (dB (bI a)))):=by
 refine aQ hmix Try.func162 ok162 ?_;conv=>whnf
 refine aC [.pass,.pass,.pass] rfl rfl rfl (hO _ _ _) rfl ?_;conv=>whnf
 refine CondP.mk (fun h=>?_) (fun h=>?_)<;>rw[h]<;>(conv=>whnf)<;>repeat' first|(refine aE ?_;conv=>whnf)|(refine aD ?_;conv=>whnf)
 ·refine aC [.pass,.pass,.pass] rfl rfl rfl (hO _ _ _) rfl ?_;conv=>whnf
  refine⟨?_,rfl⟩;have hw:IntKind.wrap .i64 (16-a.fr)=16-a.fr:=by simp only[inB,Bool.and_eq_true,decide_eq_true_eq]at h;exact wrap64 (by omega) (by omega)
  rw[bI,h,Bool.true_and];show DT.v (.one (dB (inB a.mn 1 (IntKind.wrap .i64 (16-a.fr)))))=_;rw[hw]
 ·refine⟨?_,rfl⟩;rw[bI,h];rfl
theorem aAw(b1 b2:Bool)(p:Pages)(k:Int)(hl:p.rf.length≤9223372036854775807):bC Try.prog 84 [.agg [.ro b1 1 (p.tx.map rS),.ro b2 1 (p.rf.map rI)],.one (dI k)] (.v (.one (dB (inB k 0 (p.rf.length-1)&&decide (0<p.rf[k.toNat]?.getD 0))))):=by
 refine aQ hmix Try.func84 ok84 ?_;conv=>whnf
 refine aC [.pass,.pass,.pass] rfl rfl rfl (kN _ _ _) rfl ?_;conv=>whnf
 have hw:IntKind.wrap .i64 ((p.rf.map rI).length-1)=p.rf.length-1:=by rw[List.length_map];exact wrap64 (by omega) (by omega)
 refine CondP.mk (fun h=>?_) (fun h=>?_)<;>rw[h]<;>(conv=>whnf)<;>repeat' first|(refine aE ?_;conv=>whnf)|(refine aD ?_;conv=>whnf)
 ·have h':=h;rw[show IntKind.wrap .i64 _=_ from hw]at h';have hk:=h';simp only[inB,Bool.and_eq_true,decide_eq_true_eq]at hk;refine aK (k:=k.toNat) rfl (by show some k=_;congr 1;omega) (by simp;omega) ?_
  (conv=>whnf)<;>repeat' first|(refine aE ?_;conv=>whnf)|(refine aD ?_;conv=>whnf)
  have hlt:k.toNat<p.rf.length:=by omega
  refine aH rfl (r:=.one (dI (p.rf[k.toNat]?.getD 0))) (by simp[an,rI,hlt,eI,PV.dc,dI]) ?_
  (conv=>whnf)<;>repeat' first|(refine aE ?_;conv=>whnf)|(refine aD ?_;conv=>whnf)
  refine⟨?_,rfl⟩;rw[h'];rfl
 ·rw[show IntKind.wrap .i64 _=_ from hw]at h;refine⟨?_,rfl⟩;rw[h];rfl
end Go.Qm
namespace Go.Qm
open Go.Cq Go.Cq.D Go.RowKit Go.Proofs
set_option maxRecDepth 10000
theorem up{n i:Nat}(h:i<n)(hn:n≤4611686018427387904):IntKind.wrap .i64 ((i:Int)+1)=((i+1:Nat):Int):=wrap64 (by omega) (by omega)
theorem cA{ts:List Str}{ns:List Int}{i:Nat}(h1:i<ts.length)(h2:i<ns.length):eV (ts.drop i) (ns.drop i)=(dk ts[i] ns[i]&&eV (ts.drop (i+1)) (ns.drop (i+1))):=by rw[List.drop_eq_getElem_cons h1,List.drop_eq_getElem_cons h2,eV]
theorem lL(b1 b2:Bool)(p:Pages)(h1:p.tx.length≤4611686018427387904)(h2:p.rf.length≤4611686018427387904):bC Try.prog 82 [.agg [.ro b1 1 (p.tx.map rS),.ro b2 1 (p.rf.map rI)]] (.v (.one (dB (bo p)))):=by
 refine aQ hmix Try.func82 ok82 ?_;conv=>whnf
 refine CondP.mk (fun h=>?_) (fun h=>?_)<;>rw[h]<;>(conv=>whnf)<;>repeat' first|(refine aE ?_;conv=>whnf)|(refine aD ?_;conv=>whnf)
 ·refine⟨?_,rfl⟩;have:¬p.tx.length=p.rf.length:=by simp at h;omega
  simp[bo,this,dB]
 ·have hl:p.tx.length=p.rf.length:=by simp at h;omega
  refine aC [.pass,.pass,.pass] rfl rfl rfl (kN _ _ _) rfl ?_
  (conv=>whnf)<;>repeat' first|(refine aE ?_;conv=>whnf)|(refine aD ?_;conv=>whnf)
  refine CondP.mk (fun h=>?_) (fun h=>?_)<;>conv=>whnf
  ·refine⟨?_,rfl⟩;have h:inB p.tx.length 1 12=false:=by simpa using h
   simp[bo,h,dB]
  ·have hb:inB p.tx.length 1 12=true:=by simpa using h
   refine ai (fun i:Nat=>[(1,.v (.one (.ptr 0 0 0))),(21,.v (.one (.ro b2 1 (p.rf.map rI)))),(22,.v (.one (dI (p.rf.map rI).length))),(23,.v (.one (dI i)))]) (fun _=>[(0,.box [.ro b1 1 (p.tx.map rS),.ro b2 1 (p.rf.map rI)])]) (fun _=>1)
    (fun i=>i≤p.rf.length∧bo p=eV (p.tx.drop i) (p.rf.drop i)) (fun i=>p.rf.length-i) 0 ⟨by omega,by simp[bo,hl,hl▸hb]⟩ rfl rfl rfl fun i hi=>?_
   conv=>whnf
   refine CondP.mk (fun h=>?_) (fun h=>?_)<;>conv=>whnf
   ·have hi2:i<p.rf.length:=by simpa using h
    have hi1:i<p.tx.length:=by omega
    refine aK (k:=i) rfl rfl (by simpa using hi2) ?_;conv=>whnf
    refine aH rfl (r:=.one (dI p.rf[i])) (by simp[an,rI,hi2,eI,dI]) ?_;conv=>whnf
    refine CondP.mk (fun h0=>?_) (fun h0=>?_)<;>conv=>whnf
    all_goals
     refine aC [.pass,.pass,.pass] rfl rfl rfl (kN _ _ _) rfl ?_;conv=>whnf
     refine CondP.mk (fun h9=>?_) (fun h9=>?_)<;>rw[h9]<;>(conv=>whnf)<;>repeat' first|(refine aE ?_;conv=>whnf)|(refine aD ?_;conv=>whnf)
    ·refine⟨?_,rfl⟩;have h9:inB p.rf[i] 0 99=false:=by simpa using h9
     rw[hi.2,cA hi1 hi2,dk,h9];rfl
    ·have h9:inB p.rf[i] 0 99=true:=by simpa using h9
     refine aK (k:=i) rfl rfl (by simpa using hi1) ?_
     (conv=>whnf)<;>repeat' first|(refine aE ?_;conv=>whnf)|(refine aD ?_;conv=>whnf)
     refine aH rfl (r:=.one (.sc (.str p.tx[i]))) (by simp[an,rS,hi1,eS]) ?_
     (conv=>whnf)<;>repeat' first|(refine aE ?_;conv=>whnf)|(refine aD ?_;conv=>whnf)
     refine CondP.mk (fun h8=>?_) (fun h8=>?_)<;>conv=>whnf
     ·refine⟨?_,rfl⟩;rw[hi.2,cA hi1 hi2,dk,h9];simp at h0 h8;simp[h0,h8,dB]
     ·refine⟨i+1,by omega,⟨by omega,?_⟩,?_,rfl,rfl⟩
      ·rw[hi.2,cA hi1 hi2,dk,h9];simp at h0 h8;simp[h0,h8]
      ·rw[←up hi2 h2];rfl
    ·refine⟨?_,rfl⟩;have h9:inB p.rf[i] 0 99=false:=by simpa using h9
     rw[hi.2,cA hi1 hi2,dk,h9];rfl
    ·have h9:inB p.rf[i] 0 99=true:=by simpa using h9
     refine aK (k:=i) rfl rfl (by simpa using hi1) ?_
     (conv=>whnf)<;>repeat' first|(refine aE ?_;conv=>whnf)|(refine aD ?_;conv=>whnf)
     refine aH rfl (r:=.one (.sc (.str p.tx[i]))) (by simp[an,rS,hi1,eS]) ?_
     (conv=>whnf)<;>repeat' first|(refine aE ?_;conv=>whnf)|(refine aD ?_;conv=>whnf)
     refine CondP.mk (fun h8=>?_) (fun h8=>?_)<;>conv=>whnf
     ·refine⟨?_,rfl⟩;rw[hi.2,cA hi1 hi2,dk,h9];simp at h0 h8;simp[h0,h8,dB]
     ·refine⟨i+1,by omega,⟨by omega,?_⟩,?_,rfl,rfl⟩
      ·rw[hi.2,cA hi1 hi2,dk,h9];simp at h0 h8;simp[h0,h8]
      ·rw[←up hi2 h2];rfl
   ·refine⟨?_,rfl⟩;have:i=p.rf.length:=by
                   have:¬i<p.rf.length:=by simpa using h
                   omega
    subst this;have:=hi.2;rw[List.drop_eq_nil_of_le (by omega),eV]at this;rw[this];rfl
    all_goals simp
end Go.Qm
namespace Go.Qm
open Go.Cq Go.Cq.D Go.RowKit Go.Proofs
set_option maxRecDepth 10000
def aA(a:Area):List DC:=[dI a.fr,dI a.mn,dB a.wr,dB a.sh]
theorem ldA{b:Bool}{l:List Area}{i:Nat}(h:i<l.length):(an b (l.map rA) i 0 4).map DV.agg=some (.agg (aA l[i])):=by simp[an,rA,h,eI,eB,aA,dI,dB]
theorem ix{i:Nat}{n:Nat}(h:i<n)(hn:n≤4611686018427387904)(hi:i≠0):some (IntKind.wrap .i64 ((i:Int)-1))=some (((i-1:Nat):Nat):Int):=by rw[wrap64 (by omega) (by omega)];congr 1;omega
theorem aDD{a:Area}(h:bI a=true):IntKind.wrap .i64 (a.fr+a.mn)=a.fr+a.mn:=by have:=fj.1 h;exact wrap64 (by omega) (by omega)
set_option maxHeartbeats 2000000 in
theorem pX(b:Bool)(l:List Area)(hl:l.length≤4611686018427387904):bC Try.prog 83 [.one (.ro b 4 (l.map rA))] (.v (.one (dB (ay l)))):=by
 refine aQ hmix Try.func83 ok83 ?_;conv=>whnf
 refine ai (fun i:Nat=>[(0,.v (.one (.ro b 4 (l.map rA)))),(5,.v (.one (.ro b 4 (l.map rA)))),(6,.v (.one (dI (l.map rA).length))),(7,.v (.one (dI i)))]) (fun _=>[]) (fun _=>0)
  (fun i=>i≤l.length∧ay l=(dr l i&&decide (l.length≤6))∧∀j(hj:j<l.length),j<i→bI l[j]=true) (fun i=>l.length-i) 0 ⟨by omega,rfl,by omega⟩ rfl rfl rfl fun i hi=>?_
 obtain⟨hi1,hi2,hi3⟩:=hi;conv=>whnf
 refine CondP.mk (fun h=>?_) (fun h=>?_)<;>conv=>whnf
 ·have hlt:i<l.length:=by simpa using h
  refine aK (k:=i) rfl rfl (by simpa using hlt) ?_;conv=>whnf
  refine aH rfl (r:=.agg (aA l[i])) (ldA hlt) ?_;conv=>whnf
  refine aC [.pass] rfl rfl rfl (xT l[i]) rfl ?_;conv=>whnf
  have fin:bI l[i]=false→DT.v (DV.one (DC.sc (.bool false)))= .v (.one (dB (ay l))):=fun e=>by rw[hi2,dR hlt,e];rfl
  refine CondP.mk (fun h1=>?_) (fun h1=>?_)<;>rw[h1]<;>(conv=>whnf)<;>repeat' first|(refine aE ?_;conv=>whnf)|(refine aD ?_;conv=>whnf)
  ·exact⟨fin (by simpa using h1),rfl⟩
  ·have ho:bI l[i]=true:=by simpa using h1
   have hstep:decide (0< (i:Int))=false∨jh l i l[i]=true→ay l=(dr l (i+1)&&decide (l.length≤6)):=fun e=>by
    rw[hi2,dR hlt,ho];rcases e with e|e
    ·have:i=0:=by simp at e;omega
     simp[this]
    ·rw[e];simp
   have hall:∀j(hj:j<l.length),j<i+1→bI l[j]=true:=fun j hj h2=>by
    by_cases e:j=i
    ·subst e;exact ho
    ·exact hi3 j hj (by omega)
   refine CondP.mk (fun h2=>?_) (fun h2=>?_)<;>rw[h2]<;>(conv=>whnf)<;>repeat' first|(refine aE ?_;conv=>whnf)|(refine aD ?_;conv=>whnf)
   ·have hi0:i≠0:=by simp at h2;omega
    have hlt':i-1<l.length:=by omega
    refine aK (k:=i-1) rfl (ix hlt hl hi0) (by simpa using hlt') ?_
    (conv=>whnf)<;>repeat' first|(refine aE ?_;conv=>whnf)|(refine aD ?_;conv=>whnf)
    refine aH rfl (r:=.agg (aA l[i-1])) (ldA hlt') ?_
    (conv=>whnf)<;>repeat' first|(refine aE ?_;conv=>whnf)|(refine aD ?_;conv=>whnf)
    refine aC [.pass] rfl rfl rfl (zB l[i-1]) rfl ?_
    (conv=>whnf)<;>repeat' first|(refine aE ?_;conv=>whnf)|(refine aD ?_;conv=>whnf)
    have he:=aDD (hi3 (i-1) hlt' (by omega));rw[he];refine CondP.mk (fun h3=>?_) (fun h3=>?_)<;>conv=>whnf
    ·refine⟨?_,rfl⟩;rw[hi2,dR hlt,ho,jh,List.getElem?_eq_getElem hlt'];have:¬l[i-1].fr+l[i-1].mn≤l[i].fr:=by simpa using h3
     simp[this,hi0,dB]
    ·refine⟨i+1,by omega,⟨by omega,hstep (.inr ?_),hall⟩,?_,rfl,rfl⟩
     ·rw[jh,List.getElem?_eq_getElem hlt'];simpa using h3
     ·rw[←up hlt hl];rfl
   ·refine⟨i+1,by omega,⟨by omega,hstep (.inl h2),hall⟩,?_,rfl,rfl⟩;rw[←up hlt hl];rfl
 ·refine⟨?_,rfl⟩;have:i=l.length:=by
               have:¬i<l.length:=by simpa using h
               omega
  subst this;rw[hi2,dr,List.drop_length];simp[eW,dB];omega
end Go.Qm
namespace Go.Qm
open Go.Cq Go.Cq.D Go.RowKit Go.Proofs
set_option maxRecDepth 10000
end Go.Qm
namespace Go.Qm
open Go.Cq Go.Cq.D Go.RowKit Go.Proofs
set_option maxRecDepth 10000
def aL(a:Slot):List DC:=[dI a.kd,dI a.pl,dB a.ow,dB a.us]
def aP(b:Bool)(s:Space):List DC:=[dB s.lv,.ro b 4 (s.ar.map rA),.ro b 4 (s.sl.map rL)]
theorem ldL{b:Bool}{l:List Slot}{i:Nat}(h:i<l.length):(an b (l.map rL) i 0 4).map DV.agg=some (.agg (aL l[i])):=by simp[an,rL,h,eI,eB,aL,dI,dB]
theorem ldP{b:Bool}{l:List Space}{i:Nat}(h:i<l.length):(an b (l.map rP) i 0 3).map DV.agg=some (.agg (aP b l[i])):=by simp[an,rP,h,eB,aP,dB]
def aDK(n:Nat)(l:List Space):Prop:=∀s,s∈l→s.ar.length≤n∧s.sl.length≤n
structure Mem.fits(n:Nat)(m:Mem):Prop where
 rt:m.ram.tx.length≤n
 rr:m.ram.rf.length≤n
 st:m.swp.tx.length≤n
 sr:m.swp.rf.length≤n
 sp:m.sp.length≤n
 ss:aDK n m.sp
def aM(b1 b2 b3 b4 b5:Bool)(m:Mem):DV:=.agg [.ro b1 1 (m.ram.tx.map rS),.ro b2 1 (m.ram.rf.map rI),.ro b3 1 (m.swp.tx.map rS),.ro b4 1 (m.swp.rf.map rI),.ro b5 3 (m.sp.map rP),dI m.hd]
end Go.Qm
namespace Go.Qm
open Go.Cq Go.Cq.D Go.RowKit Go.Proofs
set_option maxRecDepth 10000
end Go.Qm
namespace Go.Qm
open Go.Cq Go.Cq.D Go.RowKit Go.Proofs
set_option maxRecDepth 10000
end Go.Qm
namespace Go.Qm
open Go.Cq Go.Cq.D Go.RowKit Go.Proofs
set_option maxRecDepth 10000
def oM(m:Mem):DV:=.agg [.own 1 (m.ram.tx.map rS),.own 1 (m.ram.rf.map rI),.own 1 (m.swp.tx.map rS),.own 1 (m.swp.rf.map rI),.own 3 (m.sp.map rP),dI m.hd]
end Go.Qm
namespace Go.Qm
open Go.Cq Go.Cq.D Go.RowKit Go.Proofs
set_option maxRecDepth 10000
end Go.Qm
namespace Go.Qm
open Go.Cq Go.Cq.D Go.RowKit Go.Proofs
set_option maxRecDepth 10000
end Go.Qm
namespace Go.Qm
open Go.Cq Go.Cq.D Go.RowKit Go.Proofs
set_option maxRecDepth 10000
theorem ao{es:List (List PV)}{i:Nat}{row:List PV}{f:List PV→List PV}(h:es[i]?=some row):es.modify i f=es.set i (f row):=by
 refine List.ext_getElem? fun j=>?_
 rw[List.getElem?_modify,List.getElem?_set];by_cases e:i=j
 ·subst e;obtain⟨hi,e⟩:=List.getElem?_eq_some_iff.1 h;rw[h,if_pos rfl,if_pos hi];simp
 ·rw[if_neg e];cases es[j]?<;>simp[e]
theorem aj{α:Type}{f:α→List PV}{l:List α}{i:Nat}{a:α}(h:l[i]?=some a):(l.map f)[i]?=some (f a):=by simp[h]
theorem dt{α:Type}{f:α→List PV}(hf:∀a,(f a).length=4){l:List α}{i:Nat}:∀row,(l.map f)[i]?=some row→row.length=4:=by intro row h;obtain⟨a, -,rfl⟩:=List.mem_map.1 (List.mem_of_getElem? h);exact hf a
end Go.Qm
namespace Go.Qm
open Go.Cq Go.Cq.D Go.RowKit Go.Proofs
set_option maxRecDepth 10000
end Go.Qm
namespace Go.Qm
open Go.Cq Go.Cq.D Go.RowKit Go.Proofs
set_option maxRecDepth 10000
theorem yd(b:Bool)(l:List Area)(hl:l.length≤1048576):bC Try.prog 101 [.one (.ro b 4 (l.map rA))] (.v (.one (.own 4 (l.map rA)))):=by
 refine aQ hmix Try.func101 ok101 ?_;have hl':(l.map rA).length≤1048576:=by rw[List.length_map];exact hl
 conv=>whnf
 refine qX rfl fun v hv=>?_
 conv=>whnf
 refine CondP.mk (fun h=>?_) (fun h=>?_)
 ·subst h;have e:=hv rfl;rw[e];conv=>whnf
  exact⟨rfl,rfl⟩
 ·subst h;conv=>whnf
  refine bV rfl rfl rfl ?_;conv=>whnf
  refine fP rfl rfl rfl rfl (iS sL l) rfl (by omega) (by omega) ?_;conv=>whnf
  refine⟨?_,rfl⟩;simp
theorem yi(b:Bool)(l:List Slot)(hl:l.length≤1048576):bC Try.prog 102 [.one (.ro b 4 (l.map rL))] (.v (.one (.own 4 (l.map rL)))):=by
 refine aQ hmix Try.func102 ok102 ?_;have hl':(l.map rL).length≤1048576:=by rw[List.length_map];exact hl
 conv=>whnf
 refine qX rfl fun v hv=>?_
 conv=>whnf
 refine CondP.mk (fun h=>?_) (fun h=>?_)
 ·subst h;have e:=hv rfl;rw[e];conv=>whnf
  exact⟨rfl,rfl⟩
 ·subst h;conv=>whnf
  refine bV rfl rfl rfl ?_;conv=>whnf
  refine fP rfl rfl rfl rfl (iS ck l) rfl (by omega) (by omega) ?_;conv=>whnf
  refine⟨?_,rfl⟩;simp
theorem kq(b1 b2:Bool)(p:Pages)(h1:p.tx.length≤1048576)(h2:p.rf.length≤1048576):bC Try.prog 129 [.agg [.ro b1 1 (p.tx.map rS),.ro b2 1 (p.rf.map rI)]] (.v (.agg [.own 1 (p.tx.map rS),.own 1 (p.rf.map rI)])):=by
 refine aQ hmix Try.func129 ok129 ?_;have h1':(p.tx.map rS).length≤1048576:=by rw[List.length_map];exact h1
 have h2':(p.rf.map rI).length≤1048576:=by rw[List.length_map];exact h2
 conv=>whnf
 refine bV rfl rfl rfl ?_;conv=>whnf
 refine fP rfl rfl rfl rfl (iS wN p.tx) rfl (by omega) (by omega) ?_;conv=>whnf
 refine bV rfl rfl rfl ?_;conv=>whnf
 refine fP rfl rfl rfl rfl (iS wi p.rf) rfl (by omega) (by omega) ?_;conv=>whnf
 refine⟨?_,rfl⟩;simp
theorem qj(b1 b2:Bool)(p:Pages)(h1:p.tx.length≤1048576)(h2:p.rf.length≤1048576):bC Try.prog 125 [.agg [.ro b1 1 (p.tx.map rS),.ro b2 1 (p.rf.map rI)]] (.v (.agg [.own 1 (p.tx.map rS),.own 1 (p.rf.map rI)])):=by
 refine aQ hmix Try.func125 ok125 ?_;have h1':(p.tx.map rS).length≤1048576:=by rw[List.length_map];exact h1
 have h2':(p.rf.map rI).length≤1048576:=by rw[List.length_map];exact h2
 conv=>whnf
 refine bV rfl rfl rfl ?_;conv=>whnf
 refine fP rfl rfl rfl rfl (iS wN p.tx) rfl (by omega) (by omega) ?_;conv=>whnf
 refine bV rfl rfl rfl ?_;conv=>whnf
 refine fP rfl rfl rfl rfl (iS wi p.rf) rfl (by omega) (by omega) ?_;conv=>whnf
 refine⟨?_,rfl⟩;simp
set_option maxHeartbeats 1000000 in
theorem nT(b1 b2 b3 b4 b5:Bool)(m:Mem)(h:m.fits 1048576):bC Try.prog 64 [aM b1 b2 b3 b4 b5 m] (.v (oM m)):=by
 refine aQ hmix Try.func64 ok64 ?_;conv=>whnf
 refine aC [.pass] rfl rfl rfl (kq _ _ m.ram h.rt h.rr) rfl ?_;conv=>whnf
 refine aC [.pass] rfl rfl rfl (kq _ _ m.swp h.st h.sr) rfl ?_;conv=>whnf
 refine ai (fun i:Nat=>[(2,.v (.one (.ptr 1 0 0))),(3,.v (.one (.ptr 6 0 0))),(16,.v (.one (.ro b5 3 (m.sp.map rP)))),(17,.v (.one (dI (m.sp.map rP).length))),(18,.v (.one (dI i)))])
  (fun i=>[(6,.box [.own 1 (m.ram.tx.map rS),.own 1 (m.ram.rf.map rI),.own 1 (m.swp.tx.map rS),.own 1 (m.swp.rf.map rI),.own 3 ((m.sp.take i).map rP),dI m.hd]),(1,.box [.own 1 [],.own 1 [],.own 1 [],.own 1 [],.own 3 [],dI 0])]) (fun _=>7)
  (fun i=>i≤m.sp.length) (fun i=>m.sp.length-i) 0 (by omega) rfl (by simp[dI]) rfl fun i hi=>?_
 conv=>whnf
 refine CondP.mk (fun h1=>?_) (fun h1=>?_)<;>conv=>whnf
 ·have hlt:i<m.sp.length:=by simpa using h1
  have hs:=h.ss _ (List.getElem_mem hlt);have hz:((m.sp.take i).map rP).length=i:=by rw[List.length_map,List.length_take];omega
  refine aK (k:=i) rfl rfl (by simpa using hlt) ?_;conv=>whnf
  refine aH rfl (ldP hlt) ?_;conv=>whnf
  refine aC [.pass] rfl rfl rfl (yd _ m.sp[i].ar hs.1) rfl ?_;conv=>whnf
  refine aC [.pass] rfl rfl rfl (yi _ m.sp[i].sl hs.2) rfl ?_;conv=>whnf
  refine bV rfl rfl rfl ?_;conv=>whnf
  refine dS [28,31,32] [.h 11 0 1,.h 11 0 2] 1 (sz:=3) rfl rfl rfl rfl rfl rfl rfl rfl (by rw[hz];have:=h.sp;omega) (by rw[hz];have:=h.sp;omega) ?_;conv=>whnf
  refine⟨i+1,by omega,by omega,?_,?_,rfl⟩
  ·rw[up hlt (by have:=h.sp;omega)];rfl
  ·simp only[List.map_take,List.take_succ_eq_append_getElem (show i< (m.sp.map rP).length by simpa using hlt)];simp[rP,eB,dI,List.replicate,List.take_of_length_le]
 ·have:i=m.sp.length:=by
                 have:¬i<m.sp.length:=by simpa using h1
                 omega
  subst this;refine⟨?_,rfl⟩;simp[oM,dI]
end Go.Qm
namespace Go.Qm
open Go.Cq Go.Cq.D Go.RowKit Go.Proofs
set_option maxRecDepth 10000
set_option maxHeartbeats 1000000 in
theorem dz(b1 b2 b3 b4 b5:Bool)(m:Mem)(h:m.fits 1048576):bC Try.prog 60 [aM b1 b2 b3 b4 b5 m] (.v (oM m)):=by
 refine aQ hmix Try.func60 ok60 ?_;conv=>whnf
 refine aC [.pass] rfl rfl rfl (qj _ _ m.ram h.rt h.rr) rfl ?_;conv=>whnf
 refine aC [.pass] rfl rfl rfl (qj _ _ m.swp h.st h.sr) rfl ?_;conv=>whnf
 refine bV rfl rfl rfl ?_;conv=>whnf
 refine ai (fun i:Nat=>[(1,.v (.one (.ptr 0 0 0))),(2,.v (.one (.ptr 1 0 0))),(3,.v (.one (.ptr 7 0 0))),(4,.v (.one (dI i)))])
  (fun i=>[(7,.box [.own 1 (m.ram.tx.map rS),.own 1 (m.ram.rf.map rI),.own 1 (m.swp.tx.map rS),.own 1 (m.swp.rf.map rI),.own 3 ((m.sp.take i).map rP),dI m.hd]),(1,.box [.own 1 [],.own 1 [],.own 1 [],.own 1 [],.own 3 [],dI 0]),(0,.box [.ro b1 1 (m.ram.tx.map rS),.ro b2 1 (m.ram.rf.map rI),.ro b3 1 (m.swp.tx.map rS),.ro b4 1 (m.swp.rf.map rI),.ro b5 3 (m.sp.map rP),dI m.hd])]) (fun _=>8)
  (fun i=>i≤m.sp.length) (fun i=>m.sp.length-i) 0 (by omega) rfl (by simp[dI]) rfl fun i hi=>?_
 conv=>whnf
 refine CondP.mk (fun h1=>?_) (fun h1=>?_)<;>conv=>whnf
 ·have hlt:i<m.sp.length:=by simpa using h1
  have hs:=h.ss _ (List.getElem_mem hlt);have hz:((m.sp.take i).map rP).length=i:=by rw[List.length_map,List.length_take];omega
  have hz1:(m.sp[i].ar.map rA).length≤1048576:=by rw[List.length_map];exact hs.1
  have hz2:(m.sp[i].sl.map rL).length≤1048576:=by rw[List.length_map];exact hs.2
  refine aK (k:=i) rfl rfl (by simpa using hlt) ?_;conv=>whnf
  refine aH rfl (ldP hlt) ?_;conv=>whnf
  refine bV rfl rfl rfl ?_;conv=>whnf
  refine fP rfl rfl rfl rfl (iS sL _) rfl (by omega) (by omega) ?_;conv=>whnf
  refine bV rfl rfl rfl ?_;conv=>whnf
  refine fP rfl rfl rfl rfl (iS ck _) rfl (by omega) (by omega) ?_;conv=>whnf
  refine bV rfl rfl rfl ?_;conv=>whnf
  refine dS [] [.h 12 0 1,.h 12 0 2] 1 (sz:=3) rfl rfl rfl rfl rfl rfl rfl rfl (by rw[hz];have:=h.sp;omega) (by rw[hz];have:=h.sp;omega) ?_;conv=>whnf
  refine⟨i+1,by omega,by omega,?_,?_,rfl⟩
  ·rw[up hlt (by have:=h.sp;omega)];rfl
  ·simp only[List.map_take,List.take_succ_eq_append_getElem (show i< (m.sp.map rP).length by simpa using hlt)];simp[rP,eB,dI,List.replicate,List.take_of_length_le]
 ·have:i=m.sp.length:=by
                 have:¬i<m.sp.length:=by simpa using h1
                 omega
  subst this;refine⟨?_,rfl⟩;simp[oM,dI]
end Go.Qm
namespace Go.Qm
open Go.Cq Go.Cq.D Go.RowKit Go.Proofs
set_option maxRecDepth 10000
theorem aD8{l:List Area}(h:∀a,a∈l→bI a=true){i:Nat}(hi:i<l.length):bI l[i]=true:=h _ (List.getElem_mem hi)
set_option maxHeartbeats 1000000 in
theorem oC(b:Bool)(l:List Area)(page:Int)(hl:l.length≤4611686018427387904)(ho:∀a,a∈l→bI a=true):bC Try.prog 146 [.one (.ro b 4 (l.map rA)),.one (dI page)] (.v (.one (dI (az l page)))):=by
 refine aQ hmix Try.func146 ok146 ?_;conv=>whnf
 refine ai (fun i:Nat=>[(0,.v (.one (.ro b 4 (l.map rA)))),(1,.v (.one (dI page))),(5,.v (.one (dI i)))]) (fun _=>[]) (fun _=>0)
  (fun i=>i≤l.length∧az l page=gP page (l.drop i) i) (fun i=>l.length-i) 0 ⟨by omega,rfl⟩ rfl rfl rfl fun i hi=>?_
 obtain⟨hi1,hi2⟩:=hi;conv=>whnf
 refine CondP.mk (fun h=>?_) (fun h=>?_)<;>conv=>whnf
 ·have hlt:i<l.length:=by simpa using h
  have hok:=fj.1 (aD8 ho hlt);refine aK (k:=i) rfl rfl (by simpa using hlt) ?_;conv=>whnf
  refine aH rfl (r:=.one (dI l[i].fr)) (by simp[an,rA,hlt,eI,dI]) ?_;conv=>whnf
  refine aK (k:=i) rfl rfl (by simpa using hlt) ?_;conv=>whnf
  refine aH rfl (r:=.one (dI l[i].fr)) (by simp[an,rA,hlt,eI,dI]) ?_;conv=>whnf
  refine aK (k:=i) rfl rfl (by simpa using hlt) ?_;conv=>whnf
  refine aH rfl (r:=.one (dI l[i].mn)) (by simp[an,rA,hlt,eI,dI]) ?_;conv=>whnf
  refine aC [.pass,.pass,.pass] rfl rfl rfl (hO _ _ _) rfl ?_;conv=>whnf
  have e1:IntKind.wrap .i64 (l[i].fr+l[i].mn)=l[i].fr+l[i].mn:=wrap64 (by omega) (by omega);have e2:IntKind.wrap .i64 (l[i].fr+l[i].mn-1)=l[i].fr+l[i].mn-1:=wrap64 (by omega) (by omega);refine CondP.mk (fun h1=>?_) (fun h1=>?_)<;>conv=>whnf
  ·refine⟨?_,rfl⟩;rw[e1,e2]at h1;have:l[i].fr≤page∧page<l[i].fr+l[i].mn:=by simp only[inB,Bool.and_eq_true,decide_eq_true_eq]at h1;omega
   rw[hi2,iM hlt,if_pos this];rfl
  ·refine⟨i+1,by omega,⟨by omega,?_⟩,?_,rfl,rfl⟩
   ·rw[e1,e2]at h1;have:¬(l[i].fr≤page∧page<l[i].fr+l[i].mn):=by
     intro ⟨k1,k2⟩;have:inB page l[i].fr (l[i].fr+l[i].mn-1)=true:=by simp only[inB,Bool.and_eq_true,decide_eq_true_eq];omega
     rw[this]at h1;simp at h1
    rw[hi2,iM hlt,if_neg this]
   ·rw[←up hlt hl];rfl
 ·refine⟨?_,rfl⟩;have:i=l.length:=by
               have:¬i<l.length:=by simpa using h
               omega
  subst this;rw[hi2,List.drop_length];rfl
theorem aB0(a:Area)(page:Int)(ho:bI a=true):aC2 Try.prog 97 [.agg (aA a),.one (.ptr 0 0 0)] [dI page] (.v (.one (dB (decide (a.fr≤page)&&decide (page<a.fr+a.mn))))) [dI page]:=by
 refine aQ hmix Try.func97 ok97 ?_;conv=>whnf
 refine CondP.mk (fun h=>?_) (fun h=>?_)<;>rw[h]<;>(conv=>whnf)<;>repeat' first|(refine aE ?_;conv=>whnf)|(refine aD ?_;conv=>whnf)
 ·refine aC [.pass] rfl rfl rfl (zB a) rfl ?_
  (conv=>whnf)<;>repeat' first|(refine aE ?_;conv=>whnf)|(refine aD ?_;conv=>whnf)
  rw[aDD ho];exact⟨rfl,rfl⟩
 ·exact⟨rfl,rfl⟩
set_option maxHeartbeats 1000000 in
theorem rv(b:Bool)(l:List Area)(page:Int)(hl:l.length≤4611686018427387904)(ho:∀a,a∈l→bI a=true):
  aC2 Try.prog 96 [.one (.ro b 4 (l.map rA)),.one (.fn 97 [(0,0,0)])] [dI page] (.v (.one (dI (az l page)))) [dI page]:=by
 refine aQ hmix Try.func96 ok96 ?_;conv=>whnf
 refine ai (fun i:Nat=>[(0,.v (.one (.ro b 4 (l.map rA)))),(1,.v (.one (.fn 97 [(0,0,0)]))),(7,.v (.one (dI (l.map rA).length))),(8,.v (.one (dI i)))]) (fun _=>[(0,.box [dI page])]) (fun _=>1)
  (fun i=>i≤l.length∧az l page=gP page (l.drop i) i) (fun i=>l.length-i) 0 ⟨by omega,rfl⟩ rfl rfl rfl fun i hi=>?_
 obtain⟨hi1,hi2⟩:=hi;conv=>whnf
 refine CondP.mk (fun h=>?_) (fun h=>?_)<;>conv=>whnf
 ·have hlt:i<l.length:=by simpa using h
  refine aK (k:=i) rfl rfl (by simpa using hlt) ?_;conv=>whnf
  refine aH rfl (r:=.agg (aA l[i])) (ldA hlt) ?_;conv=>whnf
  refine yH [.pass,.pass] [0] rfl rfl rfl rfl rfl (aB0 l[i] page (aD8 ho hlt)) fun res H3 hp=>?_
  obtain⟨rfl,rfl⟩:=hp;refine⟨rfl,rfl,_,rfl,?_⟩;conv=>whnf
  refine CondP.mk (fun h1=>?_) (fun h1=>?_)<;>conv=>whnf
  ·refine⟨?_,rfl⟩;have:l[i].fr≤page∧page<l[i].fr+l[i].mn:=by simpa using h1
   rw[hi2,iM hlt,if_pos this];rfl
  ·refine⟨i+1,by omega,⟨by omega,?_⟩,?_,rfl,rfl⟩
   ·have:¬(l[i].fr≤page∧page<l[i].fr+l[i].mn):=by intro ⟨k1,k2⟩;simp[k1,k2]at h1
    rw[hi2,iM hlt,if_neg this]
   ·rw[←up hlt hl];rfl
 ·refine⟨?_,rfl⟩;have:i=l.length:=by
               have:¬i<l.length:=by simpa using h
               omega
  subst this;rw[hi2,List.drop_length];rfl
theorem lR(b:Bool)(l:List Area)(page:Int)(hl:l.length≤4611686018427387904):bC Try.prog 40 [.one (.ro b 4 (l.map rA)),.one (dI page)] (.v (.one (dI (dW l page)))):=by
 refine aQ hmix Try.func40 ok40 ?_;conv=>whnf
 refine aC [.pass] rfl rfl rfl (pX b l hl) rfl ?_;conv=>whnf
 refine CondP.mk (fun h=>?_) (fun h=>?_)<;>conv=>whnf
 ·refine⟨?_,rfl⟩;have:ay l=false:=by simpa using h
  rw[dW,this];rfl
 ·have h:ay l=true:=by simpa using h
  refine aAk rfl rfl ?_;conv=>whnf
  refine oZ [.pass,.pass] [0] rfl rfl rfl rfl (rv b l page hl (fB h)) fun res H3 hp=>?_
  obtain⟨rfl,rfl⟩:=hp;refine⟨rfl,rfl,_,rfl,?_⟩;conv=>whnf
  refine⟨?_,rfl⟩;rw[dW,h];rfl
end Go.Qm
namespace Go.Qm
open Go.Cq Go.Cq.D Go.RowKit Go.Proofs
set_option maxRecDepth 10000
set_option maxHeartbeats 2000000 in
theorem gF(b:Bool)(l:List Area)(hl:l.length≤4611686018427387904):bC Try.prog 148 [.one (.ro b 4 (l.map rA))] (.v (.one (dB (ay l)))):=by
 refine aQ hmix Try.func148 ok148 ?_;conv=>whnf
 refine ai (fun i:Nat=>[(0,.v (.one (.ro b 4 (l.map rA)))),(3,.v (.one (dI i)))]) (fun _=>[]) (fun _=>0)
  (fun i=>i≤l.length∧ay l=(dr l i&&decide (l.length≤6))∧∀j(hj:j<l.length),j<i→bI l[j]=true) (fun i=>l.length-i) 0 ⟨by omega,rfl,by omega⟩ rfl rfl rfl fun i hi=>?_
 obtain⟨hi1,hi2,hi3⟩:=hi;conv=>whnf
 refine CondP.mk (fun h=>?_) (fun h=>?_)<;>conv=>whnf
 ·have hlt:i<l.length:=by simpa using h
  refine aK (k:=i) rfl rfl (by simpa using hlt) ?_;conv=>whnf
  refine aH rfl (r:=.agg (aA l[i])) (ldA hlt) ?_;conv=>whnf
  refine aC [.pass] rfl rfl rfl (lB l[i]) rfl ?_;conv=>whnf
  have fin:bI l[i]=false→DT.v (DV.one (DC.sc (.bool false)))= .v (.one (dB (ay l))):=fun e=>by rw[hi2,dR hlt,e];rfl
  refine CondP.mk (fun h1=>?_) (fun h1=>?_)<;>rw[h1]<;>(conv=>whnf)<;>repeat' first|(refine aE ?_;conv=>whnf)|(refine aD ?_;conv=>whnf)
  ·exact⟨fin (by simpa using h1),rfl⟩
  ·have ho:bI l[i]=true:=by simpa using h1
   have hstep:decide (0< (i:Int))=false∨jh l i l[i]=true→ay l=(dr l (i+1)&&decide (l.length≤6)):=fun e=>by
    rw[hi2,dR hlt,ho];rcases e with e|e
    ·have:i=0:=by simp at e;omega
     simp[this]
    ·rw[e];simp
   have hall:∀j(hj:j<l.length),j<i+1→bI l[j]=true:=fun j hj h2=>by
    by_cases e:j=i
    ·subst e;exact ho
    ·exact hi3 j hj (by omega)
   refine CondP.mk (fun h2=>?_) (fun h2=>?_)<;>rw[h2]<;>(conv=>whnf)<;>repeat' first|(refine aE ?_;conv=>whnf)|(refine aD ?_;conv=>whnf)
   ·have hi0:i≠0:=by simp at h2;omega
    have hlt':i-1<l.length:=by omega
    refine aK (k:=i-1) rfl (ix hlt hl hi0) (by simpa using hlt') ?_
    (conv=>whnf)<;>repeat' first|(refine aE ?_;conv=>whnf)|(refine aD ?_;conv=>whnf)
    refine aH rfl (r:=.one (dI l[i-1].fr)) (by simp[an,rA,hlt',eI,dI]) ?_
    (conv=>whnf)<;>repeat' first|(refine aE ?_;conv=>whnf)|(refine aD ?_;conv=>whnf)
    refine aK (k:=i-1) rfl (ix hlt hl hi0) (by simpa using hlt') ?_
    (conv=>whnf)<;>repeat' first|(refine aE ?_;conv=>whnf)|(refine aD ?_;conv=>whnf)
    refine aH rfl (r:=.one (dI l[i-1].mn)) (by simp[an,rA,hlt',eI,dI]) ?_
    (conv=>whnf)<;>repeat' first|(refine aE ?_;conv=>whnf)|(refine aD ?_;conv=>whnf)
    refine aK (k:=i) rfl rfl (by simpa using hlt) ?_
    (conv=>whnf)<;>repeat' first|(refine aE ?_;conv=>whnf)|(refine aD ?_;conv=>whnf)
    refine aH rfl (r:=.one (dI l[i].fr)) (by simp[an,rA,hlt,eI,dI]) ?_
    (conv=>whnf)<;>repeat' first|(refine aE ?_;conv=>whnf)|(refine aD ?_;conv=>whnf)
    have he:=aDD (hi3 (i-1) hlt' (by omega));rw[he];refine CondP.mk (fun h3=>?_) (fun h3=>?_)<;>conv=>whnf
    ·refine⟨?_,rfl⟩;rw[hi2,dR hlt,ho,jh,List.getElem?_eq_getElem hlt'];have:¬l[i-1].fr+l[i-1].mn≤l[i].fr:=by simpa using h3
     simp[this,hi0,dB]
    ·refine⟨i+1,by omega,⟨by omega,hstep (.inr ?_),hall⟩,?_,rfl,rfl⟩
     ·rw[jh,List.getElem?_eq_getElem hlt'];simpa using h3
     ·rw[←up hlt hl];rfl
   ·refine⟨i+1,by omega,⟨by omega,hstep (.inl h2),hall⟩,?_,rfl,rfl⟩;rw[←up hlt hl];rfl
 ·refine⟨?_,rfl⟩;have:i=l.length:=by
               have:¬i<l.length:=by simpa using h
               omega
  subst this;rw[hi2,dr,List.drop_length];simp[eW,dB];omega
theorem qK(b1 b2:Bool)(s:Space)(page:Int)(hl:s.ar.length≤4611686018427387904):bC Try.prog 85 [.agg [dB s.lv,.ro b1 4 (s.ar.map rA),.ro b2 4 (s.sl.map rL)],.one (dI page)] (.v (.one (dB (jB s.ar (dW s.ar page))))):=by
 refine aQ hmix Try.func85 ok85 ?_;conv=>whnf
 refine aC [.pass,.pass] rfl rfl rfl (lR b1 s.ar page hl) rfl ?_;conv=>whnf
 refine CondP.mk (fun h=>?_) (fun h=>?_)<;>rw[h]<;>(conv=>whnf)<;>repeat' first|(refine aE ?_;conv=>whnf)|(refine aD ?_;conv=>whnf)
 ·have h0:0≤dW s.ar page:=by simpa using h
  have hlt:(dW s.ar page).toNat<s.ar.length:=by
   have e:dW s.ar page=az s.ar page:=by
    by_cases e:ay s.ar=true
    ·rw[dW,if_pos e]
    ·rw[dW,if_neg e]at h0;exact absurd h0 (by decide)
   rw[e]at h0 ⊢;exact kb h0
  refine aK (k:=(dW s.ar page).toNat) rfl (by show some (dW s.ar page)=_;congr 1;omega) (by simpa using hlt) ?_
  (conv=>whnf)<;>repeat' first|(refine aE ?_;conv=>whnf)|(refine aD ?_;conv=>whnf)
  refine aH rfl (r:=.one (dB s.ar[(dW s.ar page).toNat].sh)) (by simp[an,rA,hlt,eB,dB]) ?_;conv=>whnf
  refine⟨?_,rfl⟩;simp[jB,h0,hlt,dB]
 ·refine⟨?_,rfl⟩;have h0:¬0≤dW s.ar page:=by simpa using h
  simp[jB,h0,dB]
theorem kz(b1 b2:Bool)(s:Space)(page:Int)(hl:s.ar.length≤4611686018427387904)(ho:∀a,a∈s.ar→bI a=true):bC Try.prog 149 [.agg [dB s.lv,.ro b1 4 (s.ar.map rA),.ro b2 4 (s.sl.map rL)],.one (dI page)] (.v (.one (dB (jB s.ar (az s.ar page))))):=by
 refine aQ hmix Try.func149 ok149 ?_;conv=>whnf
 refine aC [.pass,.pass] rfl rfl rfl (oC b1 s.ar page hl ho) rfl ?_;conv=>whnf
 refine CondP.mk (fun h=>?_) (fun h=>?_)<;>rw[h]<;>(conv=>whnf)<;>repeat' first|(refine aE ?_;conv=>whnf)|(refine aD ?_;conv=>whnf)
 ·have h0:0≤az s.ar page:=by simpa using h
  have hlt:(az s.ar page).toNat<s.ar.length:=by exact kb h0
  refine aK (k:=(az s.ar page).toNat) rfl (by show some (az s.ar page)=_;congr 1;omega) (by simpa using hlt) ?_
  (conv=>whnf)<;>repeat' first|(refine aE ?_;conv=>whnf)|(refine aD ?_;conv=>whnf)
  refine aH rfl (r:=.one (dB s.ar[(az s.ar page).toNat].sh)) (by simp[an,rA,hlt,eB,dB]) ?_;conv=>whnf
  refine⟨?_,rfl⟩;simp[jB,h0,hlt,dB]
 ·refine⟨?_,rfl⟩;have h0:¬0≤az s.ar page:=by simpa using h
  simp[jB,h0,dB]
theorem aBN(b1 b2 b3 b4 b5:Bool)(m:Mem)(k:Int)(hl:m.sp.length≤4611686018427387904):bC Try.prog 63 [.agg [.ro b1 1 (m.ram.tx.map rS),.ro b2 1 (m.ram.rf.map rI),.ro b3 1 (m.swp.tx.map rS),.ro b4 1 (m.swp.rf.map rI),.ro b5 3 (m.sp.map rP),dI m.hd],.one (dI k)] (.v (.one (dB (fT m.sp k)))):=by
 refine aQ hmix Try.func63 ok63 ?_;conv=>whnf
 refine aC [.pass,.pass,.pass] rfl rfl rfl (kN _ _ _) rfl ?_;conv=>whnf
 have hw:IntKind.wrap .i64 ((m.sp.map rP).length-1)=m.sp.length-1:=by rw[List.length_map];exact wrap64 (by omega) (by omega)
 refine CondP.mk (fun h=>?_) (fun h=>?_)<;>rw[h]<;>(conv=>whnf)<;>repeat' first|(refine aE ?_;conv=>whnf)|(refine aD ?_;conv=>whnf)
 ·have h':=h;rw[show IntKind.wrap .i64 _=_ from hw]at h';have hk:=h';simp only[inB,Bool.and_eq_true,decide_eq_true_eq]at hk;have hlt:k.toNat<m.sp.length:=by omega
  refine aK (k:=k.toNat) rfl (by show some k=_;congr 1;omega) (by simpa using hlt) ?_
  (conv=>whnf)<;>repeat' first|(refine aE ?_;conv=>whnf)|(refine aD ?_;conv=>whnf)
  refine aH rfl (r:=.one (dB m.sp[k.toNat].lv)) (by simp[an,rP,hlt,eB,dB]) ?_;conv=>whnf
  refine⟨?_,rfl⟩;simp[fT,h',hlt,dB]
 ·rw[show IntKind.wrap .i64 _=_ from hw]at h;refine⟨?_,rfl⟩;rw[fT,h];rfl
theorem mH(b1 b2 b3 b4 b5:Bool)(m:Mem)(k:Int)(hl:m.sp.length≤4611686018427387904):bC Try.prog 58 [.agg [.ro b1 1 (m.ram.tx.map rS),.ro b2 1 (m.ram.rf.map rI),.ro b3 1 (m.swp.tx.map rS),.ro b4 1 (m.swp.rf.map rI),.ro b5 3 (m.sp.map rP),dI m.hd],.one (dI k)] (.v (.one (dB (fT m.sp k)))):=by
 refine aQ hmix Try.func58 ok58 ?_;conv=>whnf
 refine aC [.pass,.pass,.pass] rfl rfl rfl (hO _ _ _) rfl ?_;conv=>whnf
 have hw:IntKind.wrap .i64 ((m.sp.map rP).length-1)=m.sp.length-1:=by rw[List.length_map];exact wrap64 (by omega) (by omega)
 refine CondP.mk (fun h=>?_) (fun h=>?_)<;>rw[h]<;>(conv=>whnf)<;>repeat' first|(refine aE ?_;conv=>whnf)|(refine aD ?_;conv=>whnf)
 ·have h':=h;rw[show IntKind.wrap .i64 _=_ from hw]at h';have hk:=h';simp only[inB,Bool.and_eq_true,decide_eq_true_eq]at hk;have hlt:k.toNat<m.sp.length:=by omega
  refine aK (k:=k.toNat) rfl (by show some k=_;congr 1;omega) (by simpa using hlt) ?_
  (conv=>whnf)<;>repeat' first|(refine aE ?_;conv=>whnf)|(refine aD ?_;conv=>whnf)
  refine aH rfl (r:=.one (dB m.sp[k.toNat].lv)) (by simp[an,rP,hlt,eB,dB]) ?_;conv=>whnf
  refine⟨?_,rfl⟩;simp[fT,h',hlt,dB]
 ·rw[show IntKind.wrap .i64 _=_ from hw]at h;refine⟨?_,rfl⟩;rw[fT,h];rfl
end Go.Qm
namespace Go.Qm
open Go.Cq Go.Cq.D Go.RowKit Go.Proofs
set_option maxRecDepth 10000
set_option maxHeartbeats 1000000 in
theorem nK(b1 b2:Bool)(p:Pages)(h1:p.tx.length≤4611686018427387904)(h2:p.rf.length≤4611686018427387904):bC Try.prog 86 [.agg [.ro b1 1 (p.tx.map rS),.ro b2 1 (p.rf.map rI)]] (.v (.one (dB (bo p)))):=by
 refine aQ hmix Try.func86 ok86 ?_;conv=>whnf
 refine CondP.mk (fun h=>?_) (fun h=>?_)<;>rw[h]<;>(conv=>whnf)<;>repeat' first|(refine aE ?_;conv=>whnf)|(refine aD ?_;conv=>whnf)
 ·refine⟨?_,rfl⟩;have:¬p.tx.length=p.rf.length:=by simp at h;omega
  simp[bo,this,dB]
 ·have hl:p.tx.length=p.rf.length:=by simp at h;omega
  refine aC [.pass,.pass,.pass] rfl rfl rfl (hO _ _ _) rfl ?_
  (conv=>whnf)<;>repeat' first|(refine aE ?_;conv=>whnf)|(refine aD ?_;conv=>whnf)
  refine CondP.mk (fun h=>?_) (fun h=>?_)<;>conv=>whnf
  ·refine⟨?_,rfl⟩;have h:inB p.tx.length 1 12=false:=by simpa using h
   simp[bo,h,dB]
  ·have hb:inB p.tx.length 1 12=true:=by simpa using h
   refine ai (fun i:Nat=>[(1,.v (.one (.ptr 0 0 0))),(3,.v (.one (dI i)))]) (fun _=>[(0,.box [.ro b1 1 (p.tx.map rS),.ro b2 1 (p.rf.map rI)])]) (fun _=>1)
    (fun i=>i≤p.rf.length∧bo p=eV (p.tx.drop i) (p.rf.drop i)) (fun i=>p.rf.length-i) 0 ⟨by omega,by simp[bo,hl,hl▸hb]⟩ rfl rfl rfl fun i hi=>?_
   conv=>whnf
   refine CondP.mk (fun h=>?_) (fun h=>?_)<;>conv=>whnf
   ·have hi1:i<p.tx.length:=by simpa using h
    have hi2:i<p.rf.length:=by omega
    refine aK (k:=i) rfl rfl (by simpa using hi2) ?_;conv=>whnf
    refine aH rfl (r:=.one (dI p.rf[i])) (by simp[an,rI,hi2,eI,dI]) ?_;conv=>whnf
    refine CondP.mk (fun h0=>?_) (fun h0=>?_)<;>conv=>whnf
    all_goals
     refine aK (k:=i) rfl rfl (by simpa using hi2) ?_;conv=>whnf
     refine aH rfl (r:=.one (dI p.rf[i])) (by simp[an,rI,hi2,eI,dI]) ?_;conv=>whnf
     refine aC [.pass,.pass,.pass] rfl rfl rfl (hO _ _ _) rfl ?_;conv=>whnf
     refine CondP.mk (fun h9=>?_) (fun h9=>?_)<;>rw[h9]<;>(conv=>whnf)<;>repeat' first|(refine aE ?_;conv=>whnf)|(refine aD ?_;conv=>whnf)
    ·refine⟨?_,rfl⟩;have h9:inB p.rf[i] 0 99=false:=by simpa using h9
     rw[hi.2,cA hi1 hi2,dk,h9];rfl
    ·have h9:inB p.rf[i] 0 99=true:=by simpa using h9
     refine aK (k:=i) rfl rfl (by simpa using hi1) ?_
     (conv=>whnf)<;>repeat' first|(refine aE ?_;conv=>whnf)|(refine aD ?_;conv=>whnf)
     refine aH rfl (r:=.one (.sc (.str p.tx[i]))) (by simp[an,rS,hi1,eS]) ?_
     (conv=>whnf)<;>repeat' first|(refine aE ?_;conv=>whnf)|(refine aD ?_;conv=>whnf)
     refine CondP.mk (fun h8=>?_) (fun h8=>?_)<;>conv=>whnf
     ·refine⟨?_,rfl⟩;rw[hi.2,cA hi1 hi2,dk,h9];simp at h0 h8;simp[h0,h8,dB]
     ·refine⟨i+1,by omega,⟨by omega,?_⟩,?_,rfl,rfl⟩
      ·rw[hi.2,cA hi1 hi2,dk,h9];simp at h0 h8;simp[h0,h8]
      ·rw[←up hi2 h2];rfl
    ·refine⟨?_,rfl⟩;have h9:inB p.rf[i] 0 99=false:=by simpa using h9
     rw[hi.2,cA hi1 hi2,dk,h9];rfl
    ·have h9:inB p.rf[i] 0 99=true:=by simpa using h9
     refine aK (k:=i) rfl rfl (by simpa using hi1) ?_
     (conv=>whnf)<;>repeat' first|(refine aE ?_;conv=>whnf)|(refine aD ?_;conv=>whnf)
     refine aH rfl (r:=.one (.sc (.str p.tx[i]))) (by simp[an,rS,hi1,eS]) ?_
     (conv=>whnf)<;>repeat' first|(refine aE ?_;conv=>whnf)|(refine aD ?_;conv=>whnf)
     refine CondP.mk (fun h8=>?_) (fun h8=>?_)<;>conv=>whnf
     ·refine⟨?_,rfl⟩;rw[hi.2,cA hi1 hi2,dk,h9];simp at h0 h8;simp[h0,h8,dB]
     ·refine⟨i+1,by omega,⟨by omega,?_⟩,?_,rfl,rfl⟩
      ·rw[hi.2,cA hi1 hi2,dk,h9];simp at h0 h8;simp[h0,h8]
      ·rw[←up hi2 h2];rfl
   ·refine⟨?_,rfl⟩;have:i=p.tx.length:=by
                   have:¬i<p.tx.length:=by simpa using h
                   omega
    subst this;have:=hi.2;rw[List.drop_eq_nil_of_le (by omega),eV]at this;rw[this];rfl
    all_goals simp
end Go.Qm
namespace Go.Qm
open Go.Cq Go.Cq.D Go.RowKit Go.Proofs
set_option maxRecDepth 10000
theorem fZ{b:Bool}(h:b=false):DT.v (DV.one (DC.sc (.bool false)))= .v (.one (dB b))∧([]:DH)=[]:=by rw[h];exact⟨rfl,rfl⟩
theorem aCU{b:Bool}(h:b=true):DT.v (DV.one (DC.sc (.bool true)))= .v (.one (dB b))∧([]:DH)=[]:=by rw[h];exact⟨rfl,rfl⟩
theorem oG{P:Prg}{ts:DTs}{H:DH}{n:Nat}{K:DT→DTs→DH→Nat→List Nat→Prop}{neg:Bool}{ks:List LK}{x y:Opd}{xs ys:List DC}{cs ds:List CV}{b:Bool}(h1:evD ts x=some (.agg xs))(h2:evD ts y=some (.agg ys))(h3:fq xs=some cs)(h4:fq ys=some ds)(h5:bF ks cs ds=some b)(h:K (.v (.one (.sc (.bool (if neg then !b else b))))) ts H n []):OpP P (.eqA neg ks x y) ts H n K:=⟨⟨xs,ys,cs,ds,b,h1,h2,h3,h4,h5,h⟩⟩
set_option maxHeartbeats 1000000 in
theorem vq(b1 b2:Bool)(s:Space)(h1:s.ar.length≤4611686018427387904)(h2:s.sl.length≤4611686018427387904):bC Try.prog 88 [.agg [dB s.lv,.ro b1 4 (s.ar.map rA),.ro b2 4 (s.sl.map rL)]] (.v (.one (dB (ba s)))):=by
 refine aQ hmix Try.func88 ok88 ?_;conv=>whnf
 refine CondP.mk (fun h=>?_) (fun h=>?_)<;>conv=>whnf
 ·have h:s.lv=false:=by simpa using h
  refine CondP.mk (fun h3=>?_) (fun h3=>?_)<;>rw[h3]<;>(conv=>whnf)<;>repeat' first|(refine aE ?_;conv=>whnf)|(refine aD ?_;conv=>whnf)
  ·refine⟨?_,rfl⟩;simp at h3;simp[ba,h,h3,dB]
  ·refine fZ ?_;simp at h3;simp[ba,h,h3]
 have hv:s.lv=true:=by simpa using h
 refine aC [.pass] rfl rfl rfl (gF b1 s.ar h1) rfl ?_;conv=>whnf
 refine CondP.mk (fun h=>?_) (fun h=>?_)<;>rw[h]<;>(conv=>whnf)<;>repeat' first|(refine aE ?_;conv=>whnf)|(refine aD ?_;conv=>whnf)
 ·refine fZ ?_;have h:ay s.ar=false:=by simpa using h
  simp[ba,hv,h]
 have ho:ay s.ar=true:=by simpa using h
 refine CondP.mk (fun h=>?_) (fun h=>?_)<;>conv=>whnf
 ·refine fZ ?_;have h:¬s.sl.length=16:=by simp at h;omega
  simp[ba,hv,ho,h]
 have hl:s.sl.length=16:=by simp at h;omega
 refine ai (fun i:Nat=>[(1,.v (.one (.ptr 0 0 0))),(3,.v (.one (dI i)))]) (fun _=>[(0,.box [dB s.lv,.ro b1 4 (s.ar.map rA),.ro b2 4 (s.sl.map rL)])]) (fun _=>1)
  (fun i=>i≤s.sl.length∧ba s=cu s.ar i (s.sl.drop i)) (fun i=>s.sl.length-i) 0 ⟨by omega,by simp[ba,hv,ho,hl]⟩ rfl rfl rfl fun i hi=>?_
 obtain⟨hi1,hi2⟩:=hi;conv=>whnf
 refine CondP.mk (fun h=>?_) (fun h=>?_)<;>conv=>whnf
 ·have hlt:i<s.sl.length:=by simp at h;omega
  have no:cw s.ar i s.sl[i]=false→ba s=false:=fun e=>by rw[hi2,kO hlt,e];rfl
  refine aK (k:=i) rfl rfl (by simpa using hlt) ?_;conv=>whnf
  refine aH rfl (ldL hlt) ?_;conv=>whnf
  refine aC [.pass,.pass] rfl rfl rfl (oC b1 s.ar i h1 (fB ho)) rfl ?_;conv=>whnf
  have yes:cw s.ar i s.sl[i]=true→ba s=cu s.ar (i+1) (s.sl.drop (i+1)):=fun e=>by rw[hi2,kO hlt,e];rfl
  refine CondP.mk (fun h3=>?_) (fun h3=>?_)<;>rw[h3]<;>conv=>whnf
  ·have h3:s.sl[i].kd=0:=by simpa using h3
   refine oG rfl rfl rfl rfl rfl ?_;conv=>whnf
   have e:(s.sl[i].kd==0&&(s.sl[i].pl==0&&(s.sl[i].ow==false&&(s.sl[i].us==false&&true))))=cw s.ar i s.sl[i]:=by
    rw[cw,if_pos h3];rcases s.sl[i]with⟨k,p,o,u⟩
    rw[Bool.eq_iff_iff];simp[dN]
   refine CondP.mk (fun h4=>?_) (fun h4=>?_)<;>conv=>whnf
   ·refine fZ (no ?_);rw[e]at h4;simpa using h4
   ·refine⟨i+1,by omega,⟨by omega,yes ?_⟩,?_,rfl,rfl⟩
    ·rw[e]at h4;simpa using h4
    ·rw[up hlt h2];rfl
  ·have h3:¬s.sl[i].kd=0:=by simpa using h3
   refine CondP.mk (fun h4=>?_) (fun h4=>?_)<;>rw[h4]<;>(conv=>whnf)<;>repeat' first|(refine aE ?_;conv=>whnf)|(refine aD ?_;conv=>whnf)
   ·refine fZ (no ?_);have h4:az s.ar i<0:=by simpa using h4
    rw[cw,if_neg h3,decide_eq_false (by omega)];rfl
   have h4:0≤az s.ar i:=by simpa using h4
   refine aC [.pass,.pass,.pass] rfl rfl rfl (hO _ _ _) rfl ?_
   (conv=>whnf)<;>repeat' first|(refine aE ?_;conv=>whnf)|(refine aD ?_;conv=>whnf)
   refine CondP.mk (fun h5=>?_) (fun h5=>?_)<;>conv=>whnf
   ·refine fZ (no ?_);have h5:inB s.sl[i].kd 1 2=false:=by simpa using h5
    rw[cw,if_neg h3,h5];simp
   have h5:inB s.sl[i].kd 1 2=true:=by simpa using h5
   have hat:(az s.ar i).toNat<s.ar.length:=kb h4;refine aK (k:=(az s.ar i).toNat) rfl (by show some (az s.ar i)=_;congr 1;omega) (by simpa using hat) ?_;conv=>whnf
   refine aH rfl (r:=.one (dB s.ar[(az s.ar i).toNat].sh)) (by simp[an,rA,hat,eB,dB]) ?_;conv=>whnf
   have e:cw s.ar i s.sl[i]= !(s.ar[(az s.ar i).toNat].sh&&!s.sl[i].ow):=by rw[cw,if_neg h3,h5,decide_eq_true h4,jB,decide_eq_true h4];simp[hat]
   refine CondP.mk (fun h6=>?_) (fun h6=>?_)<;>rw[h6]<;>(conv=>whnf)<;>repeat' first|(refine aE ?_;conv=>whnf)|(refine aD ?_;conv=>whnf)
   ·refine CondP.mk (fun h7=>?_) (fun h7=>?_)<;>conv=>whnf
    ·refine fZ (no ?_);rw[e,h6];simp at h7;simp[h7]
    ·refine⟨i+1,by omega,⟨by omega,yes ?_⟩,?_,rfl,rfl⟩
     ·rw[e,h6];simp at h7;simp[h7]
     ·rw[up hlt h2];rfl
   ·refine⟨i+1,by omega,⟨by omega,yes ?_⟩,?_,rfl,rfl⟩
    ·rw[e,h6];simp
    ·rw[up hlt h2];rfl
 ·refine aCU ?_;have:i=s.sl.length:=by
                 have:¬i<s.sl.length:=by simp at h;omega
                 omega
  subst this;rw[hi2,List.drop_length];rfl
end Go.Qm
namespace Go.Qm
open Go.Cq Go.Cq.D Go.RowKit Go.Proofs
set_option maxRecDepth 10000
theorem aD3{P:Prg}{ts:DTs}{H:DH}{n:Nat}{K:DT→DTs→DH→Nat→List Nat→Prop}{x y:Opd}{a b:Int}(h1:evS ts x=some (.int .i64 a))(h2:evS ts y=some (.int .i64 b))(h:K (.v (.one (.sc (.int .i64 (max a b))))) ts H n []):OpP P (.mm true x y) ts H n K:=⟨⟨_,_,.int .i64 (max a b),h1,h2,by simp only[vB,if_true];congr 2;split<;>omega,h⟩⟩
theorem aDm{P:Prg}{ts:DTs}{H:DH}{n:Nat}{K:DT→DTs→DH→Nat→List Nat→Prop}{x y:Opd}{a b:Int}(h1:evS ts x=some (.int .i64 a))(h2:evS ts y=some (.int .i64 b))(h:K (.v (.one (.sc (.int .i64 (min a b))))) ts H n []):OpP P (.mm false x y) ts H n K:=⟨⟨_,_,.int .i64 (min a b),h1,h2,by simp only[vB,if_true];rw[if_neg (by decide)];congr 2;split<;>omega,h⟩⟩
theorem qR(a:Area)(lo hi:Int)(ho:bI a=true)(h1: -1000≤lo∧lo≤1000)(h2: -1000≤hi∧hi≤1000):bC Try.prog 181 [.agg (aA a),.one (dI lo),.one (dI hi)] (.tup [.agg (aA ((jf a lo hi).getD aDr)),.one (dB (jf a lo hi).isSome)]):=by
 refine aQ hmix Try.func181 ok181 ?_;have hb:=fj.1 ho;conv=>whnf
 refine aD3 rfl rfl ?_;conv=>whnf
 have e1:IntKind.wrap .i64 (IntKind.wrap .i64 (a.fr+a.mn)-1)=a.fr+a.mn-1:=by rw[wrap64 (x:=a.fr+a.mn) (by omega) (by omega),wrap64 (by omega) (by omega)]
 rw[e1];refine aDm rfl rfl ?_;conv=>whnf
 refine CondP.mk (fun h=>?_) (fun h=>?_)<;>conv=>whnf
 ·have h:min (a.fr+a.mn-1) hi<max a.fr lo:=by simpa using h
  refine⟨?_,rfl⟩;rw[jf,if_pos h];rfl
 ·have h:¬min (a.fr+a.mn-1) hi<max a.fr lo:=by simpa using h
  refine⟨?_,rfl⟩;rw[jf,if_neg h,wrap64 (x:=min (a.fr+a.mn-1) hi-max a.fr lo) (by omega) (by omega),wrap64 (by omega) (by omega)];rfl
theorem wy{l:List Area}{fr to:Int}{i:Nat}(h:i<l.length):kj (l.take (i+1)) fr to=kj (l.take i) fr to++uJ l[i] fr to:=by rw[List.take_succ_eq_append_getElem h,kj,kj,List.flatMap_append];simp
theorem zy{a:Area}{fr to:Int}:(uJ a fr to).length≤2:=by unfold uJ;cases jf a 0 (fr-1)<;>cases jf a (to+1) 15<;>simp
theorem tA{l:List Area}{fr to:Int}:(kj l fr to).length≤2*l.length:=by
 induction l with
 |nil=>simp[kj]
 |cons a l ih=>have:=zy (a:=a) (fr:=fr) (to:=to);simp only[kj,List.flatMap_cons,List.length_append,List.length_cons]at ih ⊢;omega
theorem aDy{α:Type}{a b:List α}{i:Nat}(h:a.length≤2*i)(hi:i≤1048576):((((a.take a.length++b.take 1).drop 0).take (a.length+1)).length+1)*24≤140737488355328:=by rw[List.length_take];omega
theorem mj{α:Type}{a b:List α}{i:Nat}(h:a.length≤2*i)(hi:i≤1048576):(((a.take a.length++b.take 1).drop 0).take (a.length+1)).length+1≤140737488355328:=by rw[List.length_take];omega
set_option maxHeartbeats 1000000 in
theorem zw(b:Bool)(l:List Area)(fr to:Int)(hl:l.length≤1048576)(ho:∀a,a∈l→bI a=true)(h1:0≤fr∧fr≤100)(h2:0≤to∧to≤100):bC Try.prog 163 [.one (.ro b 4 (l.map rA)),.one (dI fr),.one (dI to)] (.v (.one (.own 4 ((kj l fr to).map rA)))):=by
 refine aQ hmix Try.func163 ok163 ?_;conv=>whnf
 refine bV rfl rfl rfl ?_;conv=>whnf
 refine ai (fun i:Nat=>[(0,.v (.one (.ro b 4 (l.map rA)))),(1,.v (.one (dI fr))),(2,.v (.one (dI to))),(7,.v (.one (.own 4 ((kj (l.take i) fr to).map rA)))),(8,.v (.one (dI i)))]) (fun _=>[]) (fun _=>0)
  (fun i=>i≤l.length) (fun i=>l.length-i) 0 (by omega) (by simp[kj,dI]) rfl rfl fun i hi=>?_
 conv=>whnf
 refine CondP.mk (fun h=>?_) (fun h=>?_)<;>conv=>whnf
 ·have hlt:i<l.length:=by simpa using h
  have hoi:=ho _ (List.getElem_mem hlt);have hn:=tA (l:=l.take i) (fr:=fr) (to:=to);rw[List.length_take,Nat.min_eq_left hi]at hn;have hn':((kj (l.take i) fr to).map rA).length≤2*i:=by rw[List.length_map];exact hn
  refine aK (k:=i) rfl rfl (by simpa using hlt) ?_;conv=>whnf
  refine aH rfl (ldA hlt) ?_;conv=>whnf
  rw[wrap64 (x:=fr-1) (by omega) (by omega)];refine aC [.pass,.pass,.pass] rfl rfl rfl (qR l[i] 0 (fr-1) hoi (by omega) (by omega)) rfl ?_;conv=>whnf
  refine aK (k:=i) rfl rfl (by simpa using hlt) ?_;conv=>whnf
  refine aH rfl (ldA hlt) ?_;conv=>whnf
  rw[wrap64 (x:=to+1) (by omega) (by omega)];refine aC [.pass,.pass,.pass] rfl rfl rfl (qR l[i] (to+1) 15 hoi (by omega) (by omega)) rfl ?_;conv=>whnf
  have hc:=wy (fr:=fr) (to:=to) hlt;cases hp:jf l[i] 0 (fr-1)with
  |none=>
   (conv=>whnf)<;>repeat' first|(refine aE ?_;conv=>whnf)|(refine aD ?_;conv=>whnf)
   cases hq:jf l[i] (to+1) 15 with
   |none=>
    (conv=>whnf)<;>repeat' first|(refine aE ?_;conv=>whnf)|(refine aD ?_;conv=>whnf)
    refine⟨i+1,by omega,by omega,?_,rfl,rfl⟩;rw[up hlt (by omega),hc,uJ,hp,hq];simp[dI]
   |some y=>
    (conv=>whnf)<;>repeat' first|(refine aE ?_;conv=>whnf)|(refine aD ?_;conv=>whnf)
    refine bV rfl rfl rfl ?_;conv=>whnf
    refine dS [] [] 1 (sz:=4) rfl rfl rfl rfl rfl rfl rfl rfl (by omega) (by omega) ?_;conv=>whnf
    refine⟨i+1,by omega,by omega,?_,rfl,rfl⟩;rw[up hlt (by omega),hc,uJ,hp,hq];simp[dI,rA,eI,eB,List.replicate,List.take_of_length_le]
  |some x=>
   (conv=>whnf)<;>repeat' first|(refine aE ?_;conv=>whnf)|(refine aD ?_;conv=>whnf)
   refine bV rfl rfl rfl ?_;conv=>whnf
   refine dS [] [] 1 (sz:=4) rfl rfl rfl rfl rfl rfl rfl rfl (by omega) (by omega) ?_;conv=>whnf
   cases hq:jf l[i] (to+1) 15 with
   |none=>
    (conv=>whnf)<;>repeat' first|(refine aE ?_;conv=>whnf)|(refine aD ?_;conv=>whnf)
    refine⟨i+1,by omega,by omega,?_,rfl,rfl⟩;rw[up hlt (by omega),hc,uJ,hp,hq];simp[dI,rA,eI,eB,List.replicate,List.take_of_length_le]
   |some y=>
    (conv=>whnf)<;>repeat' first|(refine aE ?_;conv=>whnf)|(refine aD ?_;conv=>whnf)
    refine bV rfl rfl rfl ?_;conv=>whnf
    refine dS [] [] 1 (sz:=4) rfl rfl rfl rfl rfl rfl rfl rfl (aDy hn' (by omega)) (mj hn' (by omega)) ?_;conv=>whnf
    refine⟨i+1,by omega,by omega,?_,rfl,rfl⟩;rw[up hlt (by omega),hc,uJ,hp,hq];simp[dI,rA,eI,eB,List.replicate,List.take_of_length_le]
 ·have:i=l.length:=by
               have:¬i<l.length:=by simpa using h
               omega
  subst this;refine⟨?_,rfl⟩;simp
end Go.Qm
namespace Go.Qm
open Go.Cq Go.Cq.D Go.RowKit Go.Proofs
set_option maxRecDepth 10000
def il(l:List Area)(fr mn:Int):Option (List Area):=if ay l&&bI ⟨fr,mn,false,false⟩then(if ay (kj l fr (fr+mn-1))then some (kj l fr (fr+mn-1))else none)else none
set_option maxHeartbeats 1000000 in
theorem rN(b:Bool)(l:List Area)(fr mn:Int)(hl:l.length≤1048576):bC Try.prog 123 [.one (.ro b 4 (l.map rA)),.one (dI fr),.one (dI mn)] (.tup [.one (.own 4 (((il l fr mn).getD []).map rA)),.one (dB (il l fr mn).isSome)]):=by
 refine aQ hmix Try.func123 ok123 ?_;conv=>whnf
 refine aC [.pass] rfl rfl rfl (gF b l (by omega)) rfl ?_;conv=>whnf
 refine CondP.mk (fun h1=>?_) (fun h1=>?_)<;>rw[h1]<;>(conv=>whnf)<;>repeat' first|(refine aE ?_;conv=>whnf)|(refine aD ?_;conv=>whnf)
 ·refine bV rfl rfl rfl ?_;conv=>whnf
  refine⟨?_,rfl⟩;rw[il,show ay l=false by simpa using h1];simp[dB]
 have h1:ay l=true:=by simpa using h1
 refine aC [.pass] rfl rfl rfl (lB ⟨fr,mn,false,false⟩) rfl ?_
 (conv=>whnf)<;>repeat' first|(refine aE ?_;conv=>whnf)|(refine aD ?_;conv=>whnf)
 refine CondP.mk (fun h2=>?_) (fun h2=>?_)<;>conv=>whnf
 ·refine bV rfl rfl rfl ?_;conv=>whnf
  refine⟨?_,rfl⟩;rw[il,show bI ⟨fr,mn,false,false⟩=false by simpa using h2];simp[dB]
 have h2:bI ⟨fr,mn,false,false⟩=true:=by simpa using h2
 have hb:=fj.1 h2;simp only at hb;rw[wrap64 (x:=fr+mn) (by omega) (by omega),wrap64 (x:=fr+mn-1) (by omega) (by omega)];refine aC [.pass,.pass,.pass] rfl rfl rfl (zw b l fr (fr+mn-1) hl (fB h1) (by omega) (by omega)) rfl ?_;conv=>whnf
 have hn:=tA (l:=l) (fr:=fr) (to:=fr+mn-1);simp only[List.drop_zero,List.take_length];refine aC [.lend] rfl (by show some [DV.one (DC.ro true 4 (List.take _ (List.drop 0 _)))]=_;rw[List.drop_zero,List.take_length]) rfl (gF true (kj l fr (fr+mn-1)) (by omega)) rfl ?_;conv=>whnf
 refine CondP.mk (fun h3=>?_) (fun h3=>?_)<;>conv=>whnf
 ·refine bV rfl rfl rfl ?_;conv=>whnf
  refine⟨?_,rfl⟩;rw[il,h1,h2,show ay (kj l fr (fr+mn-1))=false by simpa using h3];simp[dB]
 ·refine⟨?_,rfl⟩;rw[il,h1,h2,show ay (kj l fr (fr+mn-1))=true by simpa using h3];simp[dB]
end Go.Qm
namespace Go.Qm
open Go.Cq Go.Cq.D Go.RowKit Go.Proofs
set_option maxRecDepth 10000
end Go.Qm
namespace Go.Qm
open Go.Cq Go.Cq.D Go.RowKit Go.Proofs
set_option maxRecDepth 10000
theorem qQ(p:Pages)(k:Nat)(h1:k<p.tx.length)(h2:k<p.rf.length)(hb: -1000≤p.rf[k]∧p.rf[k]≤1000):bC Try.prog 164 [.agg [.own 1 (p.tx.map rS),.own 1 (p.rf.map rI)],.one (dI k)] (.v (.agg [.own 1 ((dD p k).tx.map rS),.own 1 ((dD p k).rf.map rI)])):=by
 refine aQ hmix Try.func164 ok164 ?_;conv=>whnf
 refine aB (k:=k) rfl rfl rfl (by simpa using h2) ?_;conv=>whnf
 refine bf rfl rfl rfl (aS (row:=rI p.rf[k]) (by simp[h2]) rfl rfl rfl) rfl ?_;conv=>whnf
 have ew:IntKind.wrap .i64 (p.rf[k]-1)=p.rf[k]-1:=wrap64 (by omega) (by omega);simp only[ew];refine aB (k:=k) rfl rfl rfl (by simpa using h2) ?_;conv=>whnf
 refine aN rfl rfl rfl (by simpa using h2) (by decide) ?_;conv=>whnf
 refine aB (k:=k) rfl rfl rfl (by simpa using h2) ?_;conv=>whnf
 refine bf rfl rfl rfl (aS (row:=rI (p.rf[k]-1)) (by simp[h2,rI,eI]) rfl rfl rfl) rfl ?_;conv=>whnf
 have hr:p.rf[k]?.getD 0=p.rf[k]:=by simp[h2]
 have hset:(p.rf.map rI).set k (rI (p.rf[k]-1))=(p.rf.set k (p.rf[k]-1)).map rI:=map_set;have hm:(p.rf.map rI).modify k (fun row=>row.set 0 (.sc (.int .i64 (p.rf[k]-1))))=(p.rf.set k (p.rf[k]-1)).map rI:=by rw[ao (aj (f:=rI) (List.getElem?_eq_getElem h2)),←hset];rfl
 refine CondP.mk (fun h=>?_) (fun h=>?_)<;>conv=>whnf
 ·have h:p.rf[k]=1:=by simp at h;omega
  refine aB (k:=k) rfl rfl rfl (by simpa using h1) ?_;conv=>whnf
  refine aN rfl rfl rfl (by simpa using h1) (by decide) ?_;conv=>whnf
  refine⟨?_,rfl⟩;have ht:(p.tx.map rS).modify k (fun row=>row.set 0 (.sc (.str [])))=(p.tx.set k []).map rS:=by rw[ao (aj (f:=rS) (List.getElem?_eq_getElem h1)),←map_set];rfl
  simp only[dD,hr,if_pos h,List.drop_zero,List.take_length,ht,hm,List.take_of_length_le,List.length_map,List.length_set,Nat.le_refl,List.length_take,Nat.min_self]
 ·have h:¬p.rf[k]=1:=by simp at h;omega
  refine⟨?_,rfl⟩;simp only[dD,hr,if_neg h,List.drop_zero,List.take_length,hm,List.take_of_length_le,List.length_map,List.length_set,Nat.le_refl,List.length_take,Nat.min_self]
end Go.Qm
namespace Go.Qm
open Go.Cq Go.Cq.D Go.RowKit Go.Proofs
set_option maxRecDepth 10000
theorem ig{α:Type}{es:List α}{i:Nat}{row:α}(h:es[i]?=some row):es.set i row=es:=by obtain⟨hi,rfl⟩:=List.getElem?_eq_some_iff.1 h;exact List.set_getElem_self hi
theorem bz{sp:List Space}{i j:Nat}{x:Slot}(hi:i<sp.length):(sp.map rP).modify i (fun row=>row.set 2 (.sl 4 ((sp[i].sl.map rL).set j (rL x))))=(aG sp i j x).map rP:=by rw[ao (aj (f:=rP) (List.getElem?_eq_getElem hi)),aG,iO (List.getElem?_eq_getElem hi),←map_set,map_set (f:=rL)];rfl
set_option maxHeartbeats 1000000 in
theorem qH(m:Mem)(i j:Nat)(hi:i<m.sp.length)(hj:j<m.sp[i].sl.length)(hr:m.sp[i].sl[j].kd=1→∃k:Nat,m.sp[i].sl[j].pl=k∧k<m.ram.tx.length∧∃h:k<m.ram.rf.length, -1000≤m.ram.rf[k]∧m.ram.rf[k]≤1000)(hw:m.sp[i].sl[j].kd=2→∃k:Nat,m.sp[i].sl[j].pl=k∧k<m.swp.tx.length∧∃h:k<m.swp.rf.length, -1000≤m.swp.rf[k]∧m.swp.rf[k]≤1000):
  bC Try.prog 124 [oM m,.one (dI i),.one (dI j)] (.v (oM (jA m i j))):=by
 refine aQ hmix Try.func124 ok124 ?_;conv=>whnf
 refine aB (k:=i) rfl rfl rfl (by simpa using hi) ?_;conv=>whnf
 have hg:(m.sp.map rP)[i]?=some (rP m.sp[i]):=by simp[hi]
 refine bw (i:=i) (k:=2) (sz':=4) (es':=m.sp[i].sl.map rL) m.sp[i].sl.length rfl rfl rfl (aS (by rw[List.drop_zero,List.take_length];exact hg) rfl rfl rfl) rfl (by simp) ?_;conv=>whnf
 refine aB (k:=j) rfl rfl rfl hj ?_;conv=>whnf
 refine nF (row:=rL m.sp[i].sl[j]) rfl rfl rfl (by simp[hj]) (ck _) rfl rfl ?_;conv=>whnf
 have hback:(m.sp.map rP).modify i (fun row=>row.set 2 (.sl 4 (m.sp[i].sl.map rL)))=m.sp.map rP:=by rw[ao hg];exact ig hg
 refine aY (i:=i) (k:=2) (g':=8) (lo:=0) (len:=m.sp[i].sl.length) (es2:=m.sp.map rP) (ov2:=[]) rfl (ag (by rw[List.drop_zero,List.take_length];exact hg) (by simp[rP]) (by simp only[af,if_true];rfl)) rfl rfl (by rw[List.drop_zero,List.take_length,List.drop_zero,aU];exact hback) (by simp only[ae,if_true];rfl) ?_;conv=>whnf
 have hbd:(m.sp[i]?.bind fun s=>s.sl[j]?)=some m.sp[i].sl[j]:=by simp[hi,hj]
 have hsl:(aG m.sp i j dN).length=m.sp.length:=by simp[aG]
 have htk:((aG m.sp i j dN).map rP).take m.sp.length=(aG m.sp i j dN).map rP:=List.take_of_length_le (by simp[hsl]);simp only[List.drop_zero,List.take_length];refine CondP.mk (fun c1=>?_) (fun c1=>?_)<;>conv=>whnf
 ·have c1:m.sp[i].sl[j].kd=1:=by simpa using c1
  obtain⟨k,e1,e2,e3,e4⟩:=hr c1;simp only[e1];refine aC [.fQ,.pass] rfl rfl rfl (by simpa [dI]using qQ m.ram k e2 e3 e4) rfl ?_;conv=>whnf
  refine aB (k:=i) rfl rfl rfl (by simpa using hi) ?_;conv=>whnf
  refine bw (i:=i) (k:=2) (sz':=4) (es':=m.sp[i].sl.map rL) m.sp[i].sl.length rfl rfl rfl (aS hg rfl rfl rfl) rfl (by simp) ?_;conv=>whnf
  refine aB (k:=j) rfl rfl rfl hj ?_;conv=>whnf
  refine cC (row':=rL dN) rfl rfl rfl (by simpa using hj) (dt (fun _=>rfl)) (ck _) rfl rfl rfl ?_;conv=>whnf
  refine aY (i:=i) (k:=2) (g':=8) (lo:=0) (len:=m.sp[i].sl.length) (es2:=(aG m.sp i j dN).map rP) (ov2:=[]) rfl (ag hg (by simp[rP]) (by simp only[af,if_true];rfl)) rfl rfl (by rw[List.drop_zero,List.take_of_length_le (by simp)];exact bz hi) (by simp only[ae,if_true];rfl) ?_;conv=>whnf
  refine⟨?_,rfl⟩;simp only[jA,hbd];simp[oM,dI,c1,e1,htk]
 ·have c1:¬m.sp[i].sl[j].kd=1:=by simpa using c1
  refine CondP.mk (fun c2=>?_) (fun c2=>?_)<;>conv=>whnf
  ·have c2:m.sp[i].sl[j].kd=2:=by simpa using c2
   obtain⟨k,e1,e2,e3,e4⟩:=hw c2;simp only[e1];refine aC [.fQ,.pass] rfl rfl rfl (by simpa [dI]using qQ m.swp k e2 e3 e4) rfl ?_;conv=>whnf
   refine aB (k:=i) rfl rfl rfl (by simpa using hi) ?_;conv=>whnf
   refine bw (i:=i) (k:=2) (sz':=4) (es':=m.sp[i].sl.map rL) m.sp[i].sl.length rfl rfl rfl (aS hg rfl rfl rfl) rfl (by simp) ?_;conv=>whnf
   refine aB (k:=j) rfl rfl rfl hj ?_;conv=>whnf
   refine cC (row':=rL dN) rfl rfl rfl (by simpa using hj) (dt (fun _=>rfl)) (ck _) rfl rfl rfl ?_;conv=>whnf
   refine aY (i:=i) (k:=2) (g':=8) (lo:=0) (len:=m.sp[i].sl.length) (es2:=(aG m.sp i j dN).map rP) (ov2:=[]) rfl (ag hg (by simp[rP]) (by simp only[af,if_true];rfl)) rfl rfl (by rw[List.drop_zero,List.take_of_length_le (by simp)];exact bz hi) (by simp only[ae,if_true];rfl) ?_;conv=>whnf
   refine⟨?_,rfl⟩;simp only[jA,hbd];simp[oM,dI,c2,e1,htk]
  ·have c2:¬m.sp[i].sl[j].kd=2:=by simpa using c2
   refine aB (k:=i) rfl rfl rfl (by simpa using hi) ?_;conv=>whnf
   refine bw (i:=i) (k:=2) (sz':=4) (es':=m.sp[i].sl.map rL) m.sp[i].sl.length rfl rfl rfl (aS hg rfl rfl rfl) rfl (by simp) ?_;conv=>whnf
   refine aB (k:=j) rfl rfl rfl hj ?_;conv=>whnf
   refine cC (row':=rL dN) rfl rfl rfl (by simpa using hj) (dt (fun _=>rfl)) (ck _) rfl rfl rfl ?_;conv=>whnf
   refine aY (i:=i) (k:=2) (g':=11) (lo:=0) (len:=m.sp[i].sl.length) (es2:=(aG m.sp i j dN).map rP) (ov2:=[]) rfl (ag hg (by simp[rP]) (by simp only[af,if_true];rfl)) rfl rfl (by rw[List.drop_zero,List.take_of_length_le (by simp)];exact bz hi) (by simp only[ae,if_true];rfl) ?_;conv=>whnf
   refine⟨?_,rfl⟩;simp only[jA,hbd];simp[oM,dI,c1,c2,htk]
end Go.Qm
namespace Go.Qm
open Go.Cq Go.Cq.D Go.RowKit Go.Proofs
set_option maxRecDepth 10000
def gX(m:Mem)(i:Nat):List Area:=(m.sp[i]?.map (·.ar)).getD []
def aAn(c:Option (List Area))(m:Mem)(i:Nat)(fr mn:Int):Mem×Int:=match c with
 |some l=>(ca (cU m i l) i fr.toNat mn.toNat,0)
 |none=>(m,4)
theorem mI{m:Mem}{i:Nat}(h:cV m=true)(hi:i<m.sp.length)(hlv:m.sp[i].lv=true):ay m.sp[i].ar=true∧m.sp[i].ar.length≤6∧m.sp[i].sl.length=16:=by simp only[cV,Bool.and_eq_true,decide_eq_true_eq]at h;have hs:=List.all_eq_true.1 h.1.1.2 _ (List.getElem_mem hi);simp only[Bool.and_eq_true]at hs;have hso:=hs.1;rw[ba,if_pos hlv]at hso;simp only[Bool.and_eq_true,decide_eq_true_eq]at hso;have:=hso.1;simp only[ay,Bool.and_eq_true,decide_eq_true_eq]at this;exact⟨hso.1,this.2,hso.2.1⟩
def gH:Mem:=⟨⟨[],[]⟩,⟨[],[]⟩,[],0⟩
def bO(m:Mem):DB:=.box [.own 1 (m.ram.tx.map rS),.own 1 (m.ram.rf.map rI),.own 1 (m.swp.tx.map rS),.own 1 (m.swp.rf.map rI),.own 3 (m.sp.map rP),dI m.hd]
theorem o5{l0 l:List Area}{fr mn:Int}(h:il l0 fr mn=some l):bI ⟨fr,mn,false,false⟩=true∧ay l=true:=by
 unfold il at h;split at h
 ·rename_i h1;simp only[Bool.and_eq_true]at h1;split at h
  ·rename_i h2;cases h;exact⟨h1.2,h2⟩
  ·simp at h
 ·simp at h
theorem lQ{m:Mem}{i:Nat}{l:List Area}(hi:i<m.sp.length):(m.sp.map rP).modify i (fun row=>row.set 1 (.sl 4 (l.map rA)))=(cU m i l).sp.map rP:=by rw[ao (aj (f:=rP) (List.getElem?_eq_getElem hi)),cU,iO (List.getElem?_eq_getElem hi),←map_set];rfl
set_option maxHeartbeats 1000000 in
theorem yO(m:Mem)(i:Nat)(fr mn:Int)(hi:i<m.sp.length)(hal:m.sp[i].ar.length≤6)(hL:∀l fr,LsOk (cU m i l) i fr 0):
  bC Try.prog 59 [oM m,.one (dI i),.one (dI fr),.one (dI mn)] (.tup [oM (aAn (il (gX m i) fr mn) m i fr mn).1,.one (dI (aAn (il (gX m i) fr mn) m i fr mn).2)]):=by
 have har:gX m i=m.sp[i].ar:=by simp[gX,hi]
 rw[har];refine aQ hmix Try.func59 ok59 ?_;conv=>whnf
 refine aB (k:=i) rfl rfl rfl (by simpa using hi) ?_;conv=>whnf
 have hg:(m.sp.map rP)[i]?=some (rP m.sp[i]):=by simp[hi]
 refine bw (i:=i) (k:=1) (sz':=4) (es':=m.sp[i].ar.map rA) m.sp[i].ar.length rfl rfl rfl (aS (by rw[List.drop_zero,List.take_length];exact hg) rfl rfl rfl) rfl (by simp) ?_;conv=>whnf
 simp only[List.drop_zero,List.take_length];refine aC [.lend,.pass,.pass] rfl (by show some [DV.one (DC.ro true 4 (List.take _ (List.drop 0 _))),DV.one (dI _),DV.one (dI _)]=_;rw[List.drop_zero,aU]) rfl (rN true m.sp[i].ar fr mn (by omega)) rfl ?_;conv=>whnf
 have hback:(m.sp.map rP).modify i (fun row=>row.set 1 (.sl 4 (m.sp[i].ar.map rA)))=m.sp.map rP:=by rw[ao hg];exact ig hg
 refine aY (i:=i) (k:=1) (g':=8) (lo:=0) (len:=m.sp[i].ar.length) (es2:=m.sp.map rP) (ov2:=[]) rfl (ag hg (by simp[rP]) (by simp only[af,if_true];rfl)) rfl rfl (by rw[List.drop_zero,aU];exact hback) (by simp only[ae,if_true];rfl) ?_;conv=>whnf
 simp only[List.drop_zero,List.take_length];cases hc:il m.sp[i].ar fr mn with
 |none=>
  refine CondP.mk (fun c1=>?_) (fun c1=>?_)<;>conv=>whnf
  ·refine⟨?_,rfl⟩;simp[oM,aAn,dI]
  ·simp at c1
 |some l=>
  refine CondP.mk (fun c1=>?_) (fun c1=>?_)<;>conv=>whnf
  ·simp at c1
  ·refine aB (k:=i) rfl rfl rfl (by simpa using hi) ?_;conv=>whnf
   simp only[Option.getD_some];refine eY rfl rfl rfl rfl rfl (by simp[wrN,wr1,DV.cells,hi];rfl) ?_;conv=>whnf
   refine aY (i:=i) (k:=1) (g':=8) (lo:=0) (len:=l.length) (es2:=(cU m i l).sp.map rP) (ov2:=[]) rfl (ag (by simpa using hg) (by simp[rP]) (by simp only[af,if_true];rfl)) rfl rfl (by rw[List.drop_zero,aU];exact lQ hi) (by simp only[ae,if_true];rfl) ?_;conv=>whnf
   obtain⟨h2,h4⟩:=o5 hc;have hb:=fj.1 h2;simp only at hb;obtain⟨f,rfl⟩:=Int.eq_ofNat_of_zero_le hb.1;obtain⟨g,rfl⟩:=Int.eq_ofNat_of_zero_le (show 0≤mn by omega);have hls:LsOk (cU m i l) i f 0:=hL l f;refine ai (fun t:Nat=>[(1,.v (.one (dI i))),(2,.v (.one (dI f))),(3,.v (.one (dI g))),(4,.v (.one (.ptr 5 0 0))),(8,.v (.one (.ptr 6 0 0))),(12,.v (.one (dI ((f+t:Nat):Int))))]) (fun t=>[(6,bO gH),(5,bO (ca (cU m i l) i f t))]) (fun _=>7)
    (fun t=>t≤g) (fun t=>g-t) 0 (by omega) rfl (by rw[List.drop_zero,List.take_of_length_le (by simp[cU])];rfl) rfl fun t ht=>?_
   have hlt:=qw hls (t:=t) (by omega);conv=>whnf
   rw[wrap64 (x:=(f:Int)+g) (by omega) (by omega)];refine CondP.mk (fun c2=>?_) (fun c2=>?_)<;>conv=>whnf
   ·have c2:t<g:=by simp at c2;omega
    have hj:f+t< ((ca (cU m i l) i f t).sp[i]'hlt.hi).sl.length:=by rw[hlt.sl];omega
    have hok:=hlt.ok (by omega) (Nat.le_refl _) hlt.hi hj;refine aC [.fQ,.pass,.pass] rfl rfl rfl (by simpa [oM,dI]using qH (ca (cU m i l) i f t) i (f+t) hlt.hi hj hok.1 hok.2) rfl ?_;conv=>whnf
    refine⟨t+1,by omega,by omega,?_,?_,rfl⟩
    ·rw[wrap64 (x:=((f+t:Nat):Int)+1) (by omega) (by omega),show((f+t:Nat):Int)+1=((f+(t+1):Nat):Int) by omega];rfl
    ·simp[bO,ca,dI]
   ·have c2:t=g:=by simp at c2;omega
    subst c2;refine⟨?_,rfl⟩;simp[oM,aAn,dI]
end Go.Qm
namespace Go.Qm
open Go.Cq Go.Cq.D Go.RowKit Go.Proofs
set_option maxRecDepth 10000
def bM(b1 b2 b3 b4 b5:Bool)(m:Mem):DB:=.box [.ro b1 1 (m.ram.tx.map rS),.ro b2 1 (m.ram.rf.map rI),.ro b3 1 (m.swp.tx.map rS),.ro b4 1 (m.swp.rf.map rI),.ro b5 3 (m.sp.map rP),dI m.hd]
set_option maxHeartbeats 1000000 in
theorem rH(b1 b2 b3 b4 b5:Bool)(m:Mem)(kd pl:Int)(h:m.fits 4611686018427387904)(hb:(tel kd pl m.sp).length≤4611686018427387904):bC Try.prog 89 [aM b1 b2 b3 b4 b5 m,.one (dI kd),.one (dI pl)] (.v (.one (dI (tel kd pl m.sp).length))):=by
 refine aQ hmix Try.func89 ok89 ?_;conv=>whnf
 refine ai (fun p:Nat×Nat=>[(1,.v (.one (dI kd))),(2,.v (.one (dI pl))),(3,.v (.one (.ptr 0 0 0))),(7,.v (.one (dI p.2))),(8,.v (.one (dI p.1)))]) (fun _=>[(0,bM b1 b2 b3 b4 b5 m)]) (fun _=>1)
  (fun p=>p.1≤m.sp.length∧p.2+(tel kd pl (m.sp.drop p.1)).length=(tel kd pl m.sp).length) (fun p=>m.sp.length-p.1) (0,0) ⟨by omega,by simp⟩ rfl rfl rfl fun p hi=>?_
 obtain⟨i,c⟩:=p;obtain⟨hi1,hi2⟩:=hi;simp only at hi1 hi2;conv=>whnf
 refine CondP.mk (fun h1=>?_) (fun h1=>?_)<;>conv=>whnf
 ·have hlt:i<m.sp.length:=by simpa using h1
  have hs:=h.ss _ (List.getElem_mem hlt);rw[ub hlt,List.length_append]at hi2;refine ai (fun p:Nat×Nat=>[(1,.v (.one (dI kd))),(2,.v (.one (dI pl))),(3,.v (.one (.ptr 0 0 0))),(7,.v (.one (dI p.2))),(8,.v (.one (dI i))),(9,.v (.one (dI p.1)))]) (fun _=>[(0,bM b1 b2 b3 b4 b5 m)]) (fun _=>1)
   (fun p=>p.1≤m.sp[i].sl.length∧p.2+(gA m.sp[i].ar kd pl p.1 (m.sp[i].sl.drop p.1)).length+(tel kd pl (m.sp.drop (i+1))).length=(tel kd pl m.sp).length) (fun p=>m.sp[i].sl.length-p.1) (0,c) ⟨by omega,by simp only[List.drop_zero];omega⟩ rfl rfl rfl fun p hj=>?_
  obtain⟨j,d⟩:=p;obtain⟨hj1,hj2⟩:=hj;simp only at hj1 hj2;conv=>whnf
  refine aK (k:=i) rfl rfl (by simpa using hlt) ?_;conv=>whnf
  refine aH rfl (r:=.one (.ro b5 4 (m.sp[i].sl.map rL))) (by simp[an,rP,hlt]) ?_;conv=>whnf
  refine CondP.mk (fun h2=>?_) (fun h2=>?_)<;>conv=>whnf
  ·have hlj:j<m.sp[i].sl.length:=by simpa using h2
   rw[qu hlj]at hj2;refine aK (k:=i) rfl rfl (by simpa using hlt) ?_;conv=>whnf
   refine aH rfl (r:=.one (.ro b5 4 (m.sp[i].sl.map rL))) (by simp[an,rP,hlt]) ?_;conv=>whnf
   refine aK (k:=j) rfl rfl (by simpa using hlj) ?_;conv=>whnf
   refine aH rfl (ldL hlj) ?_;conv=>whnf
   refine CondP.mk (fun h3=>?_) (fun h3=>?_)<;>rw[h3]<;>(conv=>whnf)<;>repeat' first|(refine aE ?_;conv=>whnf)|(refine aD ?_;conv=>whnf)
   ·have h3:m.sp[i].sl[j].kd=kd:=by simpa using h3
    refine CondP.mk (fun h4=>?_) (fun h4=>?_)<;>conv=>whnf
    ·have h4:m.sp[i].sl[j].pl=pl:=by simpa using h4
     rw[if_pos ⟨h3,h4⟩,List.length_cons]at hj2;refine⟨(j+1,d+1),by simp only;omega,⟨by simp only;omega,by simp only;omega⟩,?_,rfl,rfl⟩;rw[up hlj hs.2,wrap64 (by omega) (by omega),show(d:Int)+1=((d+1:Nat):Int) by omega];rfl
    ·have h4:¬m.sp[i].sl[j].pl=pl:=by simpa using h4
     rw[if_neg fun e=>h4 e.2]at hj2;refine⟨(j+1,d),by simp only;omega,⟨by simp only;omega,by simp only;omega⟩,?_,rfl,rfl⟩;rw[up hlj hs.2];rfl
   ·have h3:¬m.sp[i].sl[j].kd=kd:=by simpa using h3
    rw[if_neg fun e=>h3 e.1]at hj2;refine⟨(j+1,d),by simp only;omega,⟨by simp only;omega,by simp only;omega⟩,?_,rfl,rfl⟩;rw[up hlj hs.2];rfl
  ·have:j=m.sp[i].sl.length:=by
                     have:¬j<m.sp[i].sl.length:=by simpa using h2
                     omega
   subst this;rw[List.drop_length]at hj2;simp only[gA,List.length_nil]at hj2;refine⟨(i+1,d),by simp only;omega,⟨by simp only;omega,by simp only;omega⟩,?_,rfl,rfl⟩;rw[up hlt h.sp];rfl
 ·have:i=m.sp.length:=by
                 have:¬i<m.sp.length:=by simpa using h1
                 omega
  subst this;rw[List.drop_length]at hi2;simp only[tel,List.length_nil]at hi2;refine⟨?_,rfl⟩;simp only[dI];rw[←hi2];rfl
end Go.Qm
namespace Go.Qm
open Go.Cq Go.Cq.D Go.RowKit Go.Proofs
set_option maxRecDepth 10000
structure Sofar where
 i:Nat
 c:Nat
 o:Bool
 q:Bool
structure Sofar.ok(T:List (Bool×Bool))(s:Sofar)(r:List (Bool×Bool)):Prop where
 c:s.c+r.length=T.length
 o:(s.o||r.any (·.1))=T.any (·.1)
 q:(s.q||r.any (!·.2))=T.any (!·.2)
theorem Sofar.ok.step{T:List (Bool×Bool)}{i i' c:Nat}{o q:Bool}{x:Bool×Bool}{r:List (Bool×Bool)}(h:Sofar.ok T ⟨i,c,o,q⟩ (x::r)):Sofar.ok T ⟨i',c+1,o||x.1,q||!x.2⟩ r:=by
 refine⟨?_,?_,?_⟩
 ·have:=h.c;simp only[List.length_cons]at this ⊢;omega
 ·have:=h.o;simp only[List.any_cons]at this ⊢;rw[Bool.or_assoc];exact this
 ·have:=h.q;simp only[List.any_cons]at this ⊢;rw[Bool.or_assoc];exact this
set_option maxHeartbeats 2000000 in
theorem oK(b1 b2 b3 b4 b5:Bool)(m:Mem)(kd pl:Int)(h:m.fits 4611686018427387904)(hb:(tel kd pl m.sp).length≤4611686018427387904)(ho:∀s,s∈m.sp→∀a,a∈s.ar→bI a=true):bC Try.prog 90 [aM b1 b2 b3 b4 b5 m,.one (dI kd),.one (dI pl)] (.v (.one (dB (alone (tel kd pl m.sp))))):=by
 refine aQ hmix Try.func90 ok90 ?_;conv=>whnf
 refine ai (fun p:Sofar=>[(1,.v (.one (dI kd))),(2,.v (.one (dI pl))),(3,.v (.one (.ptr 0 0 0))),(7,.v (.one (dI p.c))),(8,.v (.one (dB p.o))),(9,.v (.one (dB p.q))),(10,.v (.one (dI p.i)))]) (fun _=>[(0,bM b1 b2 b3 b4 b5 m)]) (fun _=>1)
  (fun p=>p.i≤m.sp.length∧Sofar.ok (tel kd pl m.sp) p (tel kd pl (m.sp.drop p.i))) (fun p=>m.sp.length-p.i) ⟨0,0,false,false⟩ ⟨by simp,by simp,by simp,by simp⟩ rfl rfl rfl fun p hi=>?_
 obtain⟨i,c,o,q⟩:=p;obtain⟨hi1,hi2⟩:=hi;simp only at hi1 hi2;conv=>whnf
 refine CondP.mk (fun h1=>?_) (fun h1=>?_)<;>conv=>whnf
 ·have hlt:i<m.sp.length:=by simpa using h1
  have hs:=h.ss _ (List.getElem_mem hlt);have hoi:=ho _ (List.getElem_mem hlt);rw[ub hlt]at hi2;refine ai (fun p:Sofar=>[(1,.v (.one (dI kd))),(2,.v (.one (dI pl))),(3,.v (.one (.ptr 0 0 0))),(7,.v (.one (dI p.c))),(8,.v (.one (dB p.o))),(9,.v (.one (dB p.q))),(10,.v (.one (dI i))),(11,.v (.one (dI p.i)))]) (fun _=>[(0,bM b1 b2 b3 b4 b5 m)]) (fun _=>1)
   (fun p=>p.i≤m.sp[i].sl.length∧Sofar.ok (tel kd pl m.sp) p (gA m.sp[i].ar kd pl p.i (m.sp[i].sl.drop p.i)++tel kd pl (m.sp.drop (i+1)))) (fun p=>m.sp[i].sl.length-p.i) ⟨0,c,o,q⟩ ⟨by simp,by simp only[List.drop_zero];exact⟨hi2.c,hi2.o,hi2.q⟩⟩ rfl rfl rfl fun p hj=>?_
  obtain⟨j,d,o1,q1⟩:=p;obtain⟨hj1,hj2⟩:=hj;simp only at hj1 hj2;conv=>whnf
  refine aK (k:=i) rfl rfl (by simpa using hlt) ?_;conv=>whnf
  refine aH rfl (r:=.one (.ro b5 4 (m.sp[i].sl.map rL))) (by simp[an,rP,hlt]) ?_;conv=>whnf
  refine CondP.mk (fun h2=>?_) (fun h2=>?_)<;>conv=>whnf
  ·have hlj:j<m.sp[i].sl.length:=by simpa using h2
   rw[qu hlj]at hj2;refine aK (k:=i) rfl rfl (by simpa using hlt) ?_;conv=>whnf
   refine aH rfl (r:=.one (.ro b5 4 (m.sp[i].sl.map rL))) (by simp[an,rP,hlt]) ?_;conv=>whnf
   refine aK (k:=j) rfl rfl (by simpa using hlj) ?_;conv=>whnf
   refine aH rfl (ldL hlj) ?_;conv=>whnf
   refine CondP.mk (fun h3=>?_) (fun h3=>?_)<;>rw[h3]<;>(conv=>whnf)<;>repeat' first|(refine aE ?_;conv=>whnf)|(refine aD ?_;conv=>whnf)
   ·have h3:m.sp[i].sl[j].kd=kd:=by simpa using h3
    refine CondP.mk (fun h4=>?_) (fun h4=>?_)<;>conv=>whnf
    ·have h4:m.sp[i].sl[j].pl=pl:=by simpa using h4
     rw[if_pos ⟨h3,h4⟩,List.cons_append]at hj2;have hd:d+1≤(tel kd pl m.sp).length:=by have:=hj2.c;simp only[List.length_cons]at this;omega
     have hst:=hj2.step (i':=j+1);have ec:IntKind.wrap .i64 ((d:Int)+1)=((d+1:Nat):Int):=by rw[wrap64 (by omega) (by omega)];omega
     have el:IntKind.wrap .i64 ((j:Int)+1)=((j+1:Nat):Int):=up hlj hs.2;cases q1
     ·cases o1<;>(conv=>whnf)<;>repeat' first|(refine aE ?_;conv=>whnf)|(refine aD ?_;conv=>whnf)
      all_goals
       refine aK (k:=i) rfl rfl (by simpa using hlt) ?_
       (conv=>whnf)<;>repeat' first|(refine aE ?_;conv=>whnf)|(refine aD ?_;conv=>whnf)
       refine aH rfl (ldP hlt) ?_
       (conv=>whnf)<;>repeat' first|(refine aE ?_;conv=>whnf)|(refine aD ?_;conv=>whnf)
       refine aC [.pass,.pass] rfl rfl rfl (kz b5 b5 m.sp[i] j hs.1 hoi) rfl ?_
       (conv=>whnf)<;>repeat' first|(refine aE ?_;conv=>whnf)|(refine aD ?_;conv=>whnf)
      ·refine⟨⟨j+1,d+1,m.sp[i].sl[j].ow,!jB m.sp[i].ar (az m.sp[i].ar j)⟩,by simp only;omega,⟨by simp only;omega,hst⟩,?_,rfl,rfl⟩;rw[ec,el];rfl
      ·refine⟨⟨j+1,d+1,true,!jB m.sp[i].ar (az m.sp[i].ar j)⟩,by simp only;omega,⟨by simp only;omega,hst⟩,?_,rfl,rfl⟩;rw[ec,el];rfl
     ·cases o1<;>(conv=>whnf)<;>repeat' first|(refine aE ?_;conv=>whnf)|(refine aD ?_;conv=>whnf)
      ·refine⟨⟨j+1,d+1,m.sp[i].sl[j].ow,true⟩,by simp only;omega,⟨by simp only;omega,hst⟩,?_,rfl,rfl⟩;rw[ec,el];rfl
      ·refine⟨⟨j+1,d+1,true,true⟩,by simp only;omega,⟨by simp only;omega,hst⟩,?_,rfl,rfl⟩;rw[ec,el];rfl
    ·have h4:¬m.sp[i].sl[j].pl=pl:=by simpa using h4
     rw[if_neg fun e=>h4 e.2]at hj2;refine⟨⟨j+1,d,o1,q1⟩,by simp only;omega,⟨by simp only;omega,⟨hj2.c,hj2.o,hj2.q⟩⟩,?_,rfl,rfl⟩;rw[up hlj hs.2];rfl
   ·have h3:¬m.sp[i].sl[j].kd=kd:=by simpa using h3
    rw[if_neg fun e=>h3 e.1]at hj2;refine⟨⟨j+1,d,o1,q1⟩,by simp only;omega,⟨by simp only;omega,⟨hj2.c,hj2.o,hj2.q⟩⟩,?_,rfl,rfl⟩;rw[up hlj hs.2];rfl
  ·have:j=m.sp[i].sl.length:=by
                     have:¬j<m.sp[i].sl.length:=by simpa using h2
                     omega
   subst this;rw[List.drop_length]at hj2;simp only[gA,List.nil_append]at hj2;refine⟨⟨i+1,d,o1,q1⟩,by simp only;omega,⟨by simp only;omega,⟨hj2.c,hj2.o,hj2.q⟩⟩,?_,rfl,rfl⟩;rw[up hlt h.sp];rfl
 ·have:i=m.sp.length:=by
                 have:¬i<m.sp.length:=by simpa using h1
                 omega
  subst this;rw[List.drop_length]at hi2;have k1:=hi2.c;have k2:=hi2.o;have k3:=hi2.q;simp only[tel,List.length_nil,List.any_nil,Bool.or_false,Nat.add_zero]at k1 k2 k3;have hal:alone (tel kd pl m.sp)=(decide ((c:Int)<2)||!o||!q):=by rw[alone,←k1,←k2,←k3,show decide (c<2)=decide ((c:Int)<2)from decide_eq_decide.2 (by omega)]
  refine CondP.mk (fun h2=>?_) (fun h2=>?_)<;>rw[h2]<;>cases o<;>cases q<;>(conv=>whnf)<;>repeat' first|(refine aE ?_;conv=>whnf)|(refine aD ?_;conv=>whnf)
  all_goals
   simp only at h2;rw[hal,h2];exact⟨rfl,rfl⟩
end Go.Qm
namespace Go.Qm
open Go.Cq Go.Cq.D Go.RowKit Go.Proofs
set_option maxRecDepth 10000
theorem zR{ar:List Area}{kd pl:Int}:∀{l:List Slot}{i:Nat},(gA ar kd pl i l).length≤l.length:=by
 intro l;induction l with
 |nil=>intro i;simp[gA]
 |cons x l ih=>intro i;simp only[gA];have:=ih (i:=i+1);split<;>simp only[List.length_cons]<;>omega
theorem wJ{kd pl:Int}{n:Nat}:∀{l:List Space},(∀s,s∈l→s.sl.length≤n)→(tel kd pl l).length≤n*l.length:=by
 intro l;induction l with
 |nil=>intro _;simp[tel]
 |cons s l ih=>
  intro h;have h1:=ih fun s hs=>h s (List.mem_cons_of_mem _ hs)
  have h2:=h s (List.mem_cons_self ..);have h3:=zR (ar:=s.ar) (kd:=kd) (pl:=pl) (l:=s.sl) (i:=0);simp only[tel,List.length_append,List.length_cons,Nat.mul_add,Nat.mul_one];omega
theorem nL{s:Space}(h:ba s=true):s.sl.length≤16:=by unfold ba at h;split at h<;>simp only[Bool.and_eq_true,decide_eq_true_eq]at h<;>omega
theorem vD{s:Space}(h:ba s=true):∀a,a∈s.ar→bI a=true:=by
 unfold ba at h;split at h
 ·simp only[Bool.and_eq_true]at h;exact fB h.1
 ·simp only[Bool.and_eq_true,decide_eq_true_eq]at h;intro a ha;rw[List.length_eq_zero_iff.1 h.1]at ha;simp at ha
def iB(s:Space):Bool:=ba s&&s.sl.all gJ
theorem cJ{m:Mem}{b:Bool}(h:(bo m.ram&&bo m.swp&&decide (m.ram.rf.length=12)&&decide (m.swp.rf.length=12)&&decide (m.sp.length=5)&&inB m.hd 0 11)=b):cV m=(b&&m.sp.all iB&&cb 1 m.sp 0 m.ram.rf&&cb 2 m.sp 0 m.swp.rf):=by rw[←h];rfl
set_option maxHeartbeats 4000000 in
theorem ql (b1 b2 b3 b4 b5 : Bool) (m : Mem) (h : m.fits 4611686018427387904) : bC Try.prog 35 [aM b1 b2 b3 b4 b5 m] (.v (.one (dB (cV m)))) := by
 refine aQ hmix Try.func35 ok35 ?_; conv => whnf
 refine aC [.pass] rfl rfl rfl (nK b1 b2 m.ram h.rt h.rr) rfl ?_; conv => whnf
 refine CondP.mk (fun h1 => ?_) (fun h1 => ?_) <;> rw [h1] <;> (conv=>whnf)<;>repeat' first|(refine aE ?_;conv=>whnf)|(refine aD ?_;conv=>whnf)
 ·exact fZ (by rw [cJ rfl, show bo m.ram = false by simpa using h1]; simp)
 refine aC [.pass] rfl rfl rfl (nK b3 b4 m.swp h.st h.sr) rfl ?_
 (conv=>whnf)<;>repeat' first|(refine aE ?_;conv=>whnf)|(refine aD ?_;conv=>whnf)
 refine CondP.mk (fun h2 => ?_) (fun h2 => ?_) <;> rw [h2] <;> (conv=>whnf)<;>repeat' first|(refine aE ?_;conv=>whnf)|(refine aD ?_;conv=>whnf)
 ·exact fZ (by rw [cJ rfl, show bo m.swp = false by simpa using h2]; simp)
 refine CondP.mk (fun h3 => ?_) (fun h3 => ?_) <;> rw [h3] <;> (conv=>whnf)<;>repeat' first|(refine aE ?_;conv=>whnf)|(refine aD ?_;conv=>whnf)
 ·exact fZ (by rw [cJ rfl, show decide (m.ram.rf.length = 12) = false by simp at h3 ⊢; omega]; simp)
 refine CondP.mk (fun h4 => ?_) (fun h4 => ?_) <;> rw [h4] <;> (conv=>whnf)<;>repeat' first|(refine aE ?_;conv=>whnf)|(refine aD ?_;conv=>whnf)
 ·exact fZ (by rw [cJ rfl, show decide (m.swp.rf.length = 12) = false by simp at h4 ⊢; omega]; simp)
 refine CondP.mk (fun h5 => ?_) (fun h5 => ?_) <;> rw [h5] <;> (conv=>whnf)<;>repeat' first|(refine aE ?_;conv=>whnf)|(refine aD ?_;conv=>whnf)
 ·exact fZ (by rw [cJ rfl, show decide (m.sp.length = 5) = false by simp at h5 ⊢; omega]; simp)
 refine aC [.pass, .pass, .pass] rfl rfl rfl (hO _ _ _) rfl ?_
 (conv=>whnf)<;>repeat' first|(refine aE ?_;conv=>whnf)|(refine aD ?_;conv=>whnf)
 refine CondP.mk (fun h6 => ?_) (fun h6 => ?_) <;> conv => whnf
 ·exact fZ (by rw [cJ rfl, show inB m.hd 0 11 = false by simpa using h6]; simp)
 have hl1 : m.ram.rf.length = 12 := by simp at h3; omega
 have hl2 : m.swp.rf.length = 12 := by simp at h4; omega
 have hl5 : m.sp.length = 5 := by simp at h5; omega
 have hd := cJ (m := m) (b := true) (by simp at h1 h2 h6; simp [h1, h2, hl1, hl2, hl5, h6]); rw [Bool.true_and] at hd; refine ai (fun i : Nat => [(1, .v (.one (.ptr 0 0 0))), (3, .v (.one (dI i)))]) (fun _ => [(0, bM b1 b2 b3 b4 b5 m)]) (fun _ => 1)
  (fun i => i ≤ m.sp.length ∧ ∀ j (hj : j < m.sp.length), j < i → iB m.sp[j] = true) (fun i => m.sp.length - i) 0 ⟨by omega, by omega⟩ rfl rfl rfl fun i hi => ?_
 obtain ⟨hi1, hi2⟩ := hi; conv => whnf
 refine CondP.mk (fun h7 => ?_) (fun h7 => ?_) <;> conv => whnf
 ·have hlt : i < m.sp.length := by simp at h7; omega
  have hs := h.ss _ (List.getElem_mem hlt); have no : iB m.sp[i] = false → cV m = false := fun e => by
   have : m.sp.all iB = false := by rw [List.all_eq_false]; exact ⟨_, List.getElem_mem hlt, by simp [e]⟩
   rw [hd, this]; rfl
  refine aK (k := i) rfl rfl (by simpa using hlt) ?_; conv => whnf
  refine aH rfl (ldP hlt) ?_; conv => whnf
  refine aC [.pass] rfl rfl rfl (vq b5 b5 m.sp[i] hs.1 hs.2) rfl ?_; conv => whnf
  refine CondP.mk (fun h8 => ?_) (fun h8 => ?_) <;> conv => whnf
  ·exact fZ (no (by rw [iB, show ba m.sp[i] = false by simpa using h8]; rfl))
  have h8 : ba m.sp[i] = true := by simpa using h8
  refine ai (fun k : Nat => [(1, .v (.one (.ptr 0 0 0))), (3, .v (.one (dI i))), (4, .v (.one (dI k)))]) (fun _ => [(0, bM b1 b2 b3 b4 b5 m)]) (fun _ => 1)
   (fun k => k ≤ m.sp[i].sl.length ∧ ∀ j (hj : j < m.sp[i].sl.length), j < k → gJ m.sp[i].sl[j] = true) (fun k => m.sp[i].sl.length - k) 0 ⟨by omega, by omega⟩ rfl rfl rfl fun k hk => ?_
  obtain ⟨hk1, hk2⟩ := hk; conv => whnf
  refine aK (k := i) rfl rfl (by simpa using hlt) ?_; conv => whnf
  refine aH rfl (r := .one (.ro b5 4 (m.sp[i].sl.map rL))) (by simp [an, rP, hlt]) ?_; conv => whnf
  refine CondP.mk (fun h9 => ?_) (fun h9 => ?_) <;> conv => whnf
  ·have hlk : k < m.sp[i].sl.length := by simpa using h9
   refine aK (k := i) rfl rfl (by simpa using hlt) ?_; conv => whnf
   refine aH rfl (r := .one (.ro b5 4 (m.sp[i].sl.map rL))) (by simp [an, rP, hlt]) ?_; conv => whnf
   refine aK (k := k) rfl rfl (by simpa using hlk) ?_; conv => whnf
   refine aH rfl (ldL hlk) ?_; conv => whnf
   have next : gJ m.sp[i].sl[k] = true → ∀ j (hj : j < m.sp[i].sl.length), j < k + 1 → gJ m.sp[i].sl[j] = true := fun e j hj hjk => by
    by_cases e2 : j = k
    ·subst e2; exact e
    ·exact hk2 j hj (by omega)
   have bad : gJ m.sp[i].sl[k] = false → cV m = false := fun e => no (by rw [iB, h8, Bool.true_and, List.all_eq_false]; exact ⟨_, List.getElem_mem hlk, by simp [e]⟩)
   refine CondP.mk (fun ha => ?_) (fun ha => ?_) <;> conv => whnf
   all_goals
    refine CondP.mk (fun hb => ?_) (fun hb => ?_) <;> rw [hb] <;> (conv=>whnf)<;>repeat' first|(refine aE ?_;conv=>whnf)|(refine aD ?_;conv=>whnf)
    ·have hb : ¬ m.sp[i].sl[k].kd = 0 := by simpa using hb
     refine aC [.pass, .pass, .pass] rfl rfl rfl (hO _ _ _) rfl ?_
     (conv=>whnf)<;>repeat' first|(refine aE ?_;conv=>whnf)|(refine aD ?_;conv=>whnf)
     have e11 : IntKind.wrap .i64 (12 - 1) = 11 := by decide
     refine CondP.mk (fun hc => ?_) (fun hc => ?_) <;> conv => whnf
     ·rw [e11] at hc; exact fZ (bad (by rw [gJ, decide_eq_false hb, show inB m.sp[i].sl[k].pl 0 11 = false by simpa using hc]; rfl))
     ·rw [e11] at hc; refine ⟨k + 1, by omega, ⟨by omega, next (by rw [gJ, show inB m.sp[i].sl[k].pl 0 11 = true by simpa using hc, Bool.or_true])⟩, ?_, rfl, rfl⟩; rw [up hlk hs.2]; rfl
    ·have hb : m.sp[i].sl[k].kd = 0 := by simpa using hb
     refine ⟨k + 1, by omega, ⟨by omega, next (by rw [gJ, decide_eq_true hb, Bool.true_or])⟩, ?_, rfl, rfl⟩; rw [up hlk hs.2]; rfl
  ·have hke : k = m.sp[i].sl.length := by
                       have : ¬ k < m.sp[i].sl.length := by simpa using h9
                       omega
   refine ⟨i + 1, by omega, ⟨by omega, fun j hj hji => ?_⟩, ?_, rfl, rfl⟩
   ·by_cases e : j = i
    ·subst e; rw [iB, h8, Bool.true_and, List.all_eq_true]; intro x hx; obtain ⟨j', hj', rfl⟩ := List.getElem_of_mem hx; exact hk2 j' hj' (by omega)
    ·exact hi2 j hj (by omega)
   ·rw [up hlt (by omega)]; rfl
 ·have hall : ∀ s, s ∈ m.sp → iB s = true := fun s hs => by obtain ⟨j, hj, rfl⟩ := List.getElem_of_mem hs; exact hi2 j hj (by simp at h7; omega)
  have hsl : ∀ s, s ∈ m.sp → s.sl.length ≤ 16 := fun s hs => nL (by have := hall s hs; simp only [iB, Bool.and_eq_true] at this; exact this.1)
  have har : ∀ s, s ∈ m.sp → ∀ a, a ∈ s.ar → bI a = true := fun s hs => vD (by have := hall s hs; simp only [iB, Bool.and_eq_true] at this; exact this.1)
  rw [show m.sp.all iB = true from List.all_eq_true.2 hall, Bool.true_and] at hd; have htel : ∀ kd pl, (tel kd pl m.sp).length ≤ 4611686018427387904 := fun kd pl => by have := wJ (kd := kd) (pl := pl) hsl; omega
  refine ai (fun i : Nat => [(1, .v (.one (.ptr 0 0 0))), (7, .v (.one (dI i)))]) (fun _ => [(0, bM b1 b2 b3 b4 b5 m)]) (fun _ => 1)
   (fun i => i ≤ m.ram.rf.length ∧ cb 1 m.sp 0 m.ram.rf = cb 1 m.sp i (m.ram.rf.drop i)) (fun i => m.ram.rf.length - i) 0 ⟨by omega, by simp⟩ rfl rfl rfl fun p hp => ?_
  obtain ⟨hp1, hp2⟩ := hp; conv => whnf
  refine CondP.mk (fun h8 => ?_) (fun h8 => ?_) <;> conv => whnf
  ·have hlt : p < m.ram.rf.length := by simp at h8; omega
   rw [jo hlt] at hp2; have no : gQ 1 m.sp p m.ram.rf[p] = false → cV m = false := fun e => by rw [hd, hp2, e]; rfl
   refine aK (k := p) rfl rfl (by simpa using hlt) ?_; conv => whnf
   refine aH rfl (r := .one (dI m.ram.rf[p])) (by simp [an, rI, hlt, eI, dI]) ?_; conv => whnf
   refine aC [.pass, .pass, .pass] rfl rfl rfl (rH b1 b2 b3 b4 b5 m 1 p h (htel _ _)) rfl ?_; conv => whnf
   refine CondP.mk (fun h9 => ?_) (fun h9 => ?_) <;> rw [h9] <;> (conv=>whnf)<;>repeat' first|(refine aE ?_;conv=>whnf)|(refine aD ?_;conv=>whnf)
   ·exact fZ (no (by rw [gQ, show decide (((tel 1 (p : Int) m.sp).length : Int) = m.ram.rf[p]) = false by simpa using h9]; rfl))
   have h9 : decide (((tel 1 (p : Int) m.sp).length : Int) = m.ram.rf[p]) = true := by simpa using h9
   refine aC [.pass, .pass, .pass] rfl rfl rfl (oK b1 b2 b3 b4 b5 m 1 p h (htel _ _) har) rfl ?_
   (conv=>whnf)<;>repeat' first|(refine aE ?_;conv=>whnf)|(refine aD ?_;conv=>whnf)
   refine CondP.mk (fun ha => ?_) (fun ha => ?_) <;> conv => whnf
   ·exact fZ (no (by rw [gQ, h9, show alone (tel 1 (p : Int) m.sp) = false by simpa using ha]; rfl))
   have ha : alone (tel 1 (p : Int) m.sp) = true := by simpa using ha
   refine ⟨p + 1, by omega, ⟨by omega, by rw [hp2, gQ, h9, ha]; rfl⟩, ?_, rfl, rfl⟩; rw [up hlt h.rr]; rfl
  have hpe : p = m.ram.rf.length := by
                     have : ¬ p < m.ram.rf.length := by simp at h8; omega
                     omega
  subst hpe; rw [List.drop_length] at hp2; simp only [cb] at hp2; rw [hp2, Bool.true_and] at hd; refine ai (fun i : Nat => [(1, .v (.one (.ptr 0 0 0))), (8, .v (.one (dI i)))]) (fun _ => [(0, bM b1 b2 b3 b4 b5 m)]) (fun _ => 1)
   (fun i => i ≤ m.swp.rf.length ∧ cb 2 m.sp 0 m.swp.rf = cb 2 m.sp i (m.swp.rf.drop i)) (fun i => m.swp.rf.length - i) 0 ⟨by omega, by simp⟩ rfl rfl rfl fun p hq => ?_
  obtain ⟨hq1, hq2⟩ := hq; conv => whnf
  refine CondP.mk (fun h8 => ?_) (fun h8 => ?_) <;> conv => whnf
  ·have hlt : p < m.swp.rf.length := by simp at h8; omega
   rw [jo hlt] at hq2; have no : gQ 2 m.sp p m.swp.rf[p] = false → cV m = false := fun e => by rw [hd, hq2, e]; rfl
   refine aK (k := p) rfl rfl (by simpa using hlt) ?_; conv => whnf
   refine aH rfl (r := .one (dI m.swp.rf[p])) (by simp [an, rI, hlt, eI, dI]) ?_; conv => whnf
   refine aC [.pass, .pass, .pass] rfl rfl rfl (rH b1 b2 b3 b4 b5 m 2 p h (htel _ _)) rfl ?_; conv => whnf
   refine CondP.mk (fun h9 => ?_) (fun h9 => ?_) <;> rw [h9] <;> (conv=>whnf)<;>repeat' first|(refine aE ?_;conv=>whnf)|(refine aD ?_;conv=>whnf)
   ·exact fZ (no (by rw [gQ, show decide (((tel 2 (p : Int) m.sp).length : Int) = m.swp.rf[p]) = false by simpa using h9]; rfl))
   have h9 : decide (((tel 2 (p : Int) m.sp).length : Int) = m.swp.rf[p]) = true := by simpa using h9
   refine aC [.pass, .pass, .pass] rfl rfl rfl (oK b1 b2 b3 b4 b5 m 2 p h (htel _ _) har) rfl ?_
   (conv=>whnf)<;>repeat' first|(refine aE ?_;conv=>whnf)|(refine aD ?_;conv=>whnf)
   refine CondP.mk (fun ha => ?_) (fun ha => ?_) <;> conv => whnf
   ·exact fZ (no (by rw [gQ, h9, show alone (tel 2 (p : Int) m.sp) = false by simpa using ha]; rfl))
   have ha : alone (tel 2 (p : Int) m.sp) = true := by simpa using ha
   refine ⟨p + 1, by omega, ⟨by omega, by rw [hq2, gQ, h9, ha]; rfl⟩, ?_, rfl, rfl⟩; rw [up hlt h.sr]; rfl
  have hqe : p = m.swp.rf.length := by
                     have : ¬ p < m.swp.rf.length := by simp at h8; omega
                     omega
  subst hqe; rw [List.drop_length] at hq2; simp only [cb] at hq2; exact aCU (by rw [hd, hq2])
end Go.Qm
namespace Go.Qm
open Go.Cq Go.Cq.D Go.RowKit Go.Proofs
set_option maxRecDepth 10000
theorem Mem.fits.mono{n n':Nat}{m:Mem}(h:m.fits n)(hn:n≤n'):m.fits n':=⟨Nat.le_trans h.rt hn,Nat.le_trans h.rr hn,Nat.le_trans h.st hn,Nat.le_trans h.sr hn,Nat.le_trans h.sp hn,fun s hs=>⟨Nat.le_trans (h.ss s hs).1 hn,Nat.le_trans (h.ss s hs).2 hn⟩⟩
theorem fm{l:List Space}{k:Int}(h:fT l k=true):∃i:Nat,k=i∧∃hi:i<l.length,l[i].lv=true:=by
 simp only[fT,inB,Bool.and_eq_true,decide_eq_true_eq]at h;obtain⟨⟨h1,h2⟩,h3⟩:=h;have hk:k.toNat<l.length:=by omega
 refine⟨k.toNat,by omega,hk,?_⟩;simpa [hk]using h3
end Go.Qm
namespace Go.Qm
open Go.Cq Go.Cq.D Go.RowKit Go.Proofs
set_option maxRecDepth 10000
end Go.Qm
namespace Go.Qm
open Go.Cq Go.Cq.D Go.RowKit Go.Proofs
set_option maxRecDepth 10000
end Go.Qm
namespace Go.Qm
open Go.Cq Go.Cq.D Go.RowKit Go.Proofs
set_option maxRecDepth 10000
def vG:Prop:=∀(b1 b2 b3 b4 b5:Bool)(m:Mem),m.fits 1048576→bC Try.prog 34 [aM b1 b2 b3 b4 b5 m] (.v (.one (dB (cV m))))
end Go.Qm
namespace Go.Qm
open Go.Cq Go.Cq.D Go.RowKit Go.Proofs
set_option maxRecDepth 10000
theorem sy{m:Mem}(h:cV m=true):m.fits 16:=by
 simp only[cV,Bool.and_eq_true,decide_eq_true_eq]at h;obtain⟨⟨⟨⟨⟨⟨⟨⟨h1,h2⟩,h3⟩,h4⟩,h5⟩,h6⟩,h7⟩,h8⟩,h9⟩:=h;simp only[bo,Bool.and_eq_true,decide_eq_true_eq]at h1 h2;refine⟨by omega,by omega,by omega,by omega,by omega,fun s hs=>?_⟩;have hs:=List.all_eq_true.1 h7 s hs;simp only[Bool.and_eq_true]at hs;have hso:=hs.1;unfold ba at hso;split at hso
 ·simp only[Bool.and_eq_true,decide_eq_true_eq]at hso;have:=hso.1;simp only[ay,Bool.and_eq_true,decide_eq_true_eq]at this;omega
 ·simp only[Bool.and_eq_true,decide_eq_true_eq]at hso;omega
end Go.Qm
namespace Go.Qm
open Go.Cq Go.Cq.D Go.RowKit Go.Proofs
set_option maxRecDepth 10000
end Go.Qm
namespace Go.Qm
open Go.Cq Go.Cq.D Go.RowKit Go.Proofs
set_option maxRecDepth 10000
theorem ff{b r:Bool}{ts:DTs}(hl:ak ts 2=some (.v (.one (.sc (.bool b)))))(hr:r=b):(X.ret= .nrm∨X.ret= .ret)∧ak ts 2=some (.v (.one (.sc (.bool r)))):=⟨.inr rfl,by rw[hr];exact hl⟩
set_option maxHeartbeats 4000000 in
theorem aAG:vG:=by
 intro b1 b2 b3 b4 b5 m h;refine aAR hmix Try.func34 ok34 (Nat.le_of_ble_eq_true rfl) rfl rfl (fun U0 h0 c0 hU0=>?_);have hf:=h.mono (n':=4611686018427387904) (by decide);refine lP ?_;refine iE (bW wW ?_);conv=>whnf
 refine lP ?_;refine iE (bW wW ?_);conv=>whnf
 refine aC [.pass] rfl rfl rfl (lL b1 b2 m.ram hf.rt hf.rr) rfl ?_;conv=>whnf
 refine CondP.mk (fun h1=>?_) (fun h1=>?_)<;>rw[h1]<;>(conv=>whnf)<;>repeat' first|(refine aE ?_;conv=>whnf)|(refine aD ?_;conv=>whnf)
 ·exact ff rfl (by rw[cJ rfl,show bo m.ram=false by simpa using h1];simp)
 refine CondP.mk (fun h3=>?_) (fun h3=>?_)<;>rw[h3]<;>(conv=>whnf)<;>repeat' first|(refine aE ?_;conv=>whnf)|(refine aD ?_;conv=>whnf)
 ·exact ff rfl (by rw[cJ rfl,show decide (m.ram.rf.length=12)=false by simp at h3 ⊢;omega];simp)
 refine aC [.pass] rfl rfl rfl (lL b3 b4 m.swp hf.st hf.sr) rfl ?_
 (conv=>whnf)<;>repeat' first|(refine aE ?_;conv=>whnf)|(refine aD ?_;conv=>whnf)
 refine CondP.mk (fun h2=>?_) (fun h2=>?_)<;>rw[h2]<;>(conv=>whnf)<;>repeat' first|(refine aE ?_;conv=>whnf)|(refine aD ?_;conv=>whnf)
 ·exact ff rfl (by rw[cJ rfl,show bo m.swp=false by simpa using h2];simp)
 refine CondP.mk (fun h4=>?_) (fun h4=>?_)<;>rw[h4]<;>(conv=>whnf)<;>repeat' first|(refine aE ?_;conv=>whnf)|(refine aD ?_;conv=>whnf)
 ·exact ff rfl (by rw[cJ rfl,show decide (m.swp.rf.length=12)=false by simp at h4 ⊢;omega];simp)
 refine CondP.mk (fun h5=>?_) (fun h5=>?_)<;>rw[h5]<;>(conv=>whnf)<;>repeat' first|(refine aE ?_;conv=>whnf)|(refine aD ?_;conv=>whnf)
 ·exact ff rfl (by rw[cJ rfl,show decide (m.sp.length=5)=false by simp at h5 ⊢;omega];simp)
 refine aC [.pass,.pass,.pass] rfl rfl rfl (kN _ _ _) rfl ?_
 (conv=>whnf)<;>repeat' first|(refine aE ?_;conv=>whnf)|(refine aD ?_;conv=>whnf)
 refine CondP.mk (fun h6=>?_) (fun h6=>?_)<;>conv=>whnf
 ·exact ff rfl (by rw[cJ rfl,show inB m.hd 0 11=false by simpa using h6];simp)
 have hl1:m.ram.rf.length=12:=by simp at h3;omega
 have hl2:m.swp.rf.length=12:=by simp at h4;omega
 have hl5:m.sp.length=5:=by simp at h5;omega
 have hd:=cJ (m:=m) (b:=true) (by simp at h1 h2 h6;simp[h1,h2,hl1,hl2,hl5,h6]);rw[Bool.true_and]at hd;refine lP (iE (ra (aDQ fun mid=>?_)));refine aC3 [⟨none,some 3,.cp 54⟩] [] rfl rfl (cO ..) ?_;conv=>whnf
 refine sR ⟨cO ..,?_⟩;conv=>whnf
 refine lP (iE (cy (bW (cO ..) ?_)));conv=>whnf
 refine jj ?_;refine sC (fun q:Nat×Tl=>[(1,.v (.one (.ptr 0 0 0))),(3,.v (.one (.sc (.mp mid)))),(56,.v (.one (.ro b5 3 (m.sp.map rP)))),(57,.v (.one (dI (m.sp.map rP).length))),(58,.v (.one (dI q.1)))]) (fun _=>[(0,bM b1 b2 b3 b4 b5 m)]) (fun _=>1) (fun q=>GT c0 mid q.2)
  (fun q=>q.1≤m.sp.length∧Tells m q.2 q.1 0∧∀j(hj:j<m.sp.length),j<q.1→iB m.sp[j]=true) (fun q=>m.sp.length-q.1) (0,[]) ⟨by omega,Tells.zero m,by omega⟩ rfl rfl rfl rfl fun q hq=>?_
 obtain⟨i,L⟩:=q;obtain⟨hi1,hi2,hi3⟩:=hq;simp only at hi1 hi2 hi3;refine cy (bW (cO ..) ?_);conv=>whnf
 refine cy (bW (cO ..) ?_);conv=>whnf
 refine CondP.mk (fun h7=>?_) (fun h7=>?_)<;>conv=>whnf
 ·have hlt:i<m.sp.length:=by simp at h7;omega
  have hs:=hf.ss _ (List.getElem_mem hlt);refine cy (jj (cy (bW (cO ..) ?_)));conv=>whnf
  refine aK (k:=i) rfl rfl (by simpa using hlt) ?_;conv=>whnf
  refine aH rfl (ldP hlt) ?_;conv=>whnf
  have no:iB m.sp[i]=false→cV m=false:=fun e=>by
   have:m.sp.all iB=false:=by rw[List.all_eq_false];exact⟨_,List.getElem_mem hlt,by simp[e]⟩
   rw[hd,this];rfl
  refine cy (bW (cO ..) ?_);conv=>whnf
  refine CondP.mk (fun h8=>?_) (fun h8=>?_)<;>conv=>whnf
  ·
   have hlv:m.sp[i].lv=false:=by simpa using h8
   refine CondP.mk (fun h9=>?_) (fun h9=>?_)<;>rw[h9]<;>(conv=>whnf)<;>repeat' first|(refine aE ?_;conv=>whnf)|(refine aD ?_;conv=>whnf)
   ·refine ff rfl (no ?_);have:¬m.sp[i].ar.length=0:=by simp at h9;omega
    simp[iB,ba,hlv,this]
   refine CondP.mk (fun ha=>?_) (fun ha=>?_)<;>conv=>whnf
   ·refine ff rfl (no ?_);have:¬m.sp[i].sl.length=0:=by simp at ha;omega
    simp[iB,ba,hlv,this]
   ·have e1:m.sp[i].ar.length=0:=by simpa using h9
    have e2:m.sp[i].sl.length=0:=by simpa using ha
    refine bW (cO ..) ?_;conv=>whnf
    refine⟨(i+1,L),by simp only;omega,⟨by simp only;omega,hi2.dead hlt e2,fun j hj hji=>?_⟩,?_,rfl,rfl,rfl⟩
    ·by_cases e:j=i
     ·subst e;simp only[iB,ba,hlv,e1,e2,decide_true,Bool.and_true,Bool.true_and,if_false,Bool.false_eq_true];rw[List.length_eq_zero_iff.1 e2];rfl
     ·exact hi3 j hj (by simp only at hji;omega)
    ·simp only[up hlt (by omega)];rfl
  have hlv:m.sp[i].lv=true:=by simpa using h8
  refine cy (bW (cO ..) ?_);conv=>whnf
  refine aC [.pass] rfl rfl rfl (pX b5 m.sp[i].ar hs.1) rfl ?_;conv=>whnf
  refine CondP.mk (fun h9=>?_) (fun h9=>?_)<;>rw[h9]<;>(conv=>whnf)<;>repeat' first|(refine aE ?_;conv=>whnf)|(refine aD ?_;conv=>whnf)
  ·refine ff rfl (no ?_);simp[iB,ba,hlv,show ay m.sp[i].ar=false by simpa using h9]
  have h9:ay m.sp[i].ar=true:=by simpa using h9
  refine CondP.mk (fun ha=>?_) (fun ha=>?_)<;>conv=>whnf
  ·refine ff rfl (no ?_);have:¬m.sp[i].sl.length=16:=by simp at ha;omega
   simp[iB,ba,hlv,this]
  have ha:m.sp[i].sl.length=16:=by simp at ha;omega
  have hat:∀page:Int,dW m.sp[i].ar page=az m.sp[i].ar page:=fun page=>by rw[dW,h9,if_pos rfl]
  refine cy (bW (cO ..) ?_);conv=>whnf
  refine jj ?_;refine sC (fun q:Nat×Tl=>[(1,.v (.one (.ptr 0 0 0))),(3,.v (.one (.sc (.mp mid)))),(5,.v (.one (.ptr 1 0 0))),(56,.v (.one (.ro b5 3 (m.sp.map rP)))),(57,.v (.one (dI (m.sp.map rP).length))),(58,.v (.one (dI i))),(86,.v (.one (.ro b5 4 (m.sp[i].sl.map rL)))),(87,.v (.one (dI (m.sp[i].sl.map rL).length))),(88,.v (.one (dI q.1)))])
   (fun _=>[(1,.box [dB m.sp[i].lv,.ro b5 4 (m.sp[i].ar.map rA),.ro b5 4 (m.sp[i].sl.map rL)]),(0,bM b1 b2 b3 b4 b5 m)]) (fun _=>2) (fun q=>GT c0 mid q.2)
   (fun q=>q.1≤m.sp[i].sl.length∧Tells m q.2 i q.1∧∀j(hj:j<m.sp[i].sl.length),j<q.1→cw m.sp[i].ar j m.sp[i].sl[j]=true∧gJ m.sp[i].sl[j]=true) (fun q=>m.sp[i].sl.length-q.1) (0,L) ⟨by omega,hi2,by omega⟩ rfl rfl rfl rfl fun q hq=>?_
  obtain⟨j,L⟩:=q;obtain⟨hj1,hj2,hj3⟩:=hq;simp only at hj1 hj2 hj3;refine cy (bW (cO ..) ?_);conv=>whnf
  refine cy (bW (cO ..) ?_);conv=>whnf
  refine CondP.mk (fun hb=>?_) (fun hb=>?_)<;>conv=>whnf
  ·have hlj:j<m.sp[i].sl.length:=by simpa using hb
   have nos:(cw m.sp[i].ar j m.sp[i].sl[j]=false∨gJ m.sp[i].sl[j]=false)→cV m=false:=fun e=>by
    cases hm:cV m with
    |false=>rfl
    |true=>
     rcases e with e|e
     ·rw[uw hm hlt hlj hlv]at e;simp at e
     ·have:=List.all_eq_true.1 (uX hm hlt).2 _ (List.getElem_mem hlj);rw[this]at e;simp at e
   refine cy (jj (cy (bW (cO ..) ?_)));conv=>whnf
   refine aK (k:=j) rfl rfl (by simpa using hlj) ?_;conv=>whnf
   refine aH rfl (ldL hlj) ?_;conv=>whnf
   refine wL (fun ts H n γ=>∃v:Bool,ts=[(1,.v (.one (.ptr 0 0 0))),(3,.v (.one (.sc (.mp mid)))),(5,.v (.one (.ptr 1 0 0))),(6,.v (.one (dI j))),(7,.v (.one (.ptr 2 0 0))),(56,.v (.one (.ro b5 3 (m.sp.map rP)))),(57,.v (.one (dI (m.sp.map rP).length))),(58,.v (.one (dI i))),(86,.v (.one (.ro b5 4 (m.sp[i].sl.map rL)))),(87,.v (.one (dI (m.sp[i].sl.map rL).length))),(88,.v (.one (dI j))),(134,.v (.one (dB v)))]∧
    H=[(2,.box [dI m.sp[i].sl[j].kd,dI m.sp[i].sl[j].pl,dB m.sp[i].sl[j].ow,dB m.sp[i].sl[j].us]),(1,.box [dB m.sp[i].lv,.ro b5 4 (m.sp[i].ar.map rA),.ro b5 4 (m.sp[i].sl.map rL)]),(0,bM b1 b2 b3 b4 b5 m)]∧n=3∧γ=GT c0 mid L∧cw m.sp[i].ar j m.sp[i].sl[j]=true∧gJ m.sp[i].sl[j]=true∧¬m.sp[i].sl[j].kd=0) (jj (cy (bW (cO ..) ?_))) ?_
   rotate_left
   ·rintro ts H n γ ⟨v,rfl,rfl,rfl,rfl,hs1,hs2,hs3⟩;refine cy (bW (cO ..) ?_);conv=>whnf
    refine aAq hU0 rfl rfl rfl rfl (fun p hp=>by have:=hj2.len p hp;omega) ?_;conv=>whnf
    refine aC [.pass,.pass] rfl rfl rfl (qK b5 b5 m.sp[i] j hs.1) rfl ?_;conv=>whnf
    simp only[hat];refine bV rfl rfl rfl ?_;conv=>whnf
    refine⟨⟨(m.sp[i].sl[j].kd,m.sp[i].sl[j].pl),(m.sp[i].sl[j].ow,jB m.sp[i].ar (az m.sp[i].ar (j:Int))),_,rfl,rfl,rfl,rfl,⟨rfl,rfl,rfl,rfl⟩,?_⟩⟩;conv=>whnf
    refine bW (cO ..) ?_;conv=>whnf
    refine⟨(j+1,iR (m.sp[i].sl[j].kd,m.sp[i].sl[j].pl) (m.sp[i].sl[j].ow,jB m.sp[i].ar (az m.sp[i].ar (j:Int))) L),by simp only;omega,⟨by simp only;omega,hj2.add hlt hlj,fun j' hj' hjj=>?_⟩,?_,rfl,rfl,rfl⟩
    ·by_cases e:j'=j
     ·subst e;exact⟨hs1,hs2⟩
     ·exact hj3 j' hj' (by simp only at hjj;omega)
    ·simp only[up hlj (by omega)];rfl
   conv=>whnf
   have e0:(m.sp[i].sl[j].kd==0&&(m.sp[i].sl[j].pl==0&&(m.sp[i].sl[j].ow==false&&(m.sp[i].sl[j].us==false&&true))))=decide (m.sp[i].sl[j]=dN):=by
    rcases m.sp[i].sl[j]with⟨k,p,o,u⟩
    rw[Bool.eq_iff_iff];simp[dN]
   refine CondP.mk (fun hk=>?_) (fun hk=>?_)<;>rw[hk]<;>(conv=>whnf)<;>repeat' first|(refine aE ?_;conv=>whnf)|(refine aD ?_;conv=>whnf)
   ·have hk:m.sp[i].sl[j].kd=0:=by simpa using hk
    refine bW (cO ..) ?_
    (conv=>whnf)<;>repeat' first|(refine aE ?_;conv=>whnf)|(refine aD ?_;conv=>whnf)
    refine oG rfl rfl rfl rfl rfl ?_;conv=>whnf
    refine CondP.mk (fun h4=>?_) (fun h4=>?_)<;>conv=>whnf
    ·refine ff rfl (nos (.inl ?_));rw[e0]at h4;rw[cw,if_pos hk];simpa using h4
    ·rw[e0]at h4;have h4:m.sp[i].sl[j]=dN:=by simpa using h4
     refine bW (cO ..) ?_;conv=>whnf
     refine⟨(j+1,L),by simp only;omega,⟨by simp only;omega,hj2.skip hlt hlj hk,fun j' hj' hjj=>?_⟩,?_,rfl,rfl,rfl⟩
     ·by_cases e:j'=j
      ·subst e;exact⟨by rw[cw,if_pos hk];simpa using h4,by simp[gJ,hk]⟩
      ·exact hj3 j' hj' (by simp only at hjj;omega)
     ·simp only[up hlj (by omega)];rfl
   have hk:¬m.sp[i].sl[j].kd=0:=by simpa using hk
   refine aC [.pass,.pass] rfl rfl rfl (lR b5 m.sp[i].ar j hs.1) rfl ?_
   (conv=>whnf)<;>repeat' first|(refine aE ?_;conv=>whnf)|(refine aD ?_;conv=>whnf)
   rw[hat];refine aBR rfl (fun hp=>?_) (fun hp=>?_)
   ·have hp:az m.sp[i].ar j<0:=by simpa using hp
    refine bW (cO ..) ?_;conv=>whnf
    refine oG rfl rfl rfl rfl rfl ?_;conv=>whnf
    refine CondP.mk (fun h4=>?_) (fun h4=>?_)<;>conv=>whnf
    ·refine ff rfl (nos (.inl ?_));rw[cw,if_neg hk,show decide (0≤az m.sp[i].ar (j:Int))=false by simp;omega];rfl
    ·exfalso;rw[e0]at h4;have h4:m.sp[i].sl[j]=dN:=by simpa using h4
     exact hk (by rw[h4];rfl)
   have hp:0≤az m.sp[i].ar j:=by simp at hp;omega
   have hpb:decide (az m.sp[i].ar (j:Int)<0)=false:=by simp;omega
   refine wL (fun ts H n γ=>∃v:Bool,ts=[(1,.v (.one (.ptr 0 0 0))),(3,.v (.one (.sc (.mp mid)))),(5,.v (.one (.ptr 1 0 0))),(6,.v (.one (dI j))),(7,.v (.one (.ptr 2 0 0))),(56,.v (.one (.ro b5 3 (m.sp.map rP)))),(57,.v (.one (dI (m.sp.map rP).length))),(58,.v (.one (dI i))),(86,.v (.one (.ro b5 4 (m.sp[i].sl.map rL)))),(87,.v (.one (dI (m.sp[i].sl.map rL).length))),(88,.v (.one (dI j))),(107,.v (.one (dB v)))]∧
    H=[(2,.box [dI m.sp[i].sl[j].kd,dI m.sp[i].sl[j].pl,dB m.sp[i].sl[j].ow,dB m.sp[i].sl[j].us]),(1,.box [dB m.sp[i].lv,.ro b5 4 (m.sp[i].ar.map rA),.ro b5 4 (m.sp[i].sl.map rL)]),(0,bM b1 b2 b3 b4 b5 m)]∧n=3∧γ=GT c0 mid L∧(v=true→cV m=false)∧(v=false→inB m.sp[i].sl[j].kd 1 2=true∧gJ m.sp[i].sl[j]=true)) ?_ ?_
   ·refine bW (cO ..) ?_;conv=>whnf
    have noh:∀{p:Pages},(m.sp[i].sl[j].kd=1∧p=m.ram∨m.sp[i].sl[j].kd=2∧p=m.swp)→(inB m.sp[i].sl[j].pl 0 (p.rf.length-1)&&decide (0<p.rf[m.sp[i].sl[j].pl.toNat]?.getD 0))=false→cV m=false:=fun{p} hp hh=>by
     cases hm:cV m with
     |false=>rfl
     |true=>
      exfalso;obtain⟨k1,k2⟩:=aCt hm (List.getElem_mem hlt) (List.getElem_mem hlj);rcases hp with⟨e,rfl⟩| ⟨e,rfl⟩
      ·obtain⟨q1,q2⟩:=k1 e;rw[hl1,show((12:Nat):Int)-1=11 from rfl,q1]at hh;simp at hh;omega
      ·obtain⟨q1,q2⟩:=k2 e;rw[hl2,show((12:Nat):Int)-1=11 from rfl,q1]at hh;simp at hh;omega
    have nin:(!inB m.sp[i].sl[j].kd 1 2)=true→cV m=false:=fun e=>nos (.inl (by rw[cw,if_neg hk,show inB m.sp[i].sl[j].kd 1 2=false by simpa using e];simp))
    refine CondP.mk (fun c1=>?_) (fun c1=>?_)<;>rw[c1]<;>(conv=>whnf)<;>repeat' first|(refine aE ?_;conv=>whnf)|(refine aD ?_;conv=>whnf)
    ·have c1:m.sp[i].sl[j].kd=1:=by simpa using c1
     refine aC [.pass,.pass] rfl rfl rfl (aAw b1 b2 m.ram m.sp[i].sl[j].pl (by omega)) rfl ?_
     (conv=>whnf)<;>repeat' first|(refine aE ?_;conv=>whnf)|(refine aD ?_;conv=>whnf)
     refine CondP.mk (fun hh=>?_) (fun hh=>?_)<;>conv=>whnf
     ·exact⟨_,rfl,rfl,rfl,rfl,fun _=>noh (.inl ⟨c1,rfl⟩) (by simpa only[Bool.not_eq_true']using hh),fun e=>by rw[hh]at e;simp at e⟩
     ·refine CondP.mk (fun c2=>?_) (fun c2=>?_)<;>rw[c2]<;>(conv=>whnf)<;>repeat' first|(refine aE ?_;conv=>whnf)|(refine aD ?_;conv=>whnf)
      ·simp at c2;omega
      ·refine aC [.pass,.pass,.pass] rfl rfl rfl (kN _ _ _) rfl ?_;conv=>whnf
       refine⟨_,rfl,rfl,rfl,rfl,nin,fun e=>⟨by simpa using e,?_⟩⟩;rw[hl1,show((12:Nat):Int)-1=11 from rfl]at hh;simp only[Bool.not_eq_false',Bool.and_eq_true]at hh;rw[gJ,hh.1,Bool.or_true]
    ·have c1:¬m.sp[i].sl[j].kd=1:=by simpa using c1
     refine CondP.mk (fun c2=>?_) (fun c2=>?_)<;>rw[c2]<;>(conv=>whnf)<;>repeat' first|(refine aE ?_;conv=>whnf)|(refine aD ?_;conv=>whnf)
     ·have c2:m.sp[i].sl[j].kd=2:=by simpa using c2
      refine aC [.pass,.pass] rfl rfl rfl (aAw b3 b4 m.swp m.sp[i].sl[j].pl (by omega)) rfl ?_
      (conv=>whnf)<;>repeat' first|(refine aE ?_;conv=>whnf)|(refine aD ?_;conv=>whnf)
      refine CondP.mk (fun hh=>?_) (fun hh=>?_)<;>conv=>whnf
      ·exact⟨_,rfl,rfl,rfl,rfl,fun _=>noh (.inr ⟨c2,rfl⟩) (by simpa only[Bool.not_eq_true']using hh),fun e=>by rw[hh]at e;simp at e⟩
      ·refine aC [.pass,.pass,.pass] rfl rfl rfl (kN _ _ _) rfl ?_;conv=>whnf
       refine⟨_,rfl,rfl,rfl,rfl,nin,fun e=>⟨by simpa using e,?_⟩⟩;rw[hl2,show((12:Nat):Int)-1=11 from rfl]at hh;simp only[Bool.not_eq_false',Bool.and_eq_true]at hh;rw[gJ,hh.1,Bool.or_true]
     ·have c2:¬m.sp[i].sl[j].kd=2:=by simpa using c2
      refine aC [.pass,.pass,.pass] rfl rfl rfl (kN _ _ _) rfl ?_;conv=>whnf
      refine⟨_,rfl,rfl,rfl,rfl,nin,fun e=>⟨by simpa using e,?_⟩⟩;simp only[Bool.not_eq_false',inB,Bool.and_eq_true,decide_eq_true_eq]at e;omega
   ·rintro ts H n γ ⟨v,rfl,rfl,rfl,rfl,hv1,hv2⟩;refine bW (cO ..) ?_;conv=>whnf
    refine CondP.mk (fun hv=>?_) (fun hv=>?_)<;>rw[hv]<;>conv=>whnf
    ·exact ff rfl (hv1 hv)
    obtain⟨hin,hpl⟩:=hv2 hv;refine aC [.pass,.pass] rfl rfl rfl (qK b5 b5 m.sp[i] j hs.1) rfl ?_;conv=>whnf
    rw[hat];refine CondP.mk (fun hsh=>?_) (fun hsh=>?_)<;>rw[hsh]<;>(conv=>whnf)<;>repeat' first|(refine aE ?_;conv=>whnf)|(refine aD ?_;conv=>whnf)
    ·refine CondP.mk (fun how=>?_) (fun how=>?_)<;>conv=>whnf
     ·refine ff rfl (nos (.inl ?_));rw[cw,if_neg hk,hsh];have:m.sp[i].sl[j].ow=false:=by simpa using how
      simp[this]
     ·refine⟨_,rfl,rfl,rfl,rfl,?_,hpl,hk⟩;have:m.sp[i].sl[j].ow=true:=by simpa using how
      rw[cw,if_neg hk,hin,this];simp[hp]
    ·refine⟨_,rfl,rfl,rfl,rfl,?_,hpl,hk⟩;rw[cw,if_neg hk,hin,hsh];simp[hp]
  ·have hje:j=m.sp[i].sl.length:=by
                       have:¬j<m.sp[i].sl.length:=by simpa using hb
                       omega
   refine bW (cO ..) ?_;conv=>whnf
   refine⟨(i+1,L),by simp only;omega,⟨by simp only;omega,hj2.next hlt hje.symm (by omega),fun i' hi' hii=>?_⟩,?_,rfl,rfl,rfl⟩
   ·by_cases e:i'=i
    ·subst e;have h1:cu m.sp[i'].ar 0 m.sp[i'].sl=true:=sB fun j' x hx=>by obtain⟨hj',rfl⟩:=List.getElem?_eq_some_iff.1 hx;rw[Nat.zero_add];exact(hj3 j' hj' (by omega)).1
     have h2:m.sp[i'].sl.all gJ=true:=List.all_eq_true.2 fun x hx=>by obtain⟨j',hj',rfl⟩:=List.getElem_of_mem hx;exact(hj3 j' hj' (by omega)).2
     rw[iB,ba,if_pos hlv,h9,ha,h1,h2];rfl
    ·exact hi3 i' hi' (by simp only at hii;omega)
   ·simp only[up hlt (by omega)];rfl
 ·have hie:i=m.sp.length:=by simp at h7;omega
  have hall:m.sp.all iB=true:=List.all_eq_true.2 fun x hx=>by obtain⟨j',hj',rfl⟩:=List.getElem_of_mem hx;exact hi3 j' hj' (by omega)
  rw[hall,Bool.true_and]at hd;have htell:∀{kd pl:Int},kd≠0→dg L (kd,pl)=tel kd pl m.sp:=fun hk=>hi2.all hie hk
  refine lP (lP (iE (ra (aCj fun oid=>?_))));refine qh 2 (oE ..) rfl ?_;conv=>whnf
  refine aAi (p:=m.ram) rfl rfl (by simp) ?_;refine qh 2 (oE ..) rfl ?_;conv=>whnf
  refine aAi (p:=m.swp) rfl rfl (by simp) ?_;refine qh 1 (oE ..) rfl ?_;conv=>whnf
  refine aCh rfl fun iid=>?_
  refine sR ⟨dX ..,?_⟩;conv=>whnf
  let refJ:Nat→Bool:=fun j=>if j=0 then cb 1 m.sp 0 m.ram.rf else cb 2 m.sp 0 m.swp.rf
  refine aCs ?_;refine aBQ (fun _:List Nat=>[(3,.v (.one (.sc (.mp mid)))),(169,.v (.one (.sc (.ptr iid 0))))]) (fun _=>[]) (fun _=>0) (fun seen=>G2 c0 mid oid iid L [(1,m.ram),(2,m.swp)] seen)
   (fun seen=>(seen=[]∨seen=[0]∨seen=[1]∨seen=[0,1]∨seen=[1,0])∧∀j,j∈seen→refJ j=true) (fun seen=>2-seen.length) [] ⟨.inl rfl,by simp⟩ rfl rfl rfl rfl fun seen hseen=>?_
  obtain⟨hs1,hs2⟩:=hseen;refine lP (aCe rfl rfl (fun hend=>⟨dX ..,?_⟩) (fun j hj hjn=>⟨dX ..,?_⟩))
  ·conv=>whnf
   refine iE (cy (bW (dX ..) ?_))
   (conv=>whnf)<;>repeat' first|(refine aE ?_;conv=>whnf)|(refine aD ?_;conv=>whnf)
   refine iE (bW (dX ..) ?_);conv=>whnf
   refine ff rfl ?_;have r0:=hs2 0 (hend 0 (by simp));have r1:=hs2 1 (hend 1 (by simp));simp only[refJ,if_true]at r0 r1;rw[if_neg (by decide)]at r1;rw[hd,r0,r1];rfl
  ·conv=>whnf
   obtain⟨kd,pg,hp,hkd,hrl,href⟩:∃(kd:Int)(pg:Pages),[((1:Int),m.ram),(2,m.swp)][j]?=some (kd,pg)∧kd≠0∧pg.rf.length=12∧cb kd m.sp 0 pg.rf=refJ j:=by
    match j,hj with
    |0,_=>exact⟨1,m.ram,rfl,by decide,hl1,rfl⟩
    |1,_=>exact⟨2,m.swp,rfl,by decide,hl2,rfl⟩
   have hno:cb kd m.sp 0 pg.rf=false→cV m=false:=fun e=>by
    rw[hd]
    match j,hj with
    |0,_=>rw[href]at e;simp only[refJ,if_true]at e;rw[e];rfl
    |1,_=>rw[href]at e;simp only[refJ]at e;rw[if_neg (by decide)]at e;rw[e];simp
   refine iE (cy (bW (dX ..) ?_))
   (conv=>whnf)<;>repeat' first|(refine aE ?_;conv=>whnf)|(refine aD ?_;conv=>whnf)
   refine jj (cy (ra (aCo rfl hp ?_)));refine qh 5 (dX ..) rfl ?_;conv=>whnf
   refine sR ⟨dX ..,?_⟩;conv=>whnf
   refine cy (bW (dX ..) ?_);conv=>whnf
   refine jj ?_;refine sC (fun a:Nat=>[(3,.v (.one (.sc (.mp mid)))),(9,.v (.one (dI kd))),(169,.v (.one (.sc (.ptr iid 0)))),(176,.v (.one (.ro true 1 (pg.rf.map rI)))),(177,.v (.one (dI (pg.rf.map rI).length))),(178,.v (.one (dI a)))]) (fun _=>[]) (fun _=>0) (fun _=>G2 c0 mid oid iid L [(1,m.ram),(2,m.swp)] (seen++[j]))
    (fun a=>a≤pg.rf.length∧cb kd m.sp 0 pg.rf=cb kd m.sp a (pg.rf.drop a)) (fun a=>pg.rf.length-a) 0 ⟨by omega,by simp⟩ rfl rfl rfl rfl fun a ha=>?_
   obtain⟨ha1,ha2⟩:=ha;refine cy (bW (dX ..) ?_);conv=>whnf
   refine cy (bW (dX ..) ?_);conv=>whnf
   refine CondP.mk (fun hb=>?_) (fun hb=>?_)<;>conv=>whnf
   ·have hla:a<pg.rf.length:=by simpa using hb
    rw[jo hla]at ha2;have no2:gQ kd m.sp a pg.rf[a]=false→cV m=false:=fun e=>hno (by rw[ha2,e];rfl)
    refine cy (jj (cy (bW (dX ..) ?_)));conv=>whnf
    refine aK (k:=a) rfl rfl (by simpa using hla) ?_;conv=>whnf
    refine aH rfl (r:=.one (dI pg.rf[a])) (by simp[an,rI,hla,eI,PV.dc,dI]) ?_;conv=>whnf
    refine cy (ra (qh 4 (dX ..) rfl ?_));conv=>whnf
    refine aBM (k:=(kd,(a:Int))) rfl rfl ?_;rw[htell hkd];refine qh 1 (dX ..) rfl ?_;conv=>whnf
    refine sR ⟨dX ..,?_⟩;conv=>whnf
    have hrefT:gQ kd m.sp a pg.rf[a]=(decide (((tel kd (a:Int) m.sp).length:Int)=pg.rf[a])&&alone (tel kd (a:Int) m.sp)):=rfl;have hTl:(tel kd (a:Int) m.sp).length≤4611686018427387904:=by
     have:=wJ (kd:=kd) (pl:=(a:Int)) (n:=16) (l:=m.sp) fun s hs=>by have:=List.all_eq_true.1 hall s hs;simp only[iB,Bool.and_eq_true]at this;exact nL this.1
     omega
    generalize tel kd (a:Int) m.sp=T at*;refine bW (dX ..) ?_;conv=>whnf
    refine CondP.mk (fun h8=>?_) (fun h8=>?_)<;>conv=>whnf
    ·refine ff rfl (no2 ?_);rw[hrefT,show decide ((T.length:Int)=pg.rf[a])=false by simpa using h8];rfl
    have hlen:(T.length:Int)=pg.rf[a]:=by simpa using h8
    have bad:∀{x y:Nat},x<T.length→y<T.length→en T x y=false→cV m=false:=fun hx hy e=>no2 (by rw[hrefT,xP hx hy e];simp)
    refine ai (fun x:Nat=>[(3,.v (.one (.sc (.mp mid)))),(9,.v (.one (dI kd))),(13,.v (.one (.ro true 2 (T.map rT)))),(169,.v (.one (.sc (.ptr iid 0)))),(176,.v (.one (.ro true 1 (pg.rf.map rI)))),(177,.v (.one (dI (pg.rf.map rI).length))),(178,.v (.one (dI a))),(192,.v (.one (.ro true 2 (T.map rT)))),(193,.v (.one (dI (T.map rT).length))),(194,.v (.one (dI x)))]) (fun _=>[]) (fun _=>0) (fun x=>x≤T.length∧∀x' y',x'<x→y'<T.length→en T x' y'=true) (fun x=>T.length-x) 0 ⟨by omega,by omega⟩ rfl rfl rfl fun x hx=>?_
    obtain⟨hx1,hx2⟩:=hx;conv=>whnf
    refine CondP.mk (fun h9=>?_) (fun h9=>?_)<;>conv=>whnf
    ·have hlx:x<T.length:=by simpa using h9
     refine aK (k:=x) rfl rfl (by simpa using hlx) ?_;conv=>whnf
     refine aH rfl (r:=.agg [dB T[x].1,dB T[x].2]) (by simp[an,rT,hlx,eB,PV.dc,dB]) ?_;conv=>whnf
     refine ai (fun y:Nat=>[(3,.v (.one (.sc (.mp mid)))),(9,.v (.one (dI kd))),(13,.v (.one (.ro true 2 (T.map rT)))),(14,.v (.one (dI x))),(15,.v (.one (.ptr 0 0 0))),(169,.v (.one (.sc (.ptr iid 0)))),(176,.v (.one (.ro true 1 (pg.rf.map rI)))),(177,.v (.one (dI (pg.rf.map rI).length))),(178,.v (.one (dI a))),(192,.v (.one (.ro true 2 (T.map rT)))),(193,.v (.one (dI (T.map rT).length))),(194,.v (.one (dI x))),(199,.v (.one (.ro true 2 (T.map rT)))),(200,.v (.one (dI (T.map rT).length))),(201,.v (.one (dI y)))]) (fun _=>[(0,.box [dB T[x].1,dB T[x].2])]) (fun _=>1) (fun y=>y≤T.length∧∀y',y'<y→en T x y'=true) (fun y=>T.length-y) 0 ⟨by omega,by omega⟩ rfl rfl rfl fun y hy=>?_
     obtain⟨hy1,hy2⟩:=hy;conv=>whnf
     refine CondP.mk (fun hc=>?_) (fun hc=>?_)<;>conv=>whnf
     ·have hly:y<T.length:=by simpa using hc
      refine aK (k:=y) rfl rfl (by simpa using hly) ?_;conv=>whnf
      refine aH rfl (r:=.agg [dB T[y].1,dB T[y].2]) (by simp[an,rT,hly,eB,PV.dc,dB]) ?_;conv=>whnf
      have pe:en T x y=(decide (x=y)||!(T[x].1&&!(T[x].2&&T[y].2))):=by simp[en,hlx,hly]
      have nexty:en T x y=true→∀y',y'<y+1→en T x y'=true:=fun e y' hy'=>by
       by_cases e2:y'=y
       ·subst e2;exact e
       ·exact hy2 y' (by omega)
      refine CondP.mk (fun d1=>?_) (fun d1=>?_)<;>rw[d1]<;>(conv=>whnf)<;>repeat' first|(refine aE ?_;conv=>whnf)|(refine aD ?_;conv=>whnf)
      ·have d1:¬x=y:=by simp at d1;omega
       refine CondP.mk (fun d2=>?_) (fun d2=>?_)<;>rw[d2]<;>(conv=>whnf)<;>repeat' first|(refine aE ?_;conv=>whnf)|(refine aD ?_;conv=>whnf)
       ·refine CondP.mk (fun d3=>?_) (fun d3=>?_)<;>rw[d3]<;>(conv=>whnf)<;>repeat' first|(refine aE ?_;conv=>whnf)|(refine aD ?_;conv=>whnf)
        ·refine CondP.mk (fun d4=>?_) (fun d4=>?_)<;>conv=>whnf
         ·exact ff rfl (bad hlx hly (by rw[pe,d2,d3,show T[y].2=false by simpa using d4];simp[d1]))
         ·refine⟨y+1,by omega,⟨by omega,nexty (by rw[pe,d2,d3,show T[y].2=true by simpa using d4];simp)⟩,?_,rfl,rfl⟩;rw[up hly hTl];rfl
        ·exact ff rfl (bad hlx hly (by rw[pe,d2,d3];simp[d1]))
       ·refine⟨y+1,by omega,⟨by omega,nexty (by rw[pe,d2];simp)⟩,?_,rfl,rfl⟩;rw[up hly hTl];rfl
      ·have d1:x=y:=by simp at d1;omega
       refine⟨y+1,by omega,⟨by omega,nexty (by rw[pe];simp[d1])⟩,?_,rfl,rfl⟩;rw[up hly hTl];rfl
     ·have hye:y=T.length:=by
                     have:¬y<T.length:=by simpa using hc
                     omega
      refine⟨x+1,by omega,⟨by omega,fun x' y' hx' hy'=>?_⟩,?_,rfl,rfl⟩
      ·by_cases e:x'=x
       ·subst e;exact hy2 y' (by omega)
       ·exact hx2 x' y' (by omega) hy'
      ·rw[up hlx hTl];rfl
    ·have hxe:x=T.length:=by
                    have:¬x<T.length:=by simpa using h9
                    omega
     have hal:alone T=true:=z6 fun x' y' hx' hy'=>hx2 x' y' (by omega) hy'
     refine bW (dX ..) ?_;conv=>whnf
     refine⟨a+1,by omega,⟨by omega,?_⟩,?_,rfl,rfl,rfl⟩
     ·rw[ha2,hrefT,hal,decide_eq_true hlen];rfl
     ·rw[up hla (by omega)];rfl
   ·have hae:a=pg.rf.length:=by
                     have:¬a<pg.rf.length:=by simpa using hb
                     omega
    subst hae;rw[List.drop_length]at ha2;simp only[cb]at ha2;refine⟨seen++[j],[3,169],?_,⟨?_,fun j' hj'=>?_⟩,rfl,rfl,rfl,rfl⟩
    ·simp only[List.length_append,List.length_cons,List.length_nil];rcases hs1 with rfl|rfl|rfl|rfl|rfl<;>simp at hjn ⊢
     all_goals (simp at hj;omega)
    ·simp only[List.length_cons,List.length_nil]at hj;have:j=0∨j=1:=by omega
     rcases hs1 with rfl|rfl|rfl|rfl|rfl<;>rcases this with rfl|rfl<;>simp at hjn ⊢
    ·rcases List.mem_append.1 hj' with hj'|hj'
     ·exact hs2 j' hj'
     ·simp only[List.mem_singleton]at hj';subst hj';rw[←href,ha2]
end Go.Qm
namespace Go.Qm
open Go.Cq Go.Cq.D Go.RowKit Go.Proofs Go.ChangeShapes Go.WideShapes Go.ChangeAt
set_option maxRecDepth 10000
section
variable{H:Type}{enc:TypeId×Value→H}{W:World}{sp:Nat→Bool}{held:Bool}
abbrev aEL(W:World):Prop:=∃(B:Nat)(c:Array Value)(e:TypeId)(fr:Nat×Nat),W.heap[B]?=some (.cells c e fr)
instance:Inhabited Area:=⟨⟨0,0,false,false⟩⟩
instance:Inhabited Slot:=⟨⟨0,0,false,false⟩⟩
instance:Inhabited Space:=⟨⟨false,[],[]⟩⟩
theorem laidOut:laidOutB Try.prog=true:=by kernel_rfl
end
end Go.Qm
namespace Go.Qm
open Go.Cq Go.Cq.D Go.RowKit Go.Proofs Go.ChangeShapes Go.WideShapes Go.ChangeAt
set_option maxRecDepth 10000
section
variable{H:Type}{enc:TypeId×Value→H}{W:World}{sp:Nat→Bool}{held:Bool}
theorem c5:Try.prog.cellsOf 5=1:=by kernel_rfl
theorem aAO(hB:aEL W){v:Value}{n:Nat}{x:DataW H×List MemPlace}(h:DataW.trod enc Try.prog W 0 (fun _=>true) held n 40 [v]=some x):∃l:List UInt8,WV W (.sl 1 (l.map dL)) v:=by
 obtain⟨l, -, -,h2⟩:=aDC (row:=dL) (good:=fun _=>True) Try.underlying40 c5 (by decide) (fun n cs x _ hl h=>by
  obtain⟨k,h1, -,h3⟩:=DataW.trod_int Try.underlying5 h;subst h1;simp only[Lit.wf,Bool.and_eq_true,decide_eq_true_eq]at h3;have h4:(0:Int)≤k:=h3.1;have h5:k≤(255:Int):=h3.2;refine⟨UInt8.ofNat k.toNat,rfl,trivial,fun j p hp=>?_⟩
  match j,hp with
  |0,hp=>simp only[dL,List.getElem?_cons_zero,Option.some.injEq]at hp;subst hp;refine⟨_,rfl,?_⟩;rw[show((UInt8.ofNat k.toNat).toNat:Int)=k by rw[UInt8.toNat_ofNat'];omega];exact .int
  |j+1,hp=>simp[dL]at hp) hB h
 exact⟨l,h2⟩
theorem yM{base:Nat}{v:Value}{d:DataW H}{p:List MemPlace}(hval:Value.okWide Try.prog W .any base 40 v)(h0:DataW.Trod enc Try.prog W 0 (fun _=>true) held 40 v d p):∃l:List UInt8,WDV W (.one (.ro true 1 (l.map dL))) v:=by
 obtain⟨a,len,cap,rfl⟩:=okWide_slice Try.underlying40 hval;obtain⟨fuel,h⟩:=h0;have h:DataW.trod enc Try.prog W 0 (fun _=>true) held fuel 40 [.slice a len cap]=some (d,p):=h;cases a with
 |none=>
  rcases DataW.trod_slice Try.underlying40 h with⟨q, -⟩| ⟨ad,len,cap,_,_,_, -,q, -⟩
  ·simp only[List.cons.injEq,and_true]at q;rw[q];exact⟨[],rfl,.nil⟩
  ·simp at q
 |some a=>simp only[Value.okWide,Try.underlying40]at hval;obtain⟨l,hl⟩:=aAO (hasB hval) h;exact⟨l,rfl,hl⟩
theorem aC8:Try.prog.readableRec 40=true:=by kernel_rfl
theorem aDz:InBook Try.prog 40 40:=⟨of_decide_eq_true (by kernel_rfl),book_self 40⟩
theorem K40:Kids Try.prog (InBook Try.prog 40):=kids_book laidOut aC8
end
end Go.Qm
namespace Go.Qm
open Go.Cq Go.Cq.D Go.RowKit Go.Proofs
set_option maxRecDepth 10000
theorem yT(b1 b2:Bool)(l:List Int)(hb:l.length≤4611686018427387904):bC Try.prog 113 [.one (.ro b1 1 (l.map rI)),.one (.ro b2 1 (l.map rI))] (.v (.one (dB true))):=by
 refine aQ hmix Try.func113 ok113 ?_;conv=>whnf
 refine CondP.mk (fun h=>by simp at h) (fun _=>?_);conv=>whnf
 refine ai (fun i:Nat=>[(0,.v (.one (.ro b1 1 (l.map rI)))),(1,.v (.one (.ro b2 1 (l.map rI)))),(5,.v (.one (dI i)))]) (fun _=>[]) (fun _=>0) (fun i=>i≤l.length) (fun i=>l.length-i) 0 (by omega) rfl rfl rfl fun i hi=>?_
 conv=>whnf
 refine CondP.mk (fun h=>?_) (fun h=>?_)<;>conv=>whnf
 ·have hi1:i<l.length:=by simpa using h
  refine aK (k:=i) rfl rfl (by simpa using hi1) ?_;conv=>whnf
  refine aH rfl (r:=.one (dI l[i])) (by simp[an,hi1,rI,eI,dI]) ?_;conv=>whnf
  refine aK (k:=i) rfl rfl (by simpa using hi1) ?_;conv=>whnf
  refine aH rfl (r:=.one (dI l[i])) (by simp[an,hi1,rI,eI,dI]) ?_;conv=>whnf
  refine CondP.mk (fun h=>by simp at h) (fun _=>?_);conv=>whnf
  refine⟨i+1,by omega,by omega,?_,rfl,rfl⟩;rw[←up hi1 hb];rfl
 ·exact⟨rfl,rfl⟩
theorem vu(b1 b2:Bool)(l:List Str)(hb:l.length≤4611686018427387904):bC Try.prog 114 [.one (.ro b1 1 (l.map rS)),.one (.ro b2 1 (l.map rS))] (.v (.one (dB true))):=by
 refine aQ hmix Try.func114 ok114 ?_;conv=>whnf
 refine CondP.mk (fun h=>by simp at h) (fun _=>?_);conv=>whnf
 refine ai (fun i:Nat=>[(0,.v (.one (.ro b1 1 (l.map rS)))),(1,.v (.one (.ro b2 1 (l.map rS)))),(5,.v (.one (dI i)))]) (fun _=>[]) (fun _=>0) (fun i=>i≤l.length) (fun i=>l.length-i) 0 (by omega) rfl rfl rfl fun i hi=>?_
 conv=>whnf
 refine CondP.mk (fun h=>?_) (fun h=>?_)<;>conv=>whnf
 ·have hi1:i<l.length:=by simpa using h
  refine aK (k:=i) rfl rfl (by simpa using hi1) ?_;conv=>whnf
  refine aH rfl (r:=.one (.sc (.str l[i]))) (by simp[an,hi1,rS,eS]) ?_;conv=>whnf
  refine aK (k:=i) rfl rfl (by simpa using hi1) ?_;conv=>whnf
  refine aH rfl (r:=.one (.sc (.str l[i]))) (by simp[an,hi1,rS,eS]) ?_;conv=>whnf
  refine CondP.mk (fun h=>by simp at h) (fun _=>?_);conv=>whnf
  refine⟨i+1,by omega,by omega,?_,rfl,rfl⟩;rw[←up hi1 hb];rfl
 ·exact⟨rfl,rfl⟩
theorem vp(b1 b2:Bool)(l:List Area)(hb:l.length≤4611686018427387904):bC Try.prog 112 [.one (.ro b1 4 (l.map rA)),.one (.ro b2 4 (l.map rA))] (.v (.one (dB true))):=by
 refine aQ hmix Try.func112 ok112 ?_;conv=>whnf
 refine CondP.mk (fun h=>by simp at h) (fun _=>?_);conv=>whnf
 refine ai (fun i:Nat=>[(0,.v (.one (.ro b1 4 (l.map rA)))),(1,.v (.one (.ro b2 4 (l.map rA)))),(5,.v (.one (dI i)))]) (fun _=>[]) (fun _=>0) (fun i=>i≤l.length) (fun i=>l.length-i) 0 (by omega) rfl rfl rfl fun i hi=>?_
 conv=>whnf
 refine CondP.mk (fun h=>?_) (fun h=>?_)<;>conv=>whnf
 ·have hi1:i<l.length:=by simpa using h
  refine aK (k:=i) rfl rfl (by simpa using hi1) ?_;conv=>whnf
  refine aH rfl (ldA hi1) ?_;conv=>whnf
  refine aK (k:=i) rfl rfl (by simpa using hi1) ?_;conv=>whnf
  refine aH rfl (ldA hi1) ?_;conv=>whnf
  refine oG rfl rfl rfl rfl rfl ?_;conv=>whnf
  refine CondP.mk (fun h=>by simp at h) (fun _=>?_);conv=>whnf
  refine⟨i+1,by omega,by omega,?_,rfl,rfl⟩;rw[←up hi1 hb];rfl
 ·exact⟨rfl,rfl⟩
theorem v8(b1 b2:Bool)(x:Space)(h1:x.ar.length≤4611686018427387904)(h2:x.sl.length≤4611686018427387904):bC Try.prog 81 [.agg (aP b1 x),.agg (aP b2 x)] (.v (.one (dB true))):=by
 refine aQ hmix Try.func81 ok81 ?_;conv=>whnf
 refine CondP.mk (fun h=>by simp at h) (fun h=>?_);rw[h]
 (conv=>whnf)<;>repeat' first|(refine aE ?_;conv=>whnf)|(refine aD ?_;conv=>whnf)
 refine aC [.pass,.pass] rfl rfl rfl (vp b1 b2 x.ar h1) rfl ?_
 (conv=>whnf)<;>repeat' first|(refine aE ?_;conv=>whnf)|(refine aD ?_;conv=>whnf)
 refine CondP.mk (fun h=>by simp at h) (fun _=>?_);conv=>whnf
 refine ai (fun i:Nat=>[(2,.v (.one (.ptr 0 0 0))),(3,.v (.one (.ptr 1 0 0))),(5,.v (.one (dI i)))]) (fun _=>[(1,.box (aP b2 x)),(0,.box (aP b1 x))]) (fun _=>2) (fun i=>i≤x.sl.length) (fun i=>x.sl.length-i) 0 (by omega) rfl rfl rfl fun i hi=>?_
 conv=>whnf
 refine CondP.mk (fun h=>?_) (fun h=>?_)<;>conv=>whnf
 ·have hi1:i<x.sl.length:=by simpa using h
  refine aK (k:=i) rfl rfl (by simpa using hi1) ?_;conv=>whnf
  refine aH rfl (ldL hi1) ?_;conv=>whnf
  refine aK (k:=i) rfl rfl (by simpa using hi1) ?_;conv=>whnf
  refine aH rfl (ldL hi1) ?_;conv=>whnf
  refine oG rfl rfl rfl rfl rfl ?_;conv=>whnf
  refine CondP.mk (fun h=>by simp at h) (fun _=>?_);conv=>whnf
  refine⟨i+1,by omega,by omega,?_,rfl,rfl⟩;rw[←up hi1 h2];rfl
 ·exact⟨rfl,rfl⟩
theorem pA(b1 b2 b3 b4:Bool)(x:Pages)(h1:x.tx.length≤4611686018427387904)(h2:x.rf.length≤4611686018427387904):bC Try.prog 54 [.agg [.ro b1 1 (x.tx.map rS),.ro b2 1 (x.rf.map rI)],.agg [.ro b3 1 (x.tx.map rS),.ro b4 1 (x.rf.map rI)]] (.v (.one (dB true))):=by
 refine aQ hmix Try.func54 ok54 ?_;conv=>whnf
 refine aC [.pass,.pass] rfl rfl rfl (vu _ _ x.tx h1) rfl ?_
 (conv=>whnf)<;>repeat' first|(refine aE ?_;conv=>whnf)|(refine aD ?_;conv=>whnf)
 refine aC [.pass,.pass] rfl rfl rfl (yT _ _ x.rf h2) rfl ?_
 (conv=>whnf)<;>repeat' first|(refine aE ?_;conv=>whnf)|(refine aD ?_;conv=>whnf)
 exact⟨rfl,rfl⟩
theorem yz(b1 b2 b3 b4 b5 c1 c2 c3 c4 c5:Bool)(x:Mem)(hf:x.fits 4611686018427387904):bC Try.prog 32 [aM b1 b2 b3 b4 b5 x,aM c1 c2 c3 c4 c5 x] (.v (.one (dB true))):=by
 refine aQ hmix Try.func32 ok32 ?_;conv=>whnf
 refine aC [.pass,.pass] rfl rfl rfl (pA _ _ _ _ x.ram hf.rt hf.rr) rfl ?_
 (conv=>whnf)<;>repeat' first|(refine aE ?_;conv=>whnf)|(refine aD ?_;conv=>whnf)
 refine aC [.pass,.pass] rfl rfl rfl (pA _ _ _ _ x.swp hf.st hf.sr) rfl ?_
 (conv=>whnf)<;>repeat' first|(refine aE ?_;conv=>whnf)|(refine aD ?_;conv=>whnf)
 refine CondP.mk (fun h=>by simp at h) (fun h=>?_);rw[h]
 (conv=>whnf)<;>repeat' first|(refine aE ?_;conv=>whnf)|(refine aD ?_;conv=>whnf)
 refine CondP.mk (fun h=>by simp at h) (fun _=>?_);conv=>whnf
 refine ai (fun i:Nat=>[(2,.v (.one (.ptr 0 0 0))),(3,.v (.one (.ptr 1 0 0))),(5,.v (.one (dI i)))]) (fun _=>[(1,.box [.ro c1 1 (x.ram.tx.map rS),.ro c2 1 (x.ram.rf.map rI),.ro c3 1 (x.swp.tx.map rS),.ro c4 1 (x.swp.rf.map rI),.ro c5 3 (x.sp.map rP),dI x.hd]),(0,.box [.ro b1 1 (x.ram.tx.map rS),.ro b2 1 (x.ram.rf.map rI),.ro b3 1 (x.swp.tx.map rS),.ro b4 1 (x.swp.rf.map rI),.ro b5 3 (x.sp.map rP),dI x.hd])]) (fun _=>2) (fun i=>i≤x.sp.length) (fun i=>x.sp.length-i) 0 (by omega) rfl rfl rfl fun i hi=>?_
 conv=>whnf
 refine CondP.mk (fun h=>?_) (fun h=>?_)<;>conv=>whnf
 ·have hi1:i<x.sp.length:=by simpa using h
  refine aK (k:=i) rfl rfl (by simpa using hi1) ?_;conv=>whnf
  refine aH rfl (ldP hi1) ?_;conv=>whnf
  refine aK (k:=i) rfl rfl (by simpa using hi1) ?_;conv=>whnf
  refine aH rfl (ldP hi1) ?_;conv=>whnf
  refine aC [.pass,.pass] rfl rfl rfl (v8 b5 c5 x.sp[i] (hf.ss _ (List.getElem_mem hi1)).1 (hf.ss _ (List.getElem_mem hi1)).2) rfl ?_
  (conv=>whnf)<;>repeat' first|(refine aE ?_;conv=>whnf)|(refine aD ?_;conv=>whnf)
  refine⟨i+1,by omega,by omega,?_,rfl,rfl⟩;rw[←up hi1 hf.sp];rfl
 ·exact⟨rfl,rfl⟩
theorem k9(b1 b2:Bool)(p:Pages)(h:bo p=true):bC Try.prog 33 [.agg [.ro b1 1 (p.tx.map rS),.ro b2 1 (p.rf.map rI)]] (.v (.one (dI (eU p.rf)))):=by
 refine aQ hmix Try.func33 ok33 ?_;have hb:p.tx.length=p.rf.length∧p.rf.length≤12:=by simp only[bo,inB,Bool.and_eq_true,decide_eq_true_eq]at h;omega
 conv=>whnf
 refine aC [.pass] rfl rfl rfl (lL b1 b2 p (by omega) (by omega)) rfl ?_;rw[h]
 (conv=>whnf)<;>repeat' first|(refine aE ?_;conv=>whnf)|(refine aD ?_;conv=>whnf)
 refine ai (fun i:Nat=>[(3,.v (.one (dI (eU (p.rf.take i))))),(10,.v (.one (.ro b2 1 (p.rf.map rI)))),(11,.v (.one (dI p.rf.length))),(12,.v (.one (dI i)))]) (fun _=>[]) (fun _=>0) (fun i=>i≤p.rf.length) (fun i=>p.rf.length-i) 0 (by omega) (by simp[eU,dI]) rfl rfl fun i hi=>?_
 conv=>whnf
 refine CondP.mk (fun h=>?_) (fun h=>?_)<;>conv=>whnf
 ·have hi1:i<p.rf.length:=by simpa using h
  refine aK (k:=i) rfl rfl (by simpa using hi1) ?_;conv=>whnf
  refine aH rfl (r:=.one (dI p.rf[i])) (by simp[an,hi1,rI,eI,dI]) ?_;conv=>whnf
  have hc:=qC hi1;have hcl:=kU (l:=p.rf.take i);rw[List.length_take]at hcl;refine CondP.mk (fun h=>?_) (fun h=>?_)<;>conv=>whnf
  ·have h:p.rf[i]=0:=by simpa using h
   refine⟨i+1,by omega,by omega,?_,rfl,rfl⟩;rw[←up hi1 (by omega),hc,if_pos h,wrap64 (by omega) (by omega)];rfl
  ·have h:¬p.rf[i]=0:=by simpa using h
   refine⟨i+1,by omega,by omega,?_,rfl,rfl⟩;rw[←up hi1 (by omega),hc,if_neg h];rfl
 ·have h:¬i<p.rf.length:=by simpa using h
  refine⟨?_,rfl⟩;rw[List.take_of_length_le (by omega)];rfl
end Go.Qm
namespace Go.Qm
open Go.Cq Go.Cq.D Go.RowKit Go.Proofs
set_option maxRecDepth 10000
def e9(l:List Area)(a:Area)(i:Nat):List Area:=if eC a l<i then uO (l.take i) a (eC a l)else l.take i
theorem pP{l:List Area}{i:Nat}(h:i<l.length):l.take i++[l[i]]=l.take (i+1):=(List.take_succ_eq_append_getElem h).symm
theorem aA8{l:List Area}{a:Area}{i:Nat}(h:i<l.length)(c:eC a l<i):e9 l a i++[l[i]]=e9 l a (i+1):=by rw[e9,e9,if_pos c,if_pos (by omega),uO,uO,←pP h];simp only[List.append_assoc,List.cons_append];rw[List.take_append_of_le_length (by simp;omega),List.drop_append_of_le_length (by simp;omega)]
theorem zq{l:List Area}{a:Area}{i:Nat}(h:i<l.length)(c:eC a l=i):e9 l a i++[a]++[l[i]]=e9 l a (i+1):=by rw[e9,e9,if_neg (by omega),if_pos (by omega),c,uO,←pP h];rw[List.take_append_of_le_length (by simp;omega),List.drop_append_of_le_length (by simp;omega)];simp[List.take_take]
theorem aBC{l:List Area}{a:Area}{i:Nat}(h:i<l.length)(c:i<eC a l):e9 l a i++[l[i]]=e9 l a (i+1):=by rw[e9,e9,if_neg (by omega),if_neg (by omega)];exact pP h
theorem qW{l:List Area}{a:Area}{i:Nat}(h:i≤l.length):(e9 l a i).length≤i+1:=by
 unfold e9;split
 ·rw[uF,List.length_take];omega
 ·rw[List.length_take];omega
theorem yK{l:List Area}{a:Area}(c:eC a l<l.length):e9 l a l.length=oe l a:=by rw[e9,if_pos c,List.take_length];rfl
theorem xu{l:List Area}{a:Area}(c:¬eC a l<l.length):e9 l a l.length++[a]=oe l a:=by
 have:eC a l=l.length:=by have:=w7 (a:=a) (l:=l);omega
 rw[e9,if_neg c,oe,uO,this];simp
theorem aEB{α:Type}{a b:List α}{i:Nat}(h:a.length≤i+1)(hi:i≤1048576):((((a.take a.length++b.take 1).drop 0).take (a.length+1)).length+1)*24≤140737488355328:=by rw[List.length_take];omega
theorem aEO{α:Type}{a b:List α}{i:Nat}(h:a.length≤i+1)(hi:i≤1048576):(((a.take a.length++b.take 1).drop 0).take (a.length+1)).length+1≤140737488355328:=by rw[List.length_take];omega
set_option maxHeartbeats 1000000 in
theorem aAW(b:Bool)(l:List Area)(a:Area)(hl:l.length≤1048576):bC Try.prog 178 [.one (.ro b 4 (l.map rA)),.agg (aA a)] (.v (.one (.own 4 ((oe l a).map rA)))):=by
 refine aQ hmix Try.func178 ok178 ?_;conv=>whnf
 refine bV rfl rfl rfl ?_;conv=>whnf
 refine ai (fun i:Nat=>[(0,.v (.one (.ro b 4 (l.map rA)))),(3,.v (.one (.ptr 0 0 0))),(5,.v (.one (.own 4 ((e9 l a i).map rA)))),(6,.v (.one (dB (decide (eC a l<i))))),(7,.v (.one (dI i)))]) (fun _=>[(0,.box (aA a))]) (fun _=>1)
  (fun i=>i≤l.length) (fun i=>l.length-i) 0 (by omega) (by simp[e9,dI,dB]) rfl rfl fun i hi=>?_
 conv=>whnf
 refine CondP.mk (fun h=>?_) (fun h=>?_)<;>conv=>whnf
 ·have hlt:i<l.length:=by simpa using h
  have hn:=qW (a:=a) (show i≤l.length by omega);have hn':((e9 l a i).map rA).length≤i+1:=by rw[List.length_map];exact hn
  refine CondP.mk (fun h1=>?_) (fun h1=>?_)<;>rw[h1]<;>(conv=>whnf)<;>repeat' first|(refine aE ?_;conv=>whnf)|(refine aD ?_;conv=>whnf)
  ·have c:¬eC a l<i:=by simpa using h1
   refine aK (k:=i) rfl rfl (by simpa using hlt) ?_
   (conv=>whnf)<;>repeat' first|(refine aE ?_;conv=>whnf)|(refine aD ?_;conv=>whnf)
   refine aH rfl (r:=.one (dI l[i].fr)) (by simp[an,rA,hlt,eI,dI]) ?_
   (conv=>whnf)<;>repeat' first|(refine aE ?_;conv=>whnf)|(refine aD ?_;conv=>whnf)
   refine CondP.mk (fun h2=>?_) (fun h2=>?_)<;>conv=>whnf
   ·have c2:a.fr≤l[i].fr:=by simpa using h2
    have c3:eC a l=i:=by
     rcases Nat.lt_or_ge i (eC a l)with c4|c4
     ·have:=aBe c4;omega
     ·omega
    refine bV rfl rfl rfl ?_;conv=>whnf
    refine dS [] [] 1 (sz:=4) rfl rfl rfl rfl rfl rfl rfl rfl (by omega) (by omega) ?_;conv=>whnf
    refine aK (k:=i) rfl rfl (by simpa using hlt) ?_;conv=>whnf
    refine aH rfl (ldA hlt) ?_;conv=>whnf
    refine bV rfl rfl rfl ?_;conv=>whnf
    refine dS [] [] 1 (sz:=4) rfl rfl rfl rfl rfl rfl rfl rfl (aEB hn' (by omega)) (aEO hn' (by omega)) ?_;conv=>whnf
    refine⟨i+1,by omega,by omega,?_,rfl,rfl⟩;rw[up hlt (by omega),←zq hlt c3,show decide (eC a l<i+1)=true from decide_eq_true (by omega)];simp[dI,dB,rA,eI,eB,List.replicate,List.take_of_length_le]
   ·have c2:¬a.fr≤l[i].fr:=by simpa using h2
    have c3:i<eC a l:=by
     rcases Nat.lt_or_ge i (eC a l)with c4|c4
     ·exact c4
     ·have:eC a l=i:=by omega
      have:=aB4 (a:=a) (l:=l) (by omega);simp only[‹eC a l=i›]at this;omega
    refine aK (k:=i) rfl rfl (by simpa using hlt) ?_;conv=>whnf
    refine aH rfl (ldA hlt) ?_;conv=>whnf
    refine bV rfl rfl rfl ?_;conv=>whnf
    refine dS [] [] 1 (sz:=4) rfl rfl rfl rfl rfl rfl rfl rfl (by omega) (by omega) ?_;conv=>whnf
    refine⟨i+1,by omega,by omega,?_,rfl,rfl⟩;rw[up hlt (by omega),←aBC hlt c3,show decide (eC a l<i)=false from decide_eq_false (by omega),show decide (eC a l<i+1)=false from decide_eq_false (by omega)];simp[dI,dB,rA,eI,eB,List.replicate,List.take_of_length_le]
  ·have c:eC a l<i:=by simpa using h1
   refine aK (k:=i) rfl rfl (by simpa using hlt) ?_;conv=>whnf
   refine aH rfl (ldA hlt) ?_;conv=>whnf
   refine bV rfl rfl rfl ?_;conv=>whnf
   refine dS [] [] 1 (sz:=4) rfl rfl rfl rfl rfl rfl rfl rfl (by omega) (by omega) ?_;conv=>whnf
   refine⟨i+1,by omega,by omega,?_,rfl,rfl⟩;rw[up hlt (by omega),←aA8 hlt c,show decide (eC a l<i)=true from decide_eq_true c,show decide (eC a l<i+1)=true from decide_eq_true (by omega)];simp[dI,dB,rA,eI,eB,List.replicate,List.take_of_length_le]
 ·have:i=l.length:=by
               have:¬i<l.length:=by simpa using h
               omega
  subst this;have hn:=qW (a:=a) (Nat.le_refl l.length);have hn':((e9 l a l.length).map rA).length≤l.length+1:=by rw[List.length_map];exact hn
  refine CondP.mk (fun h1=>?_) (fun h1=>?_)<;>conv=>whnf
  ·have c:¬eC a l<l.length:=by simpa using h1
   refine bV rfl rfl rfl ?_;conv=>whnf
   refine dS [] [] 1 (sz:=4) rfl rfl rfl rfl rfl rfl rfl rfl (by omega) (by omega) ?_;conv=>whnf
   refine⟨?_,rfl⟩;rw[←xu c];simp[rA,eI,eB,List.replicate,List.take_of_length_le]
  ·have c:eC a l<l.length:=by simpa using h1
   refine⟨?_,rfl⟩;rw[←yK c];simp
set_option maxHeartbeats 1000000 in
theorem rn(b:Bool)(l:List Area)(a:Area)(hl:l.length≤1048576):bC Try.prog 157 [.one (.ro b 4 (l.map rA)),.agg (aA a)] (.tup [.one (.own 4 (((lU l a).getD []).map rA)),.one (dB (lU l a).isSome)]):=by
 refine aQ hmix Try.func157 ok157 ?_;conv=>whnf
 refine aC [.pass] rfl rfl rfl (gF b l (by omega)) rfl ?_;conv=>whnf
 refine CondP.mk (fun h1=>?_) (fun h1=>?_)<;>rw[h1]<;>(conv=>whnf)<;>repeat' first|(refine aE ?_;conv=>whnf)|(refine aD ?_;conv=>whnf)
 ·refine bV rfl rfl rfl ?_;conv=>whnf
  refine⟨?_,rfl⟩;rw[lU,show ay l=false by simpa using h1];simp[dB]
 have h1:ay l=true:=by simpa using h1
 refine aC [.pass] rfl rfl rfl (lB a) rfl ?_
 (conv=>whnf)<;>repeat' first|(refine aE ?_;conv=>whnf)|(refine aD ?_;conv=>whnf)
 refine CondP.mk (fun h2=>?_) (fun h2=>?_)<;>conv=>whnf
 ·refine bV rfl rfl rfl ?_;conv=>whnf
  refine⟨?_,rfl⟩;rw[lU,show bI a=false by simpa using h2];simp[dB]
 have h2:bI a=true:=by simpa using h2
 refine aC [.pass,.pass] rfl rfl rfl (aAW b l a hl) rfl ?_;conv=>whnf
 have hn:(oe l a).length≤l.length+1:=by rw[oe,uF];omega
 simp only[List.drop_zero,List.take_length];refine aC [.lend] rfl (by show some [DV.one (DC.ro true 4 (List.take _ (List.drop 0 _)))]=_;rw[List.drop_zero,List.take_length]) rfl (gF true (oe l a) (by omega)) rfl ?_;conv=>whnf
 refine CondP.mk (fun h3=>?_) (fun h3=>?_)<;>conv=>whnf
 ·refine bV rfl rfl rfl ?_;conv=>whnf
  refine⟨?_,rfl⟩;rw[lU,h1,h2,show ay (oe l a)=false by simpa using h3];simp[dB]
 ·refine⟨?_,rfl⟩;rw[lU,h1,h2,show ay (oe l a)=true by simpa using h3];simp[dB]
def mapM(c:Option (List Area))(m:Mem)(i:Nat):Mem×Int:=match c with
 |some l=>(cU m i l,0)
 |none=>(m,4)
theorem y8{l0 l:List Area}{a:Area}(h:lU l0 a=some l):bI a=true∧ay l=true:=by
 unfold lU at h;split at h
 ·rename_i h1;simp only[Bool.and_eq_true]at h1;split at h
  ·rename_i h2;cases h;exact⟨h1.2,h2⟩
  ·simp at h
 ·simp at h
set_option maxHeartbeats 1000000 in
theorem mT(m:Mem)(i:Nat)(a:Area)(hi:i<m.sp.length)(hal:m.sp[i].ar.length≤1048576):
  bC Try.prog 117 [oM m,.one (dI i),.agg (aA a)] (.tup [oM (mapM (lU (gX m i) a) m i).1,.one (dI (mapM (lU (gX m i) a) m i).2)]):=by
 have har:gX m i=m.sp[i].ar:=by simp[gX,hi]
 rw[har];refine aQ hmix Try.func117 ok117 ?_;conv=>whnf
 refine aB (k:=i) rfl rfl rfl (by simpa using hi) ?_;conv=>whnf
 have hg:(m.sp.map rP)[i]?=some (rP m.sp[i]):=by simp[hi]
 refine bw (i:=i) (k:=1) (sz':=4) (es':=m.sp[i].ar.map rA) m.sp[i].ar.length rfl rfl rfl (aS (by rw[List.drop_zero,List.take_length];exact hg) rfl rfl rfl) rfl (by simp) ?_;conv=>whnf
 simp only[List.drop_zero,List.take_length];refine aC [.lend,.pass] rfl (by show some [DV.one (DC.ro true 4 (List.take _ (List.drop 0 _))),_]=_;rw[List.drop_zero,aU];rfl) rfl (rn true m.sp[i].ar a hal) rfl ?_;conv=>whnf
 have hback:(m.sp.map rP).modify i (fun row=>row.set 1 (.sl 4 (m.sp[i].ar.map rA)))=m.sp.map rP:=by rw[ao hg];exact ig hg
 refine aY (i:=i) (k:=1) (g':=9) (lo:=0) (len:=m.sp[i].ar.length) (es2:=m.sp.map rP) (ov2:=[]) rfl (ag hg (by simp[rP]) (by simp only[af,if_true];rfl)) rfl rfl (by rw[List.drop_zero,aU];exact hback) (by simp only[ae,if_true];rfl) ?_;conv=>whnf
 simp only[List.drop_zero,List.take_length];cases hc:lU m.sp[i].ar a with
 |none=>
  refine CondP.mk (fun c1=>?_) (fun c1=>?_)<;>conv=>whnf
  ·refine⟨?_,rfl⟩;simp[oM,mapM,dI]
  ·simp at c1
 |some l=>
  refine CondP.mk (fun c1=>?_) (fun c1=>?_)<;>conv=>whnf
  ·simp at c1
  ·refine aB (k:=i) rfl rfl rfl (by simpa using hi) ?_;conv=>whnf
   simp only[Option.getD_some];refine eY rfl rfl rfl rfl rfl (by simp[wrN,wr1,DV.cells,hi];rfl) ?_;conv=>whnf
   refine aY (i:=i) (k:=1) (g':=9) (lo:=0) (len:=l.length) (es2:=(cU m i l).sp.map rP) (ov2:=[]) rfl (ag (by simpa using hg) (by simp[rP]) (by simp only[af,if_true];rfl)) rfl rfl (by rw[List.drop_zero,aU];exact lQ hi) (by simp only[ae,if_true];rfl) ?_;conv=>whnf
   refine⟨?_,rfl⟩;simp[oM,mapM,dI,cU,List.take_of_length_le]
end Go.Qm
namespace Go.Qm
open Go.Cq Go.Cq.D Go.RowKit Go.Proofs
set_option maxRecDepth 10000
theorem nG(b1 b2 b3 b4 b5:Bool)(m:Mem)(hl:m.sp.length≤1048576):bC Try.prog 155 [aM b1 b2 b3 b4 b5 m] (.v (.one (dI (gq m.sp)))):=by
 refine aQ hmix Try.func155 ok155 ?_;conv=>whnf
 refine ai (fun i:Nat=>[(1,.v (.one (.ptr 0 0 0))),(3,.v (.one (dI i)))]) (fun _=>[(0,.box [.ro b1 1 (m.ram.tx.map rS),.ro b2 1 (m.ram.rf.map rI),.ro b3 1 (m.swp.tx.map rS),.ro b4 1 (m.swp.rf.map rI),.ro b5 3 (m.sp.map rP),dI m.hd])]) (fun _=>1)
  (fun i=>i≤m.sp.length∧i≤bp m.sp) (fun i=>m.sp.length-i) 0 (by omega) rfl rfl rfl fun i hi=>?_
 conv=>whnf
 refine CondP.mk (fun h=>?_) (fun h=>?_)<;>conv=>whnf
 ·have hlt:i<m.sp.length:=by simpa using h
  refine aK (k:=i) rfl rfl (by simpa using hlt) ?_;conv=>whnf
  refine aH rfl (r:=.one (dB m.sp[i].lv)) (by simp[an,rP,hlt,eB,dB]) ?_;conv=>whnf
  refine CondP.mk (fun h1=>?_) (fun h1=>?_)<;>conv=>whnf
  ·have h1:m.sp[i].lv=false:=by simpa using h1
   have e:bp m.sp=i:=by have:=xl hlt h1;omega
   refine⟨?_,rfl⟩;rw[gq,e,if_pos hlt];rfl
  ·have h1:m.sp[i].lv=true:=by simpa using h1
   refine⟨i+1,by omega,⟨by omega,?_⟩,?_,rfl,rfl⟩
   ·rcases Nat.lt_or_ge i (bp m.sp)with c|c
    ·omega
    ·have e:bp m.sp=i:=by omega
     have:=ka (l:=m.sp) (by omega);simp only[e,h1]at this;exact absurd this (by decide)
   ·rw[up hlt (by omega)];rfl
 ·have:¬i<m.sp.length:=by simpa using h
  refine⟨?_,rfl⟩;rw[gq,if_neg (by omega)];rfl
end Go.Qm
namespace Go.Qm
open Go.Cq Go.Cq.D Go.RowKit Go.Proofs
set_option maxRecDepth 10000
def cM(m:Mem):List DC:=[.sl 0 0 m.ram.tx.length,.sl 1 0 m.ram.rf.length,.sl 2 0 m.swp.tx.length,.sl 3 0 m.swp.rf.length,.sl 4 0 m.sp.length,dI m.hd]
def hM(m:Mem):DH:=[(0,.arr 1 (m.ram.tx.map rS) []),(1,.arr 1 (m.ram.rf.map rI) []),(2,.arr 1 (m.swp.tx.map rS) []),(3,.arr 1 (m.swp.rf.map rI) []),(4,.arr 3 (m.sp.map rP) [])]
def cP(p:Pages):List DC:=[.sl 0 0 p.tx.length,.sl 1 0 p.rf.length]
def hP(p:Pages):DH:=[(0,.arr 1 (p.tx.map rS) []),(1,.arr 1 (p.rf.map rI) [])]
theorem qJ(b1 b2:Bool)(p:Pages)(hl:p.rf.length≤1048576):bC Try.prog 185 [.agg [.ro b1 1 (p.tx.map rS),.ro b2 1 (p.rf.map rI)]] (.v (.one (dI (eU p.rf)))):=by
 refine aQ hmix Try.func185 ok185 ?_;conv=>whnf
 refine ai (fun i:Nat=>[(1,.v (.one (.ptr 0 0 0))),(3,.v (.one (dI (eU (p.rf.take i))))),(4,.v (.one (dI i)))]) (fun _=>[(0,.box [.ro b1 1 (p.tx.map rS),.ro b2 1 (p.rf.map rI)])]) (fun _=>1)
  (fun i=>i≤p.rf.length) (fun i=>p.rf.length-i) 0 (by omega) rfl rfl rfl fun i hi=>?_
 conv=>whnf
 refine CondP.mk (fun h=>?_) (fun h=>?_)<;>conv=>whnf
 ·have hlt:i<p.rf.length:=by simpa using h
  refine aK (k:=i) rfl rfl (by simpa using hlt) ?_;conv=>whnf
  refine aH rfl (r:=.one (dI p.rf[i])) (by simp[an,rI,hlt,eI,dI]) ?_;conv=>whnf
  have hc:=qC hlt;have hb:=kU (l:=p.rf.take i);rw[List.length_take,Nat.min_eq_left hi]at hb;refine CondP.mk (fun h1=>?_) (fun h1=>?_)<;>conv=>whnf
  ·refine⟨i+1,by omega,by omega,?_,rfl,rfl⟩;have h1:p.rf[i]=0:=by simpa using h1
   rw[up hlt (by omega),hc,if_pos h1,wrap64 (by omega) (by omega)];rfl
  ·refine⟨i+1,by omega,by omega,?_,rfl,rfl⟩;have h1:¬p.rf[i]=0:=by simpa using h1
   rw[up hlt (by omega),hc,if_neg h1];rfl
 ·have:i=p.rf.length:=by
                 have:¬i<p.rf.length:=by simpa using h
                 omega
  subst this;refine⟨?_,rfl⟩;rw[List.take_length];rfl
theorem yI:bC Try.prog 176 [] (.v (.one (.sc (.str j6)))):=by
 refine aQ hmix Try.func176 ok176 ?_;conv=>whnf
 refine qm rfl rfl (m:=4) (c:=4) rfl rfl (by decide) (by decide) (by decide) ?_;conv=>whnf
 refine oX rfl rfl (bs:=j6) rfl ?_;conv=>whnf
 exact⟨rfl,rfl⟩
theorem xD(p:Pages)(t:Str)(hl:p.rf.length≤1048576)(ht:p.tx.length=p.rf.length)(hf:aJ p.rf<p.rf.length):du Try.prog 175 [.agg (cP p),.one (.sc (.str t))] (hP p) 2 fun x H'=>x= .tup [.agg (cP p),.one (dI (aJ p.rf))]∧H'=hP (aT p (aJ p.rf) t 1):=by
 refine aQ hmix Try.func175 ok175 ?_;conv=>whnf
 refine ai (fun i:Nat=>[(1,.v (.one (.sc (.str t)))),(2,.v (.one (.ptr 2 0 0))),(4,.v (.one (.ptr 3 0 0))),(6,.v (.one (dI i)))]) (fun _=>[(3,.box [.own 1 [],.own 1 []]),(2,.box (cP p)),(0,.arr 1 (p.tx.map rS) []),(1,.arr 1 (p.rf.map rI) [])]) (fun _=>4)
  (fun i=>i≤aJ p.rf) (fun i=>p.rf.length-i) 0 (by omega) rfl rfl rfl fun i hi=>?_
 conv=>whnf
 have hlt:i<p.rf.length:=by omega
 have hlt':i<p.tx.length:=by omega
 refine CondP.mk (fun h=>?_) (fun h=>?_)<;>conv=>whnf
 ·refine aB (k:=i) rfl rfl rfl hlt ?_;conv=>whnf
  refine bf rfl rfl rfl (aS (row:=rI p.rf[i]) (by simp[hlt]) rfl rfl rfl) rfl ?_;conv=>whnf
  refine CondP.mk (fun h1=>?_) (fun h1=>?_)<;>conv=>whnf
  ·have h1:p.rf[i]=0:=by simpa using h1
   have e:aJ p.rf=i:=by have:=mV hlt h1;omega
   rw[e];refine aB (k:=i) rfl rfl rfl hlt ?_;conv=>whnf
   refine aN rfl rfl rfl (by simpa using hlt) (by decide) ?_;conv=>whnf
   refine aB (k:=i) rfl rfl rfl hlt' ?_;conv=>whnf
   refine aN rfl rfl rfl (by simpa using hlt') (by decide) ?_;conv=>whnf
   refine⟨rfl,?_⟩;rw[ao (aj (f:=rI) (List.getElem?_eq_getElem hlt)),ao (aj (f:=rS) (List.getElem?_eq_getElem hlt'))];simp only[hP,aT,←map_set];rfl
  ·have h1:¬p.rf[i]=0:=by simpa using h1
   refine⟨i+1,by omega,?_,?_,rfl,rfl⟩
   ·rcases Nat.lt_or_ge i (aJ p.rf)with c|c
    ·omega
    ·have e:aJ p.rf=i:=by omega
     have:=gl hf;simp only[e]at this;exact absurd this h1
   ·rw[up hlt (by omega)];rfl
 ·have:¬(i:Int)< (p.rf.length:Int):=by simpa using h
  omega
end Go.Qm
namespace Go.Qm
open Go.Cq Go.Cq.D Go.RowKit Go.Proofs
set_option maxRecDepth 10000
theorem mE{f:Slot→Slot}{sp:List Space}{i k:Nat}(hi:i<sp.length):∃S:List Space,dE f sp i k=S∧S.length=sp.length∧∃hi':i<S.length,S[i].sl.length=sp[i].sl.length∧∀(hk:k<sp[i].sl.length)(hk':k<S[i].sl.length),S[i].sl[k]=sp[i].sl[k]∧aG S i k (f sp[i].sl[k])=dE f sp i (k+1)∧(f sp[i].sl[k]=sp[i].sl[k]→S=dE f sp i (k+1)):=⟨_,rfl,dm,by rw[dm];exact hi,qE hi,fun hk _=>⟨x8 hi hk,uo hi hk,tj hi hk⟩⟩
theorem c9{S:List Space}{i:Nat}(hi:i<S.length):(S.map rP).modify i (fun row=>row.set 2 (.sl 4 (S[i].sl.map rL)))=S.map rP:=by rw[ao (aj (f:=rP) (List.getElem?_eq_getElem hi))];exact ig (aj (f:=rP) (List.getElem?_eq_getElem hi))
def hT(m:Mem)(S:List Space):DH:=[(6,bO gH),(5,.box (cM m)),(0,.arr 1 (m.ram.tx.map rS) []),(1,.arr 1 (m.ram.rf.map rI) []),(2,.arr 1 (m.swp.tx.map rS) []),(3,.arr 1 (m.swp.rf.map rI) []),(4,.arr 3 (S.map rP) [])]
def wm(kd pl to p:Int)(x:Slot):Slot:=if x.kd=kd∧x.pl=pl then bS to p x else x
set_option maxHeartbeats 2000000 in
theorem xr(m:Mem)(kd pl to p:Int)(hn:m.sp.length≤1048576)(hl:∀s,s∈m.sp→s.sl.length≤1048576):du Try.prog 177 [.agg (cM m),.one (dI kd),.one (dI pl),.one (dI to),.one (dI p)] (hM m) 5
  fun x H'=>x= .v (.agg (cM m))∧H'=hM {m with sp:=aZ kd pl (bS to p) m.sp}:=by
 refine aQ hmix Try.func177 ok177 ?_;conv=>whnf
 refine ai (fun i:Nat=>[(1,.v (.one (dI kd))),(2,.v (.one (dI pl))),(3,.v (.one (dI to))),(4,.v (.one (dI p))),(5,.v (.one (.ptr 5 0 0))),(10,.v (.one (.ptr 6 0 0))),(11,.v (.one (dI i)))]) (fun i=>hT m (dE (wm kd pl to p) m.sp i 0)) (fun _=>7)
  (fun i=>i≤m.sp.length) (fun i=>m.sp.length-i) 0 (by omega) rfl (by rw[nO];rfl) rfl fun i hi=>?_
 conv=>whnf
 refine CondP.mk (fun h=>?_) (fun h=>?_)<;>conv=>whnf
 ·have hi:i<m.sp.length:=by simpa using h
  have hl:=hl _ (List.getElem_mem hi);refine ai (fun k:Nat=>[(1,.v (.one (dI kd))),(2,.v (.one (dI pl))),(3,.v (.one (dI to))),(4,.v (.one (dI p))),(5,.v (.one (.ptr 5 0 0))),(10,.v (.one (.ptr 6 0 0))),(11,.v (.one (dI i))),(12,.v (.one (dI k)))]) (fun k=>hT m (dE (wm kd pl to p) m.sp i k)) (fun _=>7)
   (fun k=>k≤m.sp[i].sl.length) (fun k=>m.sp[i].sl.length-k) 0 (by omega) rfl rfl rfl fun k hk=>?_
  obtain⟨S,hS,hSn,hi',hsl,hfx⟩:=mE (f:=wm kd pl to p) (k:=k) hi;rw[hS];have hg:=aj (f:=rP) (List.getElem?_eq_getElem hi');conv=>whnf
  refine aB (k:=i) rfl rfl rfl (by omega) ?_;conv=>whnf
  refine bw (i:=i) (k:=2) (sz':=4) (es':=S[i].sl.map rL) S[i].sl.length rfl rfl rfl (aS hg rfl rfl rfl) rfl (by simp) ?_;conv=>whnf
  refine aY (i:=i) (k:=2) (g':=7) (lo:=0) (len:=S[i].sl.length) (es2:=S.map rP) (ov2:=[]) rfl (ag hg (by simp[rP]) (by simp only[af,if_true];rfl)) rfl rfl (by rw[List.drop_zero,aU];exact c9 hi') (by simp only[ae,if_true];rfl) ?_;conv=>whnf
  refine CondP.mk (fun h1=>?_) (fun h1=>?_)<;>conv=>whnf
  ·have hk1:k<m.sp[i].sl.length:=by
                       have:(k:Int)< (S[i].sl.length:Int):=by simpa using h1
                       omega
   have hk':k<S[i].sl.length:=by omega
   obtain⟨x1,x2,x3⟩:=hfx hk1 hk';have next:=up hk1 (by omega)
   refine aB (k:=i) rfl rfl rfl (by omega) ?_;conv=>whnf
   refine bw (i:=i) (k:=2) (sz':=4) (es':=S[i].sl.map rL) S[i].sl.length rfl rfl rfl (aS hg rfl rfl rfl) rfl (by simp) ?_;conv=>whnf
   refine aB (k:=k) rfl rfl rfl hk' ?_;conv=>whnf
   refine nF (row:=rL m.sp[i].sl[k]) rfl rfl rfl (by rw[←x1];simp[hk']) (ck _) rfl rfl ?_;conv=>whnf
   refine aY (i:=i) (k:=2) (g':=7) (lo:=0) (len:=S[i].sl.length) (es2:=S.map rP) (ov2:=[]) rfl (ag hg (by simp[rP]) (by simp only[af,if_true];rfl)) rfl rfl (by rw[List.drop_zero,aU];exact c9 hi') (by simp only[ae,if_true];rfl) ?_;conv=>whnf
   refine CondP.mk (fun c1=>?_) (fun c1=>?_)<;>rw[c1]<;>(conv=>whnf)<;>repeat' first|(refine aE ?_;conv=>whnf)|(refine aD ?_;conv=>whnf)
   ·have c1:m.sp[i].sl[k].kd=kd:=by simpa using c1
    refine CondP.mk (fun c2=>?_) (fun c2=>?_)<;>conv=>whnf
    ·have c2:m.sp[i].sl[k].pl=pl:=by simpa using c2
     have ef:wm kd pl to p m.sp[i].sl[k]=bS to p m.sp[i].sl[k]:=if_pos ⟨c1,c2⟩;rw[ef]at x2;refine aB (k:=i) rfl rfl rfl (by omega) ?_;conv=>whnf
     refine bw (i:=i) (k:=2) (sz':=4) (es':=S[i].sl.map rL) S[i].sl.length rfl rfl rfl (aS hg rfl rfl rfl) rfl (by simp) ?_;conv=>whnf
     refine aB (k:=k) rfl rfl rfl hk' ?_;conv=>whnf
     refine cC (row':=rL (bS to p m.sp[i].sl[k])) rfl rfl rfl (by simpa using hk') (dt (fun _=>rfl)) (ck _) rfl rfl rfl ?_;conv=>whnf
     refine aY (i:=i) (k:=2) (g':=9) (lo:=0) (len:=S[i].sl.length) (es2:=(aG S i k (bS to p m.sp[i].sl[k])).map rP) (ov2:=[]) rfl (ag hg (by simp[rP]) (by simp only[af,if_true];rfl)) rfl rfl (by rw[List.drop_zero,List.take_of_length_le (by simp)];exact bz hi') (by simp only[ae,if_true];rfl) ?_;conv=>whnf
     rw[x2];refine⟨k+1,by omega,by omega,?_,rfl,rfl⟩;rw[next];rfl
    ·have c2:¬m.sp[i].sl[k].pl=pl:=by simpa using c2
     refine⟨k+1,by omega,by omega,?_,?_,rfl⟩
     ·rw[next];rfl
     ·rw[←x3 (if_neg fun c=>c2 c.2)];rfl
   ·have c1:¬m.sp[i].sl[k].kd=kd:=by simpa using c1
    refine⟨k+1,by omega,by omega,?_,?_,rfl⟩
    ·rw[next];rfl
    ·rw[←x3 (if_neg fun c=>c1 c.1)];rfl
  ·have:k=m.sp[i].sl.length:=by
                     have:¬(k:Int)< (S[i].sl.length:Int):=by simpa using h1
                     omega
   subst this;refine⟨i+1,by omega,by omega,?_,?_,rfl⟩
   ·rw[up hi (by omega)];rfl
   ·rw[←ob hi,hS];rfl
 ·have:i=m.sp.length:=by
                 have:¬i<m.sp.length:=by simpa using h
                 omega
  subst this;refine⟨rfl,?_⟩;rw[p7];rfl
end Go.Qm
namespace Go.Qm
open Go.Cq Go.Cq.D Go.RowKit Go.Proofs
set_option maxRecDepth 10000
def tS(pl:Int)(x:Slot):Slot:=if x.kd=1∧x.pl=pl then dh x else x
set_option maxHeartbeats 2000000 in
theorem xd(m:Mem)(pl:Int)(hn:m.sp.length≤1048576)(hl:∀s,s∈m.sp→s.sl.length≤1048576):du Try.prog 186 [.agg (cM m),.one (dI pl)] (hM m) 5
  fun x H'=>x= .tup [.agg (cM m),.one (dB (dP 1 pl m.sp))]∧H'=hM (dF m pl):=by
 refine aQ hmix Try.func186 ok186 ?_;conv=>whnf
 refine ai (fun s:Nat×Bool=>[(1,.v (.one (dI pl))),(2,.v (.one (.ptr 5 0 0))),(4,.v (.one (.ptr 6 0 0))),(6,.v (.one (dB s.2))),(7,.v (.one (dI s.1)))]) (fun s=>hT m (dE (tS pl) m.sp s.1 0)) (fun _=>7)
  (fun s=>s.1≤m.sp.length∧dP 1 pl m.sp=(s.2||dP 1 pl (m.sp.drop s.1))) (fun s=>m.sp.length-s.1) (0,false) ⟨Nat.zero_le _,by simp⟩ rfl (by rw[nO];rfl) rfl fun s hs=>?_
 obtain⟨i,w⟩:=s;obtain⟨hi,hu⟩:=hs;simp only at hi hu;conv=>whnf
 refine CondP.mk (fun h=>?_) (fun h=>?_)<;>conv=>whnf
 ·have hi:i<m.sp.length:=by simpa using h
  have hl:=hl _ (List.getElem_mem hi);rw[sN hi]at hu;refine ai (fun s:Nat×Bool=>[(1,.v (.one (dI pl))),(2,.v (.one (.ptr 5 0 0))),(4,.v (.one (.ptr 6 0 0))),(6,.v (.one (dB s.2))),(7,.v (.one (dI i))),(8,.v (.one (dI s.1)))]) (fun s=>hT m (dE (tS pl) m.sp i s.1)) (fun _=>7)
   (fun s=>s.1≤m.sp[i].sl.length∧dP 1 pl m.sp=(s.2||fx 1 pl m.sp i s.1)) (fun s=>m.sp[i].sl.length-s.1) (0,w) ⟨Nat.zero_le _,hu⟩ rfl rfl rfl fun s hs=>?_
  obtain⟨k,w⟩:=s;obtain⟨hk,hu⟩:=hs;simp only at hk hu;obtain⟨S,hS,hSn,hi',hsl,hfx⟩:=mE (f:=tS pl) (k:=k) hi;simp only[hS];have hg:=aj (f:=rP) (List.getElem?_eq_getElem hi');conv=>whnf
  refine aB (k:=i) rfl rfl rfl (by omega) ?_;conv=>whnf
  refine bw (i:=i) (k:=2) (sz':=4) (es':=S[i].sl.map rL) S[i].sl.length rfl rfl rfl (aS hg rfl rfl rfl) rfl (by simp) ?_;conv=>whnf
  refine aY (i:=i) (k:=2) (g':=7) (lo:=0) (len:=S[i].sl.length) (es2:=S.map rP) (ov2:=[]) rfl (ag hg (by simp[rP]) (by simp only[af,if_true];rfl)) rfl rfl (by rw[List.drop_zero,aU];exact c9 hi') (by simp only[ae,if_true];rfl) ?_;conv=>whnf
  refine CondP.mk (fun h1=>?_) (fun h1=>?_)<;>conv=>whnf
  ·have hk1:k<m.sp[i].sl.length:=by
                       have:(k:Int)< (S[i].sl.length:Int):=by simpa using h1
                       omega
   have hk':k<S[i].sl.length:=by omega
   obtain⟨x1,x2,x3⟩:=hfx hk1 hk';have next:=up hk1 (by omega)
   rw[pw hi hk1]at hu;refine aB (k:=i) rfl rfl rfl (by omega) ?_;conv=>whnf
   refine bw (i:=i) (k:=2) (sz':=4) (es':=S[i].sl.map rL) S[i].sl.length rfl rfl rfl (aS hg rfl rfl rfl) rfl (by simp) ?_;conv=>whnf
   refine aB (k:=k) rfl rfl rfl hk' ?_;conv=>whnf
   refine nF (row:=rL m.sp[i].sl[k]) rfl rfl rfl (by rw[←x1];simp[hk']) (ck _) rfl rfl ?_;conv=>whnf
   refine aY (i:=i) (k:=2) (g':=7) (lo:=0) (len:=S[i].sl.length) (es2:=S.map rP) (ov2:=[]) rfl (ag hg (by simp[rP]) (by simp only[af,if_true];rfl)) rfl rfl (by rw[List.drop_zero,aU];exact c9 hi') (by simp only[ae,if_true];rfl) ?_;conv=>whnf
   refine CondP.mk (fun c1=>?_) (fun c1=>?_)<;>rw[c1]<;>(conv=>whnf)<;>repeat' first|(refine aE ?_;conv=>whnf)|(refine aD ?_;conv=>whnf)
   ·have c1:m.sp[i].sl[k].kd=1:=by simpa using c1
    refine CondP.mk (fun c2=>?_) (fun c2=>?_)<;>conv=>whnf
    ·have c2:m.sp[i].sl[k].pl=pl:=by simpa using c2
     have ef:tS pl m.sp[i].sl[k]=dh m.sp[i].sl[k]:=if_pos ⟨c1,c2⟩;rw[ef]at x2;have hm:(S[i].sl.map rL).modify k (fun row=>row.set 3 (.sc (.bool false)))=(S[i].sl.map rL).set k (rL (dh m.sp[i].sl[k])):=by rw[ao (aj (f:=rL) (List.getElem?_eq_getElem hk')),x1];rfl
     cases w
     all_goals
      (conv=>whnf)<;>repeat' first|(refine aE ?_;conv=>whnf)|(refine aD ?_;conv=>whnf)
      refine aB (k:=i) rfl rfl rfl (by omega) ?_;conv=>whnf
      refine bw (i:=i) (k:=2) (sz':=4) (es':=S[i].sl.map rL) S[i].sl.length rfl rfl rfl (aS hg rfl rfl rfl) rfl (by simp) ?_;conv=>whnf
      refine aB (k:=k) rfl rfl rfl hk' ?_;conv=>whnf
      refine aN rfl rfl rfl (by simpa using hk') (by decide) ?_;conv=>whnf
      refine aY (i:=i) (k:=2) (g':=7) (lo:=0) (len:=S[i].sl.length) (es2:=(aG S i k (dh m.sp[i].sl[k])).map rP) (ov2:=[]) rfl (ag hg (by simp[rP]) (by simp only[af,if_true];rfl)) rfl rfl (by rw[List.drop_zero,List.take_of_length_le (by simp),hm];exact bz hi') (by simp only[ae,if_true];rfl) ?_;conv=>whnf
      rw[x2]
     ·refine⟨(k+1,m.sp[i].sl[k].us),by show m.sp[i].sl.length-(k+1)<m.sp[i].sl.length-k;omega,⟨by show k+1≤_;omega,by rw[hu];simp[c1,c2]⟩,?_,rfl,rfl⟩;rw[next];rfl
     ·refine⟨(k+1,true),by show m.sp[i].sl.length-(k+1)<m.sp[i].sl.length-k;omega,⟨by show k+1≤_;omega,by rw[hu];simp⟩,?_,rfl,rfl⟩;rw[next];rfl
    ·have c2:¬m.sp[i].sl[k].pl=pl:=by simpa using c2
     refine⟨(k+1,w),by show m.sp[i].sl.length-(k+1)<m.sp[i].sl.length-k;omega,⟨by show k+1≤_;omega,by rw[hu];simp[c2]⟩,?_,?_,rfl⟩
     ·rw[next];rfl
     ·rw[←x3 (if_neg fun c=>c2 c.2)];rfl
   ·have c1:¬m.sp[i].sl[k].kd=1:=by simpa using c1
    refine⟨(k+1,w),by show m.sp[i].sl.length-(k+1)<m.sp[i].sl.length-k;omega,⟨by show k+1≤_;omega,by rw[hu];simp[c1]⟩,?_,?_,rfl⟩
    ·rw[next];rfl
    ·rw[←x3 (if_neg fun c=>c1 c.1)];rfl
  ·have:k=m.sp[i].sl.length:=by
                     have:¬(k:Int)< (S[i].sl.length:Int):=by simpa using h1
                     omega
   subst this;rw[sY hi]at hu;refine⟨(i+1,w),by show m.sp.length-(i+1)<m.sp.length-i;omega,⟨by show i+1≤_;omega,hu⟩,?_,?_,rfl⟩
   ·rw[up hi (by omega)];rfl
   ·show _=hT m (dE (tS pl) m.sp (i+1) 0);rw[←ob hi,hS];rfl
 ·have:i=m.sp.length:=by
                 have:¬i<m.sp.length:=by simpa using h
                 omega
  subst this;rw[List.drop_length]at hu;have hu:dP 1 pl m.sp=w:=by rw[hu];simp[dP]
  refine⟨by rw[hu];rfl,?_⟩;rw[p7];rfl
end Go.Qm
namespace Go.Qm
open Go.Cq Go.Cq.D Go.RowKit Go.Proofs
set_option maxRecDepth 10000
structure Lw(m:Mem):Prop where
 rt:m.ram.tx.length=12
 rr:m.ram.rf.length=12
 st:m.swp.tx.length=12
 sr:m.swp.rf.length=12
 sp:m.sp.length=5
def cW(h:Int):List DC:=[.sl 0 0 12,.sl 1 0 12,.sl 2 0 12,.sl 3 0 12,.sl 4 0 5,dI h]
theorem Wf.L{m:Mem}(w:Wf m):Lw m:=⟨w.ram.tx,w.ram.rf,w.swp.tx,w.swp.rf,w.sp⟩
theorem aDc{m:Mem}(l:Lw m):cM m=cW m.hd:=by rw[cM,l.rt,l.rr,l.st,l.sr,l.sp];rfl
theorem jk{pre H:DH}{g:Nat}(hg:Nat.blt g 5=true):pre.all (fun p=>Nat.ble 5 p.1)=true→aF (pre++H) g=aF H g:=by
 intro h;induction pre with
 |nil=>rfl
 |cons p l ih=>
  obtain⟨k,x⟩:=p;simp only[List.all_cons,Bool.and_eq_true]at h;have h1:5≤k:=by simpa using h.1
  have h2:g<5:=by simpa using hg
  rw[List.cons_append,aV,if_neg (by omega)];exact ih h.2
theorem jg{pre H:DH}{g:Nat}{x:DB}(hg:Nat.blt g 5=true):pre.all (fun p=>Nat.ble 5 p.1)=true→cY g x (pre++H)=pre++cY g x H:=by
 intro h;induction pre with
 |nil=>rfl
 |cons p l ih=>
  obtain⟨k,y⟩:=p;simp only[List.all_cons,Bool.and_eq_true]at h;have h1:5≤k:=by simpa using h.1
  have h2:g<5:=by simpa using hg
  have hb:Nat.beq k g=false:=by
   cases hb:Nat.beq k g with
   |false=>rfl
   |true=>have:=Nat.eq_of_beq_eq_true hb;omega
  rw[List.cons_append,cY,hb,cond_false,ih h.2];rfl
theorem aD4(m m':Mem)(l:Lw m)(l':Lw m')(pre:DH)(hp:pre.all (fun p=>Nat.ble 5 p.1)=true):bB (fun t=>([0,1,2,3,4]:List Nat)[t]?) (hM m') [0,1,2,3,4] 0 (pre++hM m)=some (pre++hM m'):=by have e0:=jk (H:=hM m) (g:=0) rfl hp;refine(aa (sz:=1) (es:=m'.ram.tx.map rS) (es0:=m.ram.tx.map rS) (ov0:=[]) rfl e0 (by simp[l.rt,l'.rt])).trans ?_;rw[jg rfl hp];refine(aa (sz:=1) (es:=m'.ram.rf.map rI) (es0:=m.ram.rf.map rI) (ov0:=[]) rfl (jk rfl hp) (by simp[l.rr,l'.rr])).trans ?_;rw[jg rfl hp];refine(aa (sz:=1) (es:=m'.swp.tx.map rS) (es0:=m.swp.tx.map rS) (ov0:=[]) rfl (jk rfl hp) (by simp[l.st,l'.st])).trans ?_;rw[jg rfl hp];refine(aa (sz:=1) (es:=m'.swp.rf.map rI) (es0:=m.swp.rf.map rI) (ov0:=[]) rfl (jk rfl hp) (by simp[l.sr,l'.sr])).trans ?_;rw[jg rfl hp];refine(aa (sz:=3) (es:=m'.sp.map rP) (es0:=m.sp.map rP) (ov0:=[]) rfl (jk rfl hp) (by simp[l.sp,l'.sp])).trans ?_;rw[jg rfl hp];rfl
abbrev hA(m:Mem):DH:=[(0,.arr 1 (m.ram.tx.map rS) []),(1,.arr 1 (m.ram.rf.map rI) []),(2,.arr 1 (m.swp.tx.map rS) []),(3,.arr 1 (m.swp.rf.map rI) []),(4,.arr 3 (m.sp.map rP) [])]
theorem aC7{m m':Mem}(l:Lw m)(l':Lw m'){k1 k2:Nat}{d1 d2:DB}(hp:(Nat.ble 5 k1&&(Nat.ble 5 k2&&true))=true):bB (fun t=>([0,1,2,3,4]:List Nat)[t]?) (hM m') [0,1,2,3,4] 0 ((k1,d1)::(k2,d2)::hA m)=some ((k1,d1)::(k2,d2)::hA m'):=aD4 m m' l l' [(k1,d1),(k2,d2)] hp
theorem uG{m m':Mem}(l:Lw m)(l':Lw m'){k1 k2 k3:Nat}{d1 d2 d3:DB}(hp:(Nat.ble 5 k1&&(Nat.ble 5 k2&&(Nat.ble 5 k3&&true)))=true):bB (fun t=>([0,1,2,3,4]:List Nat)[t]?) (hM m') [0,1,2,3,4] 0 ((k1,d1)::(k2,d2)::(k3,d3)::hA m)=some ((k1,d1)::(k2,d2)::(k3,d3)::hA m'):=aD4 m m' l l' [(k1,d1),(k2,d2),(k3,d3)] hp
theorem th{f:Nat→Option Nat}{m m':Mem}(l:Lw m)(l':Lw m'){g0 g1 g2 g3 g4:Nat}{H:DH}(hn:nodup [g0,g1,g2,g3,g4]=true)(h0:aF H g0=some (.arr 1 (m.ram.tx.map rS) []))(h1:aF H g1=some (.arr 1 (m.ram.rf.map rI) []))(h2:aF H g2=some (.arr 1 (m.swp.tx.map rS) []))(h3:aF H g3=some (.arr 1 (m.swp.rf.map rI) []))(h4:aF H g4=some (.arr 3 (m.sp.map rP) [])):
  bB f (hM m') [g0,g1,g2,g3,g4] 0 H=some (cY g4 (.arr 3 (m'.sp.map rP) []) (cY g3 (.arr 1 (m'.swp.rf.map rI) []) (cY g2 (.arr 1 (m'.swp.tx.map rS) []) (cY g1 (.arr 1 (m'.ram.rf.map rI) []) (cY g0 (.arr 1 (m'.ram.tx.map rS) []) H))))):=by
 obtain⟨n0,hn⟩:=nodup_cons hn;obtain⟨n1,hn⟩:=nodup_cons hn;obtain⟨n2,hn⟩:=nodup_cons hn;obtain⟨n3, -⟩:=nodup_cons hn;simp only[List.mem_cons,List.not_mem_nil,or_false,not_or]at n0 n1 n2 n3;refine(aa (sz:=1) (es:=m'.ram.tx.map rS) (es0:=m.ram.tx.map rS) (ov0:=[]) rfl h0 (by simp[l.rt,l'.rt])).trans ?_;refine(aa (sz:=1) (es:=m'.ram.rf.map rI) (es0:=m.ram.rf.map rI) (ov0:=[]) rfl (by rw[ax,if_neg (fun e=>n0.1 e.symm)];exact h1) (by simp[l.rr,l'.rr])).trans ?_;refine(aa (sz:=1) (es:=m'.swp.tx.map rS) (es0:=m.swp.tx.map rS) (ov0:=[]) rfl (by rw[ax,if_neg (fun e=>n1.1 e.symm),ax,if_neg (fun e=>n0.2.1 e.symm)];exact h2) (by simp[l.st,l'.st])).trans ?_;refine(aa (sz:=1) (es:=m'.swp.rf.map rI) (es0:=m.swp.rf.map rI) (ov0:=[]) rfl (by rw[ax,if_neg (fun e=>n2.1 e.symm),ax,if_neg (fun e=>n1.2.1 e.symm),ax,if_neg (fun e=>n0.2.2.1 e.symm)];exact h3) (by simp[l.sr,l'.sr])).trans ?_;refine(aa (sz:=3) (es:=m'.sp.map rP) (es0:=m.sp.map rP) (ov0:=[]) rfl (by rw[ax,if_neg (fun e=>n3 e.symm),ax,if_neg (fun e=>n2.2 e.symm),ax,if_neg (fun e=>n1.2.2 e.symm),ax,if_neg (fun e=>n0.2.2.2 e.symm)];exact h4) (by simp[l.sp,l'.sp])).trans ?_;rfl
end Go.Qm
namespace Go.Qm
open Go.Cq Go.Cq.D Go.RowKit Go.Proofs
set_option maxRecDepth 10000
theorem rE{h:Int}(h1:0≤h∧h≤11):(IntKind.wrap .i64 (h+1)).tmod 12=(h+1) % 12:=by rw[wrap64 (by omega) (by omega),Int.tmod_eq_emod_of_nonneg (by omega)]
theorem aB3(p:Pages):decide (0< (eU p.rf:Int))=decide (aJ p.rf<p.rf.length):=by
 have:=og (l:=p.rf);by_cases c:aJ p.rf<p.rf.length
 ·rw[decide_eq_true c,decide_eq_true (by have:=this.2 c;omega)]
 ·rw[decide_eq_false c,decide_eq_false (by intro h;exact c (this.1 (by omega)))]
theorem w5(m:Mem)(kd pl to p:Int)(l:Lw m)(hl:∀s,s∈m.sp→s.sl.length≤16):du Try.prog 177 [.agg (cW m.hd),.one (dI kd),.one (dI pl),.one (dI to),.one (dI p)] (hM m) 5
  fun x H'=>x= .v (.agg (cW m.hd))∧H'=hM {m with sp:=aZ kd pl (bS to p) m.sp}:=by
 have:=xr m kd pl to p (by rw[l.sp];omega) (fun s hs=>by have:=hl s hs;omega);rwa[aDc l]at this
theorem aCG(m:Mem)(pl:Int)(l:Lw m)(hl:∀s,s∈m.sp→s.sl.length≤16):du Try.prog 186 [.agg (cW m.hd),.one (dI pl)] (hM m) 5
  fun x H'=>x= .tup [.agg (cW m.hd),.one (dB (dP 1 pl m.sp))]∧H'=hM (dF m pl):=by
 have:=xd m pl (by rw[l.sp];omega) (fun s hs=>by have:=hl s hs;omega);rwa[aDc l]at this
theorem nz(p:Pages)(t:Str)(h1:p.tx.length=12)(h2:p.rf.length=12)(hf:aJ p.rf<12):du Try.prog 175 [.agg [.sl 0 0 12,.sl 1 0 12],.one (.sc (.str t))] (hP p) 2 fun x H'=>x= .tup [.agg [.sl 0 0 12,.sl 1 0 12],.one (dI (aJ p.rf))]∧H'=hP (aT p (aJ p.rf) t 1):=by have:=xD p t (by omega) (by omega) (by omega);rwa[cP,h1,h2]at this
def hW(m:Mem):DH:=[(6,bO gH),(5,.box (cW m.hd)),(0,.arr 1 (m.ram.tx.map rS) []),(1,.arr 1 (m.ram.rf.map rI) []),(2,.arr 1 (m.swp.tx.map rS) []),(3,.arr 1 (m.swp.rf.map rI) []),(4,.arr 3 (m.sp.map rP) [])]
theorem take_set{p:Pages}{k:Nat}{t:Str}{n:Int}(hk:k<p.rf.length):((aT p k t 1).rf.map rI).modify k (fun row=>row.set 0 (.sc (.int .i64 n)))=(aT p k t n).rf.map rI:=by rw[ao (aj (f:=rI) (a:=1) (by simp[aT,hk]))];simp only[aT];rw[show(rI 1).set 0 (.sc (.int .i64 n))=rI n from rfl,map_set,List.set_set]
theorem iW{p:Pages}{k:Nat}{n:Int}(hk:k<p.rf.length):(p.rf.map rI).modify k (fun row=>row.set 0 (.sc (.int .i64 n)))=(p.rf.set k n).map rI:=by rw[ao (aj (f:=rI) (List.getElem?_eq_getElem hk)),←map_set];rfl
theorem jD{p:Pages}{k:Nat}{t:Str}(hk:k<p.tx.length):(p.tx.map rS).modify k (fun row=>row.set 0 (.sc (.str t)))=(p.tx.set k t).map rS:=by rw[ao (aj (f:=rS) (List.getElem?_eq_getElem hk)),←map_set];rfl
set_option maxHeartbeats 4000000 in
theorem rC(m:Mem)(but:Int)(w:Wf m):du Try.prog 174 [.agg (cW m.hd),.one (dI but)] (hM m) 5
  fun x H'=>x= .tup [.agg (cW ((bT m but).getD m).hd),.one (dB (bT m but).isSome)]∧H'=hM ((bT m but).getD m):=by
 refine aQ hmix Try.func174 ok174 ?_;have l:=w.L;conv=>whnf
 refine aC (cas:=[.agg [.ro true 1 (m.ram.tx.map rS),.ro true 1 (m.ram.rf.map rI)]]) [.lend] rfl (by show some [DV.agg [DC.ro true 1 (List.take 12 (List.drop 0 _)),DC.ro true 1 (List.take 12 (List.drop 0 _))]]=_;rw[List.drop_zero,List.drop_zero,List.take_of_length_le (by simp[l.rt]),List.take_of_length_le (by simp[l.rr])]) rfl (qJ true true m.ram (by rw[l.rr];omega)) rfl ?_;conv=>whnf
 rw[aB3 m.ram];refine CondP.mk (fun h=>?_) (fun h=>?_)<;>conv=>whnf
 ·have h:aJ m.ram.rf<m.ram.rf.length:=by simpa using h
  rw[bT,if_pos h];exact⟨rfl,rfl⟩
 have h:¬aJ m.ram.rf<m.ram.rf.length:=by simpa using h
 refine aC (cas:=[.agg [.ro true 1 (m.swp.tx.map rS),.ro true 1 (m.swp.rf.map rI)]]) [.lend] rfl (by show some [DV.agg [DC.ro true 1 (List.take 12 (List.drop 0 _)),DC.ro true 1 (List.take 12 (List.drop 0 _))]]=_;rw[List.drop_zero,List.drop_zero,List.take_of_length_le (by simp[l.st]),List.take_of_length_le (by simp[l.sr])]) rfl (qJ true true m.swp (by rw[l.sr];omega)) rfl ?_;conv=>whnf
 refine CondP.mk (fun h2=>?_) (fun h2=>?_)<;>conv=>whnf
 ·have h2:¬aJ m.swp.rf<m.swp.rf.length:=fun c=>by
   have:=og.2 c;have h2:eU m.swp.rf=0:=by simpa using h2
   omega
  rw[bT,if_neg h,if_neg h2];exact⟨rfl,rfl⟩
 have h2:aJ m.swp.rf<m.swp.rf.length:=by
  have h2:¬eU m.swp.rf=0:=by simpa using h2
  exact og.1 (by omega)
 rw[bT,if_neg h,if_pos h2];simp only[Option.getD_some,Option.isSome_some];rw[w.swp.rf]at h2;refine ai (fun s:Mem×DTs=>(1,.v (.one (dI but)))::(2,.v (.one (.ptr 5 0 0)))::(4,.v (.one (.ptr 6 0 0)))::s.2) (fun s=>hW s.1) (fun _=>7)
  (fun s=>Wf s.1∧aJ s.1.swp.rf<12∧cn s.1 but=cn m but) (fun s=>mu s.1 but) (m,[(20,.v (.one (.sc (.bool (decide ((eU m.swp.rf:Int)=0))))))]) ⟨w,h2,rfl⟩ rfl rfl rfl fun s hs=>?_
 clear l w h h2;obtain⟨s,rest⟩:=s;obtain⟨ws,hf,hr⟩:=hs;simp only at ws hf hr;obtain⟨a,ha⟩:=Int.eq_ofNat_of_zero_le ws.hd.1;have ha12:a<12:=by have:=ws.hd;omega
 conv=>whnf
 refine fC rfl ?_;conv=>whnf
 simp only[rE ws.hd];refine CondP.mk (fun h3=>?_) (fun h3=>?_)<;>conv=>whnf
 ·have h3:s.hd=but:=by simpa using h3
  have hc:clk s but= .inl (cr s):=by rw[clk,if_pos h3]
  exact⟨(cr s,_),gw hc,⟨ws.hand,hf,by rw[←hr,fv hc]⟩,rfl,rfl,rfl⟩
 have h3:¬s.hd=but:=by simpa using h3
 have w2:=ws.hand.calm s.hd;have l2:=w2.L;refine b8 [.pass,.pass] [0,1,2,3,4] rfl rfl rfl rfl (aCG (cr s) s.hd ws.hand.L ws.hand.sl) rfl (aC7 ws.hand.L l2 rfl) ?_;conv=>whnf
 refine CondP.mk (fun h4=>?_) (fun h4=>?_)<;>conv=>whnf
 ·have hc:clk s but= .inl (dF (cr s) s.hd):=by rw[clk,if_neg h3,if_pos (show dP 1 s.hd s.sp=true from h4)]
  exact⟨(dF (cr s) s.hd,_),gw hc,⟨w2,hf,by rw[←hr,fv hc]⟩,rfl,rfl,rfl⟩
 have h4:¬dP 1 s.hd s.sp=true:=by rw[show dP 1 s.hd s.sp=false from h4];decide
 have hc:clk s but= .inr (dC (dF (cr s) s.hd) s.hd.toNat):=by rw[clk,if_neg h3,if_neg h4]
 rw[←hr,iK hc];have hf2:aJ (dF (cr s) s.hd).swp.rf<12:=hf;have hto:s.hd.toNat=a:=by omega
 rw[hto];generalize hs2:dF (cr s) s.hd=s2 at*;have hh2:(cr s).hd=s2.hd:=by rw[←hs2];rfl
 simp only[hh2,ha];refine aB (k:=a) rfl rfl rfl ha12 ?_;conv=>whnf
 refine bf rfl rfl rfl (aS (row:=rI (s2.ram.rf[a]'(by rw[l2.rr];exact ha12))) (by simp[l2.rr,ha12]) rfl rfl rfl) rfl ?_;conv=>whnf
 refine aB (k:=a) rfl rfl rfl ha12 ?_;conv=>whnf
 refine bf rfl rfl rfl (aS (row:=rS (s2.ram.tx[a]'(by rw[l2.rt];exact ha12))) (by simp[l2.rt,ha12]) rfl rfl rfl) rfl ?_;conv=>whnf
 refine b8 [.pass,.pass] [2,3] rfl rfl rfl rfl (nz s2.swp (s2.ram.tx[a]'(by rw[l2.rt];exact ha12)) l2.st l2.sr hf2) rfl ((aa (sz:=1) (es:=(aT s2.swp (aJ s2.swp.rf) (s2.ram.tx[a]'(by rw[l2.rt];exact ha12)) 1).tx.map rS) (es0:=s2.swp.tx.map rS) (ov0:=[]) rfl rfl (by simp[aT])).trans ((aa (sz:=1) (es:=(aT s2.swp (aJ s2.swp.rf) (s2.ram.tx[a]'(by rw[l2.rt];exact ha12)) 1).rf.map rI) (es0:=s2.swp.rf.map rI) (ov0:=[]) rfl rfl (by simp[aT])).trans rfl)) ?_;conv=>whnf
 refine aB (k:=aJ s2.swp.rf) rfl rfl rfl hf2 ?_;conv=>whnf
 refine aN rfl rfl rfl (by simpa [aT,l2.sr]using hf2) (by decide) ?_;conv=>whnf
 rw[take_set (by rw[l2.sr];exact hf2)];have l3:Lw {s2 with swp:=aT s2.swp (aJ s2.swp.rf) (s2.ram.tx[a]'(by rw[l2.rt];exact ha12)) (s2.ram.rf[a]'(by rw[l2.rr];exact ha12))}:=⟨l2.rt,l2.rr,by simp[aT,l2.st],by simp[aT,l2.sr],l2.sp⟩;have l4:Lw ⟨s2.ram,aT s2.swp (aJ s2.swp.rf) (s2.ram.tx[a]'(by rw[l2.rt];exact ha12)) (s2.ram.rf[a]'(by rw[l2.rr];exact ha12)),aZ 1 a (bS 2 (aJ s2.swp.rf)) s2.sp,s2.hd⟩:=⟨l3.rt,l3.rr,l3.st,l3.sr,by simp[aZ,l2.sp]⟩;refine b8 [.pass,.pass,.pass,.pass,.pass] [0,1,2,3,4] rfl rfl rfl rfl (w5 {s2 with swp:=aT s2.swp (aJ s2.swp.rf) (s2.ram.tx[a]'(by rw[l2.rt];exact ha12)) (s2.ram.rf[a]'(by rw[l2.rr];exact ha12))} 1 a 2 (aJ s2.swp.rf) l3 w2.sl) rfl (aC7 l3 l4 rfl) ?_;conv=>whnf
 refine aB (k:=a) rfl rfl rfl ha12 ?_;conv=>whnf
 refine aN rfl rfl rfl (by simpa [l2.rr]using ha12) (by decide) ?_;conv=>whnf
 refine aB (k:=a) rfl rfl rfl ha12 ?_;conv=>whnf
 refine aN rfl rfl rfl (by simpa [l2.rt]using ha12) (by decide) ?_;conv=>whnf
 refine⟨rfl,?_⟩;rw[iW (by rw[l2.rr];exact ha12),jD (by rw[l2.rt];exact ha12)];have e1:s2.ram.tx[a]?.getD []=s2.ram.tx[a]'(by rw[l2.rt];exact ha12):=by simp[l2.rt,ha12]
 have e2:s2.ram.rf[a]?.getD 0=s2.ram.rf[a]'(by rw[l2.rr];exact ha12):=by simp[l2.rr,ha12]
 simp only[dC,e1,e2];rfl
end Go.Qm
namespace Go.Qm
open Go.Cq Go.Cq.D Go.RowKit Go.Proofs
set_option maxRecDepth 10000
theorem tz{sp:List Space}{i j:Nat}{x y:Slot}:aG (aG sp i j x) i j y=aG sp i j y:=by
 simp only[aG];refine List.ext_getElem (by simp) fun q h1 h2=>?_
 simp only[List.getElem_modify];split<;>simp
theorem aCw{l:List Slot}{j:Nat}{b:Bool}(h:j<l.length):(l.map rL).modify j (fun row=>row.set 3 (.sc (.bool b)))=(l.map rL).set j (rL {l[j]with us:=b}):=by rw[ao (aj (f:=rL) (List.getElem?_eq_getElem h))];rfl
theorem vF{sp:List Space}{i j:Nat}{x:Slot}(hi:i<sp.length)(hj:j<sp[i].sl.length):∃(h1:i< (aG sp i j x).length)(h2:j< (aG sp i j x)[i].sl.length),(aG sp i j x)[i].sl[j]=x:=⟨by simpa [aG]using hi,by simpa [aG]using hj,by simp[aG]⟩
theorem r6{S:List Space}{i j:Nat}{b:Bool}(hi:i<S.length)(hj:j<S[i].sl.length):(S.map rP).modify i (fun row=>row.set 2 (.sl 4 ((((S[i].sl.map rL).modify j (fun row=>row.set 3 (.sc (.bool b)))).drop 0).take S[i].sl.length)))=(aG S i j {S[i].sl[j]with us:=b}).map rP:=by rw[List.drop_zero,List.take_of_length_le (by simp),aCw hj];exact bz hi
set_option maxHeartbeats 8000000 in
theorem lF(m:Mem)(i j:Nat)(w:Wf m)(hi:i<m.sp.length)(hj:j<m.sp[i].sl.length):du Try.prog 147 [.agg (cW m.hd),.one (dI i),.one (dI j)] (hM m) 5
  fun x H'=>x= .tup [.agg (cW ((bJ m i j).getD m).hd),.one (dB (bJ m i j).isSome)]∧H'=hM ((bJ m i j).getD m):=by
 refine aQ hmix Try.func147 ok147 ?_;have l:=w.L;have hi5:i<5:=by rw[←l.sp];exact hi
 have hg:=aj (f:=rP) (List.getElem?_eq_getElem hi);have hx:=bU hi hj;conv=>whnf
 refine aB (k:=i) rfl rfl rfl hi5 ?_;conv=>whnf
 refine bw (i:=i) (k:=2) (sz':=4) (es':=m.sp[i].sl.map rL) m.sp[i].sl.length rfl rfl rfl (aS hg rfl rfl rfl) rfl (by simp) ?_;conv=>whnf
 refine aB (k:=j) rfl rfl rfl hj ?_;conv=>whnf
 refine nF (row:=rL (aI m i j)) rfl rfl rfl (by rw[hx];simp[hj]) (ck _) rfl rfl ?_;conv=>whnf
 refine aY (i:=i) (k:=2) (g':=7) (lo:=0) (len:=m.sp[i].sl.length) (es2:=m.sp.map rP) (ov2:=[]) rfl (ag hg (by simp[rP]) (by simp only[af,if_true];rfl)) rfl rfl (by rw[List.drop_zero,aU];exact c9 hi) (by simp only[ae,if_true];rfl) ?_;conv=>whnf
 obtain⟨s1,s2⟩:=w.slot hi hj;have skd:(aI m i j).kd=0∨(aI m i j).kd=1∨(aI m i j).kd=2:=by rw[hx];exact w.kd _ (List.getElem_mem hi) _ (List.getElem_mem hj)
 refine CondP.mk (fun c1=>?_) (fun c1=>?_)<;>conv=>whnf
 ·have c1:¬(aI m i j).kd=1:=by simpa using c1
  have hcall:=rC m (-1) w;cases hr:bT m (-1)with
  |none=>
   have hb:bJ m i j=none:=by rw[bJ,if_neg c1,hr];rfl
   rw[hr]at hcall;refine b8 (r:=.tup [.agg (cW m.hd),.one (dB false)]) (Hr:=hM m) [.pass,.pass] [0,1,2,3,4] rfl rfl rfl rfl hcall rfl (uG l l rfl) ?_
   (conv=>whnf)<;>repeat' first|(refine aE ?_;conv=>whnf)|(refine aD ?_;conv=>whnf)
   rw[hb];exact⟨rfl,rfl⟩
  |some m1=>
   obtain⟨w1,hf⟩:=w.bT hr;have l1:=w1.L;have ha:=cX w hr;obtain⟨hi1,hj1,ex, -⟩:=eN ha hi hj (.inl c1);have hg1:=aj (f:=rP) (List.getElem?_eq_getElem hi1);rw[hr]at hcall;refine b8 (r:=.tup [.agg (cW m1.hd),.one (dB true)]) (Hr:=hM m1) [.pass,.pass] [0,1,2,3,4] rfl rfl rfl rfl hcall rfl (uG l l1 rfl) ?_
   (conv=>whnf)<;>repeat' first|(refine aE ?_;conv=>whnf)|(refine aD ?_;conv=>whnf)
   refine CondP.mk (fun c0=>?_) (fun c0=>?_)<;>conv=>whnf
   ·have c0:(aI m i j).kd=0:=by simpa using c0
    have hb:bJ m i j=some {m1 with ram:=aT m1.ram (aJ m1.ram.rf) j6 1,sp:=aG m1.sp i j ⟨1,aJ m1.ram.rf,true,true⟩}:=by rw[bJ,if_neg c1,hr,Option.map_some,if_pos c0]
    refine aC [] rfl rfl rfl yI rfl ?_;conv=>whnf
    refine b8 [.pass,.pass] [0,1] rfl rfl rfl rfl (nz m1.ram j6 l1.rt l1.rr hf) rfl ((aa (sz:=1) (es:=(aT m1.ram (aJ m1.ram.rf) j6 1).tx.map rS) (es0:=m1.ram.tx.map rS) (ov0:=[]) rfl rfl (by simp[aT])).trans ((aa (sz:=1) (es:=(aT m1.ram (aJ m1.ram.rf) j6 1).rf.map rI) (es0:=m1.ram.rf.map rI) (ov0:=[]) rfl rfl (by simp[aT])).trans rfl)) ?_;conv=>whnf
    refine aB (k:=i) rfl rfl rfl hi5 ?_;conv=>whnf
    refine bw (i:=i) (k:=2) (sz':=4) (es':=m1.sp[i].sl.map rL) m1.sp[i].sl.length rfl rfl rfl (aS hg1 rfl rfl rfl) rfl (by simp) ?_;conv=>whnf
    refine aB (k:=j) rfl rfl rfl hj1 ?_;conv=>whnf
    refine cC (row':=rL ⟨1,aJ m1.ram.rf,true,false⟩) rfl rfl rfl (by simpa using hj1) (dt (fun _=>rfl)) (ck _) rfl rfl rfl ?_;conv=>whnf
    refine aY (i:=i) (k:=2) (g':=7) (lo:=0) (len:=m1.sp[i].sl.length) (es2:=(aG m1.sp i j ⟨1,aJ m1.ram.rf,true,false⟩).map rP) (ov2:=[]) rfl (ag hg1 (by simp[rP]) (by simp only[af,if_true];rfl)) rfl rfl (by rw[List.drop_zero,List.take_of_length_le (by simp)];exact bz hi1) (by simp only[ae,if_true];rfl) ?_;conv=>whnf
    obtain⟨hi2,hj2,e2⟩:=vF (x:=⟨1,aJ m1.ram.rf,true,false⟩) hi1 hj1;have hg2:=aj (f:=rP) (List.getElem?_eq_getElem hi2);refine aB (k:=i) rfl rfl rfl hi5 ?_;conv=>whnf
    refine bw (i:=i) (k:=2) (sz':=4) (es':=(aG m1.sp i j ⟨1,aJ m1.ram.rf,true,false⟩)[i].sl.map rL) (aG m1.sp i j ⟨1,aJ m1.ram.rf,true,false⟩)[i].sl.length rfl rfl rfl (aS hg2 rfl rfl rfl) rfl (by simp) ?_;conv=>whnf
    refine aB (k:=j) rfl rfl rfl hj2 ?_;conv=>whnf
    refine aN rfl rfl rfl (by simpa using hj2) (by decide) ?_;conv=>whnf
    refine aY (i:=i) (k:=2) (g':=7) (lo:=0) (len:=(aG m1.sp i j ⟨1,aJ m1.ram.rf,true,false⟩)[i].sl.length) (es2:=(aG m1.sp i j ⟨1,aJ m1.ram.rf,true,true⟩).map rP) (ov2:=[]) rfl (ag hg2 (by simp[rP]) (by simp only[af,if_true];rfl)) rfl rfl (by rw[r6 hi2 hj2,e2,tz]) (by simp only[ae,if_true];rfl) ?_;conv=>whnf
    rw[hb];exact⟨rfl,rfl⟩
   ·have c0:¬(aI m i j).kd=0:=by simpa using c0
    have hk2:(aI m i j).kd=2:=by omega
    obtain⟨f,e1,hf12,e3,e4⟩:=w1.we ha hi hj hk2;have hft:f<m1.swp.tx.length:=by rw[l1.st];exact hf12
    have hfr:f<m1.swp.rf.length:=by rw[l1.sr];exact hf12
    have gt:m1.swp.tx[f]?.getD []=m1.swp.tx[f]:=by simp[hft]
    have gr:m1.swp.rf[f]?.getD 0=m1.swp.rf[f]:=by simp[hfr]
    have hb:bJ m i j=some ⟨aT m1.ram (aJ m1.ram.rf) m1.swp.tx[f] m1.swp.rf[f],aT m1.swp f [] 0,aG (aZ 2 f (bS 1 (aJ m1.ram.rf)) m1.sp) i j ⟨1,aJ m1.ram.rf,(aI m i j).ow,true⟩,m1.hd⟩:=by rw[bJ,if_neg c1,hr,Option.map_some,if_neg c0,e1,Int.toNat_natCast,gt,gr]
    refine aB (k:=f) rfl rfl (by show some _=some _;rw[e1]) hf12 ?_;conv=>whnf
    refine bf rfl rfl rfl (aS (row:=rS m1.swp.tx[f]) (by simp[hft]) rfl rfl rfl) rfl ?_;conv=>whnf
    refine b8 [.pass,.pass] [0,1] rfl rfl rfl rfl (nz m1.ram m1.swp.tx[f] l1.rt l1.rr hf) rfl ((aa (sz:=1) (es:=(aT m1.ram (aJ m1.ram.rf) m1.swp.tx[f] 1).tx.map rS) (es0:=m1.ram.tx.map rS) (ov0:=[]) rfl rfl (by simp[aT])).trans ((aa (sz:=1) (es:=(aT m1.ram (aJ m1.ram.rf) m1.swp.tx[f] 1).rf.map rI) (es0:=m1.ram.rf.map rI) (ov0:=[]) rfl rfl (by simp[aT])).trans rfl)) ?_;conv=>whnf
    refine aB (k:=f) rfl rfl (by show some _=some _;rw[e1]) hf12 ?_;conv=>whnf
    refine bf rfl rfl rfl (aS (row:=rI m1.swp.rf[f]) (by simp[hfr]) rfl rfl rfl) rfl ?_;conv=>whnf
    refine aB (k:=aJ m1.ram.rf) rfl rfl rfl hf ?_;conv=>whnf
    refine aN rfl rfl rfl (by simpa [aT,l1.rr]using hf) (by decide) ?_;conv=>whnf
    rw[take_set (by rw[l1.rr];exact hf)];have l3:Lw ⟨aT m1.ram (aJ m1.ram.rf) m1.swp.tx[f] m1.swp.rf[f],m1.swp,m1.sp,m1.hd⟩:=⟨by simp[aT,l1.rt],by simp[aT,l1.rr],l1.st,l1.sr,l1.sp⟩;have l4:Lw ⟨aT m1.ram (aJ m1.ram.rf) m1.swp.tx[f] m1.swp.rf[f],m1.swp,aZ 2 f (bS 1 (aJ m1.ram.rf)) m1.sp,m1.hd⟩:=⟨l3.rt,l3.rr,l3.st,l3.sr,by simp[aZ,l1.sp]⟩;simp only[e1];refine b8 [.pass,.pass,.pass,.pass,.pass] [0,1,2,3,4] rfl rfl rfl rfl (w5 ⟨aT m1.ram (aJ m1.ram.rf) m1.swp.tx[f] m1.swp.rf[f],m1.swp,m1.sp,m1.hd⟩ 2 f 1 (aJ m1.ram.rf) l3 w1.sl) rfl (uG l3 l4 rfl) ?_;conv=>whnf
    refine aB (k:=f) rfl rfl rfl hf12 ?_;conv=>whnf
    refine aN rfl rfl rfl (by simpa using hfr) (by decide) ?_;conv=>whnf
    refine aB (k:=f) rfl rfl rfl hf12 ?_;conv=>whnf
    refine aN rfl rfl rfl (by simpa using hft) (by decide) ?_;conv=>whnf
    rw[iW hfr,jD hft];obtain⟨S,hS⟩:∃S,aZ 2 f (bS 1 (aJ m1.ram.rf)) m1.sp=S:=⟨_,rfl⟩;have hi2:i<S.length:=by rw[←hS];simpa [aZ]using hi1
    have hj2:j<S[i].sl.length:=by simp only[←hS];simpa [aZ]using hj1
    have e2:S[i].sl[j]=bS 1 (aJ m1.ram.rf) (aI m i j):=by simp only[←hS,aZ,List.getElem_map,ex];rw[if_pos ⟨hk2,e1⟩]
    rw[hS]at hb ⊢;have hg2:=aj (f:=rP) (List.getElem?_eq_getElem hi2);refine aB (k:=i) rfl rfl rfl hi5 ?_;conv=>whnf
    refine bw (i:=i) (k:=2) (sz':=4) (es':=S[i].sl.map rL) S[i].sl.length rfl rfl rfl (aS hg2 rfl rfl rfl) rfl (by simp) ?_;conv=>whnf
    refine aB (k:=j) rfl rfl rfl hj2 ?_;conv=>whnf
    refine aN rfl rfl rfl (by simpa using hj2) (by decide) ?_;conv=>whnf
    refine aY (i:=i) (k:=2) (g':=7) (lo:=0) (len:=S[i].sl.length) (es2:=(aG S i j ⟨1,aJ m1.ram.rf,(aI m i j).ow,true⟩).map rP) (ov2:=[]) rfl (ag hg2 (by simp[rP]) (by simp only[af,if_true];rfl)) rfl rfl (by rw[r6 hi2 hj2,e2];rfl) (by simp only[ae,if_true];rfl) ?_;conv=>whnf
    rw[hb];exact⟨rfl,rfl⟩
 ·have c1:(aI m i j).kd=1:=by simpa using c1
  have hb:bJ m i j=some {m with sp:=aG m.sp i j {aI m i j with us:=true}}:=by rw[bJ,if_pos c1]
  refine aB (k:=i) rfl rfl rfl hi5 ?_;conv=>whnf
  refine bw (i:=i) (k:=2) (sz':=4) (es':=m.sp[i].sl.map rL) m.sp[i].sl.length rfl rfl rfl (aS hg rfl rfl rfl) rfl (by simp) ?_;conv=>whnf
  refine aB (k:=j) rfl rfl rfl hj ?_;conv=>whnf
  refine aN rfl rfl rfl (by simpa using hj) (by decide) ?_;conv=>whnf
  refine aY (i:=i) (k:=2) (g':=9) (lo:=0) (len:=m.sp[i].sl.length) (es2:=(aG m.sp i j {aI m i j with us:=true}).map rP) (ov2:=[]) rfl (ag hg (by simp[rP]) (by simp only[af,if_true];rfl)) rfl rfl (by rw[hx];exact r6 hi hj) (by simp only[ae,if_true];rfl) ?_;conv=>whnf
  rw[hb];exact⟨rfl,rfl⟩
end Go.Qm
namespace Go.Qm
open Go.Cq Go.Cq.D Go.RowKit Go.Proofs
set_option maxRecDepth 10000
theorem sx{P:Prg}{ts:DTs}{H:DH}{n:Nat}{K:DT→DTs→DH→Nat→List Nat→Prop}{x y:Opd}{s:Str}{k:Nat}(hx:evS ts x=some (.str s))(hy:di ts y=some (k:Int))(hk:k<s.length)(h:K (.v (.one (.sc (.int .u8 (s[k].toNat:Int))))) ts H n []):OpP P (.fl (.index x y)) ts H n K:=by refine fC ?_ h;simp only[dfl,hx,hy];rw[if_pos (by omega)];simp[hk]
theorem y7(a:Int):bC Try.prog 79 [.one (dI a)] (.v (.one (dB (inB a 0 63)))):=by
 refine aQ hmix Try.func79 ok79 ?_;conv=>whnf
 refine aC [.pass,.pass,.pass] rfl rfl rfl (hO _ _ _) rfl ?_;conv=>whnf
 exact⟨rfl,rfl⟩
def byteOf(t:Str)(k:Nat):Int:=((t[k]?.getD 0).toNat:Int)
def getM(m:Mem)(i:Nat)(a:Nat):Mem×Int×Int:=
 if az (gX m i) (a / 4:Nat)<0 then(m, -1,2)else match bJ m i (a / 4)with
  |none=>(m, -1,4)
  |some m'=>(m',byteOf (m'.ram.tx[(aI m' i (a / 4)).pl.toNat]?.getD []) (a % 4),0)
theorem xe{a:Nat}(h:a≤1000):IntKind.wrap .i64 ((a:Int).tdiv 4)=((a / 4:Nat):Int):=by rw[Int.tdiv_eq_ediv_of_nonneg (by omega),wrap64 (by omega) (by omega)];omega
theorem aCu{a:Nat}:(a:Int).tmod 4=((a % 4:Nat):Int):=by rw[Int.tmod_eq_emod_of_nonneg (by omega)];omega
theorem q9{b:UInt8}:IntKind.wrap .i64 (b.toNat:Int)=(b.toNat:Int):=by have:=b.toNat_lt;exact wrap64 (by omega) (by omega)
set_option maxHeartbeats 4000000 in
theorem mJ(m:Mem)(i a:Nat)(w:Wf m)(hi:i<m.sp.length)(har:∀x,x∈m.sp[i].ar→bI x=true)(hal:m.sp[i].ar.length≤1048576)(hsl:m.sp[i].sl.length=16)(ha:a≤63)(h:m.fits 1048576):
  bC Try.prog 80 [oM m,.one (dI i),.one (dI a)] (.tup [oM (getM m i a).1,.one (dI (getM m i a).2.1),.one (dI (getM m i a).2.2)]):=by
 refine aQ hmix Try.func80 ok80 ?_;have hae:gX m i=m.sp[i].ar:=by simp[gX,hi]
 have hj:a / 4<m.sp[i].sl.length:=by omega
 conv=>whnf
 refine fC rfl ?_;conv=>whnf
 simp only[xe (show a≤1000 by omega),List.drop_zero,List.take_length];have hg:=aj (f:=rP) (List.getElem?_eq_getElem hi);refine aB (k:=i) rfl rfl rfl (by simpa using hi) ?_;conv=>whnf
 refine bw (i:=i) (k:=1) (sz':=4) (es':=m.sp[i].ar.map rA) m.sp[i].ar.length rfl rfl rfl (aS hg rfl rfl rfl) rfl (by simp) ?_;conv=>whnf
 refine aC [.lend,.pass] rfl (by show some [DV.one (DC.ro true 4 (List.take _ (List.drop 0 _))),_]=_;rw[List.drop_zero,aU];rfl) rfl (oC true m.sp[i].ar ((a / 4:Nat):Int) (by omega) har) rfl ?_;conv=>whnf
 have hback:(m.sp.map rP).modify i (fun row=>row.set 1 (.sl 4 (m.sp[i].ar.map rA)))=m.sp.map rP:=by rw[ao hg];exact ig hg
 refine aY (i:=i) (k:=1) (g':=8) (lo:=0) (len:=m.sp[i].ar.length) (es2:=m.sp.map rP) (ov2:=[]) rfl (ag hg (by simp[rP]) (by simp only[af,if_true];rfl)) rfl rfl (by rw[List.drop_zero,aU];exact hback) (by simp only[ae,if_true];rfl) ?_;conv=>whnf
 simp only[List.drop_zero,List.take_length];refine CondP.mk (fun c1=>?_) (fun c1=>?_)<;>conv=>whnf
 ·have c1:az m.sp[i].ar ((a / 4:Nat):Int)<0:=by simpa using c1
  refine⟨?_,rfl⟩;rw[getM,hae,if_pos c1];simp[oM,dI]
 have c1:¬az m.sp[i].ar ((a / 4:Nat):Int)<0:=by simpa using c1
 simp only[List.drop_zero,List.take_length];refine aC (cas:=[aM true true true true true m]) [.lend] rfl (by show some [DV.agg [DC.ro true 1 (List.take _ (List.drop 0 _)),DC.ro true 1 (List.take _ (List.drop 0 _)),DC.ro true 1 (List.take _ (List.drop 0 _)),DC.ro true 1 (List.take _ (List.drop 0 _)),DC.ro true 3 (List.take _ (List.drop 0 _)),_]]=_;simp only[List.drop_zero,List.take_length];rfl) rfl (dz true true true true true m h) rfl ?_;conv=>whnf
 have l:=w.L;have hcall:=lF m i (a / 4) w hi hj;have hcas:some [DV.agg [DC.sl 0 0 (m.ram.tx.map rS).length,.sl 1 0 (m.ram.rf.map rI).length,.sl 2 0 (m.swp.tx.map rS).length,.sl 3 0 (m.swp.rf.map rI).length,.sl 4 0 (m.sp.map rP).length,dI m.hd],.one (dI i),.one (dI ((a / 4:Nat):Int))]=some [.agg (cW m.hd),.one (dI i),.one (dI ((a / 4:Nat):Int))]:=by simp only[List.length_map,l.rt,l.rr,l.st,l.sr,l.sp];rfl
 cases hb:bJ m i (a / 4)with
 |none=>
  have hget:getM m i a=(m, -1,4):=by rw[getM,hae,if_neg c1,hb]
  rw[hb]at hcall;refine b8 (r:=.tup [.agg (cW m.hd),.one (dB false)]) (Hr:=hM m) [.pass,.pass,.pass] [12,13,14,15,16] rfl hcas rfl rfl hcall rfl (th l l rfl rfl rfl rfl rfl rfl) ?_
  (conv=>whnf)<;>repeat' first|(refine aE ?_;conv=>whnf)|(refine aD ?_;conv=>whnf)
  rw[hget];refine⟨?_,rfl⟩;simp[oM,dI]
 |some m'=>
  have w':=w.ic hi hj hb;have l':=w'.L;obtain⟨hi',hj',hk1⟩:=gb w hi hj hb;obtain⟨k,e1,hk12, -,e4⟩:=w'.at1 _ (List.getElem_mem hi') _ (List.getElem_mem hj') hk1;have hkt:k<m'.ram.tx.length:=by rw[l'.rt];exact hk12
  have e4:m'.ram.tx[k].length=4:=by simpa [hkt]using e4
  have hb4:a % 4<m'.ram.tx[k].length:=by omega
  have hget:getM m i a=(m',(m'.ram.tx[k][a % 4].toNat:Int),0):=by rw[getM,hae,if_neg c1,hb];simp only[bU hi' hj',e1,Int.toNat_natCast,byteOf];simp[hkt,hb4]
  rw[hb]at hcall;refine b8 (r:=.tup [.agg (cW m'.hd),.one (dB true)]) (Hr:=hM m') [.pass,.pass,.pass] [12,13,14,15,16] rfl hcas rfl rfl hcall rfl (th l l' rfl rfl rfl rfl rfl rfl) ?_
  (conv=>whnf)<;>repeat' first|(refine aE ?_;conv=>whnf)|(refine aD ?_;conv=>whnf)
  have t0:(m'.ram.tx.map rS).take 12=m'.ram.tx.map rS:=List.take_of_length_le (by simp[l'.rt]);have t1:(m'.ram.rf.map rI).take 12=m'.ram.rf.map rI:=List.take_of_length_le (by simp[l'.rr]);have t2:(m'.swp.tx.map rS).take 12=m'.swp.tx.map rS:=List.take_of_length_le (by simp[l'.st]);have t3:(m'.swp.rf.map rI).take 12=m'.swp.rf.map rI:=List.take_of_length_le (by simp[l'.sr]);have t4:(m'.sp.map rP).take 5=m'.sp.map rP:=List.take_of_length_le (by simp[l'.sp]);have hg':=aj (f:=rP) (List.getElem?_eq_getElem hi');simp only[List.drop_zero,t0,t1,t2,t3,t4];refine aB (k:=i) rfl rfl rfl (by simpa using hi') ?_;conv=>whnf
  refine bw (i:=i) (k:=2) (sz':=4) (es':=m'.sp[i].sl.map rL) m'.sp[i].sl.length rfl rfl rfl (aS hg' rfl rfl rfl) rfl (by simp) ?_;conv=>whnf
  refine aB (k:=a / 4) rfl rfl rfl hj' ?_;conv=>whnf
  refine bf rfl rfl rfl (aS (row:=rL m'.sp[i].sl[a / 4]) (by simp[hj']) rfl rfl rfl) rfl ?_;conv=>whnf
  refine aB (k:=k) rfl rfl (by show some _=some _;rw[e1]) (by simpa using hkt) ?_;conv=>whnf
  refine bf rfl rfl rfl (aS (row:=rS m'.ram.tx[k]) (by simp[hkt]) rfl rfl rfl) rfl ?_;conv=>whnf
  refine fC rfl ?_;conv=>whnf
  refine sx rfl (by show some ((a:Int).tmod 4)=_;rw[aCu]) hb4 ?_;conv=>whnf
  refine aY (i:=i) (k:=2) (g':=23) (lo:=0) (len:=m'.sp[i].sl.length) (es2:=m'.sp.map rP) (ov2:=[]) rfl (ag hg' (by simp[rP]) (by simp only[af,if_true];rfl)) rfl rfl (by rw[List.drop_zero,aU];exact c9 hi') (by simp only[ae,if_true];rfl) ?_;conv=>whnf
  rw[hget,q9];refine⟨?_,rfl⟩;simp[oM,dI]
end Go.Qm
namespace Go.Qm
open Go.Cq Go.Cq.D Go.RowKit Go.Proofs
set_option maxRecDepth 10000
theorem gW{α β:Type}{f:α→β}{l:List α}{n:Nat}(h:l.length=n):(l.map f).take n=l.map f:=List.take_of_length_le (by simp[h])
theorem lq{sp:List Space}{i:Nat}(hi:i<sp.length):(sp.map rP).modify i (fun row=>row.set 1 (.sl 4 (sp[i].ar.map rA)))=sp.map rP:=by have hg:=aj (f:=rP) (List.getElem?_eq_getElem hi);rw[ao hg];exact ig hg
theorem uN{sp:List Space}{i j:Nat}{x:Slot}:(aG sp i j x).length=sp.length:=by simp[aG]
theorem qO{P:Prg}{ts:DTs}{H:DH}{n:Nat}{K:DT→DTs→DH→Nat→List Nat→Prop}{zs:List CV}{bytes:Nat}{x y:Opd}{g lo len g2 mj sz:Nat}{es0 es2:List (List PV)}(hx:cD ts x=some (.sl g lo len))(hy:cD ts y=some (.sl g2 0 mj))(hsz:Nat.beq zs.length sz=true)(h0:Nat.blt 0 sz=true)(hg:aF H g=some (.arr sz es0 []))(hg2:aF H g2=some (.arr sz es2 []))(hl:es2.length=mj)(hs:∀row,row∈es2→gd row)(h1:(len+mj)*bytes≤140737488355328)(h2:len+mj≤140737488355328)(h:K (.v (.one (.sl n 0 (len+mj)))) ts ((n,.arr sz ((es0.drop lo).take len++es2) [])::eD g H) (n+1) [g]):OpP P (.app zs bytes x y) ts H n K:=by
 have e:=Nat.eq_of_beq_eq_true hsz;have e0:0<sz:=by simpa using h0
 subst hl;have ee:(es2.drop 0).take es2.length=es2:=by rw[List.drop_zero,List.take_length]
 refine⟨kf ⟨.sl g lo len,.sl g2 0 es2.length,(es2.drop 0).take es2.length,none,hx,hy,?_,by omega,?_⟩⟩
 ·rw[e];exact .copy hg2 (by rw[ee];exact hs)
 ·rw[e,ee];exact⟨es0,hg,by simp,h1,h2,h⟩
theorem aAX{sp:List Space}{Z:Nat}{A L:List (List PV)}(h:Z<sp.length):(((sp.map rP).modify Z (fun row=>row.set 0 (.sc (.bool true)))).modify Z (fun row=>row.set 2 (.sl 4 L))).modify Z (fun row=>row.set 1 (.sl 4 A))=(sp.map rP).set Z [eB true,.sl 4 A,.sl 4 L]:=by
 have hg:=aj (f:=rP) (List.getElem?_eq_getElem h);have hl:Z< (sp.map rP).length:=by simpa using h
 rw[ao hg,ao (List.getElem?_set_self hl),List.set_set,ao (List.getElem?_set_self hl),List.set_set];rfl
theorem aCW{i a la b lb:Nat}{v:CV}{es:List (List PV)}{ov:List (Nat×Nat×DC)}(h:i<es.length)(h0:ov.all (fun p=>!Nat.beq p.2.1 0)=true):wrN i 0 [.sc v,.sl a 0 la,.sl b 0 lb] (.arr 3 es ov)=some (.arr 3 (es.modify i (·.set 0 (.sc v))) ((i,2,.sl b 0 lb)::(i,1,.sl a 0 la)::ov)):=by simp only[wrN,wr1,h,h0,true_and,List.length_modify,show(0:Nat)<3 by decide,show 0+1<3 by decide,show 0+1+1<3 by decide,if_true,ite_self]
theorem aAg{P:Prg}{ts:DTs}{H:DH}{n:Nat}{KL:DTs→DH→DT→DTs→DH→Nat→List Nat→Prop}{x:Opd}{g i sz s1 s2:Nat}{v:CV}{a b es:List (List PV)}(la lb:Nat)(hx:cD ts x=some (.ptr g i 0))(hr:jV ts H (cL ts (COp.fl (.load (some 3) x)).reads)=true)(hg:aF H g=some (.arr sz es []))(he:es[i]?=some [.sc v,.sl s1 a,.sl s2 b])(h1:Nat.beq n g=false)(h2:Nat.beq (n+1) g=false)(ha:a.length=la)(hb:b.length=lb)(h:KL ts (cY g (.arr sz es [(i,2,.sl (n+1) 0 lb),(i,1,.sl n 0 la)]) ((n+1,.arr s2 b [])::cY g (.arr sz es [(i,1,.sl n 0 la)]) ((n,.arr s1 a [])::H))) (.v (.agg [.sc v,.sl n 0 la,.sl (n+1) 0 lb])) ts (cY g (.arr sz es [(i,2,.sl (n+1) 0 lb),(i,1,.sl n 0 la)]) ((n+1,.arr s2 b [])::cY g (.arr sz es [(i,1,.sl n 0 la)]) ((n,.arr s1 a [])::H))) (n+2) []):LdP P (.fl (.load (some 3) x)) ts H n KL:=by
 subst ha hb;have n1:¬g=n:=fun e=>Nat.ne_of_beq_eq_false h1 e.symm
 have n2:¬g=n+1:=fun e=>Nat.ne_of_beq_eq_false h2 e.symm
 have e0:∀{H:DH}{ov:List (Nat×Nat×DC)}{k:Nat}{c:DC},aF H g=some (.arr sz es ov)→(DB.arr sz es ov).cell i k=some c→∀ts,ab ts H (.h g i k)=some c:=fun h hc ts=>by simp only[ab,h,Option.bind_some,hc]
 have g1:aF (cY g (.arr sz es [(i,1,.sl n 0 a.length)]) ((n,.arr s1 a [])::H)) g=some (.arr sz es [(i,1,.sl n 0 a.length)]):=by rw[ax,if_pos rfl]
 have g2:aF (cY g (.arr sz es [(i,2,.sl (n+1) 0 b.length),(i,1,.sl n 0 a.length)]) ((n+1,.arr s2 b [])::cY g (.arr sz es [(i,1,.sl n 0 a.length)]) ((n,.arr s1 a [])::H))) g=some (.arr sz es [(i,2,.sl (n+1) 0 b.length),(i,1,.sl n 0 a.length)]):=by rw[ax,if_pos rfl]
 have c0:∀{ov:List (Nat×Nat×DC)},af ov i 0=none→(DB.arr sz es ov).cell i 0=some (.sc v):=fun ho=>aS (p:=.sc v) he rfl rfl ho
 have c1:(DB.arr sz es []).cell i 1=some (.own s1 a):=aS (p:=.sl s1 a) he rfl rfl rfl;have c2:(DB.arr sz es [(i,1,.sl n 0 a.length)]).cell i 2=some (.own s2 b):=aS (p:=.sl s2 b) he rfl rfl rfl;have d1:(DB.arr sz es [(i,2,.sl (n+1) 0 b.length),(i,1,.sl n 0 a.length)]).cell i 1=some (.sl n 0 a.length):=ag he (by simp) (if_pos rfl);have d2:(DB.arr sz es [(i,2,.sl (n+1) 0 b.length),(i,1,.sl n 0 a.length)]).cell i 2=some (.sl (n+1) 0 b.length):=ag he (by simp) (if_pos rfl);refine sX hx hr (ts1:=ts) (n1:=n+2) ?_ (x7 (r:=.agg [.sc v,.sl n 0 a.length,.sl (n+1) 0 b.length]) ?_ h)
 ·simp only[Option.getD_some,show List.range 3=[0,1,2]from rfl,List.map_cons,List.map_nil,Nat.zero_add,dQ,exp,e0 hg (c0 rfl),e0 hg c1];simp only[f7,aV,if_neg n1,hg,DB.fR];simp only[e0 g1 c2,g1,aV,if_neg n2]
 ·simp only[dfl,hx,fe,Nat.zero_add,e0 g2 (c0 rfl),e0 g2 d1,e0 g2 d2];rfl
set_option maxHeartbeats 4000000 in
theorem xw(m:Mem)(i:Nat)(w:Wf m)(hi:i<m.sp.length)(har:∀x,x∈m.sp[i].ar→bI x=true)(hal:m.sp[i].ar.length≤1048576)(hsl:m.sp[i].sl.length=16)(hlv:m.sp[i].lv=true):
  bC Try.prog 103 [oM m,.one (dI i)] (.tup [oM (kv m i).1,.one (dI (kv m i).2)]):=by
 refine aQ hmix Try.func103 ok103 ?_;conv=>whnf
 simp only[List.drop_zero,List.take_length];refine aC (cas:=[aM true true true true true m]) [.lend] rfl (by show some [DV.agg [DC.ro true 1 (List.take _ (List.drop 0 _)),DC.ro true 1 (List.take _ (List.drop 0 _)),DC.ro true 1 (List.take _ (List.drop 0 _)),DC.ro true 1 (List.take _ (List.drop 0 _)),DC.ro true 3 (List.take _ (List.drop 0 _)),_]]=_;simp only[List.drop_zero,List.take_length];rfl) rfl (nG true true true true true m (by rw[w.sp];omega)) rfl ?_;conv=>whnf
 refine CondP.mk (fun c1=>?_) (fun c1=>?_)<;>conv=>whnf
 ·have c1:¬bp m.sp<m.sp.length:=fun c=>by rw[gq,if_pos c]at c1;simp at c1;omega
  refine⟨?_,rfl⟩;rw[kv,if_neg c1];simp[oM,dI]
 have c1:bp m.sp<m.sp.length:=by
  rcases Nat.lt_or_ge (bp m.sp) m.sp.length with c|c
  ·exact c
  ·rw[gq,if_neg (by omega)]at c1;simp at c1
 rw[gq,if_pos c1];have hfm:kv m i=if(cF m i 16).2 then(iF (j8 (cF m i 16).1 i 16) i (bp m.sp),((bp m.sp:Nat):Int))else((cF m i 16).1, -1):=by rw[kv,if_pos c1]
 have hZi:¬i=bp m.sp:=fun e=>by have:=ka c1;simp only[←e,hlv]at this;exact absurd this (by decide)
 obtain⟨Z,hZ⟩:∃Z,bp m.sp=Z:=⟨_,rfl⟩;rw[hZ]at c1 hfm hZi ⊢;simp only[List.drop_zero,List.take_length];refine ai (fun j:Nat=>[(1,.v (.one (dI i))),(2,.v (.one (.ptr 5 0 0))),(4,.v (.one (.ptr 6 0 0))),(6,.v (.one (dI Z))),(7,.v (.one (dI j)))]) (fun j=>[(6,bO gH),(5,bO (cF m i j).1)]) (fun _=>7)
  (fun j=>j≤16∧(cF m i j).2=true) (fun j=>16-j) 0 ⟨by omega,rfl⟩ rfl rfl rfl fun j hj=>?_
 obtain⟨hj16,hok⟩:=hj;obtain⟨w1,s1⟩:=aAV w hi (j:=j) (by omega);have hstep:cF m i (j+1)=if(cF m i j).2&&(shP (cF m i j).1 i j&&decide ((aI (cF m i j).1 i j).kd=0))then(match bJ (cF m i j).1 i j with
  |some m2=>(m2,true)
  |none=>((cF m i j).1,false))else cF m i j:=rfl
 rw[hok,Bool.true_and,shP,zt s1 hi]at hstep;obtain⟨m1,hm1⟩:∃m1,(cF m i j).1=m1:=⟨_,rfl⟩;rw[hm1]at hstep w1 s1;simp only[hm1];have l1:=w1.L;have hi1:i<m1.sp.length:=by rw[s1.1];exact hi
 have hi5:i<5:=by rw[←l1.sp];exact hi1
 obtain⟨-,ear,esl⟩:=s1.2 i hi hi1;rw[←ear]at hstep hal har;have hg:=aj (f:=rP) (List.getElem?_eq_getElem hi1);conv=>whnf
 refine CondP.mk (fun c2=>?_) (fun c2=>?_)<;>conv=>whnf
 ·have hj15:j<16:=by
               have:(j:Int)<16:=by simpa using c2
               omega
  have hj1:j<m1.sp[i].sl.length:=by omega
  refine aB (k:=i) rfl rfl rfl (by simpa using hi1) ?_;conv=>whnf
  refine aAg (v:=.bool m1.sp[i].lv) (a:=m1.sp[i].ar.map rA) (b:=m1.sp[i].sl.map rL) m1.sp[i].ar.length m1.sp[i].sl.length rfl rfl rfl hg rfl rfl (by simp) (by simp) ?_;conv=>whnf
  have hro:some [DV.agg [dB m1.sp[i].lv,.ro true 4 (((m1.sp[i].ar.map rA).drop 0).take m1.sp[i].ar.length),.ro true 4 (((m1.sp[i].sl.map rL).drop 0).take m1.sp[i].sl.length)],.one (dI j)]=some [.agg [dB m1.sp[i].lv,.ro true 4 (m1.sp[i].ar.map rA),.ro true 4 (m1.sp[i].sl.map rL)],.one (dI j)]:=by simp only[List.drop_zero,aU]
  refine aC [.lend,.pass] rfl hro rfl (kz true true m1.sp[i] j (by omega) har) rfl ?_;cases hsh:jB m1.sp[i].ar (az m1.sp[i].ar j)with
  |false=>
   rw[hsh,Bool.false_and]at hstep
   (conv=>whnf)<;>repeat' first|(refine aE ?_;conv=>whnf)|(refine aD ?_;conv=>whnf)
   refine aY (i:=i) (k:=2) (g':=9) (lo:=0) (len:=m1.sp[i].sl.length) (es2:=m1.sp.map rP) (ov2:=[(i,1,.sl 8 0 m1.sp[i].ar.length)]) rfl (ag hg (by simp[rP]) (by simp only[af,if_true];rfl)) rfl rfl (by rw[List.drop_zero,aU];exact c9 hi1) (by simp only[ae,if_true];rfl) ?_;conv=>whnf
   refine aY (i:=i) (k:=1) (g':=8) (lo:=0) (len:=m1.sp[i].ar.length) (es2:=m1.sp.map rP) (ov2:=[]) rfl (ag hg (by simp[rP]) (by simp only[af,if_true];rfl)) rfl rfl (by rw[List.drop_zero,aU];exact lq hi1) (by simp only[ae,if_true];rfl) ?_
   (conv=>whnf)<;>repeat' first|(refine aE ?_;conv=>whnf)|(refine aD ?_;conv=>whnf)
   refine⟨j+1,by omega,⟨by omega,by rw[hstep];exact hok⟩,?_,?_,rfl⟩
   ·rw[wrap64 (by omega) (by omega)];rfl
   ·rw[hstep];simp only[Bool.false_eq_true,if_false,hm1,List.drop_zero,List.take_length];rfl
  |true=>
   rw[hsh,Bool.true_and]at hstep
   (conv=>whnf)<;>repeat' first|(refine aE ?_;conv=>whnf)|(refine aD ?_;conv=>whnf)
   refine aB (k:=i) rfl rfl rfl (by simpa using hi1) ?_
   (conv=>whnf)<;>repeat' first|(refine aE ?_;conv=>whnf)|(refine aD ?_;conv=>whnf)
   refine bf rfl rfl rfl (ag hg (by simp[rP]) (if_pos rfl)) rfl ?_
   (conv=>whnf)<;>repeat' first|(refine aE ?_;conv=>whnf)|(refine aD ?_;conv=>whnf)
   refine aB (k:=j) rfl rfl rfl hj1 ?_
   (conv=>whnf)<;>repeat' first|(refine aE ?_;conv=>whnf)|(refine aD ?_;conv=>whnf)
   refine bf rfl rfl rfl (aS (row:=rL m1.sp[i].sl[j]) (by simp[hj1]) rfl rfl rfl) rfl ?_
   (conv=>whnf)<;>repeat' first|(refine aE ?_;conv=>whnf)|(refine aD ?_;conv=>whnf)
   refine aY (i:=i) (k:=2) (g':=9) (lo:=0) (len:=m1.sp[i].sl.length) (es2:=m1.sp.map rP) (ov2:=[(i,1,.sl 8 0 m1.sp[i].ar.length)]) rfl (ag hg (by simp[rP]) (by simp only[af,if_true];rfl)) rfl rfl (by rw[List.drop_zero,aU];exact c9 hi1) (by simp only[ae,if_true];rfl) ?_;conv=>whnf
   refine aY (i:=i) (k:=1) (g':=8) (lo:=0) (len:=m1.sp[i].ar.length) (es2:=m1.sp.map rP) (ov2:=[]) rfl (ag hg (by simp[rP]) (by simp only[af,if_true];rfl)) rfl rfl (by rw[List.drop_zero,aU];exact lq hi1) (by simp only[ae,if_true];rfl) ?_;conv=>whnf
   have hx:=bU hi1 hj1;refine CondP.mk (fun c3=>?_) (fun c3=>?_)<;>conv=>whnf
   ·have c3:(aI m1 i j).kd=0:=by rw[hx];simpa using c3
    rw[decide_eq_true c3]at hstep;have hcall:=lF m1 i j w1 hi1 hj1;simp only[List.drop_zero,List.take_length];simp only[List.length_map,l1.rt,l1.rr,l1.st,l1.sr,l1.sp];cases hb:bJ m1 i j with
    |none=>
     rw[hb]at hcall hstep;refine b8 (r:=.tup [.agg (cW m1.hd),.one (dB false)]) (Hr:=hM m1) [.pass,.pass,.pass] [7,8,9,10,11] rfl rfl rfl rfl hcall rfl (th l1 l1 rfl rfl rfl rfl rfl rfl) ?_
     (conv=>whnf)<;>repeat' first|(refine aE ?_;conv=>whnf)|(refine aD ?_;conv=>whnf)
     have hst:cF m i 16=(m1,false):=by have:=vb (m:=m) (i:=i) (j:=j+1) (by rw[hstep];rfl) (15-j);rw[show j+1+(15-j)=16 by omega,hstep]at this;exact this
     rw[hfm,hst];refine⟨?_,rfl⟩;simp[oM,dI,gW l1.rt,gW l1.rr,gW l1.st,gW l1.sr,gW l1.sp]
    |some m2=>
     have w2:=w1.ic hi1 hj1 hb;have l2:=w2.L;rw[hb]at hcall hstep;refine b8 (r:=.tup [.agg (cW m2.hd),.one (dB true)]) (Hr:=hM m2) [.pass,.pass,.pass] [7,8,9,10,11] rfl rfl rfl rfl hcall rfl (th l1 l2 rfl rfl rfl rfl rfl rfl) ?_
     (conv=>whnf)<;>repeat' first|(refine aE ?_;conv=>whnf)|(refine aD ?_;conv=>whnf)
     have hst:cF m i (j+1)=(m2,true):=hstep;refine⟨j+1,by omega,⟨by omega,by rw[hst]⟩,?_,?_,rfl⟩
     ·rw[wrap64 (by omega) (by omega)];rfl
     ·rw[hst];simp only[List.drop_zero,gW l2.rt,gW l2.rr,gW l2.st,gW l2.sr,gW l2.sp];rfl
   ·have c3:¬(aI m1 i j).kd=0:=by rw[hx];simpa using c3
    rw[decide_eq_false c3]at hstep;refine⟨j+1,by omega,⟨by omega,by rw[hstep];exact hok⟩,?_,?_,rfl⟩
    ·rw[wrap64 (by omega) (by omega)];rfl
    ·rw[hstep];simp only[Bool.false_eq_true,if_false,hm1,List.drop_zero,List.take_length];rfl
 have hje:j=16:=by
             have:¬(j:Int)<16:=by simpa using c2
             omega
 subst hje;rw[hok,hm1]at hfm;clear hstep c2 hok hj16;refine ai (fun j:Nat=>[(1,.v (.one (dI i))),(2,.v (.one (.ptr 5 0 0))),(4,.v (.one (.ptr 6 0 0))),(6,.v (.one (dI Z))),(10,.v (.one (dI j)))]) (fun j=>[(6,bO gH),(5,bO (j8 m1 i j))]) (fun _=>7)
  (fun j=>j≤16) (fun j=>16-j) 0 (by omega) rfl rfl rfl fun j hj16=>?_
 have fk:=yt w1.ram w1.swp (i:=i) (j:=j);obtain⟨m3,hm3⟩:∃m3,j8 m1 i j=m3:=⟨_,rfl⟩;have hstep:j8 m1 i (j+1)=p5 m3 i j:=by rw[←hm3];rfl
 rw[hm3]at fk;simp only[hm3];have hi3:i<m3.sp.length:=by rw[fk.sm.1];exact hi1
 obtain⟨-,ear3,esl3⟩:=fk.sm.2 i hi1 hi3;rw[←ear3]at hal har;have hg3:=aj (f:=rP) (List.getElem?_eq_getElem hi3);conv=>whnf
 refine CondP.mk (fun c2=>?_) (fun c2=>?_)<;>conv=>whnf
 ·have hj15:j<16:=by
               have:(j:Int)<16:=by simpa using c2
               omega
  have hj3:j<m3.sp[i].sl.length:=by omega
  refine aB (k:=i) rfl rfl rfl (by simpa using hi3) ?_;conv=>whnf
  refine bw (i:=i) (k:=2) (sz':=4) (es':=m3.sp[i].sl.map rL) m3.sp[i].sl.length rfl rfl rfl (aS hg3 rfl rfl rfl) rfl (by simp) ?_;conv=>whnf
  refine aB (k:=j) rfl rfl rfl hj3 ?_;conv=>whnf
  refine nF (row:=rL (aI m3 i j)) rfl rfl rfl (by rw[bU hi3 hj3];simp[hj3]) (ck _) rfl rfl ?_;conv=>whnf
  refine aY (i:=i) (k:=2) (g':=8) (lo:=0) (len:=m3.sp[i].sl.length) (es2:=m3.sp.map rP) (ov2:=[]) rfl (ag hg3 (by simp[rP]) (by simp only[af,if_true];rfl)) rfl rfl (by rw[List.drop_zero,aU];exact c9 hi3) (by simp only[ae,if_true];rfl) ?_;conv=>whnf
  obtain⟨x,hx⟩:∃x,aI m3 i j=x:=⟨_,rfl⟩;obtain⟨sh,hsh⟩:∃sh,jB m3.sp[i].ar (az m3.sp[i].ar j)=sh:=⟨_,rfl⟩;have hS:p5 m3 i j=⟨fy (x.kd=1) m3.ram x.pl.toNat,fy (x.kd=2) m3.swp x.pl.toNat,aG m3.sp i j ⟨x.kd,x.pl,sh&&x.ow,x.us⟩,m3.hd⟩:=by rw[p5,shP,show arF m3 i=m3.sp[i].ar by simp[arF,hi3],hsh,hx];cases sh<;>rfl
  have htl:(x.kd=1→∃f:Nat,x.pl=f∧f<12)∧(x.kd=2→∃f:Nat,x.pl=f∧f<12):=by have e:=fk.at_ j (Nat.le_refl j);obtain⟨t1,t2⟩:=w1.slot (i:=i) (j:=j) hi1 (by omega);rw[←e,hx]at t1 t2;exact⟨fun c=>let⟨f,a,b,_⟩:=t1 c;⟨f,a,b⟩,fun c=>let⟨f,a,b,_⟩:=t2 c;⟨f,a,b⟩⟩
  simp only[hx,List.drop_zero,List.take_length];refine aB (k:=i) rfl rfl rfl (by simpa using hi3) ?_;conv=>whnf
  refine aAg (v:=.bool m3.sp[i].lv) (a:=m3.sp[i].ar.map rA) (b:=m3.sp[i].sl.map rL) m3.sp[i].ar.length m3.sp[i].sl.length rfl rfl rfl hg3 rfl rfl (by simp) (by simp) ?_;conv=>whnf
  have hro:some [DV.agg [dB m3.sp[i].lv,.ro true 4 (((m3.sp[i].ar.map rA).drop 0).take m3.sp[i].ar.length),.ro true 4 (((m3.sp[i].sl.map rL).drop 0).take m3.sp[i].sl.length)],.one (dI j)]=some [.agg [dB m3.sp[i].lv,.ro true 4 (m3.sp[i].ar.map rA),.ro true 4 (m3.sp[i].sl.map rL)],.one (dI j)]:=by simp only[List.drop_zero,aU]
  refine aC [.lend,.pass] rfl hro rfl (kz true true m3.sp[i] j (by omega) har) rfl ?_;rw[hsh];cases sh
  all_goals
   (conv=>whnf)<;>repeat' first|(refine aE ?_;conv=>whnf)|(refine aD ?_;conv=>whnf)
   refine aY (i:=i) (k:=2) (g':=12) (lo:=0) (len:=m3.sp[i].sl.length) (es2:=m3.sp.map rP) (ov2:=[(i,1,.sl 11 0 m3.sp[i].ar.length)]) rfl (ag hg3 (by simp[rP]) (by simp only[af,if_true];rfl)) rfl rfl (by rw[List.drop_zero,aU];exact c9 hi3) (by simp only[ae,if_true];rfl) ?_;conv=>whnf
   refine aY (i:=i) (k:=1) (g':=11) (lo:=0) (len:=m3.sp[i].ar.length) (es2:=m3.sp.map rP) (ov2:=[]) rfl (ag hg3 (by simp[rP]) (by simp only[af,if_true];rfl)) rfl rfl (by rw[List.drop_zero,aU];exact lq hi3) (by simp only[ae,if_true];rfl) ?_
   (conv=>whnf)<;>repeat' first|(refine aE ?_;conv=>whnf)|(refine aD ?_;conv=>whnf)
   simp only[List.drop_zero,List.take_length];refine aB (k:=i) rfl rfl rfl (by simpa using hi3) ?_;conv=>whnf
   refine bw (i:=i) (k:=2) (sz':=4) (es':=m3.sp[i].sl.map rL) m3.sp[i].sl.length rfl rfl rfl (aS hg3 rfl rfl rfl) rfl (by simp) ?_;conv=>whnf
   refine aB (k:=j) rfl rfl rfl hj3 ?_;conv=>whnf
   first
    |refine cC (row':=rL ⟨x.kd,x.pl,false,x.us⟩) rfl rfl rfl (by simpa using hj3) (dt (fun _=>rfl)) (ck _) rfl rfl rfl ?_
    |refine cC (row':=rL x) rfl rfl rfl (by simpa using hj3) (dt (fun _=>rfl)) (ck _) rfl rfl rfl ?_
   conv=>whnf
   refine aY (i:=i) (k:=2) (g':=11) (lo:=0) (len:=m3.sp[i].sl.length) (ov2:=[]) rfl (ag hg3 (by simp[rP]) (by simp only[af,if_true];rfl)) rfl rfl (by rw[List.drop_zero,List.take_of_length_le (by simp),bz hi3]) (by simp only[ae,if_true];rfl) ?_;conv=>whnf
   simp only[List.drop_zero,List.take_of_length_le,List.length_map,uN,Nat.le_refl];refine CondP.mk (fun c3=>?_) (fun c3=>?_)<;>conv=>whnf
   ·have c3:x.kd=1:=by simpa using c3
    obtain⟨f,e1,e2⟩:=htl.1 c3;have e3:f<m3.ram.rf.length:=by rw[fk.rl,l1.rr];exact e2
    refine aB (k:=f) rfl rfl (by show some _=some _;rw[e1]) (by simpa using e3) ?_;conv=>whnf
    refine bf rfl rfl rfl (aS (row:=rI m3.ram.rf[f]) (by simp[e3]) rfl rfl rfl) rfl ?_;conv=>whnf
    refine aB (k:=f) rfl rfl (by show some _=some _;rw[e1]) (by simpa using e3) ?_;conv=>whnf
    refine aN rfl rfl rfl (by simpa using e3) (by decide) ?_;conv=>whnf
    have hb:=fk.rb _ (List.getElem_mem e3);rw[qU c3 e1 e3,ib (show¬x.kd=2 by omega)]at hS;refine⟨j+1,by omega,by omega,?_,?_,rfl⟩
    ·rw[wrap64 (by omega) (by omega)];rfl
    ·rw[hstep,hS,iW e3,wrap64 (by omega) (by omega),List.drop_zero,List.take_of_length_le (by simp)];rfl
   ·have c3:¬x.kd=1:=by simpa using c3
    refine CondP.mk (fun c4=>?_) (fun c4=>?_)<;>conv=>whnf
    ·have c4:x.kd=2:=by simpa using c4
     obtain⟨f,e1,e2⟩:=htl.2 c4;have e3:f<m3.swp.rf.length:=by rw[fk.sl,l1.sr];exact e2
     refine aB (k:=f) rfl rfl (by show some _=some _;rw[e1]) (by simpa using e3) ?_;conv=>whnf
     refine bf rfl rfl rfl (aS (row:=rI m3.swp.rf[f]) (by simp[e3]) rfl rfl rfl) rfl ?_;conv=>whnf
     refine aB (k:=f) rfl rfl (by show some _=some _;rw[e1]) (by simpa using e3) ?_;conv=>whnf
     refine aN rfl rfl rfl (by simpa using e3) (by decide) ?_;conv=>whnf
     have hb:=fk.sb _ (List.getElem_mem e3);rw[ib c3,qU c4 e1 e3]at hS;refine⟨j+1,by omega,by omega,?_,?_,rfl⟩
     ·rw[wrap64 (by omega) (by omega)];rfl
     ·rw[hstep,hS,iW e3,wrap64 (by omega) (by omega),List.drop_zero,List.take_of_length_le (by simp)];rfl
    ·have c4:¬x.kd=2:=by simpa using c4
     rw[ib c3,ib c4]at hS;refine⟨j+1,by omega,by omega,?_,?_,rfl⟩
     ·rw[wrap64 (by omega) (by omega)];rfl
     ·rw[hstep,hS];rfl
 have hje:j=16:=by
             have:¬(j:Int)<16:=by simpa using c2
             omega
 subst hje;rw[hm3]at hfm;refine aB (k:=i) rfl rfl rfl (by simpa using hi3) ?_;conv=>whnf
 refine aAg (v:=.bool m3.sp[i].lv) (a:=m3.sp[i].ar.map rA) (b:=m3.sp[i].sl.map rL) m3.sp[i].ar.length m3.sp[i].sl.length rfl rfl rfl hg3 rfl rfl (by simp) (by simp) ?_;conv=>whnf
 have hZ3:Z<m3.sp.length:=by rw[fk.sm.1,s1.1];exact c1
 refine bV rfl rfl rfl ?_;conv=>whnf
 refine qO rfl rfl rfl rfl rfl rfl (by simp) (iS sL _) (by omega) (by omega) ?_;conv=>whnf
 refine bV rfl rfl rfl ?_;conv=>whnf
 refine qO rfl rfl rfl rfl rfl rfl (by simp) (iS ck _) (by omega) (by omega) ?_;conv=>whnf
 refine aB (k:=Z) rfl rfl rfl (by simpa using hZ3) ?_;conv=>whnf
 refine eY rfl rfl rfl rfl rfl (aCW (by simpa using hZ3) rfl) ?_;conv=>whnf
 have hgZ:=aj (f:=rP) (List.getElem?_eq_getElem hZ3);have hiZ:¬Z=i:=fun e=>hZi e.symm
 have hm4:(iF m3 i Z).sp=m3.sp.set Z ⟨true,m3.sp[i].ar,m3.sp[i].sl⟩:=by simp[iF,arF,iD,hi3]
 have hi4:i< (iF m3 i Z).sp.length:=by rw[hm4,List.length_set];exact hi3
 have hx4:(iF m3 i Z).sp[i]=m3.sp[i]:=by simp only[hm4];exact List.getElem_set_ne hiZ _
 have hg4:=aj (f:=rP) (List.getElem?_eq_getElem hi4);refine aY (i:=Z) (k:=2) (g':=14) (lo:=0) (len:=0+m3.sp[i].sl.length) (ov2:=[(Z,1,.sl 12 0 (0+m3.sp[i].ar.length)),(i,2,.sl 9 0 m3.sp[i].sl.length),(i,1,.sl 8 0 m3.sp[i].ar.length)]) rfl (ag (gS hgZ) (by simp[rP]) (by simp only[af,if_true];rfl)) rfl rfl rfl (by simp only[ae,if_true,if_neg hZi];rfl) ?_;conv=>whnf
 refine aY (i:=Z) (k:=1) (g':=12) (lo:=0) (len:=0+m3.sp[i].ar.length) (es2:=(iF m3 i Z).sp.map rP) (ov2:=[(i,2,.sl 9 0 m3.sp[i].sl.length),(i,1,.sl 8 0 m3.sp[i].ar.length)]) rfl (ag (gS (gS hgZ)) (by simp[rP]) (by simp only[af,if_true];rfl)) rfl rfl (by rw[aAX hZ3,hm4,←map_set];simp[rP]) (by simp only[ae,if_true,if_neg hZi];rfl) ?_;conv=>whnf
 refine aY (i:=i) (k:=2) (g':=9) (lo:=0) (len:=m3.sp[i].sl.length) (es2:=(iF m3 i Z).sp.map rP) (ov2:=[(i,1,.sl 8 0 m3.sp[i].ar.length)]) rfl (ag hg4 (by simp[rP]) (by simp only[af,if_true];rfl)) rfl rfl (by rw[List.drop_zero,aU,←hx4];exact c9 hi4) (by simp only[ae,if_true];rfl) ?_;conv=>whnf
 refine aY (i:=i) (k:=1) (g':=8) (lo:=0) (len:=m3.sp[i].ar.length) (es2:=(iF m3 i Z).sp.map rP) (ov2:=[]) rfl (ag hg4 (by simp[rP]) (by simp only[af,if_true];rfl)) rfl rfl (by rw[List.drop_zero,aU,←hx4];exact lq hi4) (by simp only[ae,if_true];rfl) ?_;conv=>whnf
 have e4:(iF m3 i Z).sp.length=m3.sp.length:=by rw[hm4,List.length_set]
 rw[hfm];refine⟨?_,rfl⟩;simp[oM,dI,e4,gW e4,show(iF m3 i Z).ram=m3.ram from rfl,show(iF m3 i Z).swp=m3.swp from rfl,show(iF m3 i Z).hd=m3.hd from rfl]
end Go.Qm
namespace Go.Qm
open Go.Cq Go.Cq.D Go.RowKit Go.Proofs
set_option maxRecDepth 10000
def d7(m:Mem)(who a:Int):Mem×Int×Int:=if cV m&&(fT m.sp who&&inB a 0 63)then getM m who.toNat a.toNat else(gH, -1,1)
end Go.Qm
namespace Go.Qm
open Go.Cq Go.Cq.D Go.RowKit Go.Proofs
set_option maxRecDepth 10000
end Go.Qm
namespace Go.Qm
open Go.Cq Go.Cq.D Go.RowKit Go.Proofs
set_option maxRecDepth 10000
def tE(t:Str)(k:Nat)(b:Int):Str:=t.set k (vo b)
theorem wI{ts:DTs}{y:Opd}{d lim k:Nat}(h:di ts y=some (k:Int))(hk:k≤lim):cI ts (some y) d lim=some k:=by simp only[cI,h];rw[if_pos ⟨by omega,by omega⟩,Int.toNat_natCast]
theorem aCT{P:Prg}{ts:DTs}{H:DH}{n:Nat}{K:DT→DTs→DH→Nat→List Nat→Prop}{x:Opd}{lo hi:Option Opd}{s:Str}{l h:Nat}(hx:evS ts x=some (.str s))(hh:cI ts hi s.length s.length=some h)(hl:cI ts lo 0 h=some l)(hK:K (.v (.one (.sc (.str ((s.drop l).take (h-l)))))) ts H n []):OpP P (.fl (.sliceS x lo hi)) ts H n K:=fC (by simp only[dfl,hx,hh,hl];rfl) hK
theorem zV(t:Str)(k:Nat)(b:Int)(hk:k<t.length)(hl:t.length≤1000):bC Try.prog 152 [.one (.sc (.str t)),.one (dI k),.one (dI b)] (.v (.one (.sc (.str (tE t k b))))):=by
 refine aQ hmix Try.func152 ok152 ?_;conv=>whnf
 refine aCT (s:=t) (h:=k) (l:=0) rfl (wI (k:=k) rfl (by omega)) rfl ?_;conv=>whnf
 refine bV rfl rfl rfl ?_;conv=>whnf
 refine oX rfl rfl (bs:=[vo b]) (by simp[x6]) ?_;conv=>whnf
 refine zN (l:=t.take k) (m:=[vo b]) rfl rfl (by simp;omega) ?_;conv=>whnf
 have e1:IntKind.wrap .i64 ((k:Int)+1)=((k+1:Nat):Int):=wrap64 (by omega) (by omega);simp only[e1];refine aCT (s:=t) (h:=t.length) (l:=k+1) rfl rfl (wI (k:=k+1) rfl (by omega)) ?_;conv=>whnf
 refine zN (l:=t.take k++[vo b]) (m:=(t.drop (k+1)).take (t.length-(k+1))) rfl rfl (by simp;omega) ?_;conv=>whnf
 refine⟨?_,rfl⟩;rw[List.take_of_length_le (l:=t.drop (k+1)) (by simp),tE,List.set_eq_take_append_cons_drop,if_pos hk,List.append_assoc];rfl
end Go.Qm
namespace Go.Qm
open Go.Cq Go.Cq.D Go.RowKit Go.Proofs
set_option maxRecDepth 10000
theorem aBs(p:Pages)(k:Nat)(h1:p.tx.length=12)(h2:p.rf.length=12)(hk:k<12)(hb: -1000≤p.rf[k]?.getD 0∧p.rf[k]?.getD 0≤1000):du Try.prog 164 [.agg [.sl 0 0 12,.sl 1 0 12],.one (dI k)] (hP p) 2 fun x H'=>x= .v (.agg [.sl 0 0 12,.sl 1 0 12])∧H'=hP (dD p k):=by
 refine aQ hmix Try.func164 ok164 ?_;have hr:k<p.rf.length:=by omega
 have ht:k<p.tx.length:=by omega
 have hr0:p.rf[k]?.getD 0=p.rf[k]:=by simp[hr]
 rw[hr0]at hb;conv=>whnf
 refine aB (k:=k) rfl rfl rfl hk ?_;conv=>whnf
 refine bf rfl rfl rfl (aS (row:=rI p.rf[k]) (by simp[hr]) rfl rfl rfl) rfl ?_;conv=>whnf
 have ew:IntKind.wrap .i64 (p.rf[k]-1)=p.rf[k]-1:=wrap64 (by omega) (by omega);simp only[ew];refine aB (k:=k) rfl rfl rfl hk ?_;conv=>whnf
 refine aN rfl rfl rfl (by simpa using hr) (by decide) ?_;conv=>whnf
 rw[iW hr];refine aB (k:=k) rfl rfl rfl hk ?_;conv=>whnf
 refine bf rfl rfl rfl (aS (row:=rI (p.rf[k]-1)) (by simp[hr]) rfl rfl rfl) rfl ?_;conv=>whnf
 refine CondP.mk (fun h=>?_) (fun h=>?_)<;>conv=>whnf
 ·have h:p.rf[k]=1:=by simp at h;omega
  refine aB (k:=k) rfl rfl rfl hk ?_;conv=>whnf
  refine aN rfl rfl rfl (by simpa using ht) (by decide) ?_;conv=>whnf
  refine⟨rfl,?_⟩;rw[jD ht];simp only[dD,hr0,if_pos h];rfl
 ·have h:¬p.rf[k]=1:=by simp at h;omega
  refine⟨rfl,?_⟩;simp only[dD,hr0,if_neg h];rfl
set_option maxHeartbeats 4000000 in
theorem aAd(m:Mem)(i j:Nat)(w:Wf m)(hi:i<m.sp.length)(hj:j<m.sp[i].sl.length)(hk1:(aI m i j).kd=1):du Try.prog 151 [.agg (cW m.hd),.one (dI i),.one (dI j)] (hM m) 5
  fun x H'=>x= .tup [.agg (cW ((ja m i j).getD m).hd),.one (dB (ja m i j).isSome)]∧H'=hM ((ja m i j).getD m):=by
 refine aQ hmix Try.func151 ok151 ?_;have l:=w.L;have hi5:i<5:=by rw[←l.sp];exact hi
 have hg:=aj (f:=rP) (List.getElem?_eq_getElem hi);have hx:=bU hi hj;obtain⟨f,e1,f12,e3,e4⟩:=(w.slot hi hj).1 hk1;have hft:f<m.ram.tx.length:=by rw[l.rt];exact f12
 have hfr:f<m.ram.rf.length:=by rw[l.rr];exact f12
 conv=>whnf
 refine aB (k:=i) rfl rfl rfl hi5 ?_;conv=>whnf
 refine bw (i:=i) (k:=2) (sz':=4) (es':=m.sp[i].sl.map rL) m.sp[i].sl.length rfl rfl rfl (aS hg rfl rfl rfl) rfl (by simp) ?_;conv=>whnf
 refine aB (k:=j) rfl rfl rfl hj ?_;conv=>whnf
 refine nF (row:=rL (aI m i j)) rfl rfl rfl (by rw[hx];simp[hj]) (ck _) rfl rfl ?_;conv=>whnf
 refine aY (i:=i) (k:=2) (g':=7) (lo:=0) (len:=m.sp[i].sl.length) (es2:=m.sp.map rP) (ov2:=[]) rfl (ag hg (by simp[rP]) (by simp only[af,if_true];rfl)) rfl rfl (by rw[List.drop_zero,aU];exact c9 hi) (by simp only[ae,if_true];rfl) ?_;conv=>whnf
 obtain⟨x,hxx⟩:∃x,aI m i j=x:=⟨_,rfl⟩;rw[hxx]at e1 hk1;simp only[hxx];have hrf:m.ram.rf[f]?.getD 0=m.ram.rf[f]:=by simp[hfr]
 refine CondP.mk (fun c1=>?_) (fun c1=>?_)<;>rw[c1]<;>(conv=>whnf)<;>repeat' first|(refine aE ?_;conv=>whnf)|(refine aD ?_;conv=>whnf)
 ·have c1:x.ow=false:=by simpa using c1
  refine aB (k:=f) rfl rfl (by show some _=some _;rw[e1]) f12 ?_
  (conv=>whnf)<;>repeat' first|(refine aE ?_;conv=>whnf)|(refine aD ?_;conv=>whnf)
  refine bf rfl rfl rfl (aS (row:=rI m.ram.rf[f]) (by simp[hfr]) rfl rfl rfl) rfl ?_
  (conv=>whnf)<;>repeat' first|(refine aE ?_;conv=>whnf)|(refine aD ?_;conv=>whnf)
  refine CondP.mk (fun c2=>?_) (fun c2=>?_)<;>conv=>whnf
  ·have c2:1<m.ram.rf[f]:=by simpa using c2
   have hcond:x.ow=false∧1<m.ram.rf[x.pl.toNat]?.getD 0:=⟨c1,by rw[e1,Int.toNat_natCast,hrf];exact c2⟩;have hcall:=rC m x.pl w;cases hr:bT m x.pl with
   |none=>
    have hb:ja m i j=none:=by rw[ja,hxx,if_pos hcond,hr];rfl
    rw[hr]at hcall;refine b8 (r:=.tup [.agg (cW m.hd),.one (dB false)]) (Hr:=hM m) [.pass,.pass] [0,1,2,3,4] rfl rfl rfl rfl hcall rfl (uG l l rfl) ?_
    (conv=>whnf)<;>repeat' first|(refine aE ?_;conv=>whnf)|(refine aD ?_;conv=>whnf)
    rw[hb];exact⟨rfl,rfl⟩
   |some m1=>
    obtain⟨w1,hf⟩:=w.bT hr;have l1:=w1.L;have ha:=cX w hr;obtain⟨hi1,hj1,ex, -⟩:=eN ha hi hj (.inr (by rw[hxx]));rw[hxx]at ex;have hg1:=aj (f:=rP) (List.getElem?_eq_getElem hi1);obtain⟨f',q1,q12,q3,q4⟩:=w1.at1 _ (List.getElem_mem hi1) _ (List.getElem_mem hj1) (by rw[ex];exact hk1);obtain rfl:f'=f:=by rw[ex,e1]at q1;omega
    have hft1:f'<m1.ram.tx.length:=by rw[l1.rt];exact f12
    have gt:m1.ram.tx[f']?.getD []=m1.ram.tx[f']:=by simp[hft1]
    rw[hr]at hcall;refine b8 (r:=.tup [.agg (cW m1.hd),.one (dB true)]) (Hr:=hM m1) [.pass,.pass] [0,1,2,3,4] rfl rfl rfl rfl hcall rfl (uG l l1 rfl) ?_
    (conv=>whnf)<;>repeat' first|(refine aE ?_;conv=>whnf)|(refine aD ?_;conv=>whnf)
    refine aB (k:=f') rfl rfl (by show some _=some _;rw[e1]) f12 ?_;conv=>whnf
    refine bf rfl rfl rfl (aS (row:=rS m1.ram.tx[f']) (by simp[hft1]) rfl rfl rfl) rfl ?_;conv=>whnf
    obtain⟨p,hp⟩:∃p,aT m1.ram (aJ m1.ram.rf) m1.ram.tx[f'] 1=p:=⟨_,rfl⟩;have hpt:p.tx.length=12:=by rw[←hp];simp[aT,l1.rt]
    have hpr:p.rf.length=12:=by rw[←hp];simp[aT,l1.rr]
    have hpb:0≤p.rf[f']?.getD 0∧p.rf[f']?.getD 0≤1000:=by rw[←hp];exact(w1.ram.take (t:=m1.ram.tx[f']) (n:=1) (k:=aJ m1.ram.rf) (by decide)).get
    have ht:=nz m1.ram m1.ram.tx[f'] l1.rt l1.rr hf;rw[hp]at ht;refine b8 [.pass,.pass] [0,1] rfl rfl rfl rfl ht rfl ((aa (sz:=1) (es:=p.tx.map rS) (es0:=m1.ram.tx.map rS) (ov0:=[]) rfl rfl (by simp[hpt,l1.rt])).trans ((aa (sz:=1) (es:=p.rf.map rI) (es0:=m1.ram.rf.map rI) (ov0:=[]) rfl rfl (by simp[hpr,l1.rr])).trans rfl)) ?_;conv=>whnf
    have hgv:=aBs p f' hpt hpr f12 (by omega);have hqt:(dD p f').tx.length=12:=by simp[dD,hpt];split<;>simp[hpt]
    have hqr:(dD p f').rf.length=12:=by simp[dD,hpr]
    rw[←e1]at hgv;refine b8 [.pass,.pass] [0,1] rfl rfl rfl rfl hgv rfl ((aa (sz:=1) (es:=(dD p f').tx.map rS) (es0:=p.tx.map rS) (ov0:=[]) rfl rfl (by simp[hpt,hqt])).trans ((aa (sz:=1) (es:=(dD p f').rf.map rI) (es0:=p.rf.map rI) (ov0:=[]) rfl rfl (by simp[hpr,hqr])).trans rfl)) ?_;conv=>whnf
    have hb:ja m i j=some {m1 with ram:=dD p f',sp:=aG m1.sp i j ⟨x.kd,aJ m1.ram.rf,true,x.us⟩}:=by rw[ja,hxx,if_pos hcond,hr,Option.map_some,e1,Int.toNat_natCast,gt,hp]
    refine aB (k:=i) rfl rfl rfl hi5 ?_;conv=>whnf
    refine bw (i:=i) (k:=2) (sz':=4) (es':=m1.sp[i].sl.map rL) m1.sp[i].sl.length rfl rfl rfl (aS hg1 rfl rfl rfl) rfl (by simp) ?_;conv=>whnf
    refine aB (k:=j) rfl rfl rfl hj1 ?_;conv=>whnf
    refine cC (row':=rL ⟨x.kd,aJ m1.ram.rf,true,x.us⟩) rfl rfl rfl (by simpa using hj1) (dt (fun _=>rfl)) (ck _) rfl rfl rfl ?_;conv=>whnf
    refine aY (i:=i) (k:=2) (g':=9) (lo:=0) (len:=m1.sp[i].sl.length) (es2:=(aG m1.sp i j ⟨x.kd,aJ m1.ram.rf,true,x.us⟩).map rP) (ov2:=[]) rfl (ag hg1 (by simp[rP]) (by simp only[af,if_true];rfl)) rfl rfl (by rw[List.drop_zero,List.take_of_length_le (by simp)];exact bz hi1) (by simp only[ae,if_true];rfl) ?_;conv=>whnf
    rw[hb];exact⟨rfl,rfl⟩
  ·have c2:¬1<m.ram.rf[f]:=by simpa using c2
   have hb:ja m i j=some {m with sp:=aG m.sp i j {x with ow:=true}}:=by rw[ja,hxx,if_neg (fun c=>c2 (by have:=c.2;rw[e1,Int.toNat_natCast,hrf]at this;exact this))]
   refine aB (k:=i) rfl rfl rfl hi5 ?_;conv=>whnf
   refine bw (i:=i) (k:=2) (sz':=4) (es':=m.sp[i].sl.map rL) m.sp[i].sl.length rfl rfl rfl (aS hg rfl rfl rfl) rfl (by simp) ?_;conv=>whnf
   refine aB (k:=j) rfl rfl rfl hj ?_;conv=>whnf
   refine cC (row':=rL ⟨x.kd,x.pl,true,x.us⟩) rfl rfl rfl (by simpa using hj) (dt (fun _=>rfl)) (ck _) rfl rfl rfl ?_;conv=>whnf
   refine aY (i:=i) (k:=2) (g':=9) (lo:=0) (len:=m.sp[i].sl.length) (es2:=(aG m.sp i j ⟨x.kd,x.pl,true,x.us⟩).map rP) (ov2:=[]) rfl (ag hg (by simp[rP]) (by simp only[af,if_true];rfl)) rfl rfl (by rw[List.drop_zero,List.take_of_length_le (by simp)];exact bz hi) (by simp only[ae,if_true];rfl) ?_;conv=>whnf
   rw[hb];exact⟨rfl,rfl⟩
 ·have c1:x.ow=true:=by simpa using c1
  have hb:ja m i j=some {m with sp:=aG m.sp i j {x with ow:=true}}:=by rw[ja,hxx,if_neg (fun c=>by rw[c1]at c;exact absurd c.1 (by decide))]
  refine aB (k:=i) rfl rfl rfl hi5 ?_;conv=>whnf
  refine bw (i:=i) (k:=2) (sz':=4) (es':=m.sp[i].sl.map rL) m.sp[i].sl.length rfl rfl rfl (aS hg rfl rfl rfl) rfl (by simp) ?_;conv=>whnf
  refine aB (k:=j) rfl rfl rfl hj ?_;conv=>whnf
  refine cC (row':=rL ⟨x.kd,x.pl,true,x.us⟩) rfl rfl rfl (by simpa using hj) (dt (fun _=>rfl)) (ck _) rfl rfl rfl ?_;conv=>whnf
  refine aY (i:=i) (k:=2) (g':=9) (lo:=0) (len:=m.sp[i].sl.length) (es2:=(aG m.sp i j ⟨x.kd,x.pl,true,x.us⟩).map rP) (ov2:=[]) rfl (ag hg (by simp[rP]) (by simp only[af,if_true];rfl)) rfl rfl (by rw[List.drop_zero,List.take_of_length_le (by simp)];exact bz hi) (by simp only[ae,if_true];rfl) ?_;conv=>whnf
  rw[hb];exact⟨rfl,rfl⟩
end Go.Qm
namespace Go.Qm
open Go.Cq Go.Cq.D Go.RowKit Go.Proofs
set_option maxRecDepth 10000
def aCk(l:List Area)(k:Int):Bool:=(l[k.toNat]?.map (·.wr)).getD false
def jq(m:Mem)(k o:Nat)(b:Int):Mem:={m with ram:=⟨m.ram.tx.set k (tE (m.ram.tx[k]?.getD []) o b),m.ram.rf⟩}
def cZ(m:Mem)(i a:Nat)(b:Int):Mem×Int:=
 if az (gX m i) (a / 4:Nat)<0 then(m,2)else if aCk (gX m i) (az (gX m i) (a / 4:Nat))=false then(m,3)else match(bJ m i (a / 4)).bind fun m1=>ja m1 i (a / 4)with
  |none=>(m,4)
  |some m2=>(jq m2 (aI m2 i (a / 4)).pl.toNat (a % 4) b,0)
set_option maxHeartbeats 4000000 in
theorem tX(m:Mem)(i a:Nat)(b:Int)(w:Wf m)(hi:i<m.sp.length)(har:∀x,x∈m.sp[i].ar→bI x=true)(hal:m.sp[i].ar.length≤1048576)(hsl:m.sp[i].sl.length=16)(ha:a≤63)(h:m.fits 1048576):
  bC Try.prog 95 [oM m,.one (dI i),.one (dI a),.one (dI b)] (.tup [oM (cZ m i a b).1,.one (dI (cZ m i a b).2)]):=by
 refine aQ hmix Try.func95 ok95 ?_;have hae:gX m i=m.sp[i].ar:=by simp[gX,hi]
 have hj:a / 4<m.sp[i].sl.length:=by omega
 conv=>whnf
 refine fC rfl ?_;conv=>whnf
 simp only[xe (show a≤1000 by omega),List.drop_zero,List.take_length];have hg:=aj (f:=rP) (List.getElem?_eq_getElem hi);have hback:(m.sp.map rP).modify i (fun row=>row.set 1 (.sl 4 (m.sp[i].ar.map rA)))=m.sp.map rP:=lq hi;refine aB (k:=i) rfl rfl rfl (by simpa using hi) ?_;conv=>whnf
 refine bw (i:=i) (k:=1) (sz':=4) (es':=m.sp[i].ar.map rA) m.sp[i].ar.length rfl rfl rfl (aS hg rfl rfl rfl) rfl (by simp) ?_;conv=>whnf
 refine aC [.lend,.pass] rfl (by show some [DV.one (DC.ro true 4 (List.take _ (List.drop 0 _))),_]=_;rw[List.drop_zero,aU];rfl) rfl (oC true m.sp[i].ar ((a / 4:Nat):Int) (by omega) har) rfl ?_;conv=>whnf
 obtain⟨at_,hat⟩:∃at_,az m.sp[i].ar ((a / 4:Nat):Int)=at_:=⟨_,rfl⟩;rw[hat];refine aY (i:=i) (k:=1) (g':=8) (lo:=0) (len:=m.sp[i].ar.length) (es2:=m.sp.map rP) (ov2:=[]) rfl (ag hg (by simp[rP]) (by simp only[af,if_true];rfl)) rfl rfl (by rw[List.drop_zero,aU];exact hback) (by simp only[ae,if_true];rfl) ?_;conv=>whnf
 simp only[List.drop_zero,List.take_length];refine CondP.mk (fun c1=>?_) (fun c1=>?_)<;>conv=>whnf
 ·have c1:at_<0:=by simpa using c1
  refine⟨?_,rfl⟩;rw[cZ,hae,hat,if_pos c1];simp[oM,dI]
 have c1:¬at_<0:=by simpa using c1
 have hlt:at_.toNat<m.sp[i].ar.length:=by rw[←hat];exact kb (by omega)
 simp only[List.drop_zero,List.take_length];refine aB (k:=i) rfl rfl rfl (by simpa using hi) ?_;conv=>whnf
 refine bw (i:=i) (k:=1) (sz':=4) (es':=m.sp[i].ar.map rA) m.sp[i].ar.length rfl rfl rfl (aS hg rfl rfl rfl) rfl (by simp) ?_;conv=>whnf
 refine aB (k:=at_.toNat) rfl rfl (by show some at_=_;congr 1;omega) hlt ?_;conv=>whnf
 refine bf rfl rfl rfl (aS (row:=rA m.sp[i].ar[at_.toNat]) (by simp[hlt]) rfl rfl rfl) rfl ?_;conv=>whnf
 refine aY (i:=i) (k:=1) (g':=8) (lo:=0) (len:=m.sp[i].ar.length) (es2:=m.sp.map rP) (ov2:=[]) rfl (ag hg (by simp[rP]) (by simp only[af,if_true];rfl)) rfl rfl (by rw[List.drop_zero,aU];exact hback) (by simp only[ae,if_true];rfl) ?_;conv=>whnf
 have hwr:aCk m.sp[i].ar at_=m.sp[i].ar[at_.toNat].wr:=by simp[aCk,hlt]
 simp only[List.drop_zero,List.take_length];refine CondP.mk (fun c2=>?_) (fun c2=>?_)<;>conv=>whnf
 ·have c2:m.sp[i].ar[at_.toNat].wr=false:=by simpa using c2
  refine⟨?_,rfl⟩;rw[cZ,hae,hat,if_neg c1,hwr,if_pos c2];simp[oM,dI]
 have c2:¬m.sp[i].ar[at_.toNat].wr=false:=by simpa using c2
 have hset:cZ m i a b=match(bJ m i (a / 4)).bind fun m1=>ja m1 i (a / 4)with
  |none=>(m,4)
  |some m2=>(jq m2 (aI m2 i (a / 4)).pl.toNat (a % 4) b,0):=by rw[cZ,hae,hat,if_neg c1,hwr,if_neg c2]
 simp only[List.drop_zero,List.take_length];refine aC (cas:=[aM true true true true true m]) [.lend] rfl (by show some [DV.agg [DC.ro true 1 (List.take _ (List.drop 0 _)),DC.ro true 1 (List.take _ (List.drop 0 _)),DC.ro true 1 (List.take _ (List.drop 0 _)),DC.ro true 1 (List.take _ (List.drop 0 _)),DC.ro true 3 (List.take _ (List.drop 0 _)),_]]=_;simp only[List.drop_zero,List.take_length];rfl) rfl (dz true true true true true m h) rfl ?_;conv=>whnf
 have l:=w.L;have hcall:=lF m i (a / 4) w hi hj;have hcas:some [DV.agg [DC.sl 0 0 (m.ram.tx.map rS).length,.sl 1 0 (m.ram.rf.map rI).length,.sl 2 0 (m.swp.tx.map rS).length,.sl 3 0 (m.swp.rf.map rI).length,.sl 4 0 (m.sp.map rP).length,dI m.hd],.one (dI i),.one (dI ((a / 4:Nat):Int))]=some [.agg (cW m.hd),.one (dI i),.one (dI ((a / 4:Nat):Int))]:=by simp only[List.length_map,l.rt,l.rr,l.st,l.sr,l.sp];rfl
 cases hb:bJ m i (a / 4)with
 |none=>
  rw[hb]at hcall hset;refine b8 (r:=.tup [.agg (cW m.hd),.one (dB false)]) (Hr:=hM m) [.pass,.pass,.pass] [12,13,14,15,16] rfl hcas rfl rfl hcall rfl (th l l rfl rfl rfl rfl rfl rfl) ?_
  (conv=>whnf)<;>repeat' first|(refine aE ?_;conv=>whnf)|(refine aD ?_;conv=>whnf)
  rw[hset];refine⟨?_,rfl⟩;simp[oM,dI]
 |some m1=>
  have w1:=w.ic hi hj hb;have l1:=w1.L;obtain⟨hi1,hj1,hk1⟩:=gb w hi hj hb;have hx1:=bU hi1 hj1;rw[hb]at hcall;refine b8 (r:=.tup [.agg (cW m1.hd),.one (dB true)]) (Hr:=hM m1) [.pass,.pass,.pass] [12,13,14,15,16] rfl hcas rfl rfl hcall rfl (th l l1 rfl rfl rfl rfl rfl rfl) ?_
  (conv=>whnf)<;>repeat' first|(refine aE ?_;conv=>whnf)|(refine aD ?_;conv=>whnf)
  have hown:=aAd m1 i (a / 4) w1 hi1 hj1 (by rw[hx1];exact hk1);simp only[List.drop_zero,gW l1.rt,gW l1.rr,gW l1.st,gW l1.sr,gW l1.sp];have hcas1:some [DV.agg [DC.sl 0 0 (m1.ram.tx.map rS).length,.sl 1 0 (m1.ram.rf.map rI).length,.sl 2 0 (m1.swp.tx.map rS).length,.sl 3 0 (m1.swp.rf.map rI).length,.sl 4 0 (m1.sp.map rP).length,dI m1.hd],.one (dI i),.one (dI ((a / 4:Nat):Int))]=some [.agg (cW m1.hd),.one (dI i),.one (dI ((a / 4:Nat):Int))]:=by simp only[List.length_map,l1.rt,l1.rr,l1.st,l1.sr,l1.sp];rfl
  rw[hb,Option.bind_some]at hset;cases ho:ja m1 i (a / 4)with
  |none=>
   rw[ho]at hown hset;refine b8 (r:=.tup [.agg (cW m1.hd),.one (dB false)]) (Hr:=hM m1) [.pass,.pass,.pass] [18,19,20,21,22] rfl hcas1 rfl rfl hown rfl (th l1 l1 rfl rfl rfl rfl rfl rfl) ?_
   (conv=>whnf)<;>repeat' first|(refine aE ?_;conv=>whnf)|(refine aD ?_;conv=>whnf)
   rw[hset];refine⟨?_,rfl⟩;simp[oM,dI]
  |some m2=>
   obtain⟨w2,s2,hk2⟩:=w1.own hi1 hj1 (by rw[hx1];exact hk1) ho;have l2:=w2.L;have hi2:i<m2.sp.length:=by rw[s2.1];exact hi1
   have hj2:a / 4<m2.sp[i].sl.length:=by rw[(s2.2 i hi1 hi2).2.2];exact hj1
   have hx2:=bU hi2 hj2;have hg2:=aj (f:=rP) (List.getElem?_eq_getElem hi2);obtain⟨k,e1,k12, -,e4⟩:=(w2.slot hi2 hj2).1 hk2;have hkt:k<m2.ram.tx.length:=by rw[l2.rt];exact k12
   have gt:m2.ram.tx[k]?.getD []=m2.ram.tx[k]:=by simp[hkt]
   rw[gt]at e4;rw[ho]at hown hset;refine b8 (r:=.tup [.agg (cW m2.hd),.one (dB true)]) (Hr:=hM m2) [.pass,.pass,.pass] [18,19,20,21,22] rfl hcas1 rfl rfl hown rfl (th l1 l2 rfl rfl rfl rfl rfl rfl) ?_
   (conv=>whnf)<;>repeat' first|(refine aE ?_;conv=>whnf)|(refine aD ?_;conv=>whnf)
   simp only[List.drop_zero,gW l2.rt,gW l2.rr,gW l2.st,gW l2.sr,gW l2.sp];refine aB (k:=i) rfl rfl rfl (by simpa using hi2) ?_;conv=>whnf
   refine bw (i:=i) (k:=2) (sz':=4) (es':=m2.sp[i].sl.map rL) m2.sp[i].sl.length rfl rfl rfl (aS hg2 rfl rfl rfl) rfl (by simp) ?_;conv=>whnf
   refine aB (k:=a / 4) rfl rfl rfl hj2 ?_;conv=>whnf
   refine bf rfl rfl rfl (aS (row:=rL (aI m2 i (a / 4))) (by rw[hx2];simp[hj2]) rfl rfl rfl) rfl ?_;conv=>whnf
   refine aY (i:=i) (k:=2) (g':=19) (lo:=0) (len:=m2.sp[i].sl.length) (es2:=m2.sp.map rP) (ov2:=[]) rfl (ag hg2 (by simp[rP]) (by simp only[af,if_true];rfl)) rfl rfl (by rw[List.drop_zero,aU];exact c9 hi2) (by simp only[ae,if_true];rfl) ?_;conv=>whnf
   simp only[List.drop_zero,List.take_length];refine aB (k:=k) rfl rfl (by show some _=some _;rw[e1]) (by simpa using hkt) ?_;conv=>whnf
   refine bf rfl rfl rfl (aS (row:=rS m2.ram.tx[k]) (by simp[hkt]) rfl rfl rfl) rfl ?_;conv=>whnf
   refine fC rfl ?_;conv=>whnf
   simp only[aCu];refine aC [.pass,.pass,.pass] rfl rfl rfl (zV m2.ram.tx[k] (a % 4) b (by omega) (by omega)) rfl ?_;conv=>whnf
   refine aB (k:=k) rfl rfl (by show some _=some _;rw[e1]) (by simpa using hkt) ?_;conv=>whnf
   refine aN rfl rfl rfl (by simpa using hkt) (by decide) ?_;conv=>whnf
   rw[hset];refine⟨?_,rfl⟩;simp only[e1,Int.toNat_natCast,jq,gt];rw[jD hkt];obtain⟨T,hT⟩:∃T,m2.ram.tx.set k (tE m2.ram.tx[k] (a % 4) b)=T:=⟨_,rfl⟩;have hTl:T.length=m2.ram.tx.length:=by rw[←hT,List.length_set]
   rw[hT];simp[oM,dI,hTl,gW hTl]
end Go.Qm
namespace Go.Qm
open Go.Cq Go.Cq.D Go.RowKit Go.Proofs
set_option maxRecDepth 10000
end Go.Qm
namespace Go.Qm
open Go.Cq Go.Cq.D Go.RowKit Go.Proofs
set_option maxRecDepth 10000
set_option maxHeartbeats 4000000 in
theorem uc(b1 b2 b3 b4 b5:Bool)(m:Mem)(who a:Int)(h:m.fits 1048576):bC Try.prog 31 [aM b1 b2 b3 b4 b5 m,.one (dI who),.one (dI a)] (.tup [oM (d7 m who a).1,.one (dI (d7 m who a).2.1),.one (dI (d7 m who a).2.2)]):=by
 refine aQ hmix Try.func31 ok31 ?_;conv=>whnf
 refine aC [.pass] rfl rfl rfl (ql b1 b2 b3 b4 b5 m (h.mono (by decide))) rfl ?_;conv=>whnf
 refine CondP.mk (fun h1=>?_) (fun h1=>?_)<;>rw[h1]<;>(conv=>whnf)<;>repeat' first|(refine aE ?_;conv=>whnf)|(refine aD ?_;conv=>whnf)
 ·refine⟨?_,rfl⟩;have h1:cV m=false:=by simpa using h1
  simp[d7,h1,oM,gH,dI]
 have h1:cV m=true:=by simpa using h1
 refine aC [.pass,.pass] rfl rfl rfl (mH b1 b2 b3 b4 b5 m who (by have:=h.sp;omega)) rfl ?_
 (conv=>whnf)<;>repeat' first|(refine aE ?_;conv=>whnf)|(refine aD ?_;conv=>whnf)
 refine CondP.mk (fun h2=>?_) (fun h2=>?_)<;>rw[h2]<;>(conv=>whnf)<;>repeat' first|(refine aE ?_;conv=>whnf)|(refine aD ?_;conv=>whnf)
 ·refine⟨?_,rfl⟩;have h2:fT m.sp who=false:=by simpa using h2
  simp[d7,h2,oM,gH,dI]
 have h2:fT m.sp who=true:=by simpa using h2
 refine aC [.pass] rfl rfl rfl (y7 a) rfl ?_
 (conv=>whnf)<;>repeat' first|(refine aE ?_;conv=>whnf)|(refine aD ?_;conv=>whnf)
 refine CondP.mk (fun h3=>?_) (fun h3=>?_)<;>conv=>whnf
 ·refine⟨?_,rfl⟩;have h3:inB a 0 63=false:=by simpa using h3
  simp[d7,h3,oM,gH,dI]
 have h3:inB a 0 63=true:=by simpa using h3
 have h4:=h3;simp only[inB,Bool.and_eq_true,decide_eq_true_eq]at h4;obtain⟨c,rfl⟩:=Int.eq_ofNat_of_zero_le h4.1;obtain⟨i,rfl,hi,hlv⟩:=fm h2;obtain⟨ha,hal,hsl⟩:=mI h1 hi hlv;refine aC [.pass] rfl rfl rfl (dz b1 b2 b3 b4 b5 m h) rfl ?_;conv=>whnf
 refine aC [.fQ,.pass,.pass] rfl rfl rfl (by simpa [oM,dI]using mJ m i c (mK h1) hi (fB ha) (by omega) hsl (by omega) h) rfl ?_;conv=>whnf
 refine⟨?_,rfl⟩;simp[d7,h1,h2,h3,oM,dI]
end Go.Qm
namespace Go.Qm
open Go.Cq Go.Cq.D Go.RowKit Go.Proofs
set_option maxRecDepth 10000
def mZ:Pages:=⟨List.replicate 12 [],List.replicate 12 0⟩
def kC:Mem:=⟨mZ,mZ,List.replicate 5 ⟨false,[],[]⟩,0⟩
theorem nZ:bC Try.prog 170 [.one (dI 12)] (.tup [.agg [.own 1 (mZ.tx.map rS),.own 1 (mZ.rf.map rI)],.one (dB true)]):=by
 refine aQ hmix Try.func170 ok170 ?_;conv=>whnf
 refine aC [.pass,.pass,.pass] rfl rfl rfl (hO _ _ _) rfl ?_;conv=>whnf
 refine CondP.mk (fun h=>by simp[inB]at h) (fun _=>?_);conv=>whnf
 refine qm rfl rfl (m:=12) (c:=12) rfl rfl (by decide) (by decide) (by decide) ?_;conv=>whnf
 refine qm rfl rfl (m:=12) (c:=12) rfl rfl (by decide) (by decide) (by decide) ?_;conv=>whnf
 exact⟨rfl,rfl⟩
theorem xx:bC Try.prog 143 [] (.v (oM kC)):=by
 refine aQ hmix Try.func143 ok143 ?_;conv=>whnf
 refine aC [.pass] rfl rfl rfl nZ rfl ?_;conv=>whnf
 refine aC [.pass] rfl rfl rfl nZ rfl ?_;conv=>whnf
 refine qm rfl rfl (m:=5) (c:=5) rfl rfl (by decide) (by decide) (by decide) ?_;conv=>whnf
 exact⟨rfl,rfl⟩
end Go.Qm
namespace Go.Qm
open Go.Cq Go.Cq.D Go.RowKit Go.Proofs
set_option maxRecDepth 10000
def vS:Space:=⟨true,[],List.replicate 16 dN⟩
def ed(m:Mem):Mem:={m with sp:=m.sp.set (bp m.sp) vS}
def fS(m:Mem):Mem×Int×Bool:=if cV m&&decide (bp m.sp<m.sp.length)then(ed m,gq m.sp,true)else(gH, -1,false)
theorem oS(b1 b2 b3 b4 b5:Bool)(m:Mem)(h:m.fits 1048576):bC Try.prog 142 [aM b1 b2 b3 b4 b5 m] (.tup [oM (fS m).1,.one (dI (fS m).2.1),.one (dB (fS m).2.2)]):=by
 refine aQ hmix Try.func142 ok142 ?_;conv=>whnf
 refine aC [.pass] rfl rfl rfl (ql b1 b2 b3 b4 b5 m (h.mono (by decide))) rfl ?_;conv=>whnf
 refine CondP.mk (fun h1=>?_) (fun h1=>?_)<;>rw[h1]<;>(conv=>whnf)<;>repeat' first|(refine aE ?_;conv=>whnf)|(refine aD ?_;conv=>whnf)
 ·refine⟨?_,rfl⟩;have h1:cV m=false:=by simpa using h1
  simp[fS,h1,oM,gH,dI,dB]
 have h1:cV m=true:=by simpa using h1
 refine aC [.pass] rfl rfl rfl (nG b1 b2 b3 b4 b5 m (by have:=h.sp;omega)) rfl ?_
 (conv=>whnf)<;>repeat' first|(refine aE ?_;conv=>whnf)|(refine aD ?_;conv=>whnf)
 refine CondP.mk (fun h2=>?_) (fun h2=>?_)<;>conv=>whnf
 ·have c1:¬bp m.sp<m.sp.length:=fun c=>by rw[gq,if_pos c]at h2;simp at h2;omega
  refine⟨?_,rfl⟩;simp[fS,c1,oM,gH,dI,dB]
 have c1:bp m.sp<m.sp.length:=by
  rcases Nat.lt_or_ge (bp m.sp) m.sp.length with c|c
  ·exact c
  ·rw[gq,if_neg (by omega)]at h2;simp at h2
 refine aC [.pass] rfl rfl rfl (dz b1 b2 b3 b4 b5 m h) rfl ?_;conv=>whnf
 refine aC [.pass] rfl rfl rfl (nG b1 b2 b3 b4 b5 m (by have:=h.sp;omega)) rfl ?_;conv=>whnf
 obtain⟨Z,hZ⟩:∃Z,bp m.sp=Z:=⟨_,rfl⟩;rw[hZ]at c1;have hS:gq m.sp=(Z:Int):=by simp[gq,c1,hZ]
 have hM:fS m=(ed m,(Z:Int),true):=by simp[fS,h1,c1,hS,hZ]
 rw[hM,hS];simp only[List.drop_zero,List.take_length];refine bV rfl rfl rfl ?_;conv=>whnf
 refine qm rfl rfl (m:=16) (c:=16) rfl rfl (by decide) (by decide) (by decide) ?_;conv=>whnf
 refine aB (k:=Z) rfl rfl rfl (by simpa using c1) ?_;conv=>whnf
 refine eY rfl rfl rfl rfl rfl (aCW (by simpa using c1) rfl) ?_;conv=>whnf
 have hgZ:=aj (f:=rP) (List.getElem?_eq_getElem c1);have hm4:(ed m).sp=m.sp.set Z vS:=by rw[ed,hZ]
 have e4:(ed m).sp.length=m.sp.length:=by rw[hm4,List.length_set]
 refine aY (i:=Z) (k:=2) (g':=5) (lo:=0) (len:=16) (ov2:=[(Z,1,.sl 4 0 0)]) rfl (ag (gS hgZ) (by simp[rP]) (by simp only[af,if_true];rfl)) rfl rfl rfl (by simp only[ae,if_true];rfl) ?_;conv=>whnf
 refine aY (i:=Z) (k:=1) (g':=4) (lo:=0) (len:=0) (es2:=(ed m).sp.map rP) (ov2:=[]) rfl (ag (gS (gS hgZ)) (by simp[rP]) (by simp only[af,if_true];rfl)) rfl rfl (by rw[aAX c1,hm4,←map_set];simp[rP];rfl) (by simp only[ae,if_true];rfl) ?_;conv=>whnf
 refine⟨?_,rfl⟩;simp[oM,dI,dB,e4,gW e4,show(ed m).ram=m.ram from rfl,show(ed m).swp=m.swp from rfl,show(ed m).hd=m.hd from rfl]
end Go.Qm
namespace Go.Qm
open Go.Cq Go.Cq.D Go.RowKit Go.Proofs
set_option maxRecDepth 10000
def sG:Space:=⟨false,[],[]⟩
def jN(m:Mem)(i:Nat):Mem:={m with sp:=m.sp.set i sG}
def wV(m:Mem)(i:Nat):Mem:=jN (ca m i 0 16) i
theorem xA(m:Mem)(i:Nat)(hL:LsOk m i 0 0):bC Try.prog 171 [oM m,.one (dI i)] (.v (oM (wV m i))):=by
 refine aQ hmix Try.func171 ok171 ?_;have hi:=hL.hi;conv=>whnf
 refine ai (fun t:Nat=>[(1,.v (.one (dI i))),(2,.v (.one (.ptr 5 0 0))),(4,.v (.one (.ptr 6 0 0))),(5,.v (.one (dI t)))]) (fun t=>[(6,bO gH),(5,bO (ca m i 0 t))]) (fun _=>7)
  (fun t=>t≤16) (fun t=>16-t) 0 (by omega) rfl (by simp only[List.drop_zero,List.take_length];rfl) rfl fun t ht=>?_
 have hlt:=qw hL (t:=t) (by omega);conv=>whnf
 refine CondP.mk (fun c2=>?_) (fun c2=>?_)<;>conv=>whnf
 ·have c2:t<16:=by
              have:(t:Int)<16:=by simpa using c2
              omega
  have hj:0+t< ((ca m i 0 t).sp[i]'hlt.hi).sl.length:=by rw[hlt.sl];omega
  have hok:=hlt.ok (by omega) (Nat.le_refl _) hlt.hi hj;refine aC [.fQ,.pass,.pass] rfl rfl rfl (by simpa [oM,dI]using qH (ca m i 0 t) i (0+t) hlt.hi hj hok.1 hok.2) rfl ?_;conv=>whnf
  refine⟨t+1,by omega,by omega,?_,?_,rfl⟩
  ·rw[wrap64 (by omega) (by omega)];rfl
  ·simp[bO,ca,dI]
 ·have c2:t=16:=by
              have:¬(t:Int)<16:=by simpa using c2
              omega
  subst c2;have hz:i< (ca m i 0 16).sp.length:=hlt.hi;have hD:wV m i=jN (ca m i 0 16) i:=rfl;rw[hD];clear hD hlt;generalize ca m i 0 16=w at hz ⊢;refine aB (k:=i) rfl rfl rfl (by simpa using hz) ?_;conv=>whnf
  refine eY rfl rfl rfl rfl rfl (by simp[wrN,wr1,DV.cells,hz];rfl) ?_;conv=>whnf
  have hg:=aj (f:=rP) (List.getElem?_eq_getElem hz);have e4:(jN w i).sp.length=w.sp.length:=by simp[jN]
  refine aY (i:=i) (k:=2) (g':=9) (lo:=0) (len:=0) (ov2:=[(i,1,.sl 8 0 0)]) rfl (ag (gS hg) (by simp[rP]) (by simp only[af,if_true];rfl)) rfl rfl rfl (by simp only[ae,if_true];rfl) ?_;conv=>whnf
  refine aY (i:=i) (k:=1) (g':=8) (lo:=0) (len:=0) (es2:=(jN w i).sp.map rP) (ov2:=[]) rfl (ag (gS (gS hg)) (by simp[rP]) (by simp only[af,if_true];rfl)) rfl rfl (by rw[List.modify_modify_eq,List.modify_modify_eq,iO hg,jN,←map_set];rfl) (by simp only[ae,if_true];rfl) ?_;conv=>whnf
  refine⟨?_,rfl⟩;simp[oM,dI,dB,e4,gW e4,show(jN w i).ram=w.ram from rfl,show(jN w i).swp=w.swp from rfl,show(jN w i).hd=w.hd from rfl]
end Go.Qm
namespace Go.Qm
open Go.Cq Go.Cq.D Go.RowKit Go.Proofs
set_option maxRecDepth 10000
theorem qS:SpI sG:=⟨fun e=>by simp[sG]at e,fun _=>⟨rfl,rfl⟩,fun x hx=>by simp[sG]at hx⟩
theorem wZ:Inv kC:=by
 have hp:∀kd:Int,Pl mZ fun k=>cnt kd k kC.sp:=fun kd=>by
  have h0:∀k:Nat,cnt kd k kC.sp=0:=fun k=>by simp[kC,List.replicate,cnt,eH]
  refine⟨rfl,rfl,fun k hk=>?_,fun k hk h=>absurd (h0 k) h⟩;rw[h0,mZ];simp only[List.getElem?_replicate,hk,if_true];rfl
 exact⟨hp 1,hp 2,rfl,by decide,fun s hs=>by rw[kC]at hs;obtain rfl:=List.eq_of_mem_replicate hs;exact qS⟩
theorem Inv.make{m:Mem}(h:Inv m)(hz:bp m.sp<m.sp.length):Inv (ed m):=by
 have hd:=(h.ss _ (List.getElem_mem hz)).dd (ka hz);refine h.put hz ⟨fun _=>⟨by decide,rfl⟩,fun e=>by simp[vS]at e,fun x hx=>?_⟩ fun kd pl hk=>?_
 ·obtain rfl:=List.eq_of_mem_replicate hx;exact .inl rfl
 ·rw[hd.2];exact rG hk fun x hx=>by obtain rfl:=List.eq_of_mem_replicate hx;rfl
theorem tZ{m:Mem}{i j k:Nat}(hi:i<m.sp.length)(hj:j<m.sp[i].sl.length):aI (jA m i j) i k=if k=j then dN else aI m i k:=by
 have e:(m.sp[i]?.bind fun s=>s.sl[j]?)=some m.sp[i].sl[j]:=by simp[hi,hj]
 simp only[jA,e];by_cases c:k=j
 ·subst c;rw[if_pos rfl];simp[aI,aG,hi,hj]
 ·rw[if_neg c,pV c]
theorem pz{m:Mem}(h:Inv m){i:Nat}(hi:i<m.sp.length)(hlv:m.sp[i].lv=true):∀{t k:Nat},t≤16→k<t→aI (ca m i 0 t) i k=dN:=by
 intro t;induction t with
 |zero=>intro k _ hk;omega
 |succ t ih=>
  intro k ht hk;obtain⟨h1,s1⟩:=h.ca (fr:=0) hi hlv (t:=t) (by omega);have hi1:i< (ca m i 0 t).sp.length:=by rw[s1.1];exact hi
  have h16:=((h.ss _ (List.getElem_mem hi)).lv hlv).2;have hl:=(s1.2 i hi hi1).2.2;rw[ca,tZ hi1 (by omega)];split
  ·rfl
  ·exact ih (by omega) (by omega)
theorem Inv.drop{m:Mem}(h:Inv m){i:Nat}(hi:i<m.sp.length)(hlv:m.sp[i].lv=true):Inv (wV m i):=by
 obtain⟨h1,s1⟩:=h.ca (fr:=0) hi hlv (t:=16) (by omega);have hz:=fun k(hk:k<16)=>pz h hi hlv (t:=16) (k:=k) (Nat.le_refl _) hk
 have h16:=((h.ss _ (List.getElem_mem hi)).lv hlv).2;have hi1:i< (Go.Qm.ca m i 0 16).sp.length:=by rw[s1.1];exact hi
 have hl:=(s1.2 i hi hi1).2.2;rw[wV];generalize Go.Qm.ca m i 0 16=w at h1 s1 hz hi1 hl;refine h1.put hi1 qS fun kd pl hk=>?_
 rw[rG hk (l:=w.sp[i].sl) fun x hx=>?_]
 ·rfl
 ·obtain⟨k,hk2,rfl⟩:=List.getElem_of_mem hx;rw[←bU hi1 hk2,hz k (by omega)];rfl
theorem Inv.map{m:Mem}(h:Inv m){i:Nat}(hi:i<m.sp.length)(hlv:m.sp[i].lv=true)(a:Area):Inv (mapM (lU (gX m i) a) m i).1:=by
 cases e:lU (gX m i) a with
 |none=>exact h
 |some l=>exact h.cU hi hlv (y8 e).2
theorem Inv.get{m:Mem}(h:Inv m){i a:Nat}(hi:i<m.sp.length)(hlv:m.sp[i].lv=true)(ha:a≤63):Inv (getM m i a).1:=by
 have h16:=((h.ss _ (List.getElem_mem hi)).lv hlv).2;unfold getM;split
 ·exact h
 ·split
  ·exact h
  ·rename_i m' hm;exact h.ic hi (by omega) hm
theorem Inv.tE{m:Mem}(h:Inv m){i a:Nat}{b:Int}(hi:i<m.sp.length)(hlv:m.sp[i].lv=true)(ha:a≤63):Inv (cZ m i a b).1:=by
 have h16:=((h.ss _ (List.getElem_mem hi)).lv hlv).2;unfold cZ;split
 ·exact h
 ·split
  ·exact h
  ·split
   ·exact h
   ·rename_i m2 hm;rw[Option.bind_eq_some_iff]at hm;obtain⟨m1,h1,h2⟩:=hm;have i1:=h.ic hi (by omega) h1;obtain⟨hi1,hj1,hk⟩:=gb h.wf hi (by omega) h1;have i2:=i1.own hi1 hj1 (by rw[bU hi1 hj1];exact hk) h2;exact i2.text (by simp[Go.Qm.tE])
theorem Inv.cut{m:Mem}(h:Inv m){i:Nat}(hi:i<m.sp.length)(hlv:m.sp[i].lv=true){fr mn:Int}:Inv (aAn (il (gX m i) fr mn) m i fr mn).1:=by
 cases e:il (gX m i) fr mn with
 |none=>exact h
 |some l=>
  obtain⟨h2,h4⟩:=o5 e;have hb:=fj.1 h2;simp only at hb;have h1:=h.cU hi hlv h4;have hi1:i< (Go.Qm.cU m i l).sp.length:=by simpa [Go.Qm.cU]using hi
  have hlv1:(Go.Qm.cU m i l).sp[i].lv=true:=by simp[Go.Qm.cU,hlv]
  exact(h1.ca (fr:=fr.toNat) (t:=mn.toNat) hi1 hlv1 (by omega)).1
theorem l6{l:List Area}(h:ay l=true):l.length≤6:=by simp only[ay,Bool.and_eq_true,decide_eq_true_eq]at h;exact h.2
theorem Inv.ar{m:Mem}(h:Inv m){i:Nat}(hi:i<m.sp.length)(hlv:m.sp[i].lv=true):(∀x,x∈m.sp[i].ar→bI x=true)∧m.sp[i].ar.length≤6∧m.sp[i].sl.length=16:=⟨fB ((h.ss _ (List.getElem_mem hi)).lv hlv).1,l6 ((h.ss _ (List.getElem_mem hi)).lv hlv).1,((h.ss _ (List.getElem_mem hi)).lv hlv).2⟩
theorem Inv.fits{m:Mem}(h:Inv m):m.fits 1048576:=by
 refine⟨by rw[h.ram.tx];decide,by rw[h.ram.rf];decide,by rw[h.swp.tx];decide,by rw[h.swp.rf];decide,by rw[h.sp];decide,fun s hs=>⟨?_,?_⟩⟩
 ·have i1:=h.ss s hs;cases e:s.lv with
  |true=>have:=l6 (i1.lv e).1;omega
  |false=>rw[(i1.dd e).1];simp
 ·have:=(h.ss s hs).l16;omega
end Go.Qm

