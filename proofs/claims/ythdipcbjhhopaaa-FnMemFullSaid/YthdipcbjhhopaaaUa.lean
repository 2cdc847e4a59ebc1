import Derived.Test.YthdipcbjhhopaaaOa
import Derived.Test.YthdipcbjhhopaaaOb
import Derived.Test.YthdipcbjhhopaaaOc
import Derived.Test.YthdipcbjhhopaaaOd
import Derived.ChangeBook
import Derived.WalkKit
import Derived.ProofKit
import Derived.OpenShut
import Derived.JoinedOf
namespace Go.Qm
open Go.Cq Go.Cq.D Go.RowKit Go.Proofs
set_option maxRecDepth 10000
theorem hmix:Try.prog.follows .mixedOrders=true:=by decide+kernel
theorem je(a b c:Int):bC Try.prog 77 [.one (dI a),.one (dI b),.one (dI c)] (.v (.one (dB (inB a b c)))):=by
 refine aS hmix Try.func77 ok77 ?_;conv=>whnf
 refine CondP.mk (fun h=>?_) (fun h=>?_)<;>rw[h]<;>(conv=>whnf)<;>repeat' first|(refine aE ?_;conv=>whnf)|(refine aD ?_;conv=>whnf)
 ·refine⟨?_,rfl⟩;simp only[inB]at h ⊢;rw[h];rfl
 ·refine⟨?_,rfl⟩;simp only[inB]at h ⊢;rw[h];rfl
theorem gV(a b c:Int):bC Try.prog 87 [.one (dI a),.one (dI b),.one (dI c)] (.v (.one (dB (inB a b c)))):=by
 refine aS hmix Try.func87 ok87 ?_;conv=>whnf
 refine CondP.mk (fun h=>?_) (fun h=>?_)<;>rw[h]<;>(conv=>whnf)<;>repeat' first|(refine aE ?_;conv=>whnf)|(refine aD ?_;conv=>whnf)
 ·refine⟨?_,rfl⟩;simp only[inB]at h ⊢;rw[h];rfl
 ·refine⟨?_,rfl⟩;simp only[inB]at h ⊢;rw[h];rfl
theorem aB8(a:Area):bC Try.prog 98 [.agg [dI a.fr,dI a.mn,dB a.wr,dB a.sh]] (.v (.one (dI (IntKind.wrap .i64 (a.fr+a.mn))))):=by
 refine aS hmix Try.func98 ok98 ?_;conv=>whnf
 exact⟨rfl,rfl⟩
theorem yP(a:Area):bC Try.prog 130 [.agg [dI a.fr,dI a.mn,dB a.wr,dB a.sh]] (.v (.one (dB (bL a)))):=by
 refine aS hmix Try.func130 ok130 ?_;conv=>whnf
 refine aC [.pass,.pass,.pass] rfl rfl rfl (je _ _ _) rfl ?_;conv=>whnf
 refine CondP.mk (fun h=>?_) (fun h=>?_)<;>rw[h]<;>(conv=>whnf)<;>repeat' first|(refine aE ?_;conv=>whnf)|(refine aD ?_;conv=>whnf)
 ·refine aC [.pass,.pass,.pass] rfl rfl rfl (je _ _ _) rfl ?_;conv=>whnf
  refine⟨?_,rfl⟩;have hw:IntKind.wrap .i64 (16-a.fr)=16-a.fr:=by simp only[inB,Bool.and_eq_true,decide_eq_true_eq]at h;exact wrap64 (by omega) (by omega)
  rw[bL,h,Bool.true_and];show DT.v (.one (dB (inB a.mn 1 (IntKind.wrap .i64 (16-a.fr)))))=_;rw[hw]
 ·refine⟨?_,rfl⟩;rw[bL,h];rfl
theorem ll(a:Area):bC Try.prog 162 [.agg [dI a.fr,dI a.mn,dB a.wr,dB a.sh]] (.v (.one (dB (bL a)))):=by
 refine aS hmix Try.func162 ok162 ?_;conv=>whnf
 refine aC [.pass,.pass,.pass] rfl rfl rfl (gV _ _ _) rfl ?_;conv=>whnf
 refine CondP.mk (fun h=>?_) (fun h=>?_)<;>rw[h]<;>(conv=>whnf)<;>repeat' first|(refine aE ?_;conv=>whnf)|(refine aD ?_;conv=>whnf)
 ·refine aC [.pass,.pass,.pass] rfl rfl rfl (gV _ _ _) rfl ?_;conv=>whnf
  refine⟨?_,rfl⟩;have hw:IntKind.wrap .i64 (16-a.fr)=16-a.fr:=by simp only[inB,Bool.and_eq_true,decide_eq_true_eq]at h;exact wrap64 (by omega) (by omega)
  rw[bL,h,Bool.true_and];show DT.v (.one (dB (inB a.mn 1 (IntKind.wrap .i64 (16-a.fr)))))=_;rw[hw]
 ·refine⟨?_,rfl⟩;rw[bL,h];rfl
theorem zz(b1 b2:Bool)(p:Pages)(k:Int)(hl:p.rf.length≤9223372036854775807):bC Try.prog 84 [.agg [.ro b1 1 (p.tx.map rS),.ro b2 1 (p.rf.map rI)],.one (dI k)] (.v (.one (dB (inB k 0 (p.rf.length-1)&&decide (0<p.rf[k.toNat]?.getD 0))))):=by
 refine aS hmix Try.func84 ok84 ?_;conv=>whnf
 refine aC [.pass,.pass,.pass] rfl rfl rfl (je _ _ _) rfl ?_;conv=>whnf
 have hw:IntKind.wrap .i64 ((p.rf.map rI).length-1)=p.rf.length-1:=by rw[List.length_map];exact wrap64 (by omega) (by omega)
 refine CondP.mk (fun h=>?_) (fun h=>?_)<;>rw[h]<;>(conv=>whnf)<;>repeat' first|(refine aE ?_;conv=>whnf)|(refine aD ?_;conv=>whnf)
 ·have h':=h;rw[show IntKind.wrap .i64 _=_ from hw]at h';have hk:=h';simp only[inB,Bool.and_eq_true,decide_eq_true_eq]at hk;refine aN (k:=k.toNat) rfl (by show some k=_;congr 1;omega) (by simp;omega) ?_
  (conv=>whnf)<;>repeat' first|(refine aE ?_;conv=>whnf)|(refine aD ?_;conv=>whnf)
  have hlt:k.toNat<p.rf.length:=by omega
  refine aH rfl (r:=.one (dI (p.rf[k.toNat]?.getD 0))) (by simp[ak,rI,hlt,eI,dI]) ?_
  (conv=>whnf)<;>repeat' first|(refine aE ?_;conv=>whnf)|(refine aD ?_;conv=>whnf)
  refine⟨?_,rfl⟩;rw[h'];rfl
 ·rw[show IntKind.wrap .i64 _=_ from hw]at h;refine⟨?_,rfl⟩;rw[h];rfl
end Go.Qm
namespace Go.Qm
open Go.Cq Go.Cq.D Go.RowKit Go.Proofs
set_option maxRecDepth 10000
theorem up{n i:Nat}(h:i<n)(hn:n≤4611686018427387904):IntKind.wrap .i64 ((i:Int)+1)=((i+1:Nat):Int):=wrap64 (by omega) (by omega)
theorem cH{ts:List Str}{ns:List Int}{i:Nat}(h1:i<ts.length)(h2:i<ns.length):ed (ts.drop i) (ns.drop i)=(dw ts[i] ns[i]&&ed (ts.drop (i+1)) (ns.drop (i+1))):=by rw[List.drop_eq_getElem_cons h1,List.drop_eq_getElem_cons h2,ed]
theorem mE(b1 b2:Bool)(p:Pages)(h1:p.tx.length≤4611686018427387904)(h2:p.rf.length≤4611686018427387904):bC Try.prog 82 [.agg [.ro b1 1 (p.tx.map rS),.ro b2 1 (p.rf.map rI)]] (.v (.one (dB (bu p)))):=by
 refine aS hmix Try.func82 ok82 ?_;conv=>whnf
 refine CondP.mk (fun h=>?_) (fun h=>?_)<;>rw[h]<;>(conv=>whnf)<;>repeat' first|(refine aE ?_;conv=>whnf)|(refine aD ?_;conv=>whnf)
 ·refine⟨?_,rfl⟩;have:¬p.tx.length=p.rf.length:=by simp at h;omega
  simp[bu,this,dB]
 ·have hl:p.tx.length=p.rf.length:=by simp at h;omega
  refine aC [.pass,.pass,.pass] rfl rfl rfl (je _ _ _) rfl ?_
  (conv=>whnf)<;>repeat' first|(refine aE ?_;conv=>whnf)|(refine aD ?_;conv=>whnf)
  refine CondP.mk (fun h=>?_) (fun h=>?_)<;>conv=>whnf
  ·refine⟨?_,rfl⟩;have h:inB p.tx.length 1 12=false:=by simpa using h
   simp[bu,h,dB]
  ·have hb:inB p.tx.length 1 12=true:=by simpa using h
   refine ao (fun i:Nat=>[(1,.v (.one (.ptr 0 0 0))),(21,.v (.one (.ro b2 1 (p.rf.map rI)))),(22,.v (.one (dI (p.rf.map rI).length))),(23,.v (.one (dI i)))]) (fun _=>[(0,.box [.ro b1 1 (p.tx.map rS),.ro b2 1 (p.rf.map rI)])]) (fun _=>1)
    (fun i=>i≤p.rf.length∧bu p=ed (p.tx.drop i) (p.rf.drop i)) (fun i=>p.rf.length-i) 0 ⟨by omega,by simp[bu,hl,hl▸hb]⟩ rfl rfl rfl fun i hi=>?_
   conv=>whnf
   refine CondP.mk (fun h=>?_) (fun h=>?_)<;>conv=>whnf
   ·have hi2:i<p.rf.length:=by simpa using h
    have hi1:i<p.tx.length:=by omega
    refine aN (k:=i) rfl rfl (by simpa using hi2) ?_;conv=>whnf
    refine aH rfl (r:=.one (dI p.rf[i])) (by simp[ak,rI,hi2,eI,dI]) ?_;conv=>whnf
    refine CondP.mk (fun h0=>?_) (fun h0=>?_)<;>conv=>whnf
    all_goals
     refine aC [.pass,.pass,.pass] rfl rfl rfl (je _ _ _) rfl ?_;conv=>whnf
     refine CondP.mk (fun h9=>?_) (fun h9=>?_)<;>rw[h9]<;>(conv=>whnf)<;>repeat' first|(refine aE ?_;conv=>whnf)|(refine aD ?_;conv=>whnf)
    ·refine⟨?_,rfl⟩;have h9:inB p.rf[i] 0 99=false:=by simpa using h9
     rw[hi.2,cH hi1 hi2,dw,h9];rfl
    ·have h9:inB p.rf[i] 0 99=true:=by simpa using h9
     refine aN (k:=i) rfl rfl (by simpa using hi1) ?_
     (conv=>whnf)<;>repeat' first|(refine aE ?_;conv=>whnf)|(refine aD ?_;conv=>whnf)
     refine aH rfl (r:=.one (.sc (.str p.tx[i]))) (by simp[ak,rS,hi1,eS]) ?_
     (conv=>whnf)<;>repeat' first|(refine aE ?_;conv=>whnf)|(refine aD ?_;conv=>whnf)
     refine CondP.mk (fun h8=>?_) (fun h8=>?_)<;>conv=>whnf
     ·refine⟨?_,rfl⟩;rw[hi.2,cH hi1 hi2,dw,h9];simp at h0 h8;simp[h0,h8,dB]
     ·refine⟨i+1,by omega,⟨by omega,?_⟩,?_,rfl,rfl⟩
      ·rw[hi.2,cH hi1 hi2,dw,h9];simp at h0 h8;simp[h0,h8]
      ·rw[←up hi2 h2];rfl
    ·refine⟨?_,rfl⟩;have h9:inB p.rf[i] 0 99=false:=by simpa using h9
     rw[hi.2,cH hi1 hi2,dw,h9];rfl
    ·have h9:inB p.rf[i] 0 99=true:=by simpa using h9
     refine aN (k:=i) rfl rfl (by simpa using hi1) ?_
     (conv=>whnf)<;>repeat' first|(refine aE ?_;conv=>whnf)|(refine aD ?_;conv=>whnf)
     refine aH rfl (r:=.one (.sc (.str p.tx[i]))) (by simp[ak,rS,hi1,eS]) ?_
     (conv=>whnf)<;>repeat' first|(refine aE ?_;conv=>whnf)|(refine aD ?_;conv=>whnf)
     refine CondP.mk (fun h8=>?_) (fun h8=>?_)<;>conv=>whnf
     ·refine⟨?_,rfl⟩;rw[hi.2,cH hi1 hi2,dw,h9];simp at h0 h8;simp[h0,h8,dB]
     ·refine⟨i+1,by omega,⟨by omega,?_⟩,?_,rfl,rfl⟩
      ·rw[hi.2,cH hi1 hi2,dw,h9];simp at h0 h8;simp[h0,h8]
      ·rw[←up hi2 h2];rfl
   ·refine⟨?_,rfl⟩;have:i=p.rf.length:=by
                   have:¬i<p.rf.length:=by simpa using h
                   omega
    subst this;have:=hi.2;rw[List.drop_eq_nil_of_le (by omega),ed]at this;rw[this];rfl
    all_goals simp
end Go.Qm
namespace Go.Qm
open Go.Cq Go.Cq.D Go.RowKit Go.Proofs
set_option maxRecDepth 10000
def aA(a:Area):List DC:=[dI a.fr,dI a.mn,dB a.wr,dB a.sh]
theorem ldA{b:Bool}{l:List Area}{i:Nat}(h:i<l.length):(ak b (l.map rA) i 0 4).map DV.agg=some (.agg (aA l[i])):=by simp[ak,rA,h,eI,eB,aA,dI,dB]
theorem ix{i:Nat}{n:Nat}(h:i<n)(hn:n≤4611686018427387904)(hi:i≠0):some (IntKind.wrap .i64 ((i:Int)-1))=some (((i-1:Nat):Nat):Int):=by rw[wrap64 (by omega) (by omega)];congr 1;omega
theorem aDx{a:Area}(h:bL a=true):IntKind.wrap .i64 (a.fr+a.mn)=a.fr+a.mn:=by have:=gB.1 h;exact wrap64 (by omega) (by omega)
set_option maxHeartbeats 2000000 in
theorem pO(b:Bool)(l:List Area)(hl:l.length≤4611686018427387904):bC Try.prog 83 [.one (.ro b 4 (l.map rA))] (.v (.one (dB (ay l)))):=by
 refine aS hmix Try.func83 ok83 ?_;conv=>whnf
 refine ao (fun i:Nat=>[(0,.v (.one (.ro b 4 (l.map rA)))),(5,.v (.one (.ro b 4 (l.map rA)))),(6,.v (.one (dI (l.map rA).length))),(7,.v (.one (dI i)))]) (fun _=>[]) (fun _=>0)
  (fun i=>i≤l.length∧ay l=(dr l i&&decide (l.length≤6))∧∀j(hj:j<l.length),j<i→bL l[j]=true) (fun i=>l.length-i) 0 ⟨by omega,rfl,by omega⟩ rfl rfl rfl fun i hi=>?_
 obtain⟨hi1,hi2,hi3⟩:=hi;conv=>whnf
 refine CondP.mk (fun h=>?_) (fun h=>?_)<;>conv=>whnf
 ·have hlt:i<l.length:=by simpa using h
  refine aN (k:=i) rfl rfl (by simpa using hlt) ?_;conv=>whnf
  refine aH rfl (r:=.agg (aA l[i])) (ldA hlt) ?_;conv=>whnf
  refine aC [.pass] rfl rfl rfl (yP l[i]) rfl ?_;conv=>whnf
  have fin:bL l[i]=false→DT.v (DV.one (DC.sc (.bool false)))= .v (.one (dB (ay l))):=fun e=>by rw[hi2,dX hlt,e];rfl
  refine CondP.mk (fun h1=>?_) (fun h1=>?_)<;>rw[h1]<;>(conv=>whnf)<;>repeat' first|(refine aE ?_;conv=>whnf)|(refine aD ?_;conv=>whnf)
  ·exact⟨fin (by simpa using h1),rfl⟩
  ·have ho:bL l[i]=true:=by simpa using h1
   have hstep:decide (0< (i:Int))=false∨kf l i l[i]=true→ay l=(dr l (i+1)&&decide (l.length≤6)):=fun e=>by
    rw[hi2,dX hlt,ho];rcases e with e|e
    ·have:i=0:=by simp at e;omega
     simp[this]
    ·rw[e];simp
   have hall:∀j(hj:j<l.length),j<i+1→bL l[j]=true:=fun j hj h2=>by
    by_cases e:j=i
    ·subst e;exact ho
    ·exact hi3 j hj (by omega)
   refine CondP.mk (fun h2=>?_) (fun h2=>?_)<;>rw[h2]<;>(conv=>whnf)<;>repeat' first|(refine aE ?_;conv=>whnf)|(refine aD ?_;conv=>whnf)
   ·have hi0:i≠0:=by simp at h2;omega
    have hlt':i-1<l.length:=by omega
    refine aN (k:=i-1) rfl (ix hlt hl hi0) (by simpa using hlt') ?_
    (conv=>whnf)<;>repeat' first|(refine aE ?_;conv=>whnf)|(refine aD ?_;conv=>whnf)
    refine aH rfl (r:=.agg (aA l[i-1])) (ldA hlt') ?_
    (conv=>whnf)<;>repeat' first|(refine aE ?_;conv=>whnf)|(refine aD ?_;conv=>whnf)
    refine aC [.pass] rfl rfl rfl (aB8 l[i-1]) rfl ?_
    (conv=>whnf)<;>repeat' first|(refine aE ?_;conv=>whnf)|(refine aD ?_;conv=>whnf)
    have he:=aDx (hi3 (i-1) hlt' (by omega));rw[he];refine CondP.mk (fun h3=>?_) (fun h3=>?_)<;>conv=>whnf
    ·refine⟨?_,rfl⟩;rw[hi2,dX hlt,ho,kf,List.getElem?_eq_getElem hlt'];have:¬l[i-1].fr+l[i-1].mn≤l[i].fr:=by simpa using h3
     simp[this,hi0,dB]
    ·refine⟨i+1,by omega,⟨by omega,hstep (.inr ?_),hall⟩,?_,rfl,rfl⟩
     ·rw[kf,List.getElem?_eq_getElem hlt'];simpa using h3
     ·rw[←up hlt hl];rfl
   ·refine⟨i+1,by omega,⟨by omega,hstep (.inl h2),hall⟩,?_,rfl,rfl⟩;rw[←up hlt hl];rfl
 ·refine⟨?_,rfl⟩;have:i=l.length:=by
               have:¬i<l.length:=by simpa using h
               omega
  subst this;rw[hi2,dr,List.drop_length];simp[eb,dB];omega
end Go.Qm
namespace Go.Qm
open Go.Cq Go.Cq.D Go.RowKit Go.Proofs
set_option maxRecDepth 10000
end Go.Qm
namespace Go.Qm
open Go.Cq Go.Cq.D Go.RowKit Go.Proofs
set_option maxRecDepth 10000
def aL(a:Slot):List DC:=[dI a.kd,dI a.pl,dB a.ow,dB a.us]
def aP(b:Bool)(s:Space):List DC:=[dB s.lv,.ro b 4 (s.ar.map rA),.ro b 4 (s.sl.map rL)]
theorem ldL{b:Bool}{l:List Slot}{i:Nat}(h:i<l.length):(ak b (l.map rL) i 0 4).map DV.agg=some (.agg (aL l[i])):=by simp[ak,rL,h,eI,eB,aL,dI,dB]
theorem ldP{b:Bool}{l:List Space}{i:Nat}(h:i<l.length):(ak b (l.map rP) i 0 3).map DV.agg=some (.agg (aP b l[i])):=by simp[ak,rP,h,eB,aP,dB]
def aDe(n:Nat)(l:List Space):Prop:=∀s,s∈l→s.ar.length≤n∧s.sl.length≤n
structure Mem.fits(n:Nat)(m:Mem):Prop where
 rt:m.ram.tx.length≤n
 rr:m.ram.rf.length≤n
 st:m.swp.tx.length≤n
 sr:m.swp.rf.length≤n
 sp:m.sp.length≤n
 ss:aDe n m.sp
def aM(b1 b2 b3 b4 b5:Bool)(m:Mem):DV:=.agg [.ro b1 1 (m.ram.tx.map rS),.ro b2 1 (m.ram.rf.map rI),.ro b3 1 (m.swp.tx.map rS),.ro b4 1 (m.swp.rf.map rI),.ro b5 3 (m.sp.map rP),dI m.hd]
theorem gp{l1 l2 l3 l4 l5:List (List PV)}{n1 n2 n3 n4 n5:Nat}{d:DC}{r:List DV}(h1:n1=l1.length:=by first|rfl|simp)(h2:n2=l2.length:=by first|rfl|simp)(h3:n3=l3.length:=by first|rfl|simp)(h4:n4=l4.length:=by first|rfl|simp)(h5:n5=l5.length:=by first|rfl|simp):some (DV.agg [DC.ro true 1 (List.take n1 (List.drop 0 l1)),DC.ro true 1 (List.take n2 (List.drop 0 l2)),DC.ro true 1 (List.take n3 (List.drop 0 l3)),DC.ro true 1 (List.take n4 (List.drop 0 l4)),DC.ro true 3 (List.take n5 (List.drop 0 l5)),d]::r)=some (DV.agg [DC.ro true 1 l1,DC.ro true 1 l2,DC.ro true 1 l3,DC.ro true 1 l4,DC.ro true 3 l5,d]::r):=by subst h1 h2 h3 h4 h5;simp only[List.drop_zero,List.take_length]
theorem aDQ{l1 l2 l3 l4 l5:List (List PV)}{n1 n2 n3 n4 n5:Nat}{d:DC}{x:DV}{r:List DV}(h1:n1=l1.length:=by first|rfl|simp)(h2:n2=l2.length:=by first|rfl|simp)(h3:n3=l3.length:=by first|rfl|simp)(h4:n4=l4.length:=by first|rfl|simp)(h5:n5=l5.length:=by first|rfl|simp):some (x::DV.agg [DC.ro true 1 (List.take n1 (List.drop 0 l1)),DC.ro true 1 (List.take n2 (List.drop 0 l2)),DC.ro true 1 (List.take n3 (List.drop 0 l3)),DC.ro true 1 (List.take n4 (List.drop 0 l4)),DC.ro true 3 (List.take n5 (List.drop 0 l5)),d]::r)=some (x::DV.agg [DC.ro true 1 l1,DC.ro true 1 l2,DC.ro true 1 l3,DC.ro true 1 l4,DC.ro true 3 l5,d]::r):=by subst h1 h2 h3 h4 h5;simp only[List.drop_zero,List.take_length]
theorem aBh{l1 l2 l3 l4 l5 l6 l7 l8 l9 l10:List (List PV)}{n1 n2 n3 n4 n5 n6 n7 n8 n9 n10:Nat}{d d2:DC}{r:List DV}(h1:n1=l1.length:=by first|rfl|simp)(h2:n2=l2.length:=by first|rfl|simp)(h3:n3=l3.length:=by first|rfl|simp)(h4:n4=l4.length:=by first|rfl|simp)(h5:n5=l5.length:=by first|rfl|simp)(h6:n6=l6.length:=by first|rfl|simp)(h7:n7=l7.length:=by first|rfl|simp)(h8:n8=l8.length:=by first|rfl|simp)(h9:n9=l9.length:=by first|rfl|simp)(h10:n10=l10.length:=by first|rfl|simp):some (DV.agg [DC.ro true 1 (List.take n1 (List.drop 0 l1)),DC.ro true 1 (List.take n2 (List.drop 0 l2)),DC.ro true 1 (List.take n3 (List.drop 0 l3)),DC.ro true 1 (List.take n4 (List.drop 0 l4)),DC.ro true 3 (List.take n5 (List.drop 0 l5)),d]::DV.agg [DC.ro true 1 (List.take n6 (List.drop 0 l6)),DC.ro true 1 (List.take n7 (List.drop 0 l7)),DC.ro true 1 (List.take n8 (List.drop 0 l8)),DC.ro true 1 (List.take n9 (List.drop 0 l9)),DC.ro true 3 (List.take n10 (List.drop 0 l10)),d2]::r)=some (DV.agg [DC.ro true 1 l1,DC.ro true 1 l2,DC.ro true 1 l3,DC.ro true 1 l4,DC.ro true 3 l5,d]::DV.agg [DC.ro true 1 l6,DC.ro true 1 l7,DC.ro true 1 l8,DC.ro true 1 l9,DC.ro true 3 l10,d2]::r):=by subst h1 h2 h3 h4 h5 h6 h7 h8 h9 h10;simp only[List.drop_zero,List.take_length]
theorem uy{l1 l2:List (List PV)}{n1 n2:Nat}{r:List DV}(h1:n1=l1.length:=by first|rfl|simp)(h2:n2=l2.length:=by first|rfl|simp):some (DV.agg [DC.ro true 1 (List.take n1 (List.drop 0 l1)),DC.ro true 1 (List.take n2 (List.drop 0 l2))]::r)=some (DV.agg [DC.ro true 1 l1,DC.ro true 1 l2]::r):=by subst h1 h2;simp only[List.drop_zero,List.take_length]
theorem xM{a:List (List PV)}{n sz:Nat}{r:List DV}(h:n=a.length:=by first|rfl|simp):some (DV.one (.ro true sz (List.take n (List.drop 0 a)))::r)=some (DV.one (.ro true sz a)::r):=by subst h;simp only[List.drop_zero,List.take_length]
end Go.Qm
namespace Go.Qm
open Go.Cq Go.Cq.D Go.RowKit Go.Proofs
set_option maxRecDepth 10000
end Go.Qm
namespace Go.Qm
open Go.Cq Go.Cq.D Go.RowKit Go.Proofs
set_option maxRecDepth 10000
end Go.Qm
namespace Go.Qm
open Go.Cq Go.Cq.D Go.RowKit Go.Proofs
set_option maxRecDepth 10000
def oM(m:Mem):DV:=.agg [.own 1 (m.ram.tx.map rS),.own 1 (m.ram.rf.map rI),.own 1 (m.swp.tx.map rS),.own 1 (m.swp.rf.map rI),.own 3 (m.sp.map rP),dI m.hd]
end Go.Qm
namespace Go.Qm
open Go.Cq Go.Cq.D Go.RowKit Go.Proofs
set_option maxRecDepth 10000
end Go.Qm
namespace Go.Qm
open Go.Cq Go.Cq.D Go.RowKit Go.Proofs
set_option maxRecDepth 10000
end Go.Qm
namespace Go.Qm
open Go.Cq Go.Cq.D Go.RowKit Go.Proofs
set_option maxRecDepth 10000
theorem af{es:List (List PV)}{i:Nat}{row:List PV}{f:List PV→List PV}(h:es[i]?=some row):es.modify i f=es.set i (f row):=by
 refine List.ext_getElem? fun j=>?_
 rw[List.getElem?_modify,List.getElem?_set];by_cases e:i=j
 ·subst e;obtain⟨hi,e⟩:=List.getElem?_eq_some_iff.1 h;rw[h,if_pos rfl,if_pos hi];simp
 ·rw[if_neg e];cases es[j]?<;>simp[e]
theorem ai{α:Type}{f:α→List PV}{l:List α}{i:Nat}{a:α}(h:l[i]?=some a):(l.map f)[i]?=some (f a):=by simp[h]
theorem eH{α:Type}{f:α→List PV}(hf:∀a,(f a).length=4){l:List α}{i:Nat}:∀row,(l.map f)[i]?=some row→row.length=4:=by intro row h;obtain⟨a, -,rfl⟩:=List.mem_map.1 (List.mem_of_getElem? h);exact hf a
end Go.Qm
namespace Go.Qm
open Go.Cq Go.Cq.D Go.RowKit Go.Proofs
set_option maxRecDepth 10000
end Go.Qm
namespace Go.Qm
open Go.Cq Go.Cq.D Go.RowKit Go.Proofs
set_option maxRecDepth 10000
theorem xm(b:Bool)(l:List Area)(hl:l.length≤1048576):bC Try.prog 101 [.one (.ro b 4 (l.map rA))] (.v (.one (.own 4 (l.map rA)))):=by
 refine aS hmix Try.func101 ok101 ?_;have hl':(l.map rA).length≤1048576:=by rw[List.length_map];exact hl
 conv=>whnf
 refine r8 rfl fun v hv=>?_
 conv=>whnf
 refine CondP.mk (fun h=>?_) (fun h=>?_)
 ·subst h;have e:=hv rfl;rw[e];conv=>whnf
  exact⟨rfl,rfl⟩
 ·subst h;conv=>whnf
  refine bY rfl rfl rfl ?_;conv=>whnf
  refine fK rfl rfl rfl rfl (ij sy l) rfl (by omega) (by omega) ?_;conv=>whnf
  refine⟨?_,rfl⟩;simp
theorem zB(b:Bool)(l:List Slot)(hl:l.length≤1048576):bC Try.prog 102 [.one (.ro b 4 (l.map rL))] (.v (.one (.own 4 (l.map rL)))):=by
 refine aS hmix Try.func102 ok102 ?_;have hl':(l.map rL).length≤1048576:=by rw[List.length_map];exact hl
 conv=>whnf
 refine r8 rfl fun v hv=>?_
 conv=>whnf
 refine CondP.mk (fun h=>?_) (fun h=>?_)
 ·subst h;have e:=hv rfl;rw[e];conv=>whnf
  exact⟨rfl,rfl⟩
 ·subst h;conv=>whnf
  refine bY rfl rfl rfl ?_;conv=>whnf
  refine fK rfl rfl rfl rfl (ij cu l) rfl (by omega) (by omega) ?_;conv=>whnf
  refine⟨?_,rfl⟩;simp
theorem lK(b1 b2:Bool)(p:Pages)(h1:p.tx.length≤1048576)(h2:p.rf.length≤1048576):bC Try.prog 129 [.agg [.ro b1 1 (p.tx.map rS),.ro b2 1 (p.rf.map rI)]] (.v (.agg [.own 1 (p.tx.map rS),.own 1 (p.rf.map rI)])):=by
 refine aS hmix Try.func129 ok129 ?_;have h1':(p.tx.map rS).length≤1048576:=by rw[List.length_map];exact h1
 have h2':(p.rf.map rI).length≤1048576:=by rw[List.length_map];exact h2
 conv=>whnf
 refine bY rfl rfl rfl ?_;conv=>whnf
 refine fK rfl rfl rfl rfl (ij xP p.tx) rfl (by omega) (by omega) ?_;conv=>whnf
 refine bY rfl rfl rfl ?_;conv=>whnf
 refine fK rfl rfl rfl rfl (ij xT p.rf) rfl (by omega) (by omega) ?_;conv=>whnf
 refine⟨?_,rfl⟩;simp
theorem sB(b1 b2:Bool)(p:Pages)(h1:p.tx.length≤1048576)(h2:p.rf.length≤1048576):bC Try.prog 125 [.agg [.ro b1 1 (p.tx.map rS),.ro b2 1 (p.rf.map rI)]] (.v (.agg [.own 1 (p.tx.map rS),.own 1 (p.rf.map rI)])):=by
 refine aS hmix Try.func125 ok125 ?_;have h1':(p.tx.map rS).length≤1048576:=by rw[List.length_map];exact h1
 have h2':(p.rf.map rI).length≤1048576:=by rw[List.length_map];exact h2
 conv=>whnf
 refine bY rfl rfl rfl ?_;conv=>whnf
 refine fK rfl rfl rfl rfl (ij xP p.tx) rfl (by omega) (by omega) ?_;conv=>whnf
 refine bY rfl rfl rfl ?_;conv=>whnf
 refine fK rfl rfl rfl rfl (ij xT p.rf) rfl (by omega) (by omega) ?_;conv=>whnf
 refine⟨?_,rfl⟩;simp
set_option maxHeartbeats 1000000 in
theorem kP(b1 b2 b3 b4 b5:Bool)(m:Mem)(h:m.fits 1048576):bC Try.prog 64 [aM b1 b2 b3 b4 b5 m] (.v (oM m)):=by
 refine aS hmix Try.func64 ok64 ?_;conv=>whnf
 refine aC [.pass] rfl rfl rfl (lK _ _ m.ram h.rt h.rr) rfl ?_;conv=>whnf
 refine aC [.pass] rfl rfl rfl (lK _ _ m.swp h.st h.sr) rfl ?_;conv=>whnf
 refine ao (fun i:Nat=>[(2,.v (.one (.ptr 1 0 0))),(3,.v (.one (.ptr 6 0 0))),(16,.v (.one (.ro b5 3 (m.sp.map rP)))),(17,.v (.one (dI (m.sp.map rP).length))),(18,.v (.one (dI i)))])
  (fun i=>[(6,.box [.own 1 (m.ram.tx.map rS),.own 1 (m.ram.rf.map rI),.own 1 (m.swp.tx.map rS),.own 1 (m.swp.rf.map rI),.own 3 ((m.sp.take i).map rP),dI m.hd]),(1,.box [.own 1 [],.own 1 [],.own 1 [],.own 1 [],.own 3 [],dI 0])]) (fun _=>7)
  (fun i=>i≤m.sp.length) (fun i=>m.sp.length-i) 0 (by omega) rfl (by simp[dI]) rfl fun i hi=>?_
 conv=>whnf
 refine CondP.mk (fun h1=>?_) (fun h1=>?_)<;>conv=>whnf
 ·have hlt:i<m.sp.length:=by simpa using h1
  have hs:=h.ss _ (List.getElem_mem hlt);have hz:((m.sp.take i).map rP).length=i:=by rw[List.length_map,List.length_take];omega
  refine aN (k:=i) rfl rfl (by simpa using hlt) ?_;conv=>whnf
  refine aH rfl (ldP hlt) ?_;conv=>whnf
  refine aC [.pass] rfl rfl rfl (xm _ m.sp[i].ar hs.1) rfl ?_;conv=>whnf
  refine aC [.pass] rfl rfl rfl (zB _ m.sp[i].sl hs.2) rfl ?_;conv=>whnf
  refine bY rfl rfl rfl ?_;conv=>whnf
  refine dW [28,31,32] [.h 11 0 1,.h 11 0 2] 1 (sz:=3) rfl rfl rfl rfl rfl rfl rfl rfl (by rw[hz];have:=h.sp;omega) (by rw[hz];have:=h.sp;omega) ?_;conv=>whnf
  refine⟨i+1,by omega,by omega,?_,?_,rfl⟩
  ·rw[up hlt (by have:=h.sp;omega)];rfl
  ·simp only[List.map_take,List.take_succ_eq_append_getElem (show i< (m.sp.map rP).length by simpa using hlt)];simp[rP,eB,dI,List.replicate,List.take_of_length_le]
 ·have:i=m.sp.length:=by
                 have:¬i<m.sp.length:=by simpa using h1
                 omega
  subst this;refine⟨?_,rfl⟩;simp[oM,dI]
end Go.Qm
namespace Go.Qm
open Go.Cq Go.Cq.D Go.RowKit Go.Proofs
set_option maxRecDepth 10000
set_option maxHeartbeats 1000000 in
theorem eJ(b1 b2 b3 b4 b5:Bool)(m:Mem)(h:m.fits 1048576):bC Try.prog 60 [aM b1 b2 b3 b4 b5 m] (.v (oM m)):=by
 refine aS hmix Try.func60 ok60 ?_;conv=>whnf
 refine aC [.pass] rfl rfl rfl (sB _ _ m.ram h.rt h.rr) rfl ?_;conv=>whnf
 refine aC [.pass] rfl rfl rfl (sB _ _ m.swp h.st h.sr) rfl ?_;conv=>whnf
 refine bY rfl rfl rfl ?_;conv=>whnf
 refine ao (fun i:Nat=>[(1,.v (.one (.ptr 0 0 0))),(2,.v (.one (.ptr 1 0 0))),(3,.v (.one (.ptr 7 0 0))),(4,.v (.one (dI i)))])
  (fun i=>[(7,.box [.own 1 (m.ram.tx.map rS),.own 1 (m.ram.rf.map rI),.own 1 (m.swp.tx.map rS),.own 1 (m.swp.rf.map rI),.own 3 ((m.sp.take i).map rP),dI m.hd]),(1,.box [.own 1 [],.own 1 [],.own 1 [],.own 1 [],.own 3 [],dI 0]),(0,.box [.ro b1 1 (m.ram.tx.map rS),.ro b2 1 (m.ram.rf.map rI),.ro b3 1 (m.swp.tx.map rS),.ro b4 1 (m.swp.rf.map rI),.ro b5 3 (m.sp.map rP),dI m.hd])]) (fun _=>8)
  (fun i=>i≤m.sp.length) (fun i=>m.sp.length-i) 0 (by omega) rfl (by simp[dI]) rfl fun i hi=>?_
 conv=>whnf
 refine CondP.mk (fun h1=>?_) (fun h1=>?_)<;>conv=>whnf
 ·have hlt:i<m.sp.length:=by simpa using h1
  have hs:=h.ss _ (List.getElem_mem hlt);have hz:((m.sp.take i).map rP).length=i:=by rw[List.length_map,List.length_take];omega
  have hz1:(m.sp[i].ar.map rA).length≤1048576:=by rw[List.length_map];exact hs.1
  have hz2:(m.sp[i].sl.map rL).length≤1048576:=by rw[List.length_map];exact hs.2
  refine aN (k:=i) rfl rfl (by simpa using hlt) ?_;conv=>whnf
  refine aH rfl (ldP hlt) ?_;conv=>whnf
  refine bY rfl rfl rfl ?_;conv=>whnf
  refine fK rfl rfl rfl rfl (ij sy _) rfl (by omega) (by omega) ?_;conv=>whnf
  refine bY rfl rfl rfl ?_;conv=>whnf
  refine fK rfl rfl rfl rfl (ij cu _) rfl (by omega) (by omega) ?_;conv=>whnf
  refine bY rfl rfl rfl ?_;conv=>whnf
  refine dW [] [.h 12 0 1,.h 12 0 2] 1 (sz:=3) rfl rfl rfl rfl rfl rfl rfl rfl (by rw[hz];have:=h.sp;omega) (by rw[hz];have:=h.sp;omega) ?_;conv=>whnf
  refine⟨i+1,by omega,by omega,?_,?_,rfl⟩
  ·rw[up hlt (by have:=h.sp;omega)];rfl
  ·simp only[List.map_take,List.take_succ_eq_append_getElem (show i< (m.sp.map rP).length by simpa using hlt)];simp[rP,eB,dI,List.replicate,List.take_of_length_le]
 ·have:i=m.sp.length:=by
                 have:¬i<m.sp.length:=by simpa using h1
                 omega
  subst this;refine⟨?_,rfl⟩;simp[oM,dI]
end Go.Qm
namespace Go.Qm
open Go.Cq Go.Cq.D Go.RowKit Go.Proofs
set_option maxRecDepth 10000
theorem aEM{l:List Area}(h:∀a,a∈l→bL a=true){i:Nat}(hi:i<l.length):bL l[i]=true:=h _ (List.getElem_mem hi)
set_option maxHeartbeats 1000000 in
theorem oW(b:Bool)(l:List Area)(page:Int)(hl:l.length≤4611686018427387904)(ho:∀a,a∈l→bL a=true):bC Try.prog 146 [.one (.ro b 4 (l.map rA)),.one (dI page)] (.v (.one (dI (bA l page)))):=by
 refine aS hmix Try.func146 ok146 ?_;conv=>whnf
 refine ao (fun i:Nat=>[(0,.v (.one (.ro b 4 (l.map rA)))),(1,.v (.one (dI page))),(5,.v (.one (dI i)))]) (fun _=>[]) (fun _=>0)
  (fun i=>i≤l.length∧bA l page=gQ page (l.drop i) i) (fun i=>l.length-i) 0 ⟨by omega,rfl⟩ rfl rfl rfl fun i hi=>?_
 obtain⟨hi1,hi2⟩:=hi;conv=>whnf
 refine CondP.mk (fun h=>?_) (fun h=>?_)<;>conv=>whnf
 ·have hlt:i<l.length:=by simpa using h
  have hok:=gB.1 (aEM ho hlt);refine aN (k:=i) rfl rfl (by simpa using hlt) ?_;conv=>whnf
  refine aH rfl (r:=.one (dI l[i].fr)) (by simp[ak,rA,hlt,eI,dI]) ?_;conv=>whnf
  refine aN (k:=i) rfl rfl (by simpa using hlt) ?_;conv=>whnf
  refine aH rfl (r:=.one (dI l[i].fr)) (by simp[ak,rA,hlt,eI,dI]) ?_;conv=>whnf
  refine aN (k:=i) rfl rfl (by simpa using hlt) ?_;conv=>whnf
  refine aH rfl (r:=.one (dI l[i].mn)) (by simp[ak,rA,hlt,eI,dI]) ?_;conv=>whnf
  refine aC [.pass,.pass,.pass] rfl rfl rfl (gV _ _ _) rfl ?_;conv=>whnf
  have e1:IntKind.wrap .i64 (l[i].fr+l[i].mn)=l[i].fr+l[i].mn:=wrap64 (by omega) (by omega);have e2:IntKind.wrap .i64 (l[i].fr+l[i].mn-1)=l[i].fr+l[i].mn-1:=wrap64 (by omega) (by omega);refine CondP.mk (fun h1=>?_) (fun h1=>?_)<;>conv=>whnf
  ·refine⟨?_,rfl⟩;rw[e1,e2]at h1;have:l[i].fr≤page∧page<l[i].fr+l[i].mn:=by simp only[inB,Bool.and_eq_true,decide_eq_true_eq]at h1;omega
   rw[hi2,iW hlt,if_pos this];rfl
  ·refine⟨i+1,by omega,⟨by omega,?_⟩,?_,rfl,rfl⟩
   ·rw[e1,e2]at h1;have:¬(l[i].fr≤page∧page<l[i].fr+l[i].mn):=by
     intro ⟨k1,k2⟩;have:inB page l[i].fr (l[i].fr+l[i].mn-1)=true:=by simp only[inB,Bool.and_eq_true,decide_eq_true_eq];omega
     rw[this]at h1;simp at h1
    rw[hi2,iW hlt,if_neg this]
   ·rw[←up hlt hl];rfl
 ·refine⟨?_,rfl⟩;have:i=l.length:=by
               have:¬i<l.length:=by simpa using h
               omega
  subst this;rw[hi2,List.drop_length];rfl
theorem aC2(a:Area)(page:Int)(ho:bL a=true):aDC Try.prog 97 [.agg (aA a),.one (.ptr 0 0 0)] [dI page] (.v (.one (dB (decide (a.fr≤page)&&decide (page<a.fr+a.mn))))) [dI page]:=by
 refine aS hmix Try.func97 ok97 ?_;conv=>whnf
 refine CondP.mk (fun h=>?_) (fun h=>?_)<;>rw[h]<;>(conv=>whnf)<;>repeat' first|(refine aE ?_;conv=>whnf)|(refine aD ?_;conv=>whnf)
 ·refine aC [.pass] rfl rfl rfl (aB8 a) rfl ?_
  (conv=>whnf)<;>repeat' first|(refine aE ?_;conv=>whnf)|(refine aD ?_;conv=>whnf)
  rw[aDx ho];exact⟨rfl,rfl⟩
 ·exact⟨rfl,rfl⟩
set_option maxHeartbeats 1000000 in
theorem tH(b:Bool)(l:List Area)(page:Int)(hl:l.length≤4611686018427387904)(ho:∀a,a∈l→bL a=true):
  aDC Try.prog 96 [.one (.ro b 4 (l.map rA)),.one (.fn 97 [(0,0,0)])] [dI page] (.v (.one (dI (bA l page)))) [dI page]:=by
 refine aS hmix Try.func96 ok96 ?_;conv=>whnf
 refine ao (fun i:Nat=>[(0,.v (.one (.ro b 4 (l.map rA)))),(1,.v (.one (.fn 97 [(0,0,0)]))),(7,.v (.one (dI (l.map rA).length))),(8,.v (.one (dI i)))]) (fun _=>[(0,.box [dI page])]) (fun _=>1)
  (fun i=>i≤l.length∧bA l page=gQ page (l.drop i) i) (fun i=>l.length-i) 0 ⟨by omega,rfl⟩ rfl rfl rfl fun i hi=>?_
 obtain⟨hi1,hi2⟩:=hi;conv=>whnf
 refine CondP.mk (fun h=>?_) (fun h=>?_)<;>conv=>whnf
 ·have hlt:i<l.length:=by simpa using h
  refine aN (k:=i) rfl rfl (by simpa using hlt) ?_;conv=>whnf
  refine aH rfl (r:=.agg (aA l[i])) (ldA hlt) ?_;conv=>whnf
  refine yK [.pass,.pass] [0] rfl rfl rfl rfl rfl (aC2 l[i] page (aEM ho hlt)) fun res H3 hp=>?_
  obtain⟨rfl,rfl⟩:=hp;refine⟨rfl,rfl,_,rfl,?_⟩;conv=>whnf
  refine CondP.mk (fun h1=>?_) (fun h1=>?_)<;>conv=>whnf
  ·refine⟨?_,rfl⟩;have:l[i].fr≤page∧page<l[i].fr+l[i].mn:=by simpa using h1
   rw[hi2,iW hlt,if_pos this];rfl
  ·refine⟨i+1,by omega,⟨by omega,?_⟩,?_,rfl,rfl⟩
   ·have:¬(l[i].fr≤page∧page<l[i].fr+l[i].mn):=by intro ⟨k1,k2⟩;simp[k1,k2]at h1
    rw[hi2,iW hlt,if_neg this]
   ·rw[←up hlt hl];rfl
 ·refine⟨?_,rfl⟩;have:i=l.length:=by
               have:¬i<l.length:=by simpa using h
               omega
  subst this;rw[hi2,List.drop_length];rfl
theorem lq(b:Bool)(l:List Area)(page:Int)(hl:l.length≤4611686018427387904):bC Try.prog 40 [.one (.ro b 4 (l.map rA)),.one (dI page)] (.v (.one (dI (dZ l page)))):=by
 refine aS hmix Try.func40 ok40 ?_;conv=>whnf
 refine aC [.pass] rfl rfl rfl (pO b l hl) rfl ?_;conv=>whnf
 refine CondP.mk (fun h=>?_) (fun h=>?_)<;>conv=>whnf
 ·refine⟨?_,rfl⟩;have:ay l=false:=by simpa using h
  rw[dZ,this];rfl
 ·have h:ay l=true:=by simpa using h
  refine z5 rfl rfl ?_;conv=>whnf
  refine pw [.pass,.pass] [0] rfl rfl rfl rfl (tH b l page hl (fW h)) fun res H3 hp=>?_
  obtain⟨rfl,rfl⟩:=hp;refine⟨rfl,rfl,_,rfl,?_⟩;conv=>whnf
  refine⟨?_,rfl⟩;rw[dZ,h];rfl
end Go.Qm
namespace Go.Qm
open Go.Cq Go.Cq.D Go.RowKit Go.Proofs
set_option maxRecDepth 10000
set_option maxHeartbeats 2000000 in
theorem gN(b:Bool)(l:List Area)(hl:l.length≤4611686018427387904):bC Try.prog 148 [.one (.ro b 4 (l.map rA))] (.v (.one (dB (ay l)))):=by
 refine aS hmix Try.func148 ok148 ?_;conv=>whnf
 refine ao (fun i:Nat=>[(0,.v (.one (.ro b 4 (l.map rA)))),(3,.v (.one (dI i)))]) (fun _=>[]) (fun _=>0)
  (fun i=>i≤l.length∧ay l=(dr l i&&decide (l.length≤6))∧∀j(hj:j<l.length),j<i→bL l[j]=true) (fun i=>l.length-i) 0 ⟨by omega,rfl,by omega⟩ rfl rfl rfl fun i hi=>?_
 obtain⟨hi1,hi2,hi3⟩:=hi;conv=>whnf
 refine CondP.mk (fun h=>?_) (fun h=>?_)<;>conv=>whnf
 ·have hlt:i<l.length:=by simpa using h
  refine aN (k:=i) rfl rfl (by simpa using hlt) ?_;conv=>whnf
  refine aH rfl (r:=.agg (aA l[i])) (ldA hlt) ?_;conv=>whnf
  refine aC [.pass] rfl rfl rfl (ll l[i]) rfl ?_;conv=>whnf
  have fin:bL l[i]=false→DT.v (DV.one (DC.sc (.bool false)))= .v (.one (dB (ay l))):=fun e=>by rw[hi2,dX hlt,e];rfl
  refine CondP.mk (fun h1=>?_) (fun h1=>?_)<;>rw[h1]<;>(conv=>whnf)<;>repeat' first|(refine aE ?_;conv=>whnf)|(refine aD ?_;conv=>whnf)
  ·exact⟨fin (by simpa using h1),rfl⟩
  ·have ho:bL l[i]=true:=by simpa using h1
   have hstep:decide (0< (i:Int))=false∨kf l i l[i]=true→ay l=(dr l (i+1)&&decide (l.length≤6)):=fun e=>by
    rw[hi2,dX hlt,ho];rcases e with e|e
    ·have:i=0:=by simp at e;omega
     simp[this]
    ·rw[e];simp
   have hall:∀j(hj:j<l.length),j<i+1→bL l[j]=true:=fun j hj h2=>by
    by_cases e:j=i
    ·subst e;exact ho
    ·exact hi3 j hj (by omega)
   refine CondP.mk (fun h2=>?_) (fun h2=>?_)<;>rw[h2]<;>(conv=>whnf)<;>repeat' first|(refine aE ?_;conv=>whnf)|(refine aD ?_;conv=>whnf)
   ·have hi0:i≠0:=by simp at h2;omega
    have hlt':i-1<l.length:=by omega
    refine aN (k:=i-1) rfl (ix hlt hl hi0) (by simpa using hlt') ?_
    (conv=>whnf)<;>repeat' first|(refine aE ?_;conv=>whnf)|(refine aD ?_;conv=>whnf)
    refine aH rfl (r:=.one (dI l[i-1].fr)) (by simp[ak,rA,hlt',eI,dI]) ?_
    (conv=>whnf)<;>repeat' first|(refine aE ?_;conv=>whnf)|(refine aD ?_;conv=>whnf)
    refine aN (k:=i-1) rfl (ix hlt hl hi0) (by simpa using hlt') ?_
    (conv=>whnf)<;>repeat' first|(refine aE ?_;conv=>whnf)|(refine aD ?_;conv=>whnf)
    refine aH rfl (r:=.one (dI l[i-1].mn)) (by simp[ak,rA,hlt',eI,dI]) ?_
    (conv=>whnf)<;>repeat' first|(refine aE ?_;conv=>whnf)|(refine aD ?_;conv=>whnf)
    refine aN (k:=i) rfl rfl (by simpa using hlt) ?_
    (conv=>whnf)<;>repeat' first|(refine aE ?_;conv=>whnf)|(refine aD ?_;conv=>whnf)
    refine aH rfl (r:=.one (dI l[i].fr)) (by simp[ak,rA,hlt,eI,dI]) ?_
    (conv=>whnf)<;>repeat' first|(refine aE ?_;conv=>whnf)|(refine aD ?_;conv=>whnf)
    have he:=aDx (hi3 (i-1) hlt' (by omega));rw[he];refine CondP.mk (fun h3=>?_) (fun h3=>?_)<;>conv=>whnf
    ·refine⟨?_,rfl⟩;rw[hi2,dX hlt,ho,kf,List.getElem?_eq_getElem hlt'];have:¬l[i-1].fr+l[i-1].mn≤l[i].fr:=by simpa using h3
     simp[this,hi0,dB]
    ·refine⟨i+1,by omega,⟨by omega,hstep (.inr ?_),hall⟩,?_,rfl,rfl⟩
     ·rw[kf,List.getElem?_eq_getElem hlt'];simpa using h3
     ·rw[←up hlt hl];rfl
   ·refine⟨i+1,by omega,⟨by omega,hstep (.inl h2),hall⟩,?_,rfl,rfl⟩;rw[←up hlt hl];rfl
 ·refine⟨?_,rfl⟩;have:i=l.length:=by
               have:¬i<l.length:=by simpa using h
               omega
  subst this;rw[hi2,dr,List.drop_length];simp[eb,dB];omega
theorem qd(b1 b2:Bool)(s:Space)(page:Int)(hl:s.ar.length≤4611686018427387904):bC Try.prog 85 [.agg [dB s.lv,.ro b1 4 (s.ar.map rA),.ro b2 4 (s.sl.map rL)],.one (dI page)] (.v (.one (dB (jT s.ar (dZ s.ar page))))):=by
 refine aS hmix Try.func85 ok85 ?_;conv=>whnf
 refine aC [.pass,.pass] rfl rfl rfl (lq b1 s.ar page hl) rfl ?_;conv=>whnf
 refine CondP.mk (fun h=>?_) (fun h=>?_)<;>rw[h]<;>(conv=>whnf)<;>repeat' first|(refine aE ?_;conv=>whnf)|(refine aD ?_;conv=>whnf)
 ·have h0:0≤dZ s.ar page:=by simpa using h
  have hlt:(dZ s.ar page).toNat<s.ar.length:=by
   have e:dZ s.ar page=bA s.ar page:=by
    by_cases e:ay s.ar=true
    ·rw[dZ,if_pos e]
    ·rw[dZ,if_neg e]at h0;exact absurd h0 (by decide)
   rw[e]at h0 ⊢;exact iv h0
  refine aN (k:=(dZ s.ar page).toNat) rfl (by show some (dZ s.ar page)=_;congr 1;omega) (by simpa using hlt) ?_
  (conv=>whnf)<;>repeat' first|(refine aE ?_;conv=>whnf)|(refine aD ?_;conv=>whnf)
  refine aH rfl (r:=.one (dB s.ar[(dZ s.ar page).toNat].sh)) (by simp[ak,rA,hlt,eB,dB]) ?_;conv=>whnf
  refine⟨?_,rfl⟩;simp[jT,h0,hlt,dB]
 ·refine⟨?_,rfl⟩;have h0:¬0≤dZ s.ar page:=by simpa using h
  simp[jT,h0,dB]
theorem lV(b1 b2:Bool)(s:Space)(page:Int)(hl:s.ar.length≤4611686018427387904)(ho:∀a,a∈s.ar→bL a=true):bC Try.prog 149 [.agg [dB s.lv,.ro b1 4 (s.ar.map rA),.ro b2 4 (s.sl.map rL)],.one (dI page)] (.v (.one (dB (jT s.ar (bA s.ar page))))):=by
 refine aS hmix Try.func149 ok149 ?_;conv=>whnf
 refine aC [.pass,.pass] rfl rfl rfl (oW b1 s.ar page hl ho) rfl ?_;conv=>whnf
 refine CondP.mk (fun h=>?_) (fun h=>?_)<;>rw[h]<;>(conv=>whnf)<;>repeat' first|(refine aE ?_;conv=>whnf)|(refine aD ?_;conv=>whnf)
 ·have h0:0≤bA s.ar page:=by simpa using h
  have hlt:(bA s.ar page).toNat<s.ar.length:=by exact iv h0
  refine aN (k:=(bA s.ar page).toNat) rfl (by show some (bA s.ar page)=_;congr 1;omega) (by simpa using hlt) ?_
  (conv=>whnf)<;>repeat' first|(refine aE ?_;conv=>whnf)|(refine aD ?_;conv=>whnf)
  refine aH rfl (r:=.one (dB s.ar[(bA s.ar page).toNat].sh)) (by simp[ak,rA,hlt,eB,dB]) ?_;conv=>whnf
  refine⟨?_,rfl⟩;simp[jT,h0,hlt,dB]
 ·refine⟨?_,rfl⟩;have h0:¬0≤bA s.ar page:=by simpa using h
  simp[jT,h0,dB]
theorem aCV(b1 b2 b3 b4 b5:Bool)(m:Mem)(k:Int)(hl:m.sp.length≤4611686018427387904):bC Try.prog 63 [.agg [.ro b1 1 (m.ram.tx.map rS),.ro b2 1 (m.ram.rf.map rI),.ro b3 1 (m.swp.tx.map rS),.ro b4 1 (m.swp.rf.map rI),.ro b5 3 (m.sp.map rP),dI m.hd],.one (dI k)] (.v (.one (dB (fe m.sp k)))):=by
 refine aS hmix Try.func63 ok63 ?_;conv=>whnf
 refine aC [.pass,.pass,.pass] rfl rfl rfl (je _ _ _) rfl ?_;conv=>whnf
 have hw:IntKind.wrap .i64 ((m.sp.map rP).length-1)=m.sp.length-1:=by rw[List.length_map];exact wrap64 (by omega) (by omega)
 refine CondP.mk (fun h=>?_) (fun h=>?_)<;>rw[h]<;>(conv=>whnf)<;>repeat' first|(refine aE ?_;conv=>whnf)|(refine aD ?_;conv=>whnf)
 ·have h':=h;rw[show IntKind.wrap .i64 _=_ from hw]at h';have hk:=h';simp only[inB,Bool.and_eq_true,decide_eq_true_eq]at hk;have hlt:k.toNat<m.sp.length:=by omega
  refine aN (k:=k.toNat) rfl (by show some k=_;congr 1;omega) (by simpa using hlt) ?_
  (conv=>whnf)<;>repeat' first|(refine aE ?_;conv=>whnf)|(refine aD ?_;conv=>whnf)
  refine aH rfl (r:=.one (dB m.sp[k.toNat].lv)) (by simp[ak,rP,hlt,eB,dB]) ?_;conv=>whnf
  refine⟨?_,rfl⟩;simp[fe,h',hlt,dB]
 ·rw[show IntKind.wrap .i64 _=_ from hw]at h;refine⟨?_,rfl⟩;rw[fe,h];rfl
theorem ma(b1 b2 b3 b4 b5:Bool)(m:Mem)(k:Int)(hl:m.sp.length≤4611686018427387904):bC Try.prog 58 [.agg [.ro b1 1 (m.ram.tx.map rS),.ro b2 1 (m.ram.rf.map rI),.ro b3 1 (m.swp.tx.map rS),.ro b4 1 (m.swp.rf.map rI),.ro b5 3 (m.sp.map rP),dI m.hd],.one (dI k)] (.v (.one (dB (fe m.sp k)))):=by
 refine aS hmix Try.func58 ok58 ?_;conv=>whnf
 refine aC [.pass,.pass,.pass] rfl rfl rfl (gV _ _ _) rfl ?_;conv=>whnf
 have hw:IntKind.wrap .i64 ((m.sp.map rP).length-1)=m.sp.length-1:=by rw[List.length_map];exact wrap64 (by omega) (by omega)
 refine CondP.mk (fun h=>?_) (fun h=>?_)<;>rw[h]<;>(conv=>whnf)<;>repeat' first|(refine aE ?_;conv=>whnf)|(refine aD ?_;conv=>whnf)
 ·have h':=h;rw[show IntKind.wrap .i64 _=_ from hw]at h';have hk:=h';simp only[inB,Bool.and_eq_true,decide_eq_true_eq]at hk;have hlt:k.toNat<m.sp.length:=by omega
  refine aN (k:=k.toNat) rfl (by show some k=_;congr 1;omega) (by simpa using hlt) ?_
  (conv=>whnf)<;>repeat' first|(refine aE ?_;conv=>whnf)|(refine aD ?_;conv=>whnf)
  refine aH rfl (r:=.one (dB m.sp[k.toNat].lv)) (by simp[ak,rP,hlt,eB,dB]) ?_;conv=>whnf
  refine⟨?_,rfl⟩;simp[fe,h',hlt,dB]
 ·rw[show IntKind.wrap .i64 _=_ from hw]at h;refine⟨?_,rfl⟩;rw[fe,h];rfl
end Go.Qm
namespace Go.Qm
open Go.Cq Go.Cq.D Go.RowKit Go.Proofs
set_option maxRecDepth 10000
set_option maxHeartbeats 1000000 in
theorem oE(b1 b2:Bool)(p:Pages)(h1:p.tx.length≤4611686018427387904)(h2:p.rf.length≤4611686018427387904):bC Try.prog 86 [.agg [.ro b1 1 (p.tx.map rS),.ro b2 1 (p.rf.map rI)]] (.v (.one (dB (bu p)))):=by
 refine aS hmix Try.func86 ok86 ?_;conv=>whnf
 refine CondP.mk (fun h=>?_) (fun h=>?_)<;>rw[h]<;>(conv=>whnf)<;>repeat' first|(refine aE ?_;conv=>whnf)|(refine aD ?_;conv=>whnf)
 ·refine⟨?_,rfl⟩;have:¬p.tx.length=p.rf.length:=by simp at h;omega
  simp[bu,this,dB]
 ·have hl:p.tx.length=p.rf.length:=by simp at h;omega
  refine aC [.pass,.pass,.pass] rfl rfl rfl (gV _ _ _) rfl ?_
  (conv=>whnf)<;>repeat' first|(refine aE ?_;conv=>whnf)|(refine aD ?_;conv=>whnf)
  refine CondP.mk (fun h=>?_) (fun h=>?_)<;>conv=>whnf
  ·refine⟨?_,rfl⟩;have h:inB p.tx.length 1 12=false:=by simpa using h
   simp[bu,h,dB]
  ·have hb:inB p.tx.length 1 12=true:=by simpa using h
   refine ao (fun i:Nat=>[(1,.v (.one (.ptr 0 0 0))),(3,.v (.one (dI i)))]) (fun _=>[(0,.box [.ro b1 1 (p.tx.map rS),.ro b2 1 (p.rf.map rI)])]) (fun _=>1)
    (fun i=>i≤p.rf.length∧bu p=ed (p.tx.drop i) (p.rf.drop i)) (fun i=>p.rf.length-i) 0 ⟨by omega,by simp[bu,hl,hl▸hb]⟩ rfl rfl rfl fun i hi=>?_
   conv=>whnf
   refine CondP.mk (fun h=>?_) (fun h=>?_)<;>conv=>whnf
   ·have hi1:i<p.tx.length:=by simpa using h
    have hi2:i<p.rf.length:=by omega
    refine aN (k:=i) rfl rfl (by simpa using hi2) ?_;conv=>whnf
    refine aH rfl (r:=.one (dI p.rf[i])) (by simp[ak,rI,hi2,eI,dI]) ?_;conv=>whnf
    refine CondP.mk (fun h0=>?_) (fun h0=>?_)<;>conv=>whnf
    all_goals
     refine aN (k:=i) rfl rfl (by simpa using hi2) ?_;conv=>whnf
     refine aH rfl (r:=.one (dI p.rf[i])) (by simp[ak,rI,hi2,eI,dI]) ?_;conv=>whnf
     refine aC [.pass,.pass,.pass] rfl rfl rfl (gV _ _ _) rfl ?_;conv=>whnf
     refine CondP.mk (fun h9=>?_) (fun h9=>?_)<;>rw[h9]<;>(conv=>whnf)<;>repeat' first|(refine aE ?_;conv=>whnf)|(refine aD ?_;conv=>whnf)
    ·refine⟨?_,rfl⟩;have h9:inB p.rf[i] 0 99=false:=by simpa using h9
     rw[hi.2,cH hi1 hi2,dw,h9];rfl
    ·have h9:inB p.rf[i] 0 99=true:=by simpa using h9
     refine aN (k:=i) rfl rfl (by simpa using hi1) ?_
     (conv=>whnf)<;>repeat' first|(refine aE ?_;conv=>whnf)|(refine aD ?_;conv=>whnf)
     refine aH rfl (r:=.one (.sc (.str p.tx[i]))) (by simp[ak,rS,hi1,eS]) ?_
     (conv=>whnf)<;>repeat' first|(refine aE ?_;conv=>whnf)|(refine aD ?_;conv=>whnf)
     refine CondP.mk (fun h8=>?_) (fun h8=>?_)<;>conv=>whnf
     ·refine⟨?_,rfl⟩;rw[hi.2,cH hi1 hi2,dw,h9];simp at h0 h8;simp[h0,h8,dB]
     ·refine⟨i+1,by omega,⟨by omega,?_⟩,?_,rfl,rfl⟩
      ·rw[hi.2,cH hi1 hi2,dw,h9];simp at h0 h8;simp[h0,h8]
      ·rw[←up hi2 h2];rfl
    ·refine⟨?_,rfl⟩;have h9:inB p.rf[i] 0 99=false:=by simpa using h9
     rw[hi.2,cH hi1 hi2,dw,h9];rfl
    ·have h9:inB p.rf[i] 0 99=true:=by simpa using h9
     refine aN (k:=i) rfl rfl (by simpa using hi1) ?_
     (conv=>whnf)<;>repeat' first|(refine aE ?_;conv=>whnf)|(refine aD ?_;conv=>whnf)
     refine aH rfl (r:=.one (.sc (.str p.tx[i]))) (by simp[ak,rS,hi1,eS]) ?_
     (conv=>whnf)<;>repeat' first|(refine aE ?_;conv=>whnf)|(refine aD ?_;conv=>whnf)
     refine CondP.mk (fun h8=>?_) (fun h8=>?_)<;>conv=>whnf
     ·refine⟨?_,rfl⟩;rw[hi.2,cH hi1 hi2,dw,h9];simp at h0 h8;simp[h0,h8,dB]
     ·refine⟨i+1,by omega,⟨by omega,?_⟩,?_,rfl,rfl⟩
      ·rw[hi.2,cH hi1 hi2,dw,h9];simp at h0 h8;simp[h0,h8]
      ·rw[←up hi2 h2];rfl
   ·refine⟨?_,rfl⟩;have:i=p.tx.length:=by
                   have:¬i<p.tx.length:=by simpa using h
                   omega
    subst this;have:=hi.2;rw[List.drop_eq_nil_of_le (by omega),ed]at this;rw[this];rfl
    all_goals simp
end Go.Qm
namespace Go.Qm
open Go.Cq Go.Cq.D Go.RowKit Go.Proofs
set_option maxRecDepth 10000
theorem f7{b:Bool}(h:b=false):DT.v (DV.one (DC.sc (.bool false)))= .v (.one (dB b))∧([]:DH)=[]:=by rw[h];exact⟨rfl,rfl⟩
theorem aCr{b:Bool}(h:b=true):DT.v (DV.one (DC.sc (.bool true)))= .v (.one (dB b))∧([]:DH)=[]:=by rw[h];exact⟨rfl,rfl⟩
theorem pL{P:Prg}{ts:DTs}{H:DH}{n:Nat}{K:DT→DTs→DH→Nat→List Nat→Prop}{neg:Bool}{ks:List LK}{x y:Opd}{xs ys:List DC}{cs ds:List CV}{b:Bool}(h1:evD ts x=some (.agg xs))(h2:evD ts y=some (.agg ys))(h3:gE xs=some cs)(h4:gE ys=some ds)(h5:bJ ks cs ds=some b)(h:K (.v (.one (.sc (.bool (if neg then !b else b))))) ts H n []):OpP P (.eqA neg ks x y) ts H n K:=⟨⟨xs,ys,cs,ds,b,h1,h2,h3,h4,h5,h⟩⟩
set_option maxHeartbeats 1000000 in
theorem vr(b1 b2:Bool)(s:Space)(h1:s.ar.length≤4611686018427387904)(h2:s.sl.length≤4611686018427387904):bC Try.prog 88 [.agg [dB s.lv,.ro b1 4 (s.ar.map rA),.ro b2 4 (s.sl.map rL)]] (.v (.one (dB (bo s)))):=by
 refine aS hmix Try.func88 ok88 ?_;conv=>whnf
 refine CondP.mk (fun h=>?_) (fun h=>?_)<;>conv=>whnf
 ·have h:s.lv=false:=by simpa using h
  refine CondP.mk (fun h3=>?_) (fun h3=>?_)<;>rw[h3]<;>(conv=>whnf)<;>repeat' first|(refine aE ?_;conv=>whnf)|(refine aD ?_;conv=>whnf)
  ·refine⟨?_,rfl⟩;simp at h3;simp[bo,h,h3,dB]
  ·refine f7 ?_;simp at h3;simp[bo,h,h3]
 have hv:s.lv=true:=by simpa using h
 refine aC [.pass] rfl rfl rfl (gN b1 s.ar h1) rfl ?_;conv=>whnf
 refine CondP.mk (fun h=>?_) (fun h=>?_)<;>rw[h]<;>(conv=>whnf)<;>repeat' first|(refine aE ?_;conv=>whnf)|(refine aD ?_;conv=>whnf)
 ·refine f7 ?_;have h:ay s.ar=false:=by simpa using h
  simp[bo,hv,h]
 have ho:ay s.ar=true:=by simpa using h
 refine CondP.mk (fun h=>?_) (fun h=>?_)<;>conv=>whnf
 ·refine f7 ?_;have h:¬s.sl.length=16:=by simp at h;omega
  simp[bo,hv,ho,h]
 have hl:s.sl.length=16:=by simp at h;omega
 refine ao (fun i:Nat=>[(1,.v (.one (.ptr 0 0 0))),(3,.v (.one (dI i)))]) (fun _=>[(0,.box [dB s.lv,.ro b1 4 (s.ar.map rA),.ro b2 4 (s.sl.map rL)])]) (fun _=>1)
  (fun i=>i≤s.sl.length∧bo s=cz s.ar i (s.sl.drop i)) (fun i=>s.sl.length-i) 0 ⟨by omega,by simp[bo,hv,ho,hl]⟩ rfl rfl rfl fun i hi=>?_
 obtain⟨hi1,hi2⟩:=hi;conv=>whnf
 refine CondP.mk (fun h=>?_) (fun h=>?_)<;>conv=>whnf
 ·have hlt:i<s.sl.length:=by simp at h;omega
  have no:dC s.ar i s.sl[i]=false→bo s=false:=fun e=>by rw[hi2,ka hlt,e];rfl
  refine aN (k:=i) rfl rfl (by simpa using hlt) ?_;conv=>whnf
  refine aH rfl (ldL hlt) ?_;conv=>whnf
  refine aC [.pass,.pass] rfl rfl rfl (oW b1 s.ar i h1 (fW ho)) rfl ?_;conv=>whnf
  have yes:dC s.ar i s.sl[i]=true→bo s=cz s.ar (i+1) (s.sl.drop (i+1)):=fun e=>by rw[hi2,ka hlt,e];rfl
  refine CondP.mk (fun h3=>?_) (fun h3=>?_)<;>rw[h3]<;>conv=>whnf
  ·have h3:s.sl[i].kd=0:=by simpa using h3
   refine pL rfl rfl rfl rfl rfl ?_;conv=>whnf
   have e:(s.sl[i].kd==0&&(s.sl[i].pl==0&&(s.sl[i].ow==false&&(s.sl[i].us==false&&true))))=dC s.ar i s.sl[i]:=by
    rw[dC,if_pos h3];rcases s.sl[i]with⟨k,p,o,u⟩
    rw[Bool.eq_iff_iff];simp[dQ]
   refine CondP.mk (fun h4=>?_) (fun h4=>?_)<;>conv=>whnf
   ·refine f7 (no ?_);rw[e]at h4;simpa using h4
   ·refine⟨i+1,by omega,⟨by omega,yes ?_⟩,?_,rfl,rfl⟩
    ·rw[e]at h4;simpa using h4
    ·rw[up hlt h2];rfl
  ·have h3:¬s.sl[i].kd=0:=by simpa using h3
   refine CondP.mk (fun h4=>?_) (fun h4=>?_)<;>rw[h4]<;>(conv=>whnf)<;>repeat' first|(refine aE ?_;conv=>whnf)|(refine aD ?_;conv=>whnf)
   ·refine f7 (no ?_);have h4:bA s.ar i<0:=by simpa using h4
    rw[dC,if_neg h3,decide_eq_false (by omega)];rfl
   have h4:0≤bA s.ar i:=by simpa using h4
   refine aC [.pass,.pass,.pass] rfl rfl rfl (gV _ _ _) rfl ?_
   (conv=>whnf)<;>repeat' first|(refine aE ?_;conv=>whnf)|(refine aD ?_;conv=>whnf)
   refine CondP.mk (fun h5=>?_) (fun h5=>?_)<;>conv=>whnf
   ·refine f7 (no ?_);have h5:inB s.sl[i].kd 1 2=false:=by simpa using h5
    rw[dC,if_neg h3,h5];simp
   have h5:inB s.sl[i].kd 1 2=true:=by simpa using h5
   have hat:(bA s.ar i).toNat<s.ar.length:=iv h4;refine aN (k:=(bA s.ar i).toNat) rfl (by show some (bA s.ar i)=_;congr 1;omega) (by simpa using hat) ?_;conv=>whnf
   refine aH rfl (r:=.one (dB s.ar[(bA s.ar i).toNat].sh)) (by simp[ak,rA,hat,eB,dB]) ?_;conv=>whnf
   have e:dC s.ar i s.sl[i]= !(s.ar[(bA s.ar i).toNat].sh&&!s.sl[i].ow):=by rw[dC,if_neg h3,h5,decide_eq_true h4,jT,decide_eq_true h4];simp[hat]
   refine CondP.mk (fun h6=>?_) (fun h6=>?_)<;>rw[h6]<;>(conv=>whnf)<;>repeat' first|(refine aE ?_;conv=>whnf)|(refine aD ?_;conv=>whnf)
   ·refine CondP.mk (fun h7=>?_) (fun h7=>?_)<;>conv=>whnf
    ·refine f7 (no ?_);rw[e,h6];simp at h7;simp[h7]
    ·refine⟨i+1,by omega,⟨by omega,yes ?_⟩,?_,rfl,rfl⟩
     ·rw[e,h6];simp at h7;simp[h7]
     ·rw[up hlt h2];rfl
   ·refine⟨i+1,by omega,⟨by omega,yes ?_⟩,?_,rfl,rfl⟩
    ·rw[e,h6];simp
    ·rw[up hlt h2];rfl
 ·refine aCr ?_;have:i=s.sl.length:=by
                 have:¬i<s.sl.length:=by simp at h;omega
                 omega
  subst this;rw[hi2,List.drop_length];rfl
end Go.Qm
namespace Go.Qm
open Go.Cq Go.Cq.D Go.RowKit Go.Proofs
set_option maxRecDepth 10000
theorem aES{P:Prg}{ts:DTs}{H:DH}{n:Nat}{K:DT→DTs→DH→Nat→List Nat→Prop}{x y:Opd}{a b:Int}(h1:evS ts x=some (.int .i64 a))(h2:evS ts y=some (.int .i64 b))(h:K (.v (.one (.sc (.int .i64 (max a b))))) ts H n []):OpP P (.mm true x y) ts H n K:=⟨⟨_,_,.int .i64 (max a b),h1,h2,by simp only[v7,if_true];congr 2;split<;>omega,h⟩⟩
theorem aE1{P:Prg}{ts:DTs}{H:DH}{n:Nat}{K:DT→DTs→DH→Nat→List Nat→Prop}{x y:Opd}{a b:Int}(h1:evS ts x=some (.int .i64 a))(h2:evS ts y=some (.int .i64 b))(h:K (.v (.one (.sc (.int .i64 (min a b))))) ts H n []):OpP P (.mm false x y) ts H n K:=⟨⟨_,_,.int .i64 (min a b),h1,h2,by simp only[v7,if_true];rw[if_neg (by decide)];congr 2;split<;>omega,h⟩⟩
theorem rU(a:Area)(lo hi:Int)(ho:bL a=true)(h1: -1000≤lo∧lo≤1000)(h2: -1000≤hi∧hi≤1000):bC Try.prog 181 [.agg (aA a),.one (dI lo),.one (dI hi)] (.tup [.agg (aA ((kG a lo hi).getD aEH)),.one (dB (kG a lo hi).isSome)]):=by
 refine aS hmix Try.func181 ok181 ?_;have hb:=gB.1 ho;conv=>whnf
 refine aES rfl rfl ?_;conv=>whnf
 have e1:IntKind.wrap .i64 (IntKind.wrap .i64 (a.fr+a.mn)-1)=a.fr+a.mn-1:=by rw[wrap64 (x:=a.fr+a.mn) (by omega) (by omega),wrap64 (by omega) (by omega)]
 rw[e1];refine aE1 rfl rfl ?_;conv=>whnf
 refine CondP.mk (fun h=>?_) (fun h=>?_)<;>conv=>whnf
 ·have h:min (a.fr+a.mn-1) hi<max a.fr lo:=by simpa using h
  refine⟨?_,rfl⟩;rw[kG,if_pos h];rfl
 ·have h:¬min (a.fr+a.mn-1) hi<max a.fr lo:=by simpa using h
  refine⟨?_,rfl⟩;rw[kG,if_neg h,wrap64 (x:=min (a.fr+a.mn-1) hi-max a.fr lo) (by omega) (by omega),wrap64 (by omega) (by omega)];rfl
theorem zJ{l:List Area}{fr to:Int}{i:Nat}(h:i<l.length):lE (l.take (i+1)) fr to=lE (l.take i) fr to++uc l[i] fr to:=by rw[List.take_succ_eq_append_getElem h,lE,lE,List.flatMap_append];simp
theorem zc{a:Area}{fr to:Int}:(uc a fr to).length≤2:=by unfold uc;cases kG a 0 (fr-1)<;>cases kG a (to+1) 15<;>simp
theorem tQ{l:List Area}{fr to:Int}:(lE l fr to).length≤2*l.length:=by
 induction l with
 |nil=>simp[lE]
 |cons a l ih=>have:=zc (a:=a) (fr:=fr) (to:=to);simp only[lE,List.flatMap_cons,List.length_append,List.length_cons]at ih ⊢;omega
theorem aEl{α:Type}{a b:List α}{i:Nat}(h:a.length≤2*i)(hi:i≤1048576):((((a.take a.length++b.take 1).drop 0).take (a.length+1)).length+1)*24≤140737488355328:=by rw[List.length_take];omega
theorem jw{α:Type}{a b:List α}{i:Nat}(h:a.length≤2*i)(hi:i≤1048576):(((a.take a.length++b.take 1).drop 0).take (a.length+1)).length+1≤140737488355328:=by rw[List.length_take];omega
set_option maxHeartbeats 1000000 in
theorem aA6(b:Bool)(l:List Area)(fr to:Int)(hl:l.length≤1048576)(ho:∀a,a∈l→bL a=true)(h1:0≤fr∧fr≤100)(h2:0≤to∧to≤100):bC Try.prog 163 [.one (.ro b 4 (l.map rA)),.one (dI fr),.one (dI to)] (.v (.one (.own 4 ((lE l fr to).map rA)))):=by
 refine aS hmix Try.func163 ok163 ?_;conv=>whnf
 refine bY rfl rfl rfl ?_;conv=>whnf
 refine ao (fun i:Nat=>[(0,.v (.one (.ro b 4 (l.map rA)))),(1,.v (.one (dI fr))),(2,.v (.one (dI to))),(7,.v (.one (.own 4 ((lE (l.take i) fr to).map rA)))),(8,.v (.one (dI i)))]) (fun _=>[]) (fun _=>0)
  (fun i=>i≤l.length) (fun i=>l.length-i) 0 (by omega) (by simp[lE,dI]) rfl rfl fun i hi=>?_
 conv=>whnf
 refine CondP.mk (fun h=>?_) (fun h=>?_)<;>conv=>whnf
 ·have hlt:i<l.length:=by simpa using h
  have hoi:=ho _ (List.getElem_mem hlt);have hn:=tQ (l:=l.take i) (fr:=fr) (to:=to);rw[List.length_take,Nat.min_eq_left hi]at hn;have hn':((lE (l.take i) fr to).map rA).length≤2*i:=by rw[List.length_map];exact hn
  refine aN (k:=i) rfl rfl (by simpa using hlt) ?_;conv=>whnf
  refine aH rfl (ldA hlt) ?_;conv=>whnf
  rw[wrap64 (x:=fr-1) (by omega) (by omega)];refine aC [.pass,.pass,.pass] rfl rfl rfl (rU l[i] 0 (fr-1) hoi (by omega) (by omega)) rfl ?_;conv=>whnf
  refine aN (k:=i) rfl rfl (by simpa using hlt) ?_;conv=>whnf
  refine aH rfl (ldA hlt) ?_;conv=>whnf
  rw[wrap64 (x:=to+1) (by omega) (by omega)];refine aC [.pass,.pass,.pass] rfl rfl rfl (rU l[i] (to+1) 15 hoi (by omega) (by omega)) rfl ?_;conv=>whnf
  have hc:=zJ (fr:=fr) (to:=to) hlt;cases hp:kG l[i] 0 (fr-1)with
  |none=>
   (conv=>whnf)<;>repeat' first|(refine aE ?_;conv=>whnf)|(refine aD ?_;conv=>whnf)
   cases hq:kG l[i] (to+1) 15 with
   |none=>
    (conv=>whnf)<;>repeat' first|(refine aE ?_;conv=>whnf)|(refine aD ?_;conv=>whnf)
    refine⟨i+1,by omega,by omega,?_,rfl,rfl⟩;rw[up hlt (by omega),hc,uc,hp,hq];simp[dI]
   |some y=>
    (conv=>whnf)<;>repeat' first|(refine aE ?_;conv=>whnf)|(refine aD ?_;conv=>whnf)
    refine bY rfl rfl rfl ?_;conv=>whnf
    refine dW [] [] 1 (sz:=4) rfl rfl rfl rfl rfl rfl rfl rfl (by omega) (by omega) ?_;conv=>whnf
    refine⟨i+1,by omega,by omega,?_,rfl,rfl⟩;rw[up hlt (by omega),hc,uc,hp,hq];simp[dI,rA,eI,eB,List.replicate,List.take_of_length_le]
  |some x=>
   (conv=>whnf)<;>repeat' first|(refine aE ?_;conv=>whnf)|(refine aD ?_;conv=>whnf)
   refine bY rfl rfl rfl ?_;conv=>whnf
   refine dW [] [] 1 (sz:=4) rfl rfl rfl rfl rfl rfl rfl rfl (by omega) (by omega) ?_;conv=>whnf
   cases hq:kG l[i] (to+1) 15 with
   |none=>
    (conv=>whnf)<;>repeat' first|(refine aE ?_;conv=>whnf)|(refine aD ?_;conv=>whnf)
    refine⟨i+1,by omega,by omega,?_,rfl,rfl⟩;rw[up hlt (by omega),hc,uc,hp,hq];simp[dI,rA,eI,eB,List.replicate,List.take_of_length_le]
   |some y=>
    (conv=>whnf)<;>repeat' first|(refine aE ?_;conv=>whnf)|(refine aD ?_;conv=>whnf)
    refine bY rfl rfl rfl ?_;conv=>whnf
    refine dW [] [] 1 (sz:=4) rfl rfl rfl rfl rfl rfl rfl rfl (aEl hn' (by omega)) (jw hn' (by omega)) ?_;conv=>whnf
    refine⟨i+1,by omega,by omega,?_,rfl,rfl⟩;rw[up hlt (by omega),hc,uc,hp,hq];simp[dI,rA,eI,eB,List.replicate,List.take_of_length_le]
 ·have:i=l.length:=by
               have:¬i<l.length:=by simpa using h
               omega
  subst this;refine⟨?_,rfl⟩;simp
end Go.Qm
namespace Go.Qm
open Go.Cq Go.Cq.D Go.RowKit Go.Proofs
set_option maxRecDepth 10000
def jL(l:List Area)(fr mn:Int):Option (List Area):=if ay l&&bL ⟨fr,mn,false,false⟩then(if ay (lE l fr (fr+mn-1))then some (lE l fr (fr+mn-1))else none)else none
set_option maxHeartbeats 1000000 in
theorem sE(b:Bool)(l:List Area)(fr mn:Int)(hl:l.length≤1048576):bC Try.prog 123 [.one (.ro b 4 (l.map rA)),.one (dI fr),.one (dI mn)] (.tup [.one (.own 4 (((jL l fr mn).getD []).map rA)),.one (dB (jL l fr mn).isSome)]):=by
 refine aS hmix Try.func123 ok123 ?_;conv=>whnf
 refine aC [.pass] rfl rfl rfl (gN b l (by omega)) rfl ?_;conv=>whnf
 refine CondP.mk (fun h1=>?_) (fun h1=>?_)<;>rw[h1]<;>(conv=>whnf)<;>repeat' first|(refine aE ?_;conv=>whnf)|(refine aD ?_;conv=>whnf)
 ·refine bY rfl rfl rfl ?_;conv=>whnf
  refine⟨?_,rfl⟩;rw[jL,show ay l=false by simpa using h1];simp[dB]
 have h1:ay l=true:=by simpa using h1
 refine aC [.pass] rfl rfl rfl (ll ⟨fr,mn,false,false⟩) rfl ?_
 (conv=>whnf)<;>repeat' first|(refine aE ?_;conv=>whnf)|(refine aD ?_;conv=>whnf)
 refine CondP.mk (fun h2=>?_) (fun h2=>?_)<;>conv=>whnf
 ·refine bY rfl rfl rfl ?_;conv=>whnf
  refine⟨?_,rfl⟩;rw[jL,show bL ⟨fr,mn,false,false⟩=false by simpa using h2];simp[dB]
 have h2:bL ⟨fr,mn,false,false⟩=true:=by simpa using h2
 have hb:=gB.1 h2;simp only at hb;rw[wrap64 (x:=fr+mn) (by omega) (by omega),wrap64 (x:=fr+mn-1) (by omega) (by omega)];refine aC [.pass,.pass,.pass] rfl rfl rfl (aA6 b l fr (fr+mn-1) hl (fW h1) (by omega) (by omega)) rfl ?_;conv=>whnf
 have hn:=tQ (l:=l) (fr:=fr) (to:=fr+mn-1);simp only[List.drop_zero,List.take_length];refine aC [.lend] rfl (by show some [DV.one (DC.ro true 4 (List.take _ (List.drop 0 _)))]=_;rw[List.drop_zero,List.take_length]) rfl (gN true (lE l fr (fr+mn-1)) (by omega)) rfl ?_;conv=>whnf
 refine CondP.mk (fun h3=>?_) (fun h3=>?_)<;>conv=>whnf
 ·refine bY rfl rfl rfl ?_;conv=>whnf
  refine⟨?_,rfl⟩;rw[jL,h1,h2,show ay (lE l fr (fr+mn-1))=false by simpa using h3];simp[dB]
 ·refine⟨?_,rfl⟩;rw[jL,h1,h2,show ay (lE l fr (fr+mn-1))=true by simpa using h3];simp[dB]
end Go.Qm
namespace Go.Qm
open Go.Cq Go.Cq.D Go.RowKit Go.Proofs
set_option maxRecDepth 10000
end Go.Qm
namespace Go.Qm
open Go.Cq Go.Cq.D Go.RowKit Go.Proofs
set_option maxRecDepth 10000
theorem ri(p:Pages)(k:Nat)(h1:k<p.tx.length)(h2:k<p.rf.length)(hb: -1000≤p.rf[k]∧p.rf[k]≤1000):bC Try.prog 164 [.agg [.own 1 (p.tx.map rS),.own 1 (p.rf.map rI)],.one (dI k)] (.v (.agg [.own 1 ((cI p k).tx.map rS),.own 1 ((cI p k).rf.map rI)])):=by
 refine aS hmix Try.func164 ok164 ?_;conv=>whnf
 refine aB (k:=k) rfl rfl rfl (by simpa using h2) ?_;conv=>whnf
 refine bR rfl rfl rfl (aT (row:=rI p.rf[k]) (by simp[h2]) rfl rfl rfl) rfl ?_;conv=>whnf
 have ew:IntKind.wrap .i64 (p.rf[k]-1)=p.rf[k]-1:=wrap64 (by omega) (by omega);simp only[ew];refine aB (k:=k) rfl rfl rfl (by simpa using h2) ?_;conv=>whnf
 refine aI rfl rfl rfl (by simpa using h2) (by decide) ?_;conv=>whnf
 refine aB (k:=k) rfl rfl rfl (by simpa using h2) ?_;conv=>whnf
 refine bR rfl rfl rfl (aT (row:=rI (p.rf[k]-1)) (by simp[h2,rI,eI]) rfl rfl rfl) rfl ?_;conv=>whnf
 have hr:p.rf[k]?.getD 0=p.rf[k]:=by simp[h2]
 have hset:(p.rf.map rI).set k (rI (p.rf[k]-1))=(p.rf.set k (p.rf[k]-1)).map rI:=map_set;have hm:(p.rf.map rI).modify k (fun row=>row.set 0 (.sc (.int .i64 (p.rf[k]-1))))=(p.rf.set k (p.rf[k]-1)).map rI:=by rw[af (ai (f:=rI) (List.getElem?_eq_getElem h2)),←hset];rfl
 refine CondP.mk (fun h=>?_) (fun h=>?_)<;>conv=>whnf
 ·have h:p.rf[k]=1:=by simp at h;omega
  refine aB (k:=k) rfl rfl rfl (by simpa using h1) ?_;conv=>whnf
  refine aI rfl rfl rfl (by simpa using h1) (by decide) ?_;conv=>whnf
  refine⟨?_,rfl⟩;have ht:(p.tx.map rS).modify k (fun row=>row.set 0 (.sc (.str [])))=(p.tx.set k []).map rS:=by rw[af (ai (f:=rS) (List.getElem?_eq_getElem h1)),←map_set];rfl
  simp only[cI,hr,if_pos h,List.drop_zero,ht,hm,List.take_of_length_le,List.length_map,List.length_set,Nat.le_refl]
 ·have h:¬p.rf[k]=1:=by simp at h;omega
  refine⟨?_,rfl⟩;simp only[cI,hr,if_neg h,List.drop_zero,hm,List.take_of_length_le,List.length_map,List.length_set,Nat.le_refl]
end Go.Qm
namespace Go.Qm
open Go.Cq Go.Cq.D Go.RowKit Go.Proofs
set_option maxRecDepth 10000
theorem jE{α:Type}{es:List α}{i:Nat}{row:α}(h:es[i]?=some row):es.set i row=es:=by obtain⟨hi,rfl⟩:=List.getElem?_eq_some_iff.1 h;exact List.set_getElem_self hi
theorem bf{sp:List Space}{i j:Nat}{x:Slot}(hi:i<sp.length):(sp.map rP).modify i (fun row=>row.set 2 (.sl 4 ((sp[i].sl.map rL).set j (rL x))))=(aF sp i j x).map rP:=by rw[af (ai (f:=rP) (List.getElem?_eq_getElem hi)),aF,i4 (List.getElem?_eq_getElem hi),←map_set,map_set (f:=rL)];rfl
set_option maxHeartbeats 1000000 in
theorem ql(m:Mem)(i j:Nat)(hi:i<m.sp.length)(hj:j<m.sp[i].sl.length)(hr:m.sp[i].sl[j].kd=1→∃k:Nat,m.sp[i].sl[j].pl=k∧k<m.ram.tx.length∧∃h:k<m.ram.rf.length, -1000≤m.ram.rf[k]∧m.ram.rf[k]≤1000)(hw:m.sp[i].sl[j].kd=2→∃k:Nat,m.sp[i].sl[j].pl=k∧k<m.swp.tx.length∧∃h:k<m.swp.rf.length, -1000≤m.swp.rf[k]∧m.swp.rf[k]≤1000):
  bC Try.prog 124 [oM m,.one (dI i),.one (dI j)] (.v (oM (ik m i j))):=by
 refine aS hmix Try.func124 ok124 ?_;conv=>whnf
 refine aB (k:=i) rfl rfl rfl (by simpa using hi) ?_;conv=>whnf
 have hg:(m.sp.map rP)[i]?=some (rP m.sp[i]):=by simp[hi]
 refine cK (i:=i) (k:=2) (sz':=4) (es':=m.sp[i].sl.map rL) m.sp[i].sl.length rfl rfl rfl (aT (by rw[List.drop_zero,List.take_length];exact hg) rfl rfl rfl) rfl (by simp) ?_;conv=>whnf
 refine aB (k:=j) rfl rfl rfl hj ?_;conv=>whnf
 refine nD (row:=rL m.sp[i].sl[j]) rfl rfl rfl (by simp[hj]) (cu _) rfl rfl ?_;conv=>whnf
 have hback:(m.sp.map rP).modify i (fun row=>row.set 2 (.sl 4 (m.sp[i].sl.map rL)))=m.sp.map rP:=by rw[af hg];exact jE hg
 refine aR (i:=i) (k:=2) (g':=8) (lo:=0) (len:=m.sp[i].sl.length) (es2:=m.sp.map rP) (ov2:=[]) rfl (ah (by rw[List.drop_zero,List.take_length];exact hg) (by simp[rP]) (by simp only[ab,if_true];rfl)) rfl rfl (by rw[List.drop_zero,List.take_length,List.drop_zero,ae];exact hback) (by simp only[ag,if_true];rfl) ?_;conv=>whnf
 have hbd:(m.sp[i]?.bind fun s=>s.sl[j]?)=some m.sp[i].sl[j]:=by simp[hi,hj]
 have hsl:(aF m.sp i j dQ).length=m.sp.length:=by simp[aF]
 have htk:((aF m.sp i j dQ).map rP).take m.sp.length=(aF m.sp i j dQ).map rP:=List.take_of_length_le (by simp[hsl]);simp only[List.drop_zero,List.take_length];refine CondP.mk (fun c1=>?_) (fun c1=>?_)<;>conv=>whnf
 ·have c1:m.sp[i].sl[j].kd=1:=by simpa using c1
  obtain⟨k,e1,e2,e3,e4⟩:=hr c1;simp only[e1];refine aC [.fX,.pass] rfl rfl rfl (by simpa [dI]using ri m.ram k e2 e3 e4) rfl ?_;conv=>whnf
  refine aB (k:=i) rfl rfl rfl (by simpa using hi) ?_;conv=>whnf
  refine cK (i:=i) (k:=2) (sz':=4) (es':=m.sp[i].sl.map rL) m.sp[i].sl.length rfl rfl rfl (aT hg rfl rfl rfl) rfl (by simp) ?_;conv=>whnf
  refine aB (k:=j) rfl rfl rfl hj ?_;conv=>whnf
  refine cG (row':=rL dQ) rfl rfl rfl (by simpa using hj) (eH (fun _=>rfl)) (cu _) rfl rfl rfl ?_;conv=>whnf
  refine aR (i:=i) (k:=2) (g':=8) (lo:=0) (len:=m.sp[i].sl.length) (es2:=(aF m.sp i j dQ).map rP) (ov2:=[]) rfl (ah hg (by simp[rP]) (by simp only[ab,if_true];rfl)) rfl rfl (by rw[List.drop_zero,List.take_of_length_le (by simp)];exact bf hi) (by simp only[ag,if_true];rfl) ?_;conv=>whnf
  refine⟨?_,rfl⟩;simp only[ik,hbd];simp[oM,dI,c1,e1,htk]
 ·have c1:¬m.sp[i].sl[j].kd=1:=by simpa using c1
  refine CondP.mk (fun c2=>?_) (fun c2=>?_)<;>conv=>whnf
  ·have c2:m.sp[i].sl[j].kd=2:=by simpa using c2
   obtain⟨k,e1,e2,e3,e4⟩:=hw c2;simp only[e1];refine aC [.fX,.pass] rfl rfl rfl (by simpa [dI]using ri m.swp k e2 e3 e4) rfl ?_;conv=>whnf
   refine aB (k:=i) rfl rfl rfl (by simpa using hi) ?_;conv=>whnf
   refine cK (i:=i) (k:=2) (sz':=4) (es':=m.sp[i].sl.map rL) m.sp[i].sl.length rfl rfl rfl (aT hg rfl rfl rfl) rfl (by simp) ?_;conv=>whnf
   refine aB (k:=j) rfl rfl rfl hj ?_;conv=>whnf
   refine cG (row':=rL dQ) rfl rfl rfl (by simpa using hj) (eH (fun _=>rfl)) (cu _) rfl rfl rfl ?_;conv=>whnf
   refine aR (i:=i) (k:=2) (g':=8) (lo:=0) (len:=m.sp[i].sl.length) (es2:=(aF m.sp i j dQ).map rP) (ov2:=[]) rfl (ah hg (by simp[rP]) (by simp only[ab,if_true];rfl)) rfl rfl (by rw[List.drop_zero,List.take_of_length_le (by simp)];exact bf hi) (by simp only[ag,if_true];rfl) ?_;conv=>whnf
   refine⟨?_,rfl⟩;simp only[ik,hbd];simp[oM,dI,c2,e1,htk]
  ·have c2:¬m.sp[i].sl[j].kd=2:=by simpa using c2
   refine aB (k:=i) rfl rfl rfl (by simpa using hi) ?_;conv=>whnf
   refine cK (i:=i) (k:=2) (sz':=4) (es':=m.sp[i].sl.map rL) m.sp[i].sl.length rfl rfl rfl (aT hg rfl rfl rfl) rfl (by simp) ?_;conv=>whnf
   refine aB (k:=j) rfl rfl rfl hj ?_;conv=>whnf
   refine cG (row':=rL dQ) rfl rfl rfl (by simpa using hj) (eH (fun _=>rfl)) (cu _) rfl rfl rfl ?_;conv=>whnf
   refine aR (i:=i) (k:=2) (g':=11) (lo:=0) (len:=m.sp[i].sl.length) (es2:=(aF m.sp i j dQ).map rP) (ov2:=[]) rfl (ah hg (by simp[rP]) (by simp only[ab,if_true];rfl)) rfl rfl (by rw[List.drop_zero,List.take_of_length_le (by simp)];exact bf hi) (by simp only[ag,if_true];rfl) ?_;conv=>whnf
   refine⟨?_,rfl⟩;simp only[ik,hbd];simp[oM,dI,c1,c2,htk]
end Go.Qm
namespace Go.Qm
open Go.Cq Go.Cq.D Go.RowKit Go.Proofs
set_option maxRecDepth 10000
def gb(m:Mem)(i:Nat):List Area:=(m.sp[i]?.map (·.ar)).getD []
def aBI(c:Option (List Area))(m:Mem)(i:Nat)(fr mn:Int):Mem×Int:=match c with
 |some l=>(cm (c9 m i l) i fr.toNat mn.toNat,0)
 |none=>(m,4)
theorem mf{m:Mem}{i:Nat}(h:cY m=true)(hi:i<m.sp.length)(hlv:m.sp[i].lv=true):ay m.sp[i].ar=true∧m.sp[i].ar.length≤6∧m.sp[i].sl.length=16:=by simp only[cY,Bool.and_eq_true,decide_eq_true_eq]at h;have hs:=List.all_eq_true.1 h.1.1.2 _ (List.getElem_mem hi);simp only[Bool.and_eq_true]at hs;have hso:=hs.1;rw[bo,if_pos hlv]at hso;simp only[Bool.and_eq_true,decide_eq_true_eq]at hso;have:=hso.1;simp only[ay,Bool.and_eq_true,decide_eq_true_eq]at this;exact⟨hso.1,this.2,hso.2.1⟩
def fw:Mem:=⟨⟨[],[]⟩,⟨[],[]⟩,[],0⟩
def bO(m:Mem):DB:=.box [.own 1 (m.ram.tx.map rS),.own 1 (m.ram.rf.map rI),.own 1 (m.swp.tx.map rS),.own 1 (m.swp.rf.map rI),.own 3 (m.sp.map rP),dI m.hd]
theorem qD{l0 l:List Area}{fr mn:Int}(h:jL l0 fr mn=some l):bL ⟨fr,mn,false,false⟩=true∧ay l=true:=by
 unfold jL at h;split at h
 ·rename_i h1;simp only[Bool.and_eq_true]at h1;split at h
  ·rename_i h2;cases h;exact⟨h1.2,h2⟩
  ·simp at h
 ·simp at h
theorem lY{m:Mem}{i:Nat}{l:List Area}(hi:i<m.sp.length):(m.sp.map rP).modify i (fun row=>row.set 1 (.sl 4 (l.map rA)))=(c9 m i l).sp.map rP:=by rw[af (ai (f:=rP) (List.getElem?_eq_getElem hi)),c9,i4 (List.getElem?_eq_getElem hi),←map_set];rfl
set_option maxHeartbeats 1000000 in
theorem yh(m:Mem)(i:Nat)(fr mn:Int)(hi:i<m.sp.length)(hal:m.sp[i].ar.length≤6)(hL:∀l fr,LsOk (c9 m i l) i fr 0):
  bC Try.prog 59 [oM m,.one (dI i),.one (dI fr),.one (dI mn)] (.tup [oM (aBI (jL (gb m i) fr mn) m i fr mn).1,.one (dI (aBI (jL (gb m i) fr mn) m i fr mn).2)]):=by
 have har:gb m i=m.sp[i].ar:=by simp[gb,hi]
 rw[har];refine aS hmix Try.func59 ok59 ?_;conv=>whnf
 refine aB (k:=i) rfl rfl rfl (by simpa using hi) ?_;conv=>whnf
 have hg:(m.sp.map rP)[i]?=some (rP m.sp[i]):=by simp[hi]
 refine cK (i:=i) (k:=1) (sz':=4) (es':=m.sp[i].ar.map rA) m.sp[i].ar.length rfl rfl rfl (aT (by rw[List.drop_zero,List.take_length];exact hg) rfl rfl rfl) rfl (by simp) ?_;conv=>whnf
 simp only[List.drop_zero,List.take_length];refine aC [.lend,.pass,.pass] rfl xM rfl (sE true m.sp[i].ar fr mn (by omega)) rfl ?_;conv=>whnf
 have hback:(m.sp.map rP).modify i (fun row=>row.set 1 (.sl 4 (m.sp[i].ar.map rA)))=m.sp.map rP:=by rw[af hg];exact jE hg
 refine aR (i:=i) (k:=1) (g':=8) (lo:=0) (len:=m.sp[i].ar.length) (es2:=m.sp.map rP) (ov2:=[]) rfl (ah hg (by simp[rP]) (by simp only[ab,if_true];rfl)) rfl rfl (by rw[List.drop_zero,ae];exact hback) (by simp only[ag,if_true];rfl) ?_;conv=>whnf
 simp only[List.drop_zero,List.take_length];cases hc:jL m.sp[i].ar fr mn with
 |none=>
  refine CondP.mk (fun c1=>?_) (fun c1=>?_)<;>conv=>whnf
  ·refine⟨?_,rfl⟩;simp[oM,aBI,dI]
  ·simp at c1
 |some l=>
  refine CondP.mk (fun c1=>?_) (fun c1=>?_)<;>conv=>whnf
  ·simp at c1
  ·refine aB (k:=i) rfl rfl rfl (by simpa using hi) ?_;conv=>whnf
   simp only[Option.getD_some];refine ea rfl rfl rfl rfl rfl (by simp[wrN,wr1,DV.cells,hi];rfl) ?_;conv=>whnf
   refine aR (i:=i) (k:=1) (g':=8) (lo:=0) (len:=l.length) (es2:=(c9 m i l).sp.map rP) (ov2:=[]) rfl (ah (by simpa using hg) (by simp[rP]) (by simp only[ab,if_true];rfl)) rfl rfl (by rw[List.drop_zero,ae];exact lY hi) (by simp only[ag,if_true];rfl) ?_;conv=>whnf
   obtain⟨h2,h4⟩:=qD hc;have hb:=gB.1 h2;simp only at hb;obtain⟨f,rfl⟩:=Int.eq_ofNat_of_zero_le hb.1;obtain⟨g,rfl⟩:=Int.eq_ofNat_of_zero_le (show 0≤mn by omega);have hls:LsOk (c9 m i l) i f 0:=hL l f;refine ao (fun t:Nat=>[(1,.v (.one (dI i))),(2,.v (.one (dI f))),(3,.v (.one (dI g))),(4,.v (.one (.ptr 5 0 0))),(8,.v (.one (.ptr 6 0 0))),(12,.v (.one (dI ((f+t:Nat):Int))))]) (fun t=>[(6,bO fw),(5,bO (cm (c9 m i l) i f t))]) (fun _=>7)
    (fun t=>t≤g) (fun t=>g-t) 0 (by omega) rfl (by rw[List.drop_zero,List.take_of_length_le (by simp[c9])];rfl) rfl fun t ht=>?_
   have hlt:=rZ hls (t:=t) (by omega);conv=>whnf
   rw[wrap64 (x:=(f:Int)+g) (by omega) (by omega)];refine CondP.mk (fun c2=>?_) (fun c2=>?_)<;>conv=>whnf
   ·have c2:t<g:=by simp at c2;omega
    have hj:f+t< ((cm (c9 m i l) i f t).sp[i]'hlt.hi).sl.length:=by rw[hlt.sl];omega
    have hok:=hlt.ok (by omega) (Nat.le_refl _) hlt.hi hj;refine aC [.fX,.pass,.pass] rfl rfl rfl (by simpa [oM,dI]using ql (cm (c9 m i l) i f t) i (f+t) hlt.hi hj hok.1 hok.2) rfl ?_;conv=>whnf
    refine⟨t+1,by omega,by omega,?_,?_,rfl⟩
    ·rw[wrap64 (x:=((f+t:Nat):Int)+1) (by omega) (by omega),show((f+t:Nat):Int)+1=((f+(t+1):Nat):Int) by omega];rfl
    ·simp[bO,cm,dI]
   ·have c2:t=g:=by simp at c2;omega
    subst c2;refine⟨?_,rfl⟩;simp[oM,aBI,dI]
end Go.Qm
namespace Go.Qm
open Go.Cq Go.Cq.D Go.RowKit Go.Proofs
set_option maxRecDepth 10000
def bM(b1 b2 b3 b4 b5:Bool)(m:Mem):DB:=.box [.ro b1 1 (m.ram.tx.map rS),.ro b2 1 (m.ram.rf.map rI),.ro b3 1 (m.swp.tx.map rS),.ro b4 1 (m.swp.rf.map rI),.ro b5 3 (m.sp.map rP),dI m.hd]
set_option maxHeartbeats 1000000 in
theorem qt(b1 b2 b3 b4 b5:Bool)(m:Mem)(kd pl:Int)(h:m.fits 4611686018427387904)(hb:(tel kd pl m.sp).length≤4611686018427387904):bC Try.prog 89 [aM b1 b2 b3 b4 b5 m,.one (dI kd),.one (dI pl)] (.v (.one (dI (tel kd pl m.sp).length))):=by
 refine aS hmix Try.func89 ok89 ?_;conv=>whnf
 refine ao (fun p:Nat×Nat=>[(1,.v (.one (dI kd))),(2,.v (.one (dI pl))),(3,.v (.one (.ptr 0 0 0))),(7,.v (.one (dI p.2))),(8,.v (.one (dI p.1)))]) (fun _=>[(0,bM b1 b2 b3 b4 b5 m)]) (fun _=>1)
  (fun p=>p.1≤m.sp.length∧p.2+(tel kd pl (m.sp.drop p.1)).length=(tel kd pl m.sp).length) (fun p=>m.sp.length-p.1) (0,0) ⟨by omega,by simp⟩ rfl rfl rfl fun p hi=>?_
 obtain⟨i,c⟩:=p;obtain⟨hi1,hi2⟩:=hi;simp only at hi1 hi2;conv=>whnf
 refine CondP.mk (fun h1=>?_) (fun h1=>?_)<;>conv=>whnf
 ·have hlt:i<m.sp.length:=by simpa using h1
  have hs:=h.ss _ (List.getElem_mem hlt);rw[vD hlt,List.length_append]at hi2;refine ao (fun p:Nat×Nat=>[(1,.v (.one (dI kd))),(2,.v (.one (dI pl))),(3,.v (.one (.ptr 0 0 0))),(7,.v (.one (dI p.2))),(8,.v (.one (dI i))),(9,.v (.one (dI p.1)))]) (fun _=>[(0,bM b1 b2 b3 b4 b5 m)]) (fun _=>1)
   (fun p=>p.1≤m.sp[i].sl.length∧p.2+(gI m.sp[i].ar kd pl p.1 (m.sp[i].sl.drop p.1)).length+(tel kd pl (m.sp.drop (i+1))).length=(tel kd pl m.sp).length) (fun p=>m.sp[i].sl.length-p.1) (0,c) ⟨by omega,by simp only[List.drop_zero];omega⟩ rfl rfl rfl fun p hj=>?_
  obtain⟨j,d⟩:=p;obtain⟨hj1,hj2⟩:=hj;simp only at hj1 hj2;conv=>whnf
  refine aN (k:=i) rfl rfl (by simpa using hlt) ?_;conv=>whnf
  refine aH rfl (r:=.one (.ro b5 4 (m.sp[i].sl.map rL))) (by simp[ak,rP,hlt]) ?_;conv=>whnf
  refine CondP.mk (fun h2=>?_) (fun h2=>?_)<;>conv=>whnf
  ·have hlj:j<m.sp[i].sl.length:=by simpa using h2
   rw[ry hlj]at hj2;refine aN (k:=i) rfl rfl (by simpa using hlt) ?_;conv=>whnf
   refine aH rfl (r:=.one (.ro b5 4 (m.sp[i].sl.map rL))) (by simp[ak,rP,hlt]) ?_;conv=>whnf
   refine aN (k:=j) rfl rfl (by simpa using hlj) ?_;conv=>whnf
   refine aH rfl (ldL hlj) ?_;conv=>whnf
   refine CondP.mk (fun h3=>?_) (fun h3=>?_)<;>rw[h3]<;>(conv=>whnf)<;>repeat' first|(refine aE ?_;conv=>whnf)|(refine aD ?_;conv=>whnf)
   ·have h3:m.sp[i].sl[j].kd=kd:=by simpa using h3
    refine CondP.mk (fun h4=>?_) (fun h4=>?_)<;>conv=>whnf
    ·have h4:m.sp[i].sl[j].pl=pl:=by simpa using h4
     rw[if_pos ⟨h3,h4⟩,List.length_cons]at hj2;refine⟨(j+1,d+1),by simp only;omega,⟨by simp only;omega,by simp only;omega⟩,?_,rfl,rfl⟩;rw[up hlj hs.2,wrap64 (by omega) (by omega),show(d:Int)+1=((d+1:Nat):Int) by omega];rfl
    ·have h4:¬m.sp[i].sl[j].pl=pl:=by simpa using h4
     rw[if_neg fun e=>h4 e.2]at hj2;refine⟨(j+1,d),by simp only;omega,⟨by simp only;omega,by simp only;omega⟩,?_,rfl,rfl⟩;rw[up hlj hs.2];rfl
   ·have h3:¬m.sp[i].sl[j].kd=kd:=by simpa using h3
    rw[if_neg fun e=>h3 e.1]at hj2;refine⟨(j+1,d),by simp only;omega,⟨by simp only;omega,by simp only;omega⟩,?_,rfl,rfl⟩;rw[up hlj hs.2];rfl
  ·have:j=m.sp[i].sl.length:=by
                     have:¬j<m.sp[i].sl.length:=by simpa using h2
                     omega
   subst this;rw[List.drop_length]at hj2;simp only[gI,List.length_nil]at hj2;refine⟨(i+1,d),by simp only;omega,⟨by simp only;omega,by simp only;omega⟩,?_,rfl,rfl⟩;rw[up hlt h.sp];rfl
 ·have:i=m.sp.length:=by
                 have:¬i<m.sp.length:=by simpa using h1
                 omega
  subst this;rw[List.drop_length]at hi2;simp only[tel,List.length_nil]at hi2;refine⟨?_,rfl⟩;simp only[dI];rw[←hi2];rfl
end Go.Qm
namespace Go.Qm
open Go.Cq Go.Cq.D Go.RowKit Go.Proofs
set_option maxRecDepth 10000
structure Sofar where
 i:Nat
 c:Nat
 o:Bool
 q:Bool
structure Sofar.ok(T:List (Bool×Bool))(s:Sofar)(r:List (Bool×Bool)):Prop where
 c:s.c+r.length=T.length
 o:(s.o||r.any (·.1))=T.any (·.1)
 q:(s.q||r.any (!·.2))=T.any (!·.2)
theorem Sofar.ok.step{T:List (Bool×Bool)}{i i' c:Nat}{o q:Bool}{x:Bool×Bool}{r:List (Bool×Bool)}(h:Sofar.ok T ⟨i,c,o,q⟩ (x::r)):Sofar.ok T ⟨i',c+1,o||x.1,q||!x.2⟩ r:=by
 refine⟨?_,?_,?_⟩
 ·have:=h.c;simp only[List.length_cons]at this ⊢;omega
 ·have:=h.o;simp only[List.any_cons]at this ⊢;rw[Bool.or_assoc];exact this
 ·have:=h.q;simp only[List.any_cons]at this ⊢;rw[Bool.or_assoc];exact this
set_option maxHeartbeats 2000000 in
theorem qG(b1 b2 b3 b4 b5:Bool)(m:Mem)(kd pl:Int)(h:m.fits 4611686018427387904)(hb:(tel kd pl m.sp).length≤4611686018427387904)(ho:∀s,s∈m.sp→∀a,a∈s.ar→bL a=true):bC Try.prog 90 [aM b1 b2 b3 b4 b5 m,.one (dI kd),.one (dI pl)] (.v (.one (dB (alone (tel kd pl m.sp))))):=by
 refine aS hmix Try.func90 ok90 ?_;conv=>whnf
 refine ao (fun p:Sofar=>[(1,.v (.one (dI kd))),(2,.v (.one (dI pl))),(3,.v (.one (.ptr 0 0 0))),(7,.v (.one (dI p.c))),(8,.v (.one (dB p.o))),(9,.v (.one (dB p.q))),(10,.v (.one (dI p.i)))]) (fun _=>[(0,bM b1 b2 b3 b4 b5 m)]) (fun _=>1)
  (fun p=>p.i≤m.sp.length∧Sofar.ok (tel kd pl m.sp) p (tel kd pl (m.sp.drop p.i))) (fun p=>m.sp.length-p.i) ⟨0,0,false,false⟩ ⟨by simp,by simp,by simp,by simp⟩ rfl rfl rfl fun p hi=>?_
 obtain⟨i,c,o,q⟩:=p;obtain⟨hi1,hi2⟩:=hi;simp only at hi1 hi2;conv=>whnf
 refine CondP.mk (fun h1=>?_) (fun h1=>?_)<;>conv=>whnf
 ·have hlt:i<m.sp.length:=by simpa using h1
  have hs:=h.ss _ (List.getElem_mem hlt);have hoi:=ho _ (List.getElem_mem hlt);rw[vD hlt]at hi2;refine ao (fun p:Sofar=>[(1,.v (.one (dI kd))),(2,.v (.one (dI pl))),(3,.v (.one (.ptr 0 0 0))),(7,.v (.one (dI p.c))),(8,.v (.one (dB p.o))),(9,.v (.one (dB p.q))),(10,.v (.one (dI i))),(11,.v (.one (dI p.i)))]) (fun _=>[(0,bM b1 b2 b3 b4 b5 m)]) (fun _=>1)
   (fun p=>p.i≤m.sp[i].sl.length∧Sofar.ok (tel kd pl m.sp) p (gI m.sp[i].ar kd pl p.i (m.sp[i].sl.drop p.i)++tel kd pl (m.sp.drop (i+1)))) (fun p=>m.sp[i].sl.length-p.i) ⟨0,c,o,q⟩ ⟨by simp,by simp only[List.drop_zero];exact⟨hi2.c,hi2.o,hi2.q⟩⟩ rfl rfl rfl fun p hj=>?_
  obtain⟨j,d,o1,q1⟩:=p;obtain⟨hj1,hj2⟩:=hj;simp only at hj1 hj2;conv=>whnf
  refine aN (k:=i) rfl rfl (by simpa using hlt) ?_;conv=>whnf
  refine aH rfl (r:=.one (.ro b5 4 (m.sp[i].sl.map rL))) (by simp[ak,rP,hlt]) ?_;conv=>whnf
  refine CondP.mk (fun h2=>?_) (fun h2=>?_)<;>conv=>whnf
  ·have hlj:j<m.sp[i].sl.length:=by simpa using h2
   rw[ry hlj]at hj2;refine aN (k:=i) rfl rfl (by simpa using hlt) ?_;conv=>whnf
   refine aH rfl (r:=.one (.ro b5 4 (m.sp[i].sl.map rL))) (by simp[ak,rP,hlt]) ?_;conv=>whnf
   refine aN (k:=j) rfl rfl (by simpa using hlj) ?_;conv=>whnf
   refine aH rfl (ldL hlj) ?_;conv=>whnf
   refine CondP.mk (fun h3=>?_) (fun h3=>?_)<;>rw[h3]<;>(conv=>whnf)<;>repeat' first|(refine aE ?_;conv=>whnf)|(refine aD ?_;conv=>whnf)
   ·have h3:m.sp[i].sl[j].kd=kd:=by simpa using h3
    refine CondP.mk (fun h4=>?_) (fun h4=>?_)<;>conv=>whnf
    ·have h4:m.sp[i].sl[j].pl=pl:=by simpa using h4
     rw[if_pos ⟨h3,h4⟩,List.cons_append]at hj2;have hd:d+1≤(tel kd pl m.sp).length:=by have:=hj2.c;simp only[List.length_cons]at this;omega
     have hst:=hj2.step (i':=j+1);have ec:IntKind.wrap .i64 ((d:Int)+1)=((d+1:Nat):Int):=by rw[wrap64 (by omega) (by omega)];omega
     have el:IntKind.wrap .i64 ((j:Int)+1)=((j+1:Nat):Int):=up hlj hs.2;cases q1
     ·cases o1<;>(conv=>whnf)<;>repeat' first|(refine aE ?_;conv=>whnf)|(refine aD ?_;conv=>whnf)
      all_goals
       refine aN (k:=i) rfl rfl (by simpa using hlt) ?_
       (conv=>whnf)<;>repeat' first|(refine aE ?_;conv=>whnf)|(refine aD ?_;conv=>whnf)
       refine aH rfl (ldP hlt) ?_
       (conv=>whnf)<;>repeat' first|(refine aE ?_;conv=>whnf)|(refine aD ?_;conv=>whnf)
       refine aC [.pass,.pass] rfl rfl rfl (lV b5 b5 m.sp[i] j hs.1 hoi) rfl ?_
       (conv=>whnf)<;>repeat' first|(refine aE ?_;conv=>whnf)|(refine aD ?_;conv=>whnf)
      ·refine⟨⟨j+1,d+1,m.sp[i].sl[j].ow,!jT m.sp[i].ar (bA m.sp[i].ar j)⟩,by simp only;omega,⟨by simp only;omega,hst⟩,?_,rfl,rfl⟩;rw[ec,el];rfl
      ·refine⟨⟨j+1,d+1,true,!jT m.sp[i].ar (bA m.sp[i].ar j)⟩,by simp only;omega,⟨by simp only;omega,hst⟩,?_,rfl,rfl⟩;rw[ec,el];rfl
     ·cases o1<;>(conv=>whnf)<;>repeat' first|(refine aE ?_;conv=>whnf)|(refine aD ?_;conv=>whnf)
      ·refine⟨⟨j+1,d+1,m.sp[i].sl[j].ow,true⟩,by simp only;omega,⟨by simp only;omega,hst⟩,?_,rfl,rfl⟩;rw[ec,el];rfl
      ·refine⟨⟨j+1,d+1,true,true⟩,by simp only;omega,⟨by simp only;omega,hst⟩,?_,rfl,rfl⟩;rw[ec,el];rfl
    ·have h4:¬m.sp[i].sl[j].pl=pl:=by simpa using h4
     rw[if_neg fun e=>h4 e.2]at hj2;refine⟨⟨j+1,d,o1,q1⟩,by simp only;omega,⟨by simp only;omega,⟨hj2.c,hj2.o,hj2.q⟩⟩,?_,rfl,rfl⟩;rw[up hlj hs.2];rfl
   ·have h3:¬m.sp[i].sl[j].kd=kd:=by simpa using h3
    rw[if_neg fun e=>h3 e.1]at hj2;refine⟨⟨j+1,d,o1,q1⟩,by simp only;omega,⟨by simp only;omega,⟨hj2.c,hj2.o,hj2.q⟩⟩,?_,rfl,rfl⟩;rw[up hlj hs.2];rfl
  ·have:j=m.sp[i].sl.length:=by
                     have:¬j<m.sp[i].sl.length:=by simpa using h2
                     omega
   subst this;rw[List.drop_length]at hj2;simp only[gI,List.nil_append]at hj2;refine⟨⟨i+1,d,o1,q1⟩,by simp only;omega,⟨by simp only;omega,⟨hj2.c,hj2.o,hj2.q⟩⟩,?_,rfl,rfl⟩;rw[up hlt h.sp];rfl
 ·have:i=m.sp.length:=by
                 have:¬i<m.sp.length:=by simpa using h1
                 omega
  subst this;rw[List.drop_length]at hi2;have k1:=hi2.c;have k2:=hi2.o;have k3:=hi2.q;simp only[tel,List.length_nil,List.any_nil,Bool.or_false,Nat.add_zero]at k1 k2 k3;have hal:alone (tel kd pl m.sp)=(decide ((c:Int)<2)||!o||!q):=by rw[alone,←k1,←k2,←k3,show decide (c<2)=decide ((c:Int)<2)from decide_eq_decide.2 (by omega)]
  refine CondP.mk (fun h2=>?_) (fun h2=>?_)<;>rw[h2]<;>cases o<;>cases q<;>(conv=>whnf)<;>repeat' first|(refine aE ?_;conv=>whnf)|(refine aD ?_;conv=>whnf)
  all_goals
   simp only at h2;rw[hal,h2];exact⟨rfl,rfl⟩
end Go.Qm
namespace Go.Qm
open Go.Cq Go.Cq.D Go.RowKit Go.Proofs
set_option maxRecDepth 10000
theorem aAT{ar:List Area}{kd pl:Int}:∀{l:List Slot}{i:Nat},(gI ar kd pl i l).length≤l.length:=by
 intro l;induction l with
 |nil=>intro i;simp[gI]
 |cons x l ih=>intro i;simp only[gI];have:=ih (i:=i+1);split<;>simp only[List.length_cons]<;>omega
theorem wh{kd pl:Int}{n:Nat}:∀{l:List Space},(∀s,s∈l→s.sl.length≤n)→(tel kd pl l).length≤n*l.length:=by
 intro l;induction l with
 |nil=>intro _;simp[tel]
 |cons s l ih=>
  intro h;have h1:=ih fun s hs=>h s (List.mem_cons_of_mem _ hs)
  have h2:=h s (List.mem_cons_self ..);have h3:=aAT (ar:=s.ar) (kd:=kd) (pl:=pl) (l:=s.sl) (i:=0);simp only[tel,List.length_append,List.length_cons,Nat.mul_add,Nat.mul_one];omega
theorem oG{s:Space}(h:bo s=true):s.sl.length≤16:=by unfold bo at h;split at h<;>simp only[Bool.and_eq_true,decide_eq_true_eq]at h<;>omega
theorem vg{s:Space}(h:bo s=true):∀a,a∈s.ar→bL a=true:=by
 unfold bo at h;split at h
 ·simp only[Bool.and_eq_true]at h;exact fW h.1
 ·simp only[Bool.and_eq_true,decide_eq_true_eq]at h;intro a ha;rw[List.length_eq_zero_iff.1 h.1]at ha;simp at ha
def iK(s:Space):Bool:=bo s&&s.sl.all gU
theorem cU{m:Mem}{b:Bool}(h:(bu m.ram&&bu m.swp&&decide (m.ram.rf.length=12)&&decide (m.swp.rf.length=12)&&decide (m.sp.length=5)&&inB m.hd 0 11)=b):cY m=(b&&m.sp.all iK&&cn 1 m.sp 0 m.ram.rf&&cn 2 m.sp 0 m.swp.rf):=by rw[←h];rfl
set_option maxHeartbeats 4000000 in
theorem rK (b1 b2 b3 b4 b5 : Bool) (m : Mem) (h : m.fits 4611686018427387904) : bC Try.prog 35 [aM b1 b2 b3 b4 b5 m] (.v (.one (dB (cY m)))) := by
 refine aS hmix Try.func35 ok35 ?_; conv => whnf
 refine aC [.pass] rfl rfl rfl (oE b1 b2 m.ram h.rt h.rr) rfl ?_; conv => whnf
 refine CondP.mk (fun h1 => ?_) (fun h1 => ?_) <;> rw [h1] <;> (conv=>whnf)<;>repeat' first|(refine aE ?_;conv=>whnf)|(refine aD ?_;conv=>whnf)
 ·exact f7 (by rw [cU rfl, show bu m.ram = false by simpa using h1]; simp)
 refine aC [.pass] rfl rfl rfl (oE b3 b4 m.swp h.st h.sr) rfl ?_
 (conv=>whnf)<;>repeat' first|(refine aE ?_;conv=>whnf)|(refine aD ?_;conv=>whnf)
 refine CondP.mk (fun h2 => ?_) (fun h2 => ?_) <;> rw [h2] <;> (conv=>whnf)<;>repeat' first|(refine aE ?_;conv=>whnf)|(refine aD ?_;conv=>whnf)
 ·exact f7 (by rw [cU rfl, show bu m.swp = false by simpa using h2]; simp)
 refine CondP.mk (fun h3 => ?_) (fun h3 => ?_) <;> rw [h3] <;> (conv=>whnf)<;>repeat' first|(refine aE ?_;conv=>whnf)|(refine aD ?_;conv=>whnf)
 ·exact f7 (by rw [cU rfl, show decide (m.ram.rf.length = 12) = false by simp at h3 ⊢; omega]; simp)
 refine CondP.mk (fun h4 => ?_) (fun h4 => ?_) <;> rw [h4] <;> (conv=>whnf)<;>repeat' first|(refine aE ?_;conv=>whnf)|(refine aD ?_;conv=>whnf)
 ·exact f7 (by rw [cU rfl, show decide (m.swp.rf.length = 12) = false by simp at h4 ⊢; omega]; simp)
 refine CondP.mk (fun h5 => ?_) (fun h5 => ?_) <;> rw [h5] <;> (conv=>whnf)<;>repeat' first|(refine aE ?_;conv=>whnf)|(refine aD ?_;conv=>whnf)
 ·exact f7 (by rw [cU rfl, show decide (m.sp.length = 5) = false by simp at h5 ⊢; omega]; simp)
 refine aC [.pass, .pass, .pass] rfl rfl rfl (gV _ _ _) rfl ?_
 (conv=>whnf)<;>repeat' first|(refine aE ?_;conv=>whnf)|(refine aD ?_;conv=>whnf)
 refine CondP.mk (fun h6 => ?_) (fun h6 => ?_) <;> conv => whnf
 ·exact f7 (by rw [cU rfl, show inB m.hd 0 11 = false by simpa using h6]; simp)
 have hl1 : m.ram.rf.length = 12 := by simp at h3; omega
 have hl2 : m.swp.rf.length = 12 := by simp at h4; omega
 have hl5 : m.sp.length = 5 := by simp at h5; omega
 have hd := cU (m := m) (b := true) (by simp at h1 h2 h6; simp [h1, h2, hl1, hl2, hl5, h6]); rw [Bool.true_and] at hd; refine ao (fun i : Nat => [(1, .v (.one (.ptr 0 0 0))), (3, .v (.one (dI i)))]) (fun _ => [(0, bM b1 b2 b3 b4 b5 m)]) (fun _ => 1)
  (fun i => i ≤ m.sp.length ∧ ∀ j (hj : j < m.sp.length), j < i → iK m.sp[j] = true) (fun i => m.sp.length - i) 0 ⟨by omega, by omega⟩ rfl rfl rfl fun i hi => ?_
 obtain ⟨hi1, hi2⟩ := hi; conv => whnf
 refine CondP.mk (fun h7 => ?_) (fun h7 => ?_) <;> conv => whnf
 ·have hlt : i < m.sp.length := by simp at h7; omega
  have hs := h.ss _ (List.getElem_mem hlt); have no : iK m.sp[i] = false → cY m = false := fun e => by
   have : m.sp.all iK = false := by rw [List.all_eq_false]; exact ⟨_, List.getElem_mem hlt, by simp [e]⟩
   rw [hd, this]; rfl
  refine aN (k := i) rfl rfl (by simpa using hlt) ?_; conv => whnf
  refine aH rfl (ldP hlt) ?_; conv => whnf
  refine aC [.pass] rfl rfl rfl (vr b5 b5 m.sp[i] hs.1 hs.2) rfl ?_; conv => whnf
  refine CondP.mk (fun h8 => ?_) (fun h8 => ?_) <;> conv => whnf
  ·exact f7 (no (by rw [iK, show bo m.sp[i] = false by simpa using h8]; rfl))
  have h8 : bo m.sp[i] = true := by simpa using h8
  refine ao (fun k : Nat => [(1, .v (.one (.ptr 0 0 0))), (3, .v (.one (dI i))), (4, .v (.one (dI k)))]) (fun _ => [(0, bM b1 b2 b3 b4 b5 m)]) (fun _ => 1)
   (fun k => k ≤ m.sp[i].sl.length ∧ ∀ j (hj : j < m.sp[i].sl.length), j < k → gU m.sp[i].sl[j] = true) (fun k => m.sp[i].sl.length - k) 0 ⟨by omega, by omega⟩ rfl rfl rfl fun k hk => ?_
  obtain ⟨hk1, hk2⟩ := hk; conv => whnf
  refine aN (k := i) rfl rfl (by simpa using hlt) ?_; conv => whnf
  refine aH rfl (r := .one (.ro b5 4 (m.sp[i].sl.map rL))) (by simp [ak, rP, hlt]) ?_; conv => whnf
  refine CondP.mk (fun h9 => ?_) (fun h9 => ?_) <;> conv => whnf
  ·have hlk : k < m.sp[i].sl.length := by simpa using h9
   refine aN (k := i) rfl rfl (by simpa using hlt) ?_; conv => whnf
   refine aH rfl (r := .one (.ro b5 4 (m.sp[i].sl.map rL))) (by simp [ak, rP, hlt]) ?_; conv => whnf
   refine aN (k := k) rfl rfl (by simpa using hlk) ?_; conv => whnf
   refine aH rfl (ldL hlk) ?_; conv => whnf
   have next : gU m.sp[i].sl[k] = true → ∀ j (hj : j < m.sp[i].sl.length), j < k + 1 → gU m.sp[i].sl[j] = true := fun e j hj hjk => by
    by_cases e2 : j = k
    ·subst e2; exact e
    ·exact hk2 j hj (by omega)
   have bad : gU m.sp[i].sl[k] = false → cY m = false := fun e => no (by rw [iK, h8, Bool.true_and, List.all_eq_false]; exact ⟨_, List.getElem_mem hlk, by simp [e]⟩)
   refine CondP.mk (fun ha => ?_) (fun ha => ?_) <;> conv => whnf
   all_goals
    refine CondP.mk (fun hb => ?_) (fun hb => ?_) <;> rw [hb] <;> (conv=>whnf)<;>repeat' first|(refine aE ?_;conv=>whnf)|(refine aD ?_;conv=>whnf)
    ·have hb : ¬ m.sp[i].sl[k].kd = 0 := by simpa using hb
     refine aC [.pass, .pass, .pass] rfl rfl rfl (gV _ _ _) rfl ?_
     (conv=>whnf)<;>repeat' first|(refine aE ?_;conv=>whnf)|(refine aD ?_;conv=>whnf)
     have e11 : IntKind.wrap .i64 (12 - 1) = 11 := by decide
     refine CondP.mk (fun hc => ?_) (fun hc => ?_) <;> conv => whnf
     ·rw [e11] at hc; exact f7 (bad (by rw [gU, decide_eq_false hb, show inB m.sp[i].sl[k].pl 0 11 = false by simpa using hc]; rfl))
     ·rw [e11] at hc; refine ⟨k + 1, by omega, ⟨by omega, next (by rw [gU, show inB m.sp[i].sl[k].pl 0 11 = true by simpa using hc, Bool.or_true])⟩, ?_, rfl, rfl⟩; rw [up hlk hs.2]; rfl
    ·have hb : m.sp[i].sl[k].kd = 0 := by simpa using hb
     refine ⟨k + 1, by omega, ⟨by omega, next (by rw [gU, decide_eq_true hb, Bool.true_or])⟩, ?_, rfl, rfl⟩; rw [up hlk hs.2]; rfl
  ·have hke : k = m.sp[i].sl.length := by
                       have : ¬ k < m.sp[i].sl.length := by simpa using h9
                       omega
   refine ⟨i + 1, by omega, ⟨by omega, fun j hj hji => ?_⟩, ?_, rfl, rfl⟩
   ·by_cases e : j = i
    ·subst e; rw [iK, h8, Bool.true_and, List.all_eq_true]; intro x hx; obtain ⟨j', hj', rfl⟩ := List.getElem_of_mem hx; exact hk2 j' hj' (by omega)
    ·exact hi2 j hj (by omega)
   ·rw [up hlt (by omega)]; rfl
 ·have hall : ∀ s, s ∈ m.sp → iK s = true := fun s hs => by obtain ⟨j, hj, rfl⟩ := List.getElem_of_mem hs; exact hi2 j hj (by simp at h7; omega)
  have hsl : ∀ s, s ∈ m.sp → s.sl.length ≤ 16 := fun s hs => oG (by have := hall s hs; simp only [iK, Bool.and_eq_true] at this; exact this.1)
  have har : ∀ s, s ∈ m.sp → ∀ a, a ∈ s.ar → bL a = true := fun s hs => vg (by have := hall s hs; simp only [iK, Bool.and_eq_true] at this; exact this.1)
  rw [show m.sp.all iK = true from List.all_eq_true.2 hall, Bool.true_and] at hd; have htel : ∀ kd pl, (tel kd pl m.sp).length ≤ 4611686018427387904 := fun kd pl => by have := wh (kd := kd) (pl := pl) hsl; omega
  refine ao (fun i : Nat => [(1, .v (.one (.ptr 0 0 0))), (7, .v (.one (dI i)))]) (fun _ => [(0, bM b1 b2 b3 b4 b5 m)]) (fun _ => 1)
   (fun i => i ≤ m.ram.rf.length ∧ cn 1 m.sp 0 m.ram.rf = cn 1 m.sp i (m.ram.rf.drop i)) (fun i => m.ram.rf.length - i) 0 ⟨by omega, by simp⟩ rfl rfl rfl fun p hp => ?_
  obtain ⟨hp1, hp2⟩ := hp; conv => whnf
  refine CondP.mk (fun h8 => ?_) (fun h8 => ?_) <;> conv => whnf
  ·have hlt : p < m.ram.rf.length := by simp at h8; omega
   rw [k9 hlt] at hp2; have no : g8 1 m.sp p m.ram.rf[p] = false → cY m = false := fun e => by rw [hd, hp2, e]; rfl
   refine aN (k := p) rfl rfl (by simpa using hlt) ?_; conv => whnf
   refine aH rfl (r := .one (dI m.ram.rf[p])) (by simp [ak, rI, hlt, eI, dI]) ?_; conv => whnf
   refine aC [.pass, .pass, .pass] rfl rfl rfl (qt b1 b2 b3 b4 b5 m 1 p h (htel _ _)) rfl ?_; conv => whnf
   refine CondP.mk (fun h9 => ?_) (fun h9 => ?_) <;> rw [h9] <;> (conv=>whnf)<;>repeat' first|(refine aE ?_;conv=>whnf)|(refine aD ?_;conv=>whnf)
   ·exact f7 (no (by rw [g8, show decide (((tel 1 (p : Int) m.sp).length : Int) = m.ram.rf[p]) = false by simpa using h9]; rfl))
   have h9 : decide (((tel 1 (p : Int) m.sp).length : Int) = m.ram.rf[p]) = true := by simpa using h9
   refine aC [.pass, .pass, .pass] rfl rfl rfl (qG b1 b2 b3 b4 b5 m 1 p h (htel _ _) har) rfl ?_
   (conv=>whnf)<;>repeat' first|(refine aE ?_;conv=>whnf)|(refine aD ?_;conv=>whnf)
   refine CondP.mk (fun ha => ?_) (fun ha => ?_) <;> conv => whnf
   ·exact f7 (no (by rw [g8, h9, show alone (tel 1 (p : Int) m.sp) = false by simpa using ha]; rfl))
   have ha : alone (tel 1 (p : Int) m.sp) = true := by simpa using ha
   refine ⟨p + 1, by omega, ⟨by omega, by rw [hp2, g8, h9, ha]; rfl⟩, ?_, rfl, rfl⟩; rw [up hlt h.rr]; rfl
  have hpe : p = m.ram.rf.length := by
                     have : ¬ p < m.ram.rf.length := by simp at h8; omega
                     omega
  subst hpe; rw [List.drop_length] at hp2; simp only [cn] at hp2; rw [hp2, Bool.true_and] at hd; refine ao (fun i : Nat => [(1, .v (.one (.ptr 0 0 0))), (8, .v (.one (dI i)))]) (fun _ => [(0, bM b1 b2 b3 b4 b5 m)]) (fun _ => 1)
   (fun i => i ≤ m.swp.rf.length ∧ cn 2 m.sp 0 m.swp.rf = cn 2 m.sp i (m.swp.rf.drop i)) (fun i => m.swp.rf.length - i) 0 ⟨by omega, by simp⟩ rfl rfl rfl fun p hq => ?_
  obtain ⟨hq1, hq2⟩ := hq; conv => whnf
  refine CondP.mk (fun h8 => ?_) (fun h8 => ?_) <;> conv => whnf
  ·have hlt : p < m.swp.rf.length := by simp at h8; omega
   rw [k9 hlt] at hq2; have no : g8 2 m.sp p m.swp.rf[p] = false → cY m = false := fun e => by rw [hd, hq2, e]; rfl
   refine aN (k := p) rfl rfl (by simpa using hlt) ?_; conv => whnf
   refine aH rfl (r := .one (dI m.swp.rf[p])) (by simp [ak, rI, hlt, eI, dI]) ?_; conv => whnf
   refine aC [.pass, .pass, .pass] rfl rfl rfl (qt b1 b2 b3 b4 b5 m 2 p h (htel _ _)) rfl ?_; conv => whnf
   refine CondP.mk (fun h9 => ?_) (fun h9 => ?_) <;> rw [h9] <;> (conv=>whnf)<;>repeat' first|(refine aE ?_;conv=>whnf)|(refine aD ?_;conv=>whnf)
   ·exact f7 (no (by rw [g8, show decide (((tel 2 (p : Int) m.sp).length : Int) = m.swp.rf[p]) = false by simpa using h9]; rfl))
   have h9 : decide (((tel 2 (p : Int) m.sp).length : Int) = m.swp.rf[p]) = true := by simpa using h9
   refine aC [.pass, .pass, .pass] rfl rfl rfl (qG b1 b2 b3 b4 b5 m 2 p h (htel _ _) har) rfl ?_
   (conv=>whnf)<;>repeat' first|(refine aE ?_;conv=>whnf)|(refine aD ?_;conv=>whnf)
   refine CondP.mk (fun ha => ?_) (fun ha => ?_) <;> conv => whnf
   ·exact f7 (no (by rw [g8, h9, show alone (tel 2 (p : Int) m.sp) = false by simpa using ha]; rfl))
   have ha : alone (tel 2 (p : Int) m.sp) = true := by simpa using ha
   refine ⟨p + 1, by omega, ⟨by omega, by rw [hq2, g8, h9, ha]; rfl⟩, ?_, rfl, rfl⟩; rw [up hlt h.sr]; rfl
  have hqe : p = m.swp.rf.length := by
                     have : ¬ p < m.swp.rf.length := by simp at h8; omega
                     omega
  subst hqe; rw [List.drop_length] at hq2; simp only [cn] at hq2; exact aCr (by rw [hd, hq2])
end Go.Qm
namespace Go.Qm
open Go.Cq Go.Cq.D Go.RowKit Go.Proofs
set_option maxRecDepth 10000
theorem Mem.fits.mono{n n':Nat}{m:Mem}(h:m.fits n)(hn:n≤n'):m.fits n':=⟨Nat.le_trans h.rt hn,Nat.le_trans h.rr hn,Nat.le_trans h.st hn,Nat.le_trans h.sr hn,Nat.le_trans h.sp hn,fun s hs=>⟨Nat.le_trans (h.ss s hs).1 hn,Nat.le_trans (h.ss s hs).2 hn⟩⟩
theorem gC{l:List Space}{k:Int}(h:fe l k=true):∃i:Nat,k=i∧∃hi:i<l.length,l[i].lv=true:=by
 simp only[fe,inB,Bool.and_eq_true,decide_eq_true_eq]at h;obtain⟨⟨h1,h2⟩,h3⟩:=h;have hk:k.toNat<l.length:=by omega
 refine⟨k.toNat,by omega,hk,?_⟩;simpa [hk]using h3
end Go.Qm
namespace Go.Qm
open Go.Cq Go.Cq.D Go.RowKit Go.Proofs
set_option maxRecDepth 10000
def bX(m:Mem)(len:Nat):DB:=.box [.own 1 (m.ram.tx.map rS),.own 1 (m.ram.rf.map rI),.own 1 (m.swp.tx.map rS),.own 1 (m.swp.rf.map rI),.sl 1 0 len,dI m.hd]
set_option maxHeartbeats 1000000 in
theorem aBe(m:Mem)(k len i jw:Nat)(es es2:List (List PV))(h1:k<m.ram.tx.length)(h2:k<m.ram.rf.length)(hb: -1000≤m.ram.rf[k]∧m.ram.rf[k]≤1000):
  d6 Try.prog 93 [.one (.ptr 0 0 0),.one (dI k)] [(0,bX m len),(1,.arr 3 es [(i,2,.sl 2 0 jw)]),(2,.arr 4 es2 [])] 3 (fun x H'=>x= .tup []∧H'=[(0,bX {m with ram:=cI m.ram k} len),(1,.arr 3 es [(i,2,.sl 2 0 jw)]),(2,.arr 4 es2 [])]):=by
 refine aS hmix Try.func93 ok93 ?_;conv=>whnf
 refine aB (k:=k) rfl rfl rfl (by simpa using h2) ?_;conv=>whnf
 refine bR rfl rfl rfl (aT (row:=rI m.ram.rf[k]) (by simp[h2]) rfl rfl rfl) rfl ?_;conv=>whnf
 have ew:IntKind.wrap .i64 (m.ram.rf[k]-1)=m.ram.rf[k]-1:=wrap64 (by omega) (by omega);simp only[ew];refine aB (k:=k) rfl rfl rfl (by simpa using h2) ?_;conv=>whnf
 refine aI rfl rfl rfl (by simpa using h2) (by decide) ?_;conv=>whnf
 refine aB (k:=k) rfl rfl rfl (by simpa using h2) ?_;conv=>whnf
 refine bR rfl rfl rfl (aT (row:=rI (m.ram.rf[k]-1)) (by simp[h2,rI,eI]) rfl rfl rfl) rfl ?_;conv=>whnf
 have hr:m.ram.rf[k]?.getD 0=m.ram.rf[k]:=by simp[h2]
 have hset:(m.ram.rf.map rI).set k (rI (m.ram.rf[k]-1))=(m.ram.rf.set k (m.ram.rf[k]-1)).map rI:=map_set;have hm:(m.ram.rf.map rI).modify k (fun row=>row.set 0 (.sc (.int .i64 (m.ram.rf[k]-1))))=(m.ram.rf.set k (m.ram.rf[k]-1)).map rI:=by rw[af (ai (f:=rI) (List.getElem?_eq_getElem h2)),←hset];rfl
 refine CondP.mk (fun h=>?_) (fun h=>?_)<;>conv=>whnf
 ·have h:m.ram.rf[k]=1:=by simp at h;omega
  refine aB (k:=k) rfl rfl rfl (by simpa using h1) ?_;conv=>whnf
  refine aI rfl rfl rfl (by simpa using h1) (by decide) ?_;conv=>whnf
  have ht:(m.ram.tx.map rS).modify k (fun row=>row.set 0 (.sc (.str [])))=(m.ram.tx.set k []).map rS:=by rw[af (ai (f:=rS) (List.getElem?_eq_getElem h1)),←map_set];rfl
  refine⟨rfl,?_⟩;simp only[bX,cI,hr,if_pos h,List.drop_zero,ht,hm,List.take_of_length_le,List.length_map,List.length_set,Nat.le_refl];rfl
 ·have h:¬m.ram.rf[k]=1:=by simp at h;omega
  refine⟨rfl,?_⟩;simp only[bX,cI,hr,if_neg h,List.drop_zero,hm,List.take_of_length_le,List.length_map,List.length_set,Nat.le_refl];rfl
end Go.Qm
namespace Go.Qm
open Go.Cq Go.Cq.D Go.RowKit Go.Proofs
set_option maxRecDepth 10000
end Go.Qm
namespace Go.Qm
open Go.Cq Go.Cq.D Go.RowKit Go.Proofs
set_option maxRecDepth 10000
def vV:Prop:=∀(b1 b2 b3 b4 b5:Bool)(m:Mem),m.fits 1048576→bC Try.prog 34 [aM b1 b2 b3 b4 b5 m] (.v (.one (dB (cY m))))
end Go.Qm
namespace Go.Qm
open Go.Cq Go.Cq.D Go.RowKit Go.Proofs
set_option maxRecDepth 10000
theorem uD{m:Mem}(h:cY m=true):m.fits 16:=by
 simp only[cY,Bool.and_eq_true,decide_eq_true_eq]at h;obtain⟨⟨⟨⟨⟨⟨⟨⟨h1,h2⟩,h3⟩,h4⟩,h5⟩,h6⟩,h7⟩,h8⟩,h9⟩:=h;simp only[bu,Bool.and_eq_true,decide_eq_true_eq]at h1 h2;refine⟨by omega,by omega,by omega,by omega,by omega,fun s hs=>?_⟩;have hs:=List.all_eq_true.1 h7 s hs;simp only[Bool.and_eq_true]at hs;have hso:=hs.1;unfold bo at hso;split at hso
 ·simp only[Bool.and_eq_true,decide_eq_true_eq]at hso;have:=hso.1;simp only[ay,Bool.and_eq_true,decide_eq_true_eq]at this;omega
 ·simp only[Bool.and_eq_true,decide_eq_true_eq]at hso;omega
end Go.Qm
namespace Go.Qm
open Go.Cq Go.Cq.D Go.RowKit Go.Proofs
set_option maxRecDepth 10000
end Go.Qm
namespace Go.Qm
open Go.Cq Go.Cq.D Go.RowKit Go.Proofs
set_option maxRecDepth 10000
theorem fm{b r:Bool}{ts:DTs}(hl:an ts 2=some (.v (.one (.sc (.bool b)))))(hr:r=b):(X.ret= .nrm∨X.ret= .ret)∧an ts 2=some (.v (.one (.sc (.bool r)))):=⟨.inr rfl,by rw[hr];exact hl⟩
set_option maxHeartbeats 4000000 in
theorem zV:vV:=by
 intro b1 b2 b3 b4 b5 m h;refine aBQ hmix Try.func34 ok34 (Nat.le_of_ble_eq_true rfl) rfl rfl (fun U0 h0 c0 hU0=>?_);have hf:=h.mono (n':=4611686018427387904) (by decide);refine mI ?_;refine iU (bZ xS ?_);conv=>whnf
 refine mI ?_;refine iU (bZ xS ?_);conv=>whnf
 refine aC [.pass] rfl rfl rfl (mE b1 b2 m.ram hf.rt hf.rr) rfl ?_;conv=>whnf
 refine CondP.mk (fun h1=>?_) (fun h1=>?_)<;>rw[h1]<;>(conv=>whnf)<;>repeat' first|(refine aE ?_;conv=>whnf)|(refine aD ?_;conv=>whnf)
 ·exact fm rfl (by rw[cU rfl,show bu m.ram=false by simpa using h1];simp)
 refine CondP.mk (fun h3=>?_) (fun h3=>?_)<;>rw[h3]<;>(conv=>whnf)<;>repeat' first|(refine aE ?_;conv=>whnf)|(refine aD ?_;conv=>whnf)
 ·exact fm rfl (by rw[cU rfl,show decide (m.ram.rf.length=12)=false by simp at h3 ⊢;omega];simp)
 refine aC [.pass] rfl rfl rfl (mE b3 b4 m.swp hf.st hf.sr) rfl ?_
 (conv=>whnf)<;>repeat' first|(refine aE ?_;conv=>whnf)|(refine aD ?_;conv=>whnf)
 refine CondP.mk (fun h2=>?_) (fun h2=>?_)<;>rw[h2]<;>(conv=>whnf)<;>repeat' first|(refine aE ?_;conv=>whnf)|(refine aD ?_;conv=>whnf)
 ·exact fm rfl (by rw[cU rfl,show bu m.swp=false by simpa using h2];simp)
 refine CondP.mk (fun h4=>?_) (fun h4=>?_)<;>rw[h4]<;>(conv=>whnf)<;>repeat' first|(refine aE ?_;conv=>whnf)|(refine aD ?_;conv=>whnf)
 ·exact fm rfl (by rw[cU rfl,show decide (m.swp.rf.length=12)=false by simp at h4 ⊢;omega];simp)
 refine CondP.mk (fun h5=>?_) (fun h5=>?_)<;>rw[h5]<;>(conv=>whnf)<;>repeat' first|(refine aE ?_;conv=>whnf)|(refine aD ?_;conv=>whnf)
 ·exact fm rfl (by rw[cU rfl,show decide (m.sp.length=5)=false by simp at h5 ⊢;omega];simp)
 refine aC [.pass,.pass,.pass] rfl rfl rfl (je _ _ _) rfl ?_
 (conv=>whnf)<;>repeat' first|(refine aE ?_;conv=>whnf)|(refine aD ?_;conv=>whnf)
 refine CondP.mk (fun h6=>?_) (fun h6=>?_)<;>conv=>whnf
 ·exact fm rfl (by rw[cU rfl,show inB m.hd 0 11=false by simpa using h6];simp)
 have hl1:m.ram.rf.length=12:=by simp at h3;omega
 have hl2:m.swp.rf.length=12:=by simp at h4;omega
 have hl5:m.sp.length=5:=by simp at h5;omega
 have hd:=cU (m:=m) (b:=true) (by simp at h1 h2 h6;simp[h1,h2,hl1,hl2,hl5,h6]);rw[Bool.true_and]at hd;refine mI (iU (sW (aDV fun mid=>?_)));refine aDA [⟨none,some 3,.cp 54⟩] [] rfl rfl (cV ..) ?_;conv=>whnf
 refine sX ⟨cV ..,?_⟩;conv=>whnf
 refine mI (iU (dG (bZ (cV ..) ?_)));conv=>whnf
 refine kB ?_;refine su (fun q:Nat×Tl=>[(1,.v (.one (.ptr 0 0 0))),(3,.v (.one (.sc (.mp mid)))),(56,.v (.one (.ro b5 3 (m.sp.map rP)))),(57,.v (.one (dI (m.sp.map rP).length))),(58,.v (.one (dI q.1)))]) (fun _=>[(0,bM b1 b2 b3 b4 b5 m)]) (fun _=>1) (fun q=>GT c0 mid q.2)
  (fun q=>q.1≤m.sp.length∧Tells m q.2 q.1 0∧∀j(hj:j<m.sp.length),j<q.1→iK m.sp[j]=true) (fun q=>m.sp.length-q.1) (0,[]) ⟨by omega,Tells.zero m,by omega⟩ rfl rfl rfl rfl fun q hq=>?_
 obtain⟨i,L⟩:=q;obtain⟨hi1,hi2,hi3⟩:=hq;simp only at hi1 hi2 hi3;refine dG (bZ (cV ..) ?_);conv=>whnf
 refine dG (bZ (cV ..) ?_);conv=>whnf
 refine CondP.mk (fun h7=>?_) (fun h7=>?_)<;>conv=>whnf
 ·have hlt:i<m.sp.length:=by simp at h7;omega
  have hs:=hf.ss _ (List.getElem_mem hlt);refine dG (kB (dG (bZ (cV ..) ?_)));conv=>whnf
  refine aN (k:=i) rfl rfl (by simpa using hlt) ?_;conv=>whnf
  refine aH rfl (ldP hlt) ?_;conv=>whnf
  have no:iK m.sp[i]=false→cY m=false:=fun e=>by
   have:m.sp.all iK=false:=by rw[List.all_eq_false];exact⟨_,List.getElem_mem hlt,by simp[e]⟩
   rw[hd,this];rfl
  refine dG (bZ (cV ..) ?_);conv=>whnf
  refine CondP.mk (fun h8=>?_) (fun h8=>?_)<;>conv=>whnf
  ·
   have hlv:m.sp[i].lv=false:=by simpa using h8
   refine CondP.mk (fun h9=>?_) (fun h9=>?_)<;>rw[h9]<;>(conv=>whnf)<;>repeat' first|(refine aE ?_;conv=>whnf)|(refine aD ?_;conv=>whnf)
   ·refine fm rfl (no ?_);have:¬m.sp[i].ar.length=0:=by simp at h9;omega
    simp[iK,bo,hlv,this]
   refine CondP.mk (fun ha=>?_) (fun ha=>?_)<;>conv=>whnf
   ·refine fm rfl (no ?_);have:¬m.sp[i].sl.length=0:=by simp at ha;omega
    simp[iK,bo,hlv,this]
   ·have e1:m.sp[i].ar.length=0:=by simpa using h9
    have e2:m.sp[i].sl.length=0:=by simpa using ha
    refine bZ (cV ..) ?_;conv=>whnf
    refine⟨(i+1,L),by simp only;omega,⟨by simp only;omega,hi2.dead hlt e2,fun j hj hji=>?_⟩,?_,rfl,rfl,rfl⟩
    ·by_cases e:j=i
     ·subst e;simp only[iK,bo,hlv,e1,e2,decide_true,Bool.and_true,Bool.true_and,if_false,Bool.false_eq_true];rw[List.length_eq_zero_iff.1 e2];rfl
     ·exact hi3 j hj (by simp only at hji;omega)
    ·simp only[up hlt (by omega)];rfl
  have hlv:m.sp[i].lv=true:=by simpa using h8
  refine dG (bZ (cV ..) ?_);conv=>whnf
  refine aC [.pass] rfl rfl rfl (pO b5 m.sp[i].ar hs.1) rfl ?_;conv=>whnf
  refine CondP.mk (fun h9=>?_) (fun h9=>?_)<;>rw[h9]<;>(conv=>whnf)<;>repeat' first|(refine aE ?_;conv=>whnf)|(refine aD ?_;conv=>whnf)
  ·refine fm rfl (no ?_);simp[iK,bo,hlv,show ay m.sp[i].ar=false by simpa using h9]
  have h9:ay m.sp[i].ar=true:=by simpa using h9
  refine CondP.mk (fun ha=>?_) (fun ha=>?_)<;>conv=>whnf
  ·refine fm rfl (no ?_);have:¬m.sp[i].sl.length=16:=by simp at ha;omega
   simp[iK,bo,hlv,this]
  have ha:m.sp[i].sl.length=16:=by simp at ha;omega
  have hat:∀page:Int,dZ m.sp[i].ar page=bA m.sp[i].ar page:=fun page=>by rw[dZ,h9,if_pos rfl]
  refine dG (bZ (cV ..) ?_);conv=>whnf
  refine kB ?_;refine su (fun q:Nat×Tl=>[(1,.v (.one (.ptr 0 0 0))),(3,.v (.one (.sc (.mp mid)))),(5,.v (.one (.ptr 1 0 0))),(56,.v (.one (.ro b5 3 (m.sp.map rP)))),(57,.v (.one (dI (m.sp.map rP).length))),(58,.v (.one (dI i))),(86,.v (.one (.ro b5 4 (m.sp[i].sl.map rL)))),(87,.v (.one (dI (m.sp[i].sl.map rL).length))),(88,.v (.one (dI q.1)))])
   (fun _=>[(1,.box [dB m.sp[i].lv,.ro b5 4 (m.sp[i].ar.map rA),.ro b5 4 (m.sp[i].sl.map rL)]),(0,bM b1 b2 b3 b4 b5 m)]) (fun _=>2) (fun q=>GT c0 mid q.2)
   (fun q=>q.1≤m.sp[i].sl.length∧Tells m q.2 i q.1∧∀j(hj:j<m.sp[i].sl.length),j<q.1→dC m.sp[i].ar j m.sp[i].sl[j]=true∧gU m.sp[i].sl[j]=true) (fun q=>m.sp[i].sl.length-q.1) (0,L) ⟨by omega,hi2,by omega⟩ rfl rfl rfl rfl fun q hq=>?_
  obtain⟨j,L⟩:=q;obtain⟨hj1,hj2,hj3⟩:=hq;simp only at hj1 hj2 hj3;refine dG (bZ (cV ..) ?_);conv=>whnf
  refine dG (bZ (cV ..) ?_);conv=>whnf
  refine CondP.mk (fun hb=>?_) (fun hb=>?_)<;>conv=>whnf
  ·have hlj:j<m.sp[i].sl.length:=by simpa using hb
   have nos:(dC m.sp[i].ar j m.sp[i].sl[j]=false∨gU m.sp[i].sl[j]=false)→cY m=false:=fun e=>by
    cases hm:cY m with
    |false=>rfl
    |true=>
     rcases e with e|e
     ·rw[wR hm hlt hlj hlv]at e;simp at e
     ·have:=List.all_eq_true.1 (uP hm hlt).2 _ (List.getElem_mem hlj);rw[this]at e;simp at e
   refine dG (kB (dG (bZ (cV ..) ?_)));conv=>whnf
   refine aN (k:=j) rfl rfl (by simpa using hlj) ?_;conv=>whnf
   refine aH rfl (ldL hlj) ?_;conv=>whnf
   refine xB (fun ts H n γ=>∃v:Bool,ts=[(1,.v (.one (.ptr 0 0 0))),(3,.v (.one (.sc (.mp mid)))),(5,.v (.one (.ptr 1 0 0))),(6,.v (.one (dI j))),(7,.v (.one (.ptr 2 0 0))),(56,.v (.one (.ro b5 3 (m.sp.map rP)))),(57,.v (.one (dI (m.sp.map rP).length))),(58,.v (.one (dI i))),(86,.v (.one (.ro b5 4 (m.sp[i].sl.map rL)))),(87,.v (.one (dI (m.sp[i].sl.map rL).length))),(88,.v (.one (dI j))),(134,.v (.one (dB v)))]∧
    H=[(2,.box [dI m.sp[i].sl[j].kd,dI m.sp[i].sl[j].pl,dB m.sp[i].sl[j].ow,dB m.sp[i].sl[j].us]),(1,.box [dB m.sp[i].lv,.ro b5 4 (m.sp[i].ar.map rA),.ro b5 4 (m.sp[i].sl.map rL)]),(0,bM b1 b2 b3 b4 b5 m)]∧n=3∧γ=GT c0 mid L∧dC m.sp[i].ar j m.sp[i].sl[j]=true∧gU m.sp[i].sl[j]=true∧¬m.sp[i].sl[j].kd=0) (kB (dG (bZ (cV ..) ?_))) ?_
   rotate_left
   ·rintro ts H n γ ⟨v,rfl,rfl,rfl,rfl,hs1,hs2,hs3⟩;refine dG (bZ (cV ..) ?_);conv=>whnf
    refine zx hU0 rfl rfl rfl rfl (fun p hp=>by have:=hj2.len p hp;omega) ?_;conv=>whnf
    refine aC [.pass,.pass] rfl rfl rfl (qd b5 b5 m.sp[i] j hs.1) rfl ?_;conv=>whnf
    simp only[hat];refine bY rfl rfl rfl ?_;conv=>whnf
    refine⟨⟨(m.sp[i].sl[j].kd,m.sp[i].sl[j].pl),(m.sp[i].sl[j].ow,jT m.sp[i].ar (bA m.sp[i].ar (j:Int))),_,rfl,rfl,rfl,rfl,⟨rfl,rfl,rfl,rfl⟩,?_⟩⟩;conv=>whnf
    refine bZ (cV ..) ?_;conv=>whnf
    refine⟨(j+1,ib (m.sp[i].sl[j].kd,m.sp[i].sl[j].pl) (m.sp[i].sl[j].ow,jT m.sp[i].ar (bA m.sp[i].ar (j:Int))) L),by simp only;omega,⟨by simp only;omega,hj2.add hlt hlj,fun j' hj' hjj=>?_⟩,?_,rfl,rfl,rfl⟩
    ·by_cases e:j'=j
     ·subst e;exact⟨hs1,hs2⟩
     ·exact hj3 j' hj' (by simp only at hjj;omega)
    ·simp only[up hlj (by omega)];rfl
   conv=>whnf
   have e0:(m.sp[i].sl[j].kd==0&&(m.sp[i].sl[j].pl==0&&(m.sp[i].sl[j].ow==false&&(m.sp[i].sl[j].us==false&&true))))=decide (m.sp[i].sl[j]=dQ):=by
    rcases m.sp[i].sl[j]with⟨k,p,o,u⟩
    rw[Bool.eq_iff_iff];simp[dQ]
   refine CondP.mk (fun hk=>?_) (fun hk=>?_)<;>rw[hk]<;>(conv=>whnf)<;>repeat' first|(refine aE ?_;conv=>whnf)|(refine aD ?_;conv=>whnf)
   ·have hk:m.sp[i].sl[j].kd=0:=by simpa using hk
    refine bZ (cV ..) ?_
    (conv=>whnf)<;>repeat' first|(refine aE ?_;conv=>whnf)|(refine aD ?_;conv=>whnf)
    refine pL rfl rfl rfl rfl rfl ?_;conv=>whnf
    refine CondP.mk (fun h4=>?_) (fun h4=>?_)<;>conv=>whnf
    ·refine fm rfl (nos (.inl ?_));rw[e0]at h4;rw[dC,if_pos hk];simpa using h4
    ·rw[e0]at h4;have h4:m.sp[i].sl[j]=dQ:=by simpa using h4
     refine bZ (cV ..) ?_;conv=>whnf
     refine⟨(j+1,L),by simp only;omega,⟨by simp only;omega,hj2.skip hlt hlj hk,fun j' hj' hjj=>?_⟩,?_,rfl,rfl,rfl⟩
     ·by_cases e:j'=j
      ·subst e;exact⟨by rw[dC,if_pos hk];simpa using h4,by simp[gU,hk]⟩
      ·exact hj3 j' hj' (by simp only at hjj;omega)
     ·simp only[up hlj (by omega)];rfl
   have hk:¬m.sp[i].sl[j].kd=0:=by simpa using hk
   refine aC [.pass,.pass] rfl rfl rfl (lq b5 m.sp[i].ar j hs.1) rfl ?_
   (conv=>whnf)<;>repeat' first|(refine aE ?_;conv=>whnf)|(refine aD ?_;conv=>whnf)
   rw[hat];refine aCa rfl (fun hp=>?_) (fun hp=>?_)
   ·have hp:bA m.sp[i].ar j<0:=by simpa using hp
    refine bZ (cV ..) ?_;conv=>whnf
    refine pL rfl rfl rfl rfl rfl ?_;conv=>whnf
    refine CondP.mk (fun h4=>?_) (fun h4=>?_)<;>conv=>whnf
    ·refine fm rfl (nos (.inl ?_));rw[dC,if_neg hk,show decide (0≤bA m.sp[i].ar (j:Int))=false by simp;omega];rfl
    ·exfalso;rw[e0]at h4;have h4:m.sp[i].sl[j]=dQ:=by simpa using h4
     exact hk (by rw[h4];rfl)
   have hp:0≤bA m.sp[i].ar j:=by simp at hp;omega
   have hpb:decide (bA m.sp[i].ar (j:Int)<0)=false:=by simp;omega
   refine xB (fun ts H n γ=>∃v:Bool,ts=[(1,.v (.one (.ptr 0 0 0))),(3,.v (.one (.sc (.mp mid)))),(5,.v (.one (.ptr 1 0 0))),(6,.v (.one (dI j))),(7,.v (.one (.ptr 2 0 0))),(56,.v (.one (.ro b5 3 (m.sp.map rP)))),(57,.v (.one (dI (m.sp.map rP).length))),(58,.v (.one (dI i))),(86,.v (.one (.ro b5 4 (m.sp[i].sl.map rL)))),(87,.v (.one (dI (m.sp[i].sl.map rL).length))),(88,.v (.one (dI j))),(107,.v (.one (dB v)))]∧
    H=[(2,.box [dI m.sp[i].sl[j].kd,dI m.sp[i].sl[j].pl,dB m.sp[i].sl[j].ow,dB m.sp[i].sl[j].us]),(1,.box [dB m.sp[i].lv,.ro b5 4 (m.sp[i].ar.map rA),.ro b5 4 (m.sp[i].sl.map rL)]),(0,bM b1 b2 b3 b4 b5 m)]∧n=3∧γ=GT c0 mid L∧(v=true→cY m=false)∧(v=false→inB m.sp[i].sl[j].kd 1 2=true∧gU m.sp[i].sl[j]=true)) ?_ ?_
   ·refine bZ (cV ..) ?_;conv=>whnf
    have noh:∀{p:Pages},(m.sp[i].sl[j].kd=1∧p=m.ram∨m.sp[i].sl[j].kd=2∧p=m.swp)→(inB m.sp[i].sl[j].pl 0 (p.rf.length-1)&&decide (0<p.rf[m.sp[i].sl[j].pl.toNat]?.getD 0))=false→cY m=false:=fun{p} hp hh=>by
     cases hm:cY m with
     |false=>rfl
     |true=>
      exfalso;obtain⟨k1,k2⟩:=aDP hm (List.getElem_mem hlt) (List.getElem_mem hlj);rcases hp with⟨e,rfl⟩| ⟨e,rfl⟩
      ·obtain⟨q1,q2⟩:=k1 e;rw[hl1,show((12:Nat):Int)-1=11 from rfl,q1]at hh;simp at hh;omega
      ·obtain⟨q1,q2⟩:=k2 e;rw[hl2,show((12:Nat):Int)-1=11 from rfl,q1]at hh;simp at hh;omega
    have nin:(!inB m.sp[i].sl[j].kd 1 2)=true→cY m=false:=fun e=>nos (.inl (by rw[dC,if_neg hk,show inB m.sp[i].sl[j].kd 1 2=false by simpa using e];simp))
    refine CondP.mk (fun c1=>?_) (fun c1=>?_)<;>rw[c1]<;>(conv=>whnf)<;>repeat' first|(refine aE ?_;conv=>whnf)|(refine aD ?_;conv=>whnf)
    ·have c1:m.sp[i].sl[j].kd=1:=by simpa using c1
     refine aC [.pass,.pass] rfl rfl rfl (zz b1 b2 m.ram m.sp[i].sl[j].pl (by omega)) rfl ?_
     (conv=>whnf)<;>repeat' first|(refine aE ?_;conv=>whnf)|(refine aD ?_;conv=>whnf)
     refine CondP.mk (fun hh=>?_) (fun hh=>?_)<;>conv=>whnf
     ·exact⟨_,rfl,rfl,rfl,rfl,fun _=>noh (.inl ⟨c1,rfl⟩) (by simpa only[Bool.not_eq_true']using hh),fun e=>by rw[hh]at e;simp at e⟩
     ·refine CondP.mk (fun c2=>?_) (fun c2=>?_)<;>rw[c2]<;>(conv=>whnf)<;>repeat' first|(refine aE ?_;conv=>whnf)|(refine aD ?_;conv=>whnf)
      ·simp at c2;omega
      ·refine aC [.pass,.pass,.pass] rfl rfl rfl (je _ _ _) rfl ?_;conv=>whnf
       refine⟨_,rfl,rfl,rfl,rfl,nin,fun e=>⟨by simpa using e,?_⟩⟩;rw[hl1,show((12:Nat):Int)-1=11 from rfl]at hh;simp only[Bool.not_eq_false',Bool.and_eq_true]at hh;rw[gU,hh.1,Bool.or_true]
    ·have c1:¬m.sp[i].sl[j].kd=1:=by simpa using c1
     refine CondP.mk (fun c2=>?_) (fun c2=>?_)<;>rw[c2]<;>(conv=>whnf)<;>repeat' first|(refine aE ?_;conv=>whnf)|(refine aD ?_;conv=>whnf)
     ·have c2:m.sp[i].sl[j].kd=2:=by simpa using c2
      refine aC [.pass,.pass] rfl rfl rfl (zz b3 b4 m.swp m.sp[i].sl[j].pl (by omega)) rfl ?_
      (conv=>whnf)<;>repeat' first|(refine aE ?_;conv=>whnf)|(refine aD ?_;conv=>whnf)
      refine CondP.mk (fun hh=>?_) (fun hh=>?_)<;>conv=>whnf
      ·exact⟨_,rfl,rfl,rfl,rfl,fun _=>noh (.inr ⟨c2,rfl⟩) (by simpa only[Bool.not_eq_true']using hh),fun e=>by rw[hh]at e;simp at e⟩
      ·refine aC [.pass,.pass,.pass] rfl rfl rfl (je _ _ _) rfl ?_;conv=>whnf
       refine⟨_,rfl,rfl,rfl,rfl,nin,fun e=>⟨by simpa using e,?_⟩⟩;rw[hl2,show((12:Nat):Int)-1=11 from rfl]at hh;simp only[Bool.not_eq_false',Bool.and_eq_true]at hh;rw[gU,hh.1,Bool.or_true]
     ·have c2:¬m.sp[i].sl[j].kd=2:=by simpa using c2
      refine aC [.pass,.pass,.pass] rfl rfl rfl (je _ _ _) rfl ?_;conv=>whnf
      refine⟨_,rfl,rfl,rfl,rfl,nin,fun e=>⟨by simpa using e,?_⟩⟩;simp only[Bool.not_eq_false',inB,Bool.and_eq_true,decide_eq_true_eq]at e;omega
   ·rintro ts H n γ ⟨v,rfl,rfl,rfl,rfl,hv1,hv2⟩;refine bZ (cV ..) ?_;conv=>whnf
    refine CondP.mk (fun hv=>?_) (fun hv=>?_)<;>rw[hv]<;>conv=>whnf
    ·exact fm rfl (hv1 hv)
    obtain⟨hin,hpl⟩:=hv2 hv;refine aC [.pass,.pass] rfl rfl rfl (qd b5 b5 m.sp[i] j hs.1) rfl ?_;conv=>whnf
    rw[hat];refine CondP.mk (fun hsh=>?_) (fun hsh=>?_)<;>rw[hsh]<;>(conv=>whnf)<;>repeat' first|(refine aE ?_;conv=>whnf)|(refine aD ?_;conv=>whnf)
    ·refine CondP.mk (fun how=>?_) (fun how=>?_)<;>conv=>whnf
     ·refine fm rfl (nos (.inl ?_));rw[dC,if_neg hk,hsh];have:m.sp[i].sl[j].ow=false:=by simpa using how
      simp[this]
     ·refine⟨_,rfl,rfl,rfl,rfl,?_,hpl,hk⟩;have:m.sp[i].sl[j].ow=true:=by simpa using how
      rw[dC,if_neg hk,hin,this];simp[hp]
    ·refine⟨_,rfl,rfl,rfl,rfl,?_,hpl,hk⟩;rw[dC,if_neg hk,hin,hsh];simp[hp]
  ·have hje:j=m.sp[i].sl.length:=by
                       have:¬j<m.sp[i].sl.length:=by simpa using hb
                       omega
   refine bZ (cV ..) ?_;conv=>whnf
   refine⟨(i+1,L),by simp only;omega,⟨by simp only;omega,hj2.next hlt hje.symm (by omega),fun i' hi' hii=>?_⟩,?_,rfl,rfl,rfl⟩
   ·by_cases e:i'=i
    ·subst e;have h1:cz m.sp[i'].ar 0 m.sp[i'].sl=true:=sS fun j' x hx=>by obtain⟨hj',rfl⟩:=List.getElem?_eq_some_iff.1 hx;rw[Nat.zero_add];exact(hj3 j' hj' (by omega)).1
     have h2:m.sp[i'].sl.all gU=true:=List.all_eq_true.2 fun x hx=>by obtain⟨j',hj',rfl⟩:=List.getElem_of_mem hx;exact(hj3 j' hj' (by omega)).2
     rw[iK,bo,if_pos hlv,h9,ha,h1,h2];rfl
    ·exact hi3 i' hi' (by simp only at hii;omega)
   ·simp only[up hlt (by omega)];rfl
 ·have hie:i=m.sp.length:=by simp at h7;omega
  have hall:m.sp.all iK=true:=List.all_eq_true.2 fun x hx=>by obtain⟨j',hj',rfl⟩:=List.getElem_of_mem hx;exact hi3 j' hj' (by omega)
  rw[hall,Bool.true_and]at hd;have htell:∀{kd pl:Int},kd≠0→dq L (kd,pl)=tel kd pl m.sp:=fun hk=>hi2.all hie hk
  refine mI (mI (iU (sW (aD1 fun oid=>?_))));refine r6 2 (oV ..) rfl ?_;conv=>whnf
  refine aAH (p:=m.ram) rfl rfl (by simp) ?_;refine r6 2 (oV ..) rfl ?_;conv=>whnf
  refine aAH (p:=m.swp) rfl rfl (by simp) ?_;refine r6 1 (oV ..) rfl ?_;conv=>whnf
  refine aDy rfl fun iid=>?_
  refine sX ⟨da ..,?_⟩;conv=>whnf
  let refJ:Nat→Bool:=fun j=>if j=0 then cn 1 m.sp 0 m.ram.rf else cn 2 m.sp 0 m.swp.rf
  refine aDT ?_;refine aCO (fun _:List Nat=>[(3,.v (.one (.sc (.mp mid)))),(169,.v (.one (.sc (.ptr iid 0))))]) (fun _=>[]) (fun _=>0) (fun seen=>G2 c0 mid oid iid L [(1,m.ram),(2,m.swp)] seen)
   (fun seen=>(seen=[]∨seen=[0]∨seen=[1]∨seen=[0,1]∨seen=[1,0])∧∀j,j∈seen→refJ j=true) (fun seen=>2-seen.length) [] ⟨.inl rfl,by simp⟩ rfl rfl rfl rfl fun seen hseen=>?_
  obtain⟨hs1,hs2⟩:=hseen;refine mI (aD2 rfl rfl (fun hend=>⟨da ..,?_⟩) (fun j hj hjn=>⟨da ..,?_⟩))
  ·conv=>whnf
   refine iU (dG (bZ (da ..) ?_))
   (conv=>whnf)<;>repeat' first|(refine aE ?_;conv=>whnf)|(refine aD ?_;conv=>whnf)
   refine iU (bZ (da ..) ?_);conv=>whnf
   refine fm rfl ?_;have r0:=hs2 0 (hend 0 (by simp));have r1:=hs2 1 (hend 1 (by simp));simp only[refJ,if_true]at r0 r1;rw[if_neg (by decide)]at r1;rw[hd,r0,r1];rfl
  ·conv=>whnf
   obtain⟨kd,pg,hp,hkd,hrl,href⟩:∃(kd:Int)(pg:Pages),[((1:Int),m.ram),(2,m.swp)][j]?=some (kd,pg)∧kd≠0∧pg.rf.length=12∧cn kd m.sp 0 pg.rf=refJ j:=by
    match j,hj with
    |0,_=>exact⟨1,m.ram,rfl,by decide,hl1,rfl⟩
    |1,_=>exact⟨2,m.swp,rfl,by decide,hl2,rfl⟩
   have hno:cn kd m.sp 0 pg.rf=false→cY m=false:=fun e=>by
    rw[hd]
    match j,hj with
    |0,_=>rw[href]at e;simp only[refJ,if_true]at e;rw[e];rfl
    |1,_=>rw[href]at e;simp only[refJ]at e;rw[if_neg (by decide)]at e;rw[e];simp
   refine iU (dG (bZ (da ..) ?_))
   (conv=>whnf)<;>repeat' first|(refine aE ?_;conv=>whnf)|(refine aD ?_;conv=>whnf)
   refine kB (dG (sW (aDR rfl hp ?_)));refine r6 5 (da ..) rfl ?_;conv=>whnf
   refine sX ⟨da ..,?_⟩;conv=>whnf
   refine dG (bZ (da ..) ?_);conv=>whnf
   refine kB ?_;refine su (fun a:Nat=>[(3,.v (.one (.sc (.mp mid)))),(9,.v (.one (dI kd))),(169,.v (.one (.sc (.ptr iid 0)))),(176,.v (.one (.ro true 1 (pg.rf.map rI)))),(177,.v (.one (dI (pg.rf.map rI).length))),(178,.v (.one (dI a)))]) (fun _=>[]) (fun _=>0) (fun _=>G2 c0 mid oid iid L [(1,m.ram),(2,m.swp)] (seen++[j]))
    (fun a=>a≤pg.rf.length∧cn kd m.sp 0 pg.rf=cn kd m.sp a (pg.rf.drop a)) (fun a=>pg.rf.length-a) 0 ⟨by omega,by simp⟩ rfl rfl rfl rfl fun a ha=>?_
   obtain⟨ha1,ha2⟩:=ha;refine dG (bZ (da ..) ?_);conv=>whnf
   refine dG (bZ (da ..) ?_);conv=>whnf
   refine CondP.mk (fun hb=>?_) (fun hb=>?_)<;>conv=>whnf
   ·have hla:a<pg.rf.length:=by simpa using hb
    rw[k9 hla]at ha2;have no2:g8 kd m.sp a pg.rf[a]=false→cY m=false:=fun e=>hno (by rw[ha2,e];rfl)
    refine dG (kB (dG (bZ (da ..) ?_)));conv=>whnf
    refine aN (k:=a) rfl rfl (by simpa using hla) ?_;conv=>whnf
    refine aH rfl (r:=.one (dI pg.rf[a])) (by simp[ak,rI,hla,eI,dI]) ?_;conv=>whnf
    refine dG (sW (r6 4 (da ..) rfl ?_));conv=>whnf
    refine aBw (k:=(kd,(a:Int))) rfl rfl ?_;rw[htell hkd];refine r6 1 (da ..) rfl ?_;conv=>whnf
    refine sX ⟨da ..,?_⟩;conv=>whnf
    have hrefT:g8 kd m.sp a pg.rf[a]=(decide (((tel kd (a:Int) m.sp).length:Int)=pg.rf[a])&&alone (tel kd (a:Int) m.sp)):=rfl;have hTl:(tel kd (a:Int) m.sp).length≤4611686018427387904:=by
     have:=wh (kd:=kd) (pl:=(a:Int)) (n:=16) (l:=m.sp) fun s hs=>by have:=List.all_eq_true.1 hall s hs;simp only[iK,Bool.and_eq_true]at this;exact oG this.1
     omega
    generalize tel kd (a:Int) m.sp=T at*;refine bZ (da ..) ?_;conv=>whnf
    refine CondP.mk (fun h8=>?_) (fun h8=>?_)<;>conv=>whnf
    ·refine fm rfl (no2 ?_);rw[hrefT,show decide ((T.length:Int)=pg.rf[a])=false by simpa using h8];rfl
    have hlen:(T.length:Int)=pg.rf[a]:=by simpa using h8
    have bad:∀{x y:Nat},x<T.length→y<T.length→ez T x y=false→cY m=false:=fun hx hy e=>no2 (by rw[hrefT,xd hx hy e];simp)
    refine ao (fun x:Nat=>[(3,.v (.one (.sc (.mp mid)))),(9,.v (.one (dI kd))),(13,.v (.one (.ro true 2 (T.map rT)))),(169,.v (.one (.sc (.ptr iid 0)))),(176,.v (.one (.ro true 1 (pg.rf.map rI)))),(177,.v (.one (dI (pg.rf.map rI).length))),(178,.v (.one (dI a))),(192,.v (.one (.ro true 2 (T.map rT)))),(193,.v (.one (dI (T.map rT).length))),(194,.v (.one (dI x)))]) (fun _=>[]) (fun _=>0) (fun x=>x≤T.length∧∀x' y',x'<x→y'<T.length→ez T x' y'=true) (fun x=>T.length-x) 0 ⟨by omega,by omega⟩ rfl rfl rfl fun x hx=>?_
    obtain⟨hx1,hx2⟩:=hx;conv=>whnf
    refine CondP.mk (fun h9=>?_) (fun h9=>?_)<;>conv=>whnf
    ·have hlx:x<T.length:=by simpa using h9
     refine aN (k:=x) rfl rfl (by simpa using hlx) ?_;conv=>whnf
     refine aH rfl (r:=.agg [dB T[x].1,dB T[x].2]) (by simp[ak,rT,hlx,eB,dB]) ?_;conv=>whnf
     refine ao (fun y:Nat=>[(3,.v (.one (.sc (.mp mid)))),(9,.v (.one (dI kd))),(13,.v (.one (.ro true 2 (T.map rT)))),(14,.v (.one (dI x))),(15,.v (.one (.ptr 0 0 0))),(169,.v (.one (.sc (.ptr iid 0)))),(176,.v (.one (.ro true 1 (pg.rf.map rI)))),(177,.v (.one (dI (pg.rf.map rI).length))),(178,.v (.one (dI a))),(192,.v (.one (.ro true 2 (T.map rT)))),(193,.v (.one (dI (T.map rT).length))),(194,.v (.one (dI x))),(199,.v (.one (.ro true 2 (T.map rT)))),(200,.v (.one (dI (T.map rT).length))),(201,.v (.one (dI y)))]) (fun _=>[(0,.box [dB T[x].1,dB T[x].2])]) (fun _=>1) (fun y=>y≤T.length∧∀y',y'<y→ez T x y'=true) (fun y=>T.length-y) 0 ⟨by omega,by omega⟩ rfl rfl rfl fun y hy=>?_
     obtain⟨hy1,hy2⟩:=hy;conv=>whnf
     refine CondP.mk (fun hc=>?_) (fun hc=>?_)<;>conv=>whnf
     ·have hly:y<T.length:=by simpa using hc
      refine aN (k:=y) rfl rfl (by simpa using hly) ?_;conv=>whnf
      refine aH rfl (r:=.agg [dB T[y].1,dB T[y].2]) (by simp[ak,rT,hly,eB,dB]) ?_;conv=>whnf
      have pe:ez T x y=(decide (x=y)||!(T[x].1&&!(T[x].2&&T[y].2))):=by simp[ez,hlx,hly]
      have nexty:ez T x y=true→∀y',y'<y+1→ez T x y'=true:=fun e y' hy'=>by
       by_cases e2:y'=y
       ·subst e2;exact e
       ·exact hy2 y' (by omega)
      refine CondP.mk (fun d1=>?_) (fun d1=>?_)<;>rw[d1]<;>(conv=>whnf)<;>repeat' first|(refine aE ?_;conv=>whnf)|(refine aD ?_;conv=>whnf)
      ·have d1:¬x=y:=by simp at d1;omega
       refine CondP.mk (fun d2=>?_) (fun d2=>?_)<;>rw[d2]<;>(conv=>whnf)<;>repeat' first|(refine aE ?_;conv=>whnf)|(refine aD ?_;conv=>whnf)
       ·refine CondP.mk (fun d3=>?_) (fun d3=>?_)<;>rw[d3]<;>(conv=>whnf)<;>repeat' first|(refine aE ?_;conv=>whnf)|(refine aD ?_;conv=>whnf)
        ·refine CondP.mk (fun d4=>?_) (fun d4=>?_)<;>conv=>whnf
         ·exact fm rfl (bad hlx hly (by rw[pe,d2,d3,show T[y].2=false by simpa using d4];simp[d1]))
         ·refine⟨y+1,by omega,⟨by omega,nexty (by rw[pe,d2,d3,show T[y].2=true by simpa using d4];simp)⟩,?_,rfl,rfl⟩;rw[up hly hTl];rfl
        ·exact fm rfl (bad hlx hly (by rw[pe,d2,d3];simp[d1]))
       ·refine⟨y+1,by omega,⟨by omega,nexty (by rw[pe,d2];simp)⟩,?_,rfl,rfl⟩;rw[up hly hTl];rfl
      ·have d1:x=y:=by simp at d1;omega
       refine⟨y+1,by omega,⟨by omega,nexty (by rw[pe];simp[d1])⟩,?_,rfl,rfl⟩;rw[up hly hTl];rfl
     ·have hye:y=T.length:=by
                     have:¬y<T.length:=by simpa using hc
                     omega
      refine⟨x+1,by omega,⟨by omega,fun x' y' hx' hy'=>?_⟩,?_,rfl,rfl⟩
      ·by_cases e:x'=x
       ·subst e;exact hy2 y' (by omega)
       ·exact hx2 x' y' (by omega) hy'
      ·rw[up hlx hTl];rfl
    ·have hxe:x=T.length:=by
                    have:¬x<T.length:=by simpa using h9
                    omega
     have hal:alone T=true:=aAZ fun x' y' hx' hy'=>hx2 x' y' (by omega) hy'
     refine bZ (da ..) ?_;conv=>whnf
     refine⟨a+1,by omega,⟨by omega,?_⟩,?_,rfl,rfl,rfl⟩
     ·rw[ha2,hrefT,hal,decide_eq_true hlen];rfl
     ·rw[up hla (by omega)];rfl
   ·have hae:a=pg.rf.length:=by
                     have:¬a<pg.rf.length:=by simpa using hb
                     omega
    subst hae;rw[List.drop_length]at ha2;simp only[cn]at ha2;refine⟨seen++[j],[3,169],?_,⟨?_,fun j' hj'=>?_⟩,rfl,rfl,rfl,rfl⟩
    ·simp only[List.length_append,List.length_cons,List.length_nil];rcases hs1 with rfl|rfl|rfl|rfl|rfl<;>simp at hjn ⊢
     all_goals (simp at hj;omega)
    ·simp only[List.length_cons,List.length_nil]at hj;have:j=0∨j=1:=by omega
     rcases hs1 with rfl|rfl|rfl|rfl|rfl<;>rcases this with rfl|rfl<;>simp at hjn ⊢
    ·rcases List.mem_append.1 hj' with hj'|hj'
     ·exact hs2 j' hj'
     ·simp only[List.mem_singleton]at hj';subst hj';rw[←href,ha2]
end Go.Qm
namespace Go.Qm
open Go.Cq Go.Cq.D Go.RowKit Go.Proofs Go.ChangeShapes Go.WideShapes Go.ChangeAt
set_option maxRecDepth 10000
section
variable{H:Type}{enc:TypeId×Value→H}{W:World}{sp:Nat→Bool}{held:Bool}
abbrev aEg(W:World):Prop:=∃(B:Nat)(c:Array Value)(e:TypeId)(fr:Nat×Nat),W.heap[B]?=some (.cells c e fr)
instance:Inhabited Area:=⟨⟨0,0,false,false⟩⟩
instance:Inhabited Slot:=⟨⟨0,0,false,false⟩⟩
instance:Inhabited Space:=⟨⟨false,[],[]⟩⟩
theorem laidOut:laidOutB Try.prog=true:=by kernel_rfl
end
end Go.Qm
namespace Go.Qm
open Go.Cq Go.Cq.D Go.RowKit Go.Proofs Go.ChangeShapes Go.WideShapes Go.ChangeAt
set_option maxRecDepth 10000
section
variable{H:Type}{enc:TypeId×Value→H}{W:World}{sp:Nat→Bool}{held:Bool}
theorem c5:Try.prog.cellsOf 5=1:=by kernel_rfl
theorem aAv(hB:aEg W){v:Value}{n:Nat}{x:DataW H×List MemPlace}(h:DataW.trod enc Try.prog W 0 (fun _=>true) held n 40 [v]=some x):∃l:List UInt8,WV W (.sl 1 (l.map dE)) v:=by
 obtain⟨l, -, -,h2⟩:=aDt (row:=dE) (good:=fun _=>True) Try.underlying40 c5 (by decide) (fun n cs x _ hl h=>by
  obtain⟨k,h1, -,h3⟩:=DataW.trod_int Try.underlying5 h;subst h1;simp only[Lit.wf,Bool.and_eq_true,decide_eq_true_eq]at h3;have h4:(0:Int)≤k:=h3.1;have h5:k≤(255:Int):=h3.2;refine⟨UInt8.ofNat k.toNat,rfl,trivial,fun j p hp=>?_⟩
  match j,hp with
  |0,hp=>simp only[dE,List.getElem?_cons_zero,Option.some.injEq]at hp;subst hp;refine⟨_,rfl,?_⟩;rw[show((UInt8.ofNat k.toNat).toNat:Int)=k by rw[UInt8.toNat_ofNat'];omega];exact .int
  |j+1,hp=>simp[dE]at hp) hB h
 exact⟨l,h2⟩
theorem yi{base:Nat}{v:Value}{d:DataW H}{p:List MemPlace}(hval:Value.okWide Try.prog W .any base 40 v)(h0:DataW.Trod enc Try.prog W 0 (fun _=>true) held 40 v d p):∃l:List UInt8,WDV W (.one (.ro true 1 (l.map dE))) v:=by
 obtain⟨a,len,cap,rfl⟩:=okWide_slice Try.underlying40 hval;obtain⟨fuel,h⟩:=h0;have h:DataW.trod enc Try.prog W 0 (fun _=>true) held fuel 40 [.slice a len cap]=some (d,p):=h;cases a with
 |none=>
  rcases DataW.trod_slice Try.underlying40 h with⟨q, -⟩| ⟨ad,len,cap,_,_,_, -,q, -⟩
  ·simp only[List.cons.injEq,and_true]at q;rw[q];exact⟨[],rfl,.nil⟩
  ·simp at q
 |some a=>simp only[Value.okWide,Try.underlying40]at hval;obtain⟨l,hl⟩:=aAv (hasB hval) h;exact⟨l,rfl,hl⟩
theorem aCw:Try.prog.readableRec 40=true:=by kernel_rfl
theorem aEq:InBook Try.prog 40 40:=⟨of_decide_eq_true (by kernel_rfl),book_self 40⟩
theorem K40:Kids Try.prog (InBook Try.prog 40):=kids_book laidOut aCw
end
end Go.Qm
namespace Go.Qm
open Go.Cq Go.Cq.D Go.RowKit Go.Proofs
set_option maxRecDepth 10000
theorem yb(b1 b2:Bool)(l:List Int)(hb:l.length≤4611686018427387904):bC Try.prog 113 [.one (.ro b1 1 (l.map rI)),.one (.ro b2 1 (l.map rI))] (.v (.one (dB true))):=by
 refine aS hmix Try.func113 ok113 ?_;conv=>whnf
 refine CondP.mk (fun h=>by simp at h) (fun _=>?_);conv=>whnf
 refine ao (fun i:Nat=>[(0,.v (.one (.ro b1 1 (l.map rI)))),(1,.v (.one (.ro b2 1 (l.map rI)))),(5,.v (.one (dI i)))]) (fun _=>[]) (fun _=>0) (fun i=>i≤l.length) (fun i=>l.length-i) 0 (by omega) rfl rfl rfl fun i hi=>?_
 conv=>whnf
 refine CondP.mk (fun h=>?_) (fun h=>?_)<;>conv=>whnf
 ·have hi1:i<l.length:=by simpa using h
  refine aN (k:=i) rfl rfl (by simpa using hi1) ?_;conv=>whnf
  refine aH rfl (r:=.one (dI l[i])) (by simp[ak,hi1,rI,eI,dI]) ?_;conv=>whnf
  refine aN (k:=i) rfl rfl (by simpa using hi1) ?_;conv=>whnf
  refine aH rfl (r:=.one (dI l[i])) (by simp[ak,hi1,rI,eI,dI]) ?_;conv=>whnf
  refine CondP.mk (fun h=>by simp at h) (fun _=>?_);conv=>whnf
  refine⟨i+1,by omega,by omega,?_,rfl,rfl⟩;rw[←up hi1 hb];rfl
 ·exact⟨rfl,rfl⟩
theorem wF(b1 b2:Bool)(l:List Str)(hb:l.length≤4611686018427387904):bC Try.prog 114 [.one (.ro b1 1 (l.map rS)),.one (.ro b2 1 (l.map rS))] (.v (.one (dB true))):=by
 refine aS hmix Try.func114 ok114 ?_;conv=>whnf
 refine CondP.mk (fun h=>by simp at h) (fun _=>?_);conv=>whnf
 refine ao (fun i:Nat=>[(0,.v (.one (.ro b1 1 (l.map rS)))),(1,.v (.one (.ro b2 1 (l.map rS)))),(5,.v (.one (dI i)))]) (fun _=>[]) (fun _=>0) (fun i=>i≤l.length) (fun i=>l.length-i) 0 (by omega) rfl rfl rfl fun i hi=>?_
 conv=>whnf
 refine CondP.mk (fun h=>?_) (fun h=>?_)<;>conv=>whnf
 ·have hi1:i<l.length:=by simpa using h
  refine aN (k:=i) rfl rfl (by simpa using hi1) ?_;conv=>whnf
  refine aH rfl (r:=.one (.sc (.str l[i]))) (by simp[ak,hi1,rS,eS]) ?_;conv=>whnf
  refine aN (k:=i) rfl rfl (by simpa using hi1) ?_;conv=>whnf
  refine aH rfl (r:=.one (.sc (.str l[i]))) (by simp[ak,hi1,rS,eS]) ?_;conv=>whnf
  refine CondP.mk (fun h=>by simp at h) (fun _=>?_);conv=>whnf
  refine⟨i+1,by omega,by omega,?_,rfl,rfl⟩;rw[←up hi1 hb];rfl
 ·exact⟨rfl,rfl⟩
theorem vq(b1 b2:Bool)(l:List Area)(hb:l.length≤4611686018427387904):bC Try.prog 112 [.one (.ro b1 4 (l.map rA)),.one (.ro b2 4 (l.map rA))] (.v (.one (dB true))):=by
 refine aS hmix Try.func112 ok112 ?_;conv=>whnf
 refine CondP.mk (fun h=>by simp at h) (fun _=>?_);conv=>whnf
 refine ao (fun i:Nat=>[(0,.v (.one (.ro b1 4 (l.map rA)))),(1,.v (.one (.ro b2 4 (l.map rA)))),(5,.v (.one (dI i)))]) (fun _=>[]) (fun _=>0) (fun i=>i≤l.length) (fun i=>l.length-i) 0 (by omega) rfl rfl rfl fun i hi=>?_
 conv=>whnf
 refine CondP.mk (fun h=>?_) (fun h=>?_)<;>conv=>whnf
 ·have hi1:i<l.length:=by simpa using h
  refine aN (k:=i) rfl rfl (by simpa using hi1) ?_;conv=>whnf
  refine aH rfl (ldA hi1) ?_;conv=>whnf
  refine aN (k:=i) rfl rfl (by simpa using hi1) ?_;conv=>whnf
  refine aH rfl (ldA hi1) ?_;conv=>whnf
  refine pL rfl rfl rfl rfl rfl ?_;conv=>whnf
  refine CondP.mk (fun h=>by simp at h) (fun _=>?_);conv=>whnf
  refine⟨i+1,by omega,by omega,?_,rfl,rfl⟩;rw[←up hi1 hb];rfl
 ·exact⟨rfl,rfl⟩
theorem vR(b1 b2:Bool)(x:Space)(h1:x.ar.length≤4611686018427387904)(h2:x.sl.length≤4611686018427387904):bC Try.prog 81 [.agg (aP b1 x),.agg (aP b2 x)] (.v (.one (dB true))):=by
 refine aS hmix Try.func81 ok81 ?_;conv=>whnf
 refine CondP.mk (fun h=>by simp at h) (fun h=>?_);rw[h]
 (conv=>whnf)<;>repeat' first|(refine aE ?_;conv=>whnf)|(refine aD ?_;conv=>whnf)
 refine aC [.pass,.pass] rfl rfl rfl (vq b1 b2 x.ar h1) rfl ?_
 (conv=>whnf)<;>repeat' first|(refine aE ?_;conv=>whnf)|(refine aD ?_;conv=>whnf)
 refine CondP.mk (fun h=>by simp at h) (fun _=>?_);conv=>whnf
 refine ao (fun i:Nat=>[(2,.v (.one (.ptr 0 0 0))),(3,.v (.one (.ptr 1 0 0))),(5,.v (.one (dI i)))]) (fun _=>[(1,.box (aP b2 x)),(0,.box (aP b1 x))]) (fun _=>2) (fun i=>i≤x.sl.length) (fun i=>x.sl.length-i) 0 (by omega) rfl rfl rfl fun i hi=>?_
 conv=>whnf
 refine CondP.mk (fun h=>?_) (fun h=>?_)<;>conv=>whnf
 ·have hi1:i<x.sl.length:=by simpa using h
  refine aN (k:=i) rfl rfl (by simpa using hi1) ?_;conv=>whnf
  refine aH rfl (ldL hi1) ?_;conv=>whnf
  refine aN (k:=i) rfl rfl (by simpa using hi1) ?_;conv=>whnf
  refine aH rfl (ldL hi1) ?_;conv=>whnf
  refine pL rfl rfl rfl rfl rfl ?_;conv=>whnf
  refine CondP.mk (fun h=>by simp at h) (fun _=>?_);conv=>whnf
  refine⟨i+1,by omega,by omega,?_,rfl,rfl⟩;rw[←up hi1 h2];rfl
 ·exact⟨rfl,rfl⟩
theorem pE(b1 b2 b3 b4:Bool)(x:Pages)(h1:x.tx.length≤4611686018427387904)(h2:x.rf.length≤4611686018427387904):bC Try.prog 54 [.agg [.ro b1 1 (x.tx.map rS),.ro b2 1 (x.rf.map rI)],.agg [.ro b3 1 (x.tx.map rS),.ro b4 1 (x.rf.map rI)]] (.v (.one (dB true))):=by
 refine aS hmix Try.func54 ok54 ?_;conv=>whnf
 refine aC [.pass,.pass] rfl rfl rfl (wF _ _ x.tx h1) rfl ?_
 (conv=>whnf)<;>repeat' first|(refine aE ?_;conv=>whnf)|(refine aD ?_;conv=>whnf)
 refine aC [.pass,.pass] rfl rfl rfl (yb _ _ x.rf h2) rfl ?_
 (conv=>whnf)<;>repeat' first|(refine aE ?_;conv=>whnf)|(refine aD ?_;conv=>whnf)
 exact⟨rfl,rfl⟩
theorem aBH(b1 b2 b3 b4 b5 c1 c2 c3 c4 c5:Bool)(x:Mem)(hf:x.fits 4611686018427387904):bC Try.prog 32 [aM b1 b2 b3 b4 b5 x,aM c1 c2 c3 c4 c5 x] (.v (.one (dB true))):=by
 refine aS hmix Try.func32 ok32 ?_;conv=>whnf
 refine aC [.pass,.pass] rfl rfl rfl (pE _ _ _ _ x.ram hf.rt hf.rr) rfl ?_
 (conv=>whnf)<;>repeat' first|(refine aE ?_;conv=>whnf)|(refine aD ?_;conv=>whnf)
 refine aC [.pass,.pass] rfl rfl rfl (pE _ _ _ _ x.swp hf.st hf.sr) rfl ?_
 (conv=>whnf)<;>repeat' first|(refine aE ?_;conv=>whnf)|(refine aD ?_;conv=>whnf)
 refine CondP.mk (fun h=>by simp at h) (fun h=>?_);rw[h]
 (conv=>whnf)<;>repeat' first|(refine aE ?_;conv=>whnf)|(refine aD ?_;conv=>whnf)
 refine CondP.mk (fun h=>by simp at h) (fun _=>?_);conv=>whnf
 refine ao (fun i:Nat=>[(2,.v (.one (.ptr 0 0 0))),(3,.v (.one (.ptr 1 0 0))),(5,.v (.one (dI i)))]) (fun _=>[(1,.box [.ro c1 1 (x.ram.tx.map rS),.ro c2 1 (x.ram.rf.map rI),.ro c3 1 (x.swp.tx.map rS),.ro c4 1 (x.swp.rf.map rI),.ro c5 3 (x.sp.map rP),dI x.hd]),(0,.box [.ro b1 1 (x.ram.tx.map rS),.ro b2 1 (x.ram.rf.map rI),.ro b3 1 (x.swp.tx.map rS),.ro b4 1 (x.swp.rf.map rI),.ro b5 3 (x.sp.map rP),dI x.hd])]) (fun _=>2) (fun i=>i≤x.sp.length) (fun i=>x.sp.length-i) 0 (by omega) rfl rfl rfl fun i hi=>?_
 conv=>whnf
 refine CondP.mk (fun h=>?_) (fun h=>?_)<;>conv=>whnf
 ·have hi1:i<x.sp.length:=by simpa using h
  refine aN (k:=i) rfl rfl (by simpa using hi1) ?_;conv=>whnf
  refine aH rfl (ldP hi1) ?_;conv=>whnf
  refine aN (k:=i) rfl rfl (by simpa using hi1) ?_;conv=>whnf
  refine aH rfl (ldP hi1) ?_;conv=>whnf
  refine aC [.pass,.pass] rfl rfl rfl (vR b5 c5 x.sp[i] (hf.ss _ (List.getElem_mem hi1)).1 (hf.ss _ (List.getElem_mem hi1)).2) rfl ?_
  (conv=>whnf)<;>repeat' first|(refine aE ?_;conv=>whnf)|(refine aD ?_;conv=>whnf)
  refine⟨i+1,by omega,by omega,?_,rfl,rfl⟩;rw[←up hi1 hf.sp];rfl
 ·exact⟨rfl,rfl⟩
theorem qp(b1 b2:Bool)(p:Pages)(h:bu p=true):bC Try.prog 33 [.agg [.ro b1 1 (p.tx.map rS),.ro b2 1 (p.rf.map rI)]] (.v (.one (dI (fD p.rf)))):=by
 refine aS hmix Try.func33 ok33 ?_;have hb:p.tx.length=p.rf.length∧p.rf.length≤12:=by simp only[bu,inB,Bool.and_eq_true,decide_eq_true_eq]at h;omega
 conv=>whnf
 refine aC [.pass] rfl rfl rfl (mE b1 b2 p (by omega) (by omega)) rfl ?_;rw[h]
 (conv=>whnf)<;>repeat' first|(refine aE ?_;conv=>whnf)|(refine aD ?_;conv=>whnf)
 refine ao (fun i:Nat=>[(3,.v (.one (dI (fD (p.rf.take i))))),(10,.v (.one (.ro b2 1 (p.rf.map rI)))),(11,.v (.one (dI p.rf.length))),(12,.v (.one (dI i)))]) (fun _=>[]) (fun _=>0) (fun i=>i≤p.rf.length) (fun i=>p.rf.length-i) 0 (by omega) (by simp[fD,dI]) rfl rfl fun i hi=>?_
 conv=>whnf
 refine CondP.mk (fun h=>?_) (fun h=>?_)<;>conv=>whnf
 ·have hi1:i<p.rf.length:=by simpa using h
  refine aN (k:=i) rfl rfl (by simpa using hi1) ?_;conv=>whnf
  refine aH rfl (r:=.one (dI p.rf[i])) (by simp[ak,hi1,rI,eI,dI]) ?_;conv=>whnf
  have hc:=qn hi1;have hcl:=wb (l:=p.rf.take i);rw[List.length_take]at hcl;refine CondP.mk (fun h=>?_) (fun h=>?_)<;>conv=>whnf
  ·have h:p.rf[i]=0:=by simpa using h
   refine⟨i+1,by omega,by omega,?_,rfl,rfl⟩;rw[←up hi1 (by omega),hc,if_pos h,wrap64 (by omega) (by omega)];rfl
  ·have h:¬p.rf[i]=0:=by simpa using h
   refine⟨i+1,by omega,by omega,?_,rfl,rfl⟩;rw[←up hi1 (by omega),hc,if_neg h];rfl
 ·have h:¬i<p.rf.length:=by simpa using h
  refine⟨?_,rfl⟩;rw[List.take_of_length_le (by omega)];rfl
end Go.Qm
namespace Go.Qm
open Go.Cq Go.Cq.D Go.RowKit Go.Proofs
set_option maxRecDepth 10000
def ei(l:List Area)(a:Area)(i:Nat):List Area:=if eN a l<i then vH (l.take i) a (eN a l)else l.take i
theorem o9{l:List Area}{i:Nat}(h:i<l.length):l.take i++[l[i]]=l.take (i+1):=(List.take_succ_eq_append_getElem h).symm
theorem aBd{l:List Area}{a:Area}{i:Nat}(h:i<l.length)(c:eN a l<i):ei l a i++[l[i]]=ei l a (i+1):=by rw[ei,ei,if_pos c,if_pos (by omega),vH,vH,←o9 h];simp only[List.append_assoc,List.cons_append];rw[List.take_append_of_le_length (by simp;omega),List.drop_append_of_le_length (by simp;omega)]
theorem aAC{l:List Area}{a:Area}{i:Nat}(h:i<l.length)(c:eN a l=i):ei l a i++[a]++[l[i]]=ei l a (i+1):=by rw[ei,ei,if_neg (by omega),if_pos (by omega),c,vH,←o9 h];rw[List.take_append_of_le_length (by simp;omega),List.drop_append_of_le_length (by simp;omega)];simp[List.take_take]
theorem aB6{l:List Area}{a:Area}{i:Nat}(h:i<l.length)(c:i<eN a l):ei l a i++[l[i]]=ei l a (i+1):=by rw[ei,ei,if_neg (by omega),if_neg (by omega)];exact o9 h
theorem rH{l:List Area}{a:Area}{i:Nat}(h:i≤l.length):(ei l a i).length≤i+1:=by
 unfold ei;split
 ·rw[ug,List.length_take];omega
 ·rw[List.length_take];omega
theorem xx{l:List Area}{a:Area}(c:eN a l<l.length):ei l a l.length=pU l a:=by rw[ei,if_pos c,List.take_length];rfl
theorem yC{l:List Area}{a:Area}(c:¬eN a l<l.length):ei l a l.length++[a]=pU l a:=by
 have:eN a l=l.length:=by have:=xQ (a:=a) (l:=l);omega
 rw[ei,if_neg c,pU,vH,this];simp
theorem aEj{α:Type}{a b:List α}{i:Nat}(h:a.length≤i+1)(hi:i≤1048576):((((a.take a.length++b.take 1).drop 0).take (a.length+1)).length+1)*24≤140737488355328:=by rw[List.length_take];omega
theorem aEo{α:Type}{a b:List α}{i:Nat}(h:a.length≤i+1)(hi:i≤1048576):(((a.take a.length++b.take 1).drop 0).take (a.length+1)).length+1≤140737488355328:=by rw[List.length_take];omega
set_option maxHeartbeats 1000000 in
theorem aAI(b:Bool)(l:List Area)(a:Area)(hl:l.length≤1048576):bC Try.prog 178 [.one (.ro b 4 (l.map rA)),.agg (aA a)] (.v (.one (.own 4 ((pU l a).map rA)))):=by
 refine aS hmix Try.func178 ok178 ?_;conv=>whnf
 refine bY rfl rfl rfl ?_;conv=>whnf
 refine ao (fun i:Nat=>[(0,.v (.one (.ro b 4 (l.map rA)))),(3,.v (.one (.ptr 0 0 0))),(5,.v (.one (.own 4 ((ei l a i).map rA)))),(6,.v (.one (dB (decide (eN a l<i))))),(7,.v (.one (dI i)))]) (fun _=>[(0,.box (aA a))]) (fun _=>1)
  (fun i=>i≤l.length) (fun i=>l.length-i) 0 (by omega) (by simp[ei,dI,dB]) rfl rfl fun i hi=>?_
 conv=>whnf
 refine CondP.mk (fun h=>?_) (fun h=>?_)<;>conv=>whnf
 ·have hlt:i<l.length:=by simpa using h
  have hn:=rH (a:=a) (show i≤l.length by omega);have hn':((ei l a i).map rA).length≤i+1:=by rw[List.length_map];exact hn
  refine CondP.mk (fun h1=>?_) (fun h1=>?_)<;>rw[h1]<;>(conv=>whnf)<;>repeat' first|(refine aE ?_;conv=>whnf)|(refine aD ?_;conv=>whnf)
  ·have c:¬eN a l<i:=by simpa using h1
   refine aN (k:=i) rfl rfl (by simpa using hlt) ?_
   (conv=>whnf)<;>repeat' first|(refine aE ?_;conv=>whnf)|(refine aD ?_;conv=>whnf)
   refine aH rfl (r:=.one (dI l[i].fr)) (by simp[ak,rA,hlt,eI,dI]) ?_
   (conv=>whnf)<;>repeat' first|(refine aE ?_;conv=>whnf)|(refine aD ?_;conv=>whnf)
   refine CondP.mk (fun h2=>?_) (fun h2=>?_)<;>conv=>whnf
   ·have c2:a.fr≤l[i].fr:=by simpa using h2
    have c3:eN a l=i:=by
     rcases Nat.lt_or_ge i (eN a l)with c4|c4
     ·have:=aCZ c4;omega
     ·omega
    refine bY rfl rfl rfl ?_;conv=>whnf
    refine dW [] [] 1 (sz:=4) rfl rfl rfl rfl rfl rfl rfl rfl (by omega) (by omega) ?_;conv=>whnf
    refine aN (k:=i) rfl rfl (by simpa using hlt) ?_;conv=>whnf
    refine aH rfl (ldA hlt) ?_;conv=>whnf
    refine bY rfl rfl rfl ?_;conv=>whnf
    refine dW [] [] 1 (sz:=4) rfl rfl rfl rfl rfl rfl rfl rfl (aEj hn' (by omega)) (aEo hn' (by omega)) ?_;conv=>whnf
    refine⟨i+1,by omega,by omega,?_,rfl,rfl⟩;rw[up hlt (by omega),←aAC hlt c3,show decide (eN a l<i+1)=true from decide_eq_true (by omega)];simp[dI,dB,rA,eI,eB,List.replicate,List.take_of_length_le]
   ·have c2:¬a.fr≤l[i].fr:=by simpa using h2
    have c3:i<eN a l:=by
     rcases Nat.lt_or_ge i (eN a l)with c4|c4
     ·exact c4
     ·have:eN a l=i:=by omega
      have:=aCJ (a:=a) (l:=l) (by omega);simp only[‹eN a l=i›]at this;omega
    refine aN (k:=i) rfl rfl (by simpa using hlt) ?_;conv=>whnf
    refine aH rfl (ldA hlt) ?_;conv=>whnf
    refine bY rfl rfl rfl ?_;conv=>whnf
    refine dW [] [] 1 (sz:=4) rfl rfl rfl rfl rfl rfl rfl rfl (by omega) (by omega) ?_;conv=>whnf
    refine⟨i+1,by omega,by omega,?_,rfl,rfl⟩;rw[up hlt (by omega),←aB6 hlt c3,show decide (eN a l<i)=false from decide_eq_false (by omega),show decide (eN a l<i+1)=false from decide_eq_false (by omega)];simp[dI,dB,rA,eI,eB,List.replicate,List.take_of_length_le]
  ·have c:eN a l<i:=by simpa using h1
   refine aN (k:=i) rfl rfl (by simpa using hlt) ?_;conv=>whnf
   refine aH rfl (ldA hlt) ?_;conv=>whnf
   refine bY rfl rfl rfl ?_;conv=>whnf
   refine dW [] [] 1 (sz:=4) rfl rfl rfl rfl rfl rfl rfl rfl (by omega) (by omega) ?_;conv=>whnf
   refine⟨i+1,by omega,by omega,?_,rfl,rfl⟩;rw[up hlt (by omega),←aBd hlt c,show decide (eN a l<i)=true from decide_eq_true c,show decide (eN a l<i+1)=true from decide_eq_true (by omega)];simp[dI,dB,rA,eI,eB,List.replicate,List.take_of_length_le]
 ·have:i=l.length:=by
               have:¬i<l.length:=by simpa using h
               omega
  subst this;have hn:=rH (a:=a) (Nat.le_refl l.length);have hn':((ei l a l.length).map rA).length≤l.length+1:=by rw[List.length_map];exact hn
  refine CondP.mk (fun h1=>?_) (fun h1=>?_)<;>conv=>whnf
  ·have c:¬eN a l<l.length:=by simpa using h1
   refine bY rfl rfl rfl ?_;conv=>whnf
   refine dW [] [] 1 (sz:=4) rfl rfl rfl rfl rfl rfl rfl rfl (by omega) (by omega) ?_;conv=>whnf
   refine⟨?_,rfl⟩;rw[←yC c];simp[rA,eI,eB,List.replicate,List.take_of_length_le]
  ·have c:eN a l<l.length:=by simpa using h1
   refine⟨?_,rfl⟩;rw[←xx c];simp
set_option maxHeartbeats 1000000 in
theorem sL(b:Bool)(l:List Area)(a:Area)(hl:l.length≤1048576):bC Try.prog 157 [.one (.ro b 4 (l.map rA)),.agg (aA a)] (.tup [.one (.own 4 (((mD l a).getD []).map rA)),.one (dB (mD l a).isSome)]):=by
 refine aS hmix Try.func157 ok157 ?_;conv=>whnf
 refine aC [.pass] rfl rfl rfl (gN b l (by omega)) rfl ?_;conv=>whnf
 refine CondP.mk (fun h1=>?_) (fun h1=>?_)<;>rw[h1]<;>(conv=>whnf)<;>repeat' first|(refine aE ?_;conv=>whnf)|(refine aD ?_;conv=>whnf)
 ·refine bY rfl rfl rfl ?_;conv=>whnf
  refine⟨?_,rfl⟩;rw[mD,show ay l=false by simpa using h1];simp[dB]
 have h1:ay l=true:=by simpa using h1
 refine aC [.pass] rfl rfl rfl (ll a) rfl ?_
 (conv=>whnf)<;>repeat' first|(refine aE ?_;conv=>whnf)|(refine aD ?_;conv=>whnf)
 refine CondP.mk (fun h2=>?_) (fun h2=>?_)<;>conv=>whnf
 ·refine bY rfl rfl rfl ?_;conv=>whnf
  refine⟨?_,rfl⟩;rw[mD,show bL a=false by simpa using h2];simp[dB]
 have h2:bL a=true:=by simpa using h2
 refine aC [.pass,.pass] rfl rfl rfl (aAI b l a hl) rfl ?_;conv=>whnf
 have hn:(pU l a).length≤l.length+1:=by rw[pU,ug];omega
 simp only[List.drop_zero,List.take_length];refine aC [.lend] rfl (by show some [DV.one (DC.ro true 4 (List.take _ (List.drop 0 _)))]=_;rw[List.drop_zero,List.take_length]) rfl (gN true (pU l a) (by omega)) rfl ?_;conv=>whnf
 refine CondP.mk (fun h3=>?_) (fun h3=>?_)<;>conv=>whnf
 ·refine bY rfl rfl rfl ?_;conv=>whnf
  refine⟨?_,rfl⟩;rw[mD,h1,h2,show ay (pU l a)=false by simpa using h3];simp[dB]
 ·refine⟨?_,rfl⟩;rw[mD,h1,h2,show ay (pU l a)=true by simpa using h3];simp[dB]
def mapM(c:Option (List Area))(m:Mem)(i:Nat):Mem×Int:=match c with
 |some l=>(c9 m i l,0)
 |none=>(m,4)
theorem x7{l0 l:List Area}{a:Area}(h:mD l0 a=some l):bL a=true∧ay l=true:=by
 unfold mD at h;split at h
 ·rename_i h1;simp only[Bool.and_eq_true]at h1;split at h
  ·rename_i h2;cases h;exact⟨h1.2,h2⟩
  ·simp at h
 ·simp at h
set_option maxHeartbeats 1000000 in
theorem mQ(m:Mem)(i:Nat)(a:Area)(hi:i<m.sp.length)(hal:m.sp[i].ar.length≤1048576):
  bC Try.prog 117 [oM m,.one (dI i),.agg (aA a)] (.tup [oM (mapM (mD (gb m i) a) m i).1,.one (dI (mapM (mD (gb m i) a) m i).2)]):=by
 have har:gb m i=m.sp[i].ar:=by simp[gb,hi]
 rw[har];refine aS hmix Try.func117 ok117 ?_;conv=>whnf
 refine aB (k:=i) rfl rfl rfl (by simpa using hi) ?_;conv=>whnf
 have hg:(m.sp.map rP)[i]?=some (rP m.sp[i]):=by simp[hi]
 refine cK (i:=i) (k:=1) (sz':=4) (es':=m.sp[i].ar.map rA) m.sp[i].ar.length rfl rfl rfl (aT (by rw[List.drop_zero,List.take_length];exact hg) rfl rfl rfl) rfl (by simp) ?_;conv=>whnf
 simp only[List.drop_zero,List.take_length];refine aC [.lend,.pass] rfl xM rfl (sL true m.sp[i].ar a hal) rfl ?_;conv=>whnf
 have hback:(m.sp.map rP).modify i (fun row=>row.set 1 (.sl 4 (m.sp[i].ar.map rA)))=m.sp.map rP:=by rw[af hg];exact jE hg
 refine aR (i:=i) (k:=1) (g':=9) (lo:=0) (len:=m.sp[i].ar.length) (es2:=m.sp.map rP) (ov2:=[]) rfl (ah hg (by simp[rP]) (by simp only[ab,if_true];rfl)) rfl rfl (by rw[List.drop_zero,ae];exact hback) (by simp only[ag,if_true];rfl) ?_;conv=>whnf
 simp only[List.drop_zero,List.take_length];cases hc:mD m.sp[i].ar a with
 |none=>
  refine CondP.mk (fun c1=>?_) (fun c1=>?_)<;>conv=>whnf
  ·refine⟨?_,rfl⟩;simp[oM,mapM,dI]
  ·simp at c1
 |some l=>
  refine CondP.mk (fun c1=>?_) (fun c1=>?_)<;>conv=>whnf
  ·simp at c1
  ·refine aB (k:=i) rfl rfl rfl (by simpa using hi) ?_;conv=>whnf
   simp only[Option.getD_some];refine ea rfl rfl rfl rfl rfl (by simp[wrN,wr1,DV.cells,hi];rfl) ?_;conv=>whnf
   refine aR (i:=i) (k:=1) (g':=9) (lo:=0) (len:=l.length) (es2:=(c9 m i l).sp.map rP) (ov2:=[]) rfl (ah (by simpa using hg) (by simp[rP]) (by simp only[ab,if_true];rfl)) rfl rfl (by rw[List.drop_zero,ae];exact lY hi) (by simp only[ag,if_true];rfl) ?_;conv=>whnf
   refine⟨?_,rfl⟩;simp[oM,mapM,dI,c9,List.take_of_length_le]
end Go.Qm
namespace Go.Qm
open Go.Cq Go.Cq.D Go.RowKit Go.Proofs
set_option maxRecDepth 10000
theorem nH(b1 b2 b3 b4 b5:Bool)(m:Mem)(hl:m.sp.length≤1048576):bC Try.prog 155 [aM b1 b2 b3 b4 b5 m] (.v (.one (dI (iH m.sp)))):=by
 refine aS hmix Try.func155 ok155 ?_;conv=>whnf
 refine ao (fun i:Nat=>[(1,.v (.one (.ptr 0 0 0))),(3,.v (.one (dI i)))]) (fun _=>[(0,.box [.ro b1 1 (m.ram.tx.map rS),.ro b2 1 (m.ram.rf.map rI),.ro b3 1 (m.swp.tx.map rS),.ro b4 1 (m.swp.rf.map rI),.ro b5 3 (m.sp.map rP),dI m.hd])]) (fun _=>1)
  (fun i=>i≤m.sp.length∧i≤bz m.sp) (fun i=>m.sp.length-i) 0 (by omega) rfl rfl rfl fun i hi=>?_
 conv=>whnf
 refine CondP.mk (fun h=>?_) (fun h=>?_)<;>conv=>whnf
 ·have hlt:i<m.sp.length:=by simpa using h
  refine aN (k:=i) rfl rfl (by simpa using hlt) ?_;conv=>whnf
  refine aH rfl (r:=.one (dB m.sp[i].lv)) (by simp[ak,rP,hlt,eB,dB]) ?_;conv=>whnf
  refine CondP.mk (fun h1=>?_) (fun h1=>?_)<;>conv=>whnf
  ·have h1:m.sp[i].lv=false:=by simpa using h1
   have e:bz m.sp=i:=by have:=yD hlt h1;omega
   refine⟨?_,rfl⟩;rw[iH,e,if_pos hlt];rfl
  ·have h1:m.sp[i].lv=true:=by simpa using h1
   refine⟨i+1,by omega,⟨by omega,?_⟩,?_,rfl,rfl⟩
   ·rcases Nat.lt_or_ge i (bz m.sp)with c|c
    ·omega
    ·have e:bz m.sp=i:=by omega
     have:=kq (l:=m.sp) (by omega);simp only[e,h1]at this;exact absurd this (by decide)
   ·rw[up hlt (by omega)];rfl
 ·have:¬i<m.sp.length:=by simpa using h
  refine⟨?_,rfl⟩;rw[iH,if_neg (by omega)];rfl
end Go.Qm
namespace Go.Qm
open Go.Cq Go.Cq.D Go.RowKit Go.Proofs
set_option maxRecDepth 10000
def cM(m:Mem):List DC:=[.sl 0 0 m.ram.tx.length,.sl 1 0 m.ram.rf.length,.sl 2 0 m.swp.tx.length,.sl 3 0 m.swp.rf.length,.sl 4 0 m.sp.length,dI m.hd]
def hM(m:Mem):DH:=[(0,.arr 1 (m.ram.tx.map rS) []),(1,.arr 1 (m.ram.rf.map rI) []),(2,.arr 1 (m.swp.tx.map rS) []),(3,.arr 1 (m.swp.rf.map rI) []),(4,.arr 3 (m.sp.map rP) [])]
def cP(p:Pages):List DC:=[.sl 0 0 p.tx.length,.sl 1 0 p.rf.length]
def hP(p:Pages):DH:=[(0,.arr 1 (p.tx.map rS) []),(1,.arr 1 (p.rf.map rI) [])]
theorem r7(b1 b2:Bool)(p:Pages)(hl:p.rf.length≤1048576):bC Try.prog 185 [.agg [.ro b1 1 (p.tx.map rS),.ro b2 1 (p.rf.map rI)]] (.v (.one (dI (fD p.rf)))):=by
 refine aS hmix Try.func185 ok185 ?_;conv=>whnf
 refine ao (fun i:Nat=>[(1,.v (.one (.ptr 0 0 0))),(3,.v (.one (dI (fD (p.rf.take i))))),(4,.v (.one (dI i)))]) (fun _=>[(0,.box [.ro b1 1 (p.tx.map rS),.ro b2 1 (p.rf.map rI)])]) (fun _=>1)
  (fun i=>i≤p.rf.length) (fun i=>p.rf.length-i) 0 (by omega) rfl rfl rfl fun i hi=>?_
 conv=>whnf
 refine CondP.mk (fun h=>?_) (fun h=>?_)<;>conv=>whnf
 ·have hlt:i<p.rf.length:=by simpa using h
  refine aN (k:=i) rfl rfl (by simpa using hlt) ?_;conv=>whnf
  refine aH rfl (r:=.one (dI p.rf[i])) (by simp[ak,rI,hlt,eI,dI]) ?_;conv=>whnf
  have hc:=qn hlt;have hb:=wb (l:=p.rf.take i);rw[List.length_take,Nat.min_eq_left hi]at hb;refine CondP.mk (fun h1=>?_) (fun h1=>?_)<;>conv=>whnf
  ·refine⟨i+1,by omega,by omega,?_,rfl,rfl⟩;have h1:p.rf[i]=0:=by simpa using h1
   rw[up hlt (by omega),hc,if_pos h1,wrap64 (by omega) (by omega)];rfl
  ·refine⟨i+1,by omega,by omega,?_,rfl,rfl⟩;have h1:¬p.rf[i]=0:=by simpa using h1
   rw[up hlt (by omega),hc,if_neg h1];rfl
 ·have:i=p.rf.length:=by
                 have:¬i<p.rf.length:=by simpa using h
                 omega
  subst this;refine⟨?_,rfl⟩;rw[List.take_length];rfl
theorem yq:bC Try.prog 176 [] (.v (.one (.sc (.str jg)))):=by
 refine aS hmix Try.func176 ok176 ?_;conv=>whnf
 refine rN rfl rfl (m:=4) (c:=4) rfl rfl (by decide) (by decide) (by decide) ?_;conv=>whnf
 refine mw rfl rfl (bs:=jg) rfl ?_;conv=>whnf
 exact⟨rfl,rfl⟩
theorem zD(p:Pages)(t:Str)(hl:p.rf.length≤1048576)(ht:p.tx.length=p.rf.length)(hf:aJ p.rf<p.rf.length):d6 Try.prog 175 [.agg (cP p),.one (.sc (.str t))] (hP p) 2 fun x H'=>x= .tup [.agg (cP p),.one (dI (aJ p.rf))]∧H'=hP (aY p (aJ p.rf) t 1):=by
 refine aS hmix Try.func175 ok175 ?_;conv=>whnf
 refine ao (fun i:Nat=>[(1,.v (.one (.sc (.str t)))),(2,.v (.one (.ptr 2 0 0))),(4,.v (.one (.ptr 3 0 0))),(6,.v (.one (dI i)))]) (fun _=>[(3,.box [.own 1 [],.own 1 []]),(2,.box (cP p)),(0,.arr 1 (p.tx.map rS) []),(1,.arr 1 (p.rf.map rI) [])]) (fun _=>4)
  (fun i=>i≤aJ p.rf) (fun i=>p.rf.length-i) 0 (by omega) rfl rfl rfl fun i hi=>?_
 conv=>whnf
 have hlt:i<p.rf.length:=by omega
 have hlt':i<p.tx.length:=by omega
 refine CondP.mk (fun h=>?_) (fun h=>?_)<;>conv=>whnf
 ·refine aB (k:=i) rfl rfl rfl hlt ?_;conv=>whnf
  refine bR rfl rfl rfl (aT (row:=rI p.rf[i]) (by simp[hlt]) rfl rfl rfl) rfl ?_;conv=>whnf
  refine CondP.mk (fun h1=>?_) (fun h1=>?_)<;>conv=>whnf
  ·have h1:p.rf[i]=0:=by simpa using h1
   have e:aJ p.rf=i:=by have:=kY hlt h1;omega
   rw[e];refine aB (k:=i) rfl rfl rfl hlt ?_;conv=>whnf
   refine aI rfl rfl rfl (by simpa using hlt) (by decide) ?_;conv=>whnf
   refine aB (k:=i) rfl rfl rfl hlt' ?_;conv=>whnf
   refine aI rfl rfl rfl (by simpa using hlt') (by decide) ?_;conv=>whnf
   refine⟨rfl,?_⟩;rw[af (ai (f:=rI) (List.getElem?_eq_getElem hlt)),af (ai (f:=rS) (List.getElem?_eq_getElem hlt'))];simp only[hP,aY,←map_set];rfl
  ·have h1:¬p.rf[i]=0:=by simpa using h1
   refine⟨i+1,by omega,?_,?_,rfl,rfl⟩
   ·rcases Nat.lt_or_ge i (aJ p.rf)with c|c
    ·omega
    ·have e:aJ p.rf=i:=by omega
     have:=me hf;simp only[e]at this;exact absurd this h1
   ·rw[up hlt (by omega)];rfl
 ·have:¬(i:Int)< (p.rf.length:Int):=by simpa using h
  omega
end Go.Qm
namespace Go.Qm
open Go.Cq Go.Cq.D Go.RowKit Go.Proofs
set_option maxRecDepth 10000
theorem ml{f:Slot→Slot}{sp:List Space}{i k:Nat}(hi:i<sp.length):∃S:List Space,dO f sp i k=S∧S.length=sp.length∧∃hi':i<S.length,S[i].sl.length=sp[i].sl.length∧∀(hk:k<sp[i].sl.length)(hk':k<S[i].sl.length),S[i].sl[k]=sp[i].sl[k]∧aF S i k (f sp[i].sl[k])=dO f sp i (k+1)∧(f sp[i].sl[k]=sp[i].sl[k]→S=dO f sp i (k+1)):=⟨_,rfl,dz,by rw[dz];exact hi,qm hi,fun hk _=>⟨xZ hi hk,wT hi hk,uW hi hk⟩⟩
theorem dK{S:List Space}{i:Nat}(hi:i<S.length):(S.map rP).modify i (fun row=>row.set 2 (.sl 4 (S[i].sl.map rL)))=S.map rP:=by rw[af (ai (f:=rP) (List.getElem?_eq_getElem hi))];exact jE (ai (f:=rP) (List.getElem?_eq_getElem hi))
def hT(m:Mem)(S:List Space):DH:=[(6,bO fw),(5,.box (cM m)),(0,.arr 1 (m.ram.tx.map rS) []),(1,.arr 1 (m.ram.rf.map rI) []),(2,.arr 1 (m.swp.tx.map rS) []),(3,.arr 1 (m.swp.rf.map rI) []),(4,.arr 3 (S.map rP) [])]
def wa(kd pl to p:Int)(x:Slot):Slot:=if x.kd=kd∧x.pl=pl then bU to p x else x
set_option maxHeartbeats 2000000 in
theorem yp(m:Mem)(kd pl to p:Int)(hn:m.sp.length≤1048576)(hl:∀s,s∈m.sp→s.sl.length≤1048576):d6 Try.prog 177 [.agg (cM m),.one (dI kd),.one (dI pl),.one (dI to),.one (dI p)] (hM m) 5
  fun x H'=>x= .v (.agg (cM m))∧H'=hM {m with sp:=aZ kd pl (bU to p) m.sp}:=by
 refine aS hmix Try.func177 ok177 ?_;conv=>whnf
 refine ao (fun i:Nat=>[(1,.v (.one (dI kd))),(2,.v (.one (dI pl))),(3,.v (.one (dI to))),(4,.v (.one (dI p))),(5,.v (.one (.ptr 5 0 0))),(10,.v (.one (.ptr 6 0 0))),(11,.v (.one (dI i)))]) (fun i=>hT m (dO (wa kd pl to p) m.sp i 0)) (fun _=>7)
  (fun i=>i≤m.sp.length) (fun i=>m.sp.length-i) 0 (by omega) rfl (by rw[ni];rfl) rfl fun i hi=>?_
 conv=>whnf
 refine CondP.mk (fun h=>?_) (fun h=>?_)<;>conv=>whnf
 ·have hi:i<m.sp.length:=by simpa using h
  have hl:=hl _ (List.getElem_mem hi);refine ao (fun k:Nat=>[(1,.v (.one (dI kd))),(2,.v (.one (dI pl))),(3,.v (.one (dI to))),(4,.v (.one (dI p))),(5,.v (.one (.ptr 5 0 0))),(10,.v (.one (.ptr 6 0 0))),(11,.v (.one (dI i))),(12,.v (.one (dI k)))]) (fun k=>hT m (dO (wa kd pl to p) m.sp i k)) (fun _=>7)
   (fun k=>k≤m.sp[i].sl.length) (fun k=>m.sp[i].sl.length-k) 0 (by omega) rfl rfl rfl fun k hk=>?_
  obtain⟨S,hS,hSn,hi',hsl,hfx⟩:=ml (f:=wa kd pl to p) (k:=k) hi;rw[hS];have hg:=ai (f:=rP) (List.getElem?_eq_getElem hi');conv=>whnf
  refine aB (k:=i) rfl rfl rfl (by omega) ?_;conv=>whnf
  refine cK (i:=i) (k:=2) (sz':=4) (es':=S[i].sl.map rL) S[i].sl.length rfl rfl rfl (aT hg rfl rfl rfl) rfl (by simp) ?_;conv=>whnf
  refine aR (i:=i) (k:=2) (g':=7) (lo:=0) (len:=S[i].sl.length) (es2:=S.map rP) (ov2:=[]) rfl (ah hg (by simp[rP]) (by simp only[ab,if_true];rfl)) rfl rfl (by rw[List.drop_zero,ae];exact dK hi') (by simp only[ag,if_true];rfl) ?_;conv=>whnf
  refine CondP.mk (fun h1=>?_) (fun h1=>?_)<;>conv=>whnf
  ·have hk1:k<m.sp[i].sl.length:=by
                       have:(k:Int)< (S[i].sl.length:Int):=by simpa using h1
                       omega
   have hk':k<S[i].sl.length:=by omega
   obtain⟨x1,x2,x3⟩:=hfx hk1 hk';have next:=up hk1 (by omega)
   refine aB (k:=i) rfl rfl rfl (by omega) ?_;conv=>whnf
   refine cK (i:=i) (k:=2) (sz':=4) (es':=S[i].sl.map rL) S[i].sl.length rfl rfl rfl (aT hg rfl rfl rfl) rfl (by simp) ?_;conv=>whnf
   refine aB (k:=k) rfl rfl rfl hk' ?_;conv=>whnf
   refine nD (row:=rL m.sp[i].sl[k]) rfl rfl rfl (by rw[←x1];simp[hk']) (cu _) rfl rfl ?_;conv=>whnf
   refine aR (i:=i) (k:=2) (g':=7) (lo:=0) (len:=S[i].sl.length) (es2:=S.map rP) (ov2:=[]) rfl (ah hg (by simp[rP]) (by simp only[ab,if_true];rfl)) rfl rfl (by rw[List.drop_zero,ae];exact dK hi') (by simp only[ag,if_true];rfl) ?_;conv=>whnf
   refine CondP.mk (fun c1=>?_) (fun c1=>?_)<;>rw[c1]<;>(conv=>whnf)<;>repeat' first|(refine aE ?_;conv=>whnf)|(refine aD ?_;conv=>whnf)
   ·have c1:m.sp[i].sl[k].kd=kd:=by simpa using c1
    refine CondP.mk (fun c2=>?_) (fun c2=>?_)<;>conv=>whnf
    ·have c2:m.sp[i].sl[k].pl=pl:=by simpa using c2
     have ef:wa kd pl to p m.sp[i].sl[k]=bU to p m.sp[i].sl[k]:=if_pos ⟨c1,c2⟩;rw[ef]at x2;refine aB (k:=i) rfl rfl rfl (by omega) ?_;conv=>whnf
     refine cK (i:=i) (k:=2) (sz':=4) (es':=S[i].sl.map rL) S[i].sl.length rfl rfl rfl (aT hg rfl rfl rfl) rfl (by simp) ?_;conv=>whnf
     refine aB (k:=k) rfl rfl rfl hk' ?_;conv=>whnf
     refine cG (row':=rL (bU to p m.sp[i].sl[k])) rfl rfl rfl (by simpa using hk') (eH (fun _=>rfl)) (cu _) rfl rfl rfl ?_;conv=>whnf
     refine aR (i:=i) (k:=2) (g':=9) (lo:=0) (len:=S[i].sl.length) (es2:=(aF S i k (bU to p m.sp[i].sl[k])).map rP) (ov2:=[]) rfl (ah hg (by simp[rP]) (by simp only[ab,if_true];rfl)) rfl rfl (by rw[List.drop_zero,List.take_of_length_le (by simp)];exact bf hi') (by simp only[ag,if_true];rfl) ?_;conv=>whnf
     rw[x2];refine⟨k+1,by omega,by omega,?_,rfl,rfl⟩;rw[next];rfl
    ·have c2:¬m.sp[i].sl[k].pl=pl:=by simpa using c2
     refine⟨k+1,by omega,by omega,?_,?_,rfl⟩
     ·rw[next];rfl
     ·rw[←x3 (if_neg fun c=>c2 c.2)];rfl
   ·have c1:¬m.sp[i].sl[k].kd=kd:=by simpa using c1
    refine⟨k+1,by omega,by omega,?_,?_,rfl⟩
    ·rw[next];rfl
    ·rw[←x3 (if_neg fun c=>c1 c.1)];rfl
  ·have:k=m.sp[i].sl.length:=by
                     have:¬(k:Int)< (S[i].sl.length:Int):=by simpa using h1
                     omega
   subst this;refine⟨i+1,by omega,by omega,?_,?_,rfl⟩
   ·rw[up hi (by omega)];rfl
   ·rw[←oh hi,hS];rfl
 ·have:i=m.sp.length:=by
                 have:¬i<m.sp.length:=by simpa using h
                 omega
  subst this;refine⟨rfl,?_⟩;rw[pG];rfl
end Go.Qm
namespace Go.Qm
open Go.Cq Go.Cq.D Go.RowKit Go.Proofs
set_option maxRecDepth 10000
def uK(pl:Int)(x:Slot):Slot:=if x.kd=1∧x.pl=pl then dp x else x
set_option maxHeartbeats 2000000 in
theorem xr(m:Mem)(pl:Int)(hn:m.sp.length≤1048576)(hl:∀s,s∈m.sp→s.sl.length≤1048576):d6 Try.prog 186 [.agg (cM m),.one (dI pl)] (hM m) 5
  fun x H'=>x= .tup [.agg (cM m),.one (dB (dT 1 pl m.sp))]∧H'=hM (dS m pl):=by
 refine aS hmix Try.func186 ok186 ?_;conv=>whnf
 refine ao (fun s:Nat×Bool=>[(1,.v (.one (dI pl))),(2,.v (.one (.ptr 5 0 0))),(4,.v (.one (.ptr 6 0 0))),(6,.v (.one (dB s.2))),(7,.v (.one (dI s.1)))]) (fun s=>hT m (dO (uK pl) m.sp s.1 0)) (fun _=>7)
  (fun s=>s.1≤m.sp.length∧dT 1 pl m.sp=(s.2||dT 1 pl (m.sp.drop s.1))) (fun s=>m.sp.length-s.1) (0,false) ⟨Nat.zero_le _,by simp⟩ rfl (by rw[ni];rfl) rfl fun s hs=>?_
 obtain⟨i,w⟩:=s;obtain⟨hi,hu⟩:=hs;simp only at hi hu;conv=>whnf
 refine CondP.mk (fun h=>?_) (fun h=>?_)<;>conv=>whnf
 ·have hi:i<m.sp.length:=by simpa using h
  have hl:=hl _ (List.getElem_mem hi);rw[sx hi]at hu;refine ao (fun s:Nat×Bool=>[(1,.v (.one (dI pl))),(2,.v (.one (.ptr 5 0 0))),(4,.v (.one (.ptr 6 0 0))),(6,.v (.one (dB s.2))),(7,.v (.one (dI i))),(8,.v (.one (dI s.1)))]) (fun s=>hT m (dO (uK pl) m.sp i s.1)) (fun _=>7)
   (fun s=>s.1≤m.sp[i].sl.length∧dT 1 pl m.sp=(s.2||gJ 1 pl m.sp i s.1)) (fun s=>m.sp[i].sl.length-s.1) (0,w) ⟨Nat.zero_le _,hu⟩ rfl rfl rfl fun s hs=>?_
  obtain⟨k,w⟩:=s;obtain⟨hk,hu⟩:=hs;simp only at hk hu;obtain⟨S,hS,hSn,hi',hsl,hfx⟩:=ml (f:=uK pl) (k:=k) hi;simp only[hS];have hg:=ai (f:=rP) (List.getElem?_eq_getElem hi');conv=>whnf
  refine aB (k:=i) rfl rfl rfl (by omega) ?_;conv=>whnf
  refine cK (i:=i) (k:=2) (sz':=4) (es':=S[i].sl.map rL) S[i].sl.length rfl rfl rfl (aT hg rfl rfl rfl) rfl (by simp) ?_;conv=>whnf
  refine aR (i:=i) (k:=2) (g':=7) (lo:=0) (len:=S[i].sl.length) (es2:=S.map rP) (ov2:=[]) rfl (ah hg (by simp[rP]) (by simp only[ab,if_true];rfl)) rfl rfl (by rw[List.drop_zero,ae];exact dK hi') (by simp only[ag,if_true];rfl) ?_;conv=>whnf
  refine CondP.mk (fun h1=>?_) (fun h1=>?_)<;>conv=>whnf
  ·have hk1:k<m.sp[i].sl.length:=by
                       have:(k:Int)< (S[i].sl.length:Int):=by simpa using h1
                       omega
   have hk':k<S[i].sl.length:=by omega
   obtain⟨x1,x2,x3⟩:=hfx hk1 hk';have next:=up hk1 (by omega)
   rw[qP hi hk1]at hu;refine aB (k:=i) rfl rfl rfl (by omega) ?_;conv=>whnf
   refine cK (i:=i) (k:=2) (sz':=4) (es':=S[i].sl.map rL) S[i].sl.length rfl rfl rfl (aT hg rfl rfl rfl) rfl (by simp) ?_;conv=>whnf
   refine aB (k:=k) rfl rfl rfl hk' ?_;conv=>whnf
   refine nD (row:=rL m.sp[i].sl[k]) rfl rfl rfl (by rw[←x1];simp[hk']) (cu _) rfl rfl ?_;conv=>whnf
   refine aR (i:=i) (k:=2) (g':=7) (lo:=0) (len:=S[i].sl.length) (es2:=S.map rP) (ov2:=[]) rfl (ah hg (by simp[rP]) (by simp only[ab,if_true];rfl)) rfl rfl (by rw[List.drop_zero,ae];exact dK hi') (by simp only[ag,if_true];rfl) ?_;conv=>whnf
   refine CondP.mk (fun c1=>?_) (fun c1=>?_)<;>rw[c1]<;>(conv=>whnf)<;>repeat' first|(refine aE ?_;conv=>whnf)|(refine aD ?_;conv=>whnf)
   ·have c1:m.sp[i].sl[k].kd=1:=by simpa using c1
    refine CondP.mk (fun c2=>?_) (fun c2=>?_)<;>conv=>whnf
    ·have c2:m.sp[i].sl[k].pl=pl:=by simpa using c2
     have ef:uK pl m.sp[i].sl[k]=dp m.sp[i].sl[k]:=if_pos ⟨c1,c2⟩;rw[ef]at x2;have hm:(S[i].sl.map rL).modify k (fun row=>row.set 3 (.sc (.bool false)))=(S[i].sl.map rL).set k (rL (dp m.sp[i].sl[k])):=by rw[af (ai (f:=rL) (List.getElem?_eq_getElem hk')),x1];rfl
     cases w
     all_goals
      (conv=>whnf)<;>repeat' first|(refine aE ?_;conv=>whnf)|(refine aD ?_;conv=>whnf)
      refine aB (k:=i) rfl rfl rfl (by omega) ?_;conv=>whnf
      refine cK (i:=i) (k:=2) (sz':=4) (es':=S[i].sl.map rL) S[i].sl.length rfl rfl rfl (aT hg rfl rfl rfl) rfl (by simp) ?_;conv=>whnf
      refine aB (k:=k) rfl rfl rfl hk' ?_;conv=>whnf
      refine aI rfl rfl rfl (by simpa using hk') (by decide) ?_;conv=>whnf
      refine aR (i:=i) (k:=2) (g':=7) (lo:=0) (len:=S[i].sl.length) (es2:=(aF S i k (dp m.sp[i].sl[k])).map rP) (ov2:=[]) rfl (ah hg (by simp[rP]) (by simp only[ab,if_true];rfl)) rfl rfl (by rw[List.drop_zero,List.take_of_length_le (by simp),hm];exact bf hi') (by simp only[ag,if_true];rfl) ?_;conv=>whnf
      rw[x2]
     ·refine⟨(k+1,m.sp[i].sl[k].us),by show m.sp[i].sl.length-(k+1)<m.sp[i].sl.length-k;omega,⟨by show k+1≤_;omega,by rw[hu];simp[c1,c2]⟩,?_,rfl,rfl⟩;rw[next];rfl
     ·refine⟨(k+1,true),by show m.sp[i].sl.length-(k+1)<m.sp[i].sl.length-k;omega,⟨by show k+1≤_;omega,by rw[hu];simp⟩,?_,rfl,rfl⟩;rw[next];rfl
    ·have c2:¬m.sp[i].sl[k].pl=pl:=by simpa using c2
     refine⟨(k+1,w),by show m.sp[i].sl.length-(k+1)<m.sp[i].sl.length-k;omega,⟨by show k+1≤_;omega,by rw[hu];simp[c2]⟩,?_,?_,rfl⟩
     ·rw[next];rfl
     ·rw[←x3 (if_neg fun c=>c2 c.2)];rfl
   ·have c1:¬m.sp[i].sl[k].kd=1:=by simpa using c1
    refine⟨(k+1,w),by show m.sp[i].sl.length-(k+1)<m.sp[i].sl.length-k;omega,⟨by show k+1≤_;omega,by rw[hu];simp[c1]⟩,?_,?_,rfl⟩
    ·rw[next];rfl
    ·rw[←x3 (if_neg fun c=>c1 c.1)];rfl
  ·have:k=m.sp[i].sl.length:=by
                     have:¬(k:Int)< (S[i].sl.length:Int):=by simpa using h1
                     omega
   subst this;rw[sv hi]at hu;refine⟨(i+1,w),by show m.sp.length-(i+1)<m.sp.length-i;omega,⟨by show i+1≤_;omega,hu⟩,?_,?_,rfl⟩
   ·rw[up hi (by omega)];rfl
   ·show _=hT m (dO (uK pl) m.sp (i+1) 0);rw[←oh hi,hS];rfl
 ·have:i=m.sp.length:=by
                 have:¬i<m.sp.length:=by simpa using h
                 omega
  subst this;rw[List.drop_length]at hu;have hu:dT 1 pl m.sp=w:=by rw[hu];simp[dT]
  refine⟨by rw[hu];rfl,?_⟩;rw[pG];rfl
end Go.Qm
namespace Go.Qm
open Go.Cq Go.Cq.D Go.RowKit Go.Proofs
set_option maxRecDepth 10000
structure Lw(m:Mem):Prop where
 rt:m.ram.tx.length=12
 rr:m.ram.rf.length=12
 st:m.swp.tx.length=12
 sr:m.swp.rf.length=12
 sp:m.sp.length=5
def cW(h:Int):List DC:=[.sl 0 0 12,.sl 1 0 12,.sl 2 0 12,.sl 3 0 12,.sl 4 0 5,dI h]
theorem Wf.L{m:Mem}(w:Wf m):Lw m:=⟨w.ram.tx,w.ram.rf,w.swp.tx,w.swp.rf,w.sp⟩
theorem aEI{m:Mem}(l:Lw m):cM m=cW m.hd:=by rw[cM,l.rt,l.rr,l.st,l.sr,l.sp];rfl
theorem kL{pre H:DH}{g:Nat}(hg:Nat.blt g 5=true):pre.all (fun p=>Nat.ble 5 p.1)=true→aG (pre++H) g=aG H g:=by
 intro h;induction pre with
 |nil=>rfl
 |cons p l ih=>
  obtain⟨k,x⟩:=p;simp only[List.all_cons,Bool.and_eq_true]at h;have h1:5≤k:=by simpa using h.1
  have h2:g<5:=by simpa using hg
  rw[List.cons_append,aW,if_neg (by omega)];exact ih h.2
theorem kQ{pre H:DH}{g:Nat}{x:DB}(hg:Nat.blt g 5=true):pre.all (fun p=>Nat.ble 5 p.1)=true→cj g x (pre++H)=pre++cj g x H:=by
 intro h;induction pre with
 |nil=>rfl
 |cons p l ih=>
  obtain⟨k,y⟩:=p;simp only[List.all_cons,Bool.and_eq_true]at h;have h1:5≤k:=by simpa using h.1
  have h2:g<5:=by simpa using hg
  have hb:Nat.beq k g=false:=by
   cases hb:Nat.beq k g with
   |false=>rfl
   |true=>have:=Nat.eq_of_beq_eq_true hb;omega
  rw[List.cons_append,cj,hb,cond_false,ih h.2];rfl
theorem aEO(m m':Mem)(l:Lw m)(l':Lw m')(pre:DH)(hp:pre.all (fun p=>Nat.ble 5 p.1)=true):bD (fun t=>([0,1,2,3,4]:List Nat)[t]?) (hM m') [0,1,2,3,4] 0 (pre++hM m)=some (pre++hM m'):=by have e0:=kL (H:=hM m) (g:=0) rfl hp;refine(aO (sz:=1) (es:=m'.ram.tx.map rS) (es0:=m.ram.tx.map rS) (ov0:=[]) rfl e0 (by simp[l.rt,l'.rt])).trans ?_;rw[kQ rfl hp];refine(aO (sz:=1) (es:=m'.ram.rf.map rI) (es0:=m.ram.rf.map rI) (ov0:=[]) rfl (kL rfl hp) (by simp[l.rr,l'.rr])).trans ?_;rw[kQ rfl hp];refine(aO (sz:=1) (es:=m'.swp.tx.map rS) (es0:=m.swp.tx.map rS) (ov0:=[]) rfl (kL rfl hp) (by simp[l.st,l'.st])).trans ?_;rw[kQ rfl hp];refine(aO (sz:=1) (es:=m'.swp.rf.map rI) (es0:=m.swp.rf.map rI) (ov0:=[]) rfl (kL rfl hp) (by simp[l.sr,l'.sr])).trans ?_;rw[kQ rfl hp];refine(aO (sz:=3) (es:=m'.sp.map rP) (es0:=m.sp.map rP) (ov0:=[]) rfl (kL rfl hp) (by simp[l.sp,l'.sp])).trans ?_;rw[kQ rfl hp];rfl
abbrev hA(m:Mem):DH:=[(0,.arr 1 (m.ram.tx.map rS) []),(1,.arr 1 (m.ram.rf.map rI) []),(2,.arr 1 (m.swp.tx.map rS) []),(3,.arr 1 (m.swp.rf.map rI) []),(4,.arr 3 (m.sp.map rP) [])]
theorem aCz{m m':Mem}(l:Lw m)(l':Lw m'){k1 k2:Nat}{d1 d2:DB}(hp:(Nat.ble 5 k1&&(Nat.ble 5 k2&&true))=true):bD (fun t=>([0,1,2,3,4]:List Nat)[t]?) (hM m') [0,1,2,3,4] 0 ((k1,d1)::(k2,d2)::hA m)=some ((k1,d1)::(k2,d2)::hA m'):=aEO m m' l l' [(k1,d1),(k2,d2)] hp
theorem uN{m m':Mem}(l:Lw m)(l':Lw m'){k1 k2 k3:Nat}{d1 d2 d3:DB}(hp:(Nat.ble 5 k1&&(Nat.ble 5 k2&&(Nat.ble 5 k3&&true)))=true):bD (fun t=>([0,1,2,3,4]:List Nat)[t]?) (hM m') [0,1,2,3,4] 0 ((k1,d1)::(k2,d2)::(k3,d3)::hA m)=some ((k1,d1)::(k2,d2)::(k3,d3)::hA m'):=aEO m m' l l' [(k1,d1),(k2,d2),(k3,d3)] hp
theorem vG{f:Nat→Option Nat}{m m':Mem}(l:Lw m)(l':Lw m'){g0 g1 g2 g3 g4:Nat}{H:DH}(hn:nodup [g0,g1,g2,g3,g4]=true)(h0:aG H g0=some (.arr 1 (m.ram.tx.map rS) []))(h1:aG H g1=some (.arr 1 (m.ram.rf.map rI) []))(h2:aG H g2=some (.arr 1 (m.swp.tx.map rS) []))(h3:aG H g3=some (.arr 1 (m.swp.rf.map rI) []))(h4:aG H g4=some (.arr 3 (m.sp.map rP) [])):
  bD f (hM m') [g0,g1,g2,g3,g4] 0 H=some (cj g4 (.arr 3 (m'.sp.map rP) []) (cj g3 (.arr 1 (m'.swp.rf.map rI) []) (cj g2 (.arr 1 (m'.swp.tx.map rS) []) (cj g1 (.arr 1 (m'.ram.rf.map rI) []) (cj g0 (.arr 1 (m'.ram.tx.map rS) []) H))))):=by
 obtain⟨n0,hn⟩:=nodup_cons hn;obtain⟨n1,hn⟩:=nodup_cons hn;obtain⟨n2,hn⟩:=nodup_cons hn;obtain⟨n3, -⟩:=nodup_cons hn;simp only[List.mem_cons,List.not_mem_nil,or_false,not_or]at n0 n1 n2 n3;refine(aO (sz:=1) (es:=m'.ram.tx.map rS) (es0:=m.ram.tx.map rS) (ov0:=[]) rfl h0 (by simp[l.rt,l'.rt])).trans ?_;refine(aO (sz:=1) (es:=m'.ram.rf.map rI) (es0:=m.ram.rf.map rI) (ov0:=[]) rfl (by rw[ax,if_neg (fun e=>n0.1 e.symm)];exact h1) (by simp[l.rr,l'.rr])).trans ?_;refine(aO (sz:=1) (es:=m'.swp.tx.map rS) (es0:=m.swp.tx.map rS) (ov0:=[]) rfl (by rw[ax,if_neg (fun e=>n1.1 e.symm),ax,if_neg (fun e=>n0.2.1 e.symm)];exact h2) (by simp[l.st,l'.st])).trans ?_;refine(aO (sz:=1) (es:=m'.swp.rf.map rI) (es0:=m.swp.rf.map rI) (ov0:=[]) rfl (by rw[ax,if_neg (fun e=>n2.1 e.symm),ax,if_neg (fun e=>n1.2.1 e.symm),ax,if_neg (fun e=>n0.2.2.1 e.symm)];exact h3) (by simp[l.sr,l'.sr])).trans ?_;refine(aO (sz:=3) (es:=m'.sp.map rP) (es0:=m.sp.map rP) (ov0:=[]) rfl (by rw[ax,if_neg (fun e=>n3 e.symm),ax,if_neg (fun e=>n2.2 e.symm),ax,if_neg (fun e=>n1.2.2 e.symm),ax,if_neg (fun e=>n0.2.2.2 e.symm)];exact h4) (by simp[l.sp,l'.sp])).trans ?_;rfl
end Go.Qm
namespace Go.Qm
open Go.Cq Go.Cq.D Go.RowKit Go.Proofs
set_option maxRecDepth 10000
theorem rR{h:Int}(h1:0≤h∧h≤11):(IntKind.wrap .i64 (h+1)).tmod 12=(h+1) % 12:=by rw[wrap64 (by omega) (by omega),Int.tmod_eq_emod_of_nonneg (by omega)]
theorem aCH(p:Pages):decide (0< (fD p.rf:Int))=decide (aJ p.rf<p.rf.length):=by
 have:=jN (l:=p.rf);by_cases c:aJ p.rf<p.rf.length
 ·rw[decide_eq_true c,decide_eq_true (by have:=this.2 c;omega)]
 ·rw[decide_eq_false c,decide_eq_false (by intro h;exact c (this.1 (by omega)))]
theorem xG(m:Mem)(kd pl to p:Int)(l:Lw m)(hl:∀s,s∈m.sp→s.sl.length≤16):d6 Try.prog 177 [.agg (cW m.hd),.one (dI kd),.one (dI pl),.one (dI to),.one (dI p)] (hM m) 5
  fun x H'=>x= .v (.agg (cW m.hd))∧H'=hM {m with sp:=aZ kd pl (bU to p) m.sp}:=by
 have:=yp m kd pl to p (by rw[l.sp];omega) (fun s hs=>by have:=hl s hs;omega);rwa[aEI l]at this
theorem aBm(m:Mem)(pl:Int)(l:Lw m)(hl:∀s,s∈m.sp→s.sl.length≤16):d6 Try.prog 186 [.agg (cW m.hd),.one (dI pl)] (hM m) 5
  fun x H'=>x= .tup [.agg (cW m.hd),.one (dB (dT 1 pl m.sp))]∧H'=hM (dS m pl):=by
 have:=xr m pl (by rw[l.sp];omega) (fun s hs=>by have:=hl s hs;omega);rwa[aEI l]at this
theorem oR(p:Pages)(t:Str)(h1:p.tx.length=12)(h2:p.rf.length=12)(hf:aJ p.rf<12):d6 Try.prog 175 [.agg [.sl 0 0 12,.sl 1 0 12],.one (.sc (.str t))] (hP p) 2 fun x H'=>x= .tup [.agg [.sl 0 0 12,.sl 1 0 12],.one (dI (aJ p.rf))]∧H'=hP (aY p (aJ p.rf) t 1):=by have:=zD p t (by omega) (by omega) (by omega);rwa[cP,h1,h2]at this
def hW(m:Mem):DH:=[(6,bO fw),(5,.box (cW m.hd)),(0,.arr 1 (m.ram.tx.map rS) []),(1,.arr 1 (m.ram.rf.map rI) []),(2,.arr 1 (m.swp.tx.map rS) []),(3,.arr 1 (m.swp.rf.map rI) []),(4,.arr 3 (m.sp.map rP) [])]
theorem take_set{p:Pages}{k:Nat}{t:Str}{n:Int}(hk:k<p.rf.length):((aY p k t 1).rf.map rI).modify k (fun row=>row.set 0 (.sc (.int .i64 n)))=(aY p k t n).rf.map rI:=by rw[af (ai (f:=rI) (a:=1) (by simp[aY,hk]))];simp only[aY];rw[show(rI 1).set 0 (.sc (.int .i64 n))=rI n from rfl,map_set,List.set_set]
theorem iD{p:Pages}{k:Nat}{n:Int}(hk:k<p.rf.length):(p.rf.map rI).modify k (fun row=>row.set 0 (.sc (.int .i64 n)))=(p.rf.set k n).map rI:=by rw[af (ai (f:=rI) (List.getElem?_eq_getElem hk)),←map_set];rfl
theorem gR{p:Pages}{k:Nat}{t:Str}(hk:k<p.tx.length):(p.tx.map rS).modify k (fun row=>row.set 0 (.sc (.str t)))=(p.tx.set k t).map rS:=by rw[af (ai (f:=rS) (List.getElem?_eq_getElem hk)),←map_set];rfl
set_option maxHeartbeats 4000000 in
theorem rC(m:Mem)(but:Int)(w:Wf m):d6 Try.prog 174 [.agg (cW m.hd),.one (dI but)] (hM m) 5
  fun x H'=>x= .tup [.agg (cW ((bF m but).getD m).hd),.one (dB (bF m but).isSome)]∧H'=hM ((bF m but).getD m):=by
 refine aS hmix Try.func174 ok174 ?_;have l:=w.L;conv=>whnf
 refine aC (cas:=[.agg [.ro true 1 (m.ram.tx.map rS),.ro true 1 (m.ram.rf.map rI)]]) [.lend] rfl (by show some [DV.agg [DC.ro true 1 (List.take 12 (List.drop 0 _)),DC.ro true 1 (List.take 12 (List.drop 0 _))]]=_;rw[List.drop_zero,List.drop_zero,List.take_of_length_le (by simp[l.rt]),List.take_of_length_le (by simp[l.rr])]) rfl (r7 true true m.ram (by rw[l.rr];omega)) rfl ?_;conv=>whnf
 rw[aCH m.ram];refine CondP.mk (fun h=>?_) (fun h=>?_)<;>conv=>whnf
 ·have h:aJ m.ram.rf<m.ram.rf.length:=by simpa using h
  rw[bF,if_pos h];exact⟨rfl,rfl⟩
 have h:¬aJ m.ram.rf<m.ram.rf.length:=by simpa using h
 refine aC (cas:=[.agg [.ro true 1 (m.swp.tx.map rS),.ro true 1 (m.swp.rf.map rI)]]) [.lend] rfl (by show some [DV.agg [DC.ro true 1 (List.take 12 (List.drop 0 _)),DC.ro true 1 (List.take 12 (List.drop 0 _))]]=_;rw[List.drop_zero,List.drop_zero,List.take_of_length_le (by simp[l.st]),List.take_of_length_le (by simp[l.sr])]) rfl (r7 true true m.swp (by rw[l.sr];omega)) rfl ?_;conv=>whnf
 refine CondP.mk (fun h2=>?_) (fun h2=>?_)<;>conv=>whnf
 ·have h2:¬aJ m.swp.rf<m.swp.rf.length:=fun c=>by
   have:=jN.2 c;have h2:fD m.swp.rf=0:=by simpa using h2
   omega
  rw[bF,if_neg h,if_neg h2];exact⟨rfl,rfl⟩
 have h2:aJ m.swp.rf<m.swp.rf.length:=by
  have h2:¬fD m.swp.rf=0:=by simpa using h2
  exact jN.1 (by omega)
 rw[bF,if_neg h,if_pos h2];simp only[Option.getD_some,Option.isSome_some];rw[w.swp.rf]at h2;refine ao (fun s:Mem×DTs=>(1,.v (.one (dI but)))::(2,.v (.one (.ptr 5 0 0)))::(4,.v (.one (.ptr 6 0 0)))::s.2) (fun s=>hW s.1) (fun _=>7)
  (fun s=>Wf s.1∧aJ s.1.swp.rf<12∧dY s.1 but=dY m but) (fun s=>mu s.1 but) (m,[(20,.v (.one (.sc (.bool (decide ((fD m.swp.rf:Int)=0))))))]) ⟨w,h2,rfl⟩ rfl rfl rfl fun s hs=>?_
 clear l w h h2;obtain⟨s,rest⟩:=s;obtain⟨ws,hf,hr⟩:=hs;simp only at ws hf hr;obtain⟨a,ha⟩:=Int.eq_ofNat_of_zero_le ws.hd.1;have ha12:a<12:=by have:=ws.hd;omega
 conv=>whnf
 refine fp rfl ?_;conv=>whnf
 simp only[rR ws.hd];refine CondP.mk (fun h3=>?_) (fun h3=>?_)<;>conv=>whnf
 ·have h3:s.hd=but:=by simpa using h3
  have hc:clk s but= .inl (dD s):=by rw[clk,if_pos h3]
  exact⟨(dD s,_),i6 hc,⟨ws.hand,hf,by rw[←hr,gf hc]⟩,rfl,rfl,rfl⟩
 have h3:¬s.hd=but:=by simpa using h3
 have w2:=ws.hand.calm s.hd;have l2:=w2.L;refine b8 [.pass,.pass] [0,1,2,3,4] rfl rfl rfl rfl (aBm (dD s) s.hd ws.hand.L ws.hand.sl) rfl (aCz ws.hand.L l2 rfl) ?_;conv=>whnf
 refine CondP.mk (fun h4=>?_) (fun h4=>?_)<;>conv=>whnf
 ·have hc:clk s but= .inl (dS (dD s) s.hd):=by rw[clk,if_neg h3,if_pos (show dT 1 s.hd s.sp=true from h4)]
  exact⟨(dS (dD s) s.hd,_),i6 hc,⟨w2,hf,by rw[←hr,gf hc]⟩,rfl,rfl,rfl⟩
 have h4:¬dT 1 s.hd s.sp=true:=by rw[show dT 1 s.hd s.sp=false from h4];decide
 have hc:clk s but= .inr (dk (dS (dD s) s.hd) s.hd.toNat):=by rw[clk,if_neg h3,if_neg h4]
 rw[←hr,jP hc];have hf2:aJ (dS (dD s) s.hd).swp.rf<12:=hf;have hto:s.hd.toNat=a:=by omega
 rw[hto];generalize hs2:dS (dD s) s.hd=s2 at*;have hh2:(dD s).hd=s2.hd:=by rw[←hs2];rfl
 simp only[hh2,ha];refine aB (k:=a) rfl rfl rfl ha12 ?_;conv=>whnf
 refine bR rfl rfl rfl (aT (row:=rI (s2.ram.rf[a]'(by rw[l2.rr];exact ha12))) (by simp[l2.rr,ha12]) rfl rfl rfl) rfl ?_;conv=>whnf
 refine aB (k:=a) rfl rfl rfl ha12 ?_;conv=>whnf
 refine bR rfl rfl rfl (aT (row:=rS (s2.ram.tx[a]'(by rw[l2.rt];exact ha12))) (by simp[l2.rt,ha12]) rfl rfl rfl) rfl ?_;conv=>whnf
 refine b8 [.pass,.pass] [2,3] rfl rfl rfl rfl (oR s2.swp (s2.ram.tx[a]'(by rw[l2.rt];exact ha12)) l2.st l2.sr hf2) rfl ((aO (sz:=1) (es:=(aY s2.swp (aJ s2.swp.rf) (s2.ram.tx[a]'(by rw[l2.rt];exact ha12)) 1).tx.map rS) (es0:=s2.swp.tx.map rS) (ov0:=[]) rfl rfl (by simp[aY])).trans ((aO (sz:=1) (es:=(aY s2.swp (aJ s2.swp.rf) (s2.ram.tx[a]'(by rw[l2.rt];exact ha12)) 1).rf.map rI) (es0:=s2.swp.rf.map rI) (ov0:=[]) rfl rfl (by simp[aY])).trans rfl)) ?_;conv=>whnf
 refine aB (k:=aJ s2.swp.rf) rfl rfl rfl hf2 ?_;conv=>whnf
 refine aI rfl rfl rfl (by simpa [aY,l2.sr]using hf2) (by decide) ?_;conv=>whnf
 rw[take_set (by rw[l2.sr];exact hf2)];have l3:Lw {s2 with swp:=aY s2.swp (aJ s2.swp.rf) (s2.ram.tx[a]'(by rw[l2.rt];exact ha12)) (s2.ram.rf[a]'(by rw[l2.rr];exact ha12))}:=⟨l2.rt,l2.rr,by simp[aY,l2.st],by simp[aY,l2.sr],l2.sp⟩;have l4:Lw ⟨s2.ram,aY s2.swp (aJ s2.swp.rf) (s2.ram.tx[a]'(by rw[l2.rt];exact ha12)) (s2.ram.rf[a]'(by rw[l2.rr];exact ha12)),aZ 1 a (bU 2 (aJ s2.swp.rf)) s2.sp,s2.hd⟩:=⟨l3.rt,l3.rr,l3.st,l3.sr,by simp[aZ,l2.sp]⟩;refine b8 [.pass,.pass,.pass,.pass,.pass] [0,1,2,3,4] rfl rfl rfl rfl (xG {s2 with swp:=aY s2.swp (aJ s2.swp.rf) (s2.ram.tx[a]'(by rw[l2.rt];exact ha12)) (s2.ram.rf[a]'(by rw[l2.rr];exact ha12))} 1 a 2 (aJ s2.swp.rf) l3 w2.sl) rfl (aCz l3 l4 rfl) ?_;conv=>whnf
 refine aB (k:=a) rfl rfl rfl ha12 ?_;conv=>whnf
 refine aI rfl rfl rfl (by simpa [l2.rr]using ha12) (by decide) ?_;conv=>whnf
 refine aB (k:=a) rfl rfl rfl ha12 ?_;conv=>whnf
 refine aI rfl rfl rfl (by simpa [l2.rt]using ha12) (by decide) ?_;conv=>whnf
 refine⟨rfl,?_⟩;rw[iD (by rw[l2.rr];exact ha12),gR (by rw[l2.rt];exact ha12)];have e1:s2.ram.tx[a]?.getD []=s2.ram.tx[a]'(by rw[l2.rt];exact ha12):=by simp[l2.rt,ha12]
 have e2:s2.ram.rf[a]?.getD 0=s2.ram.rf[a]'(by rw[l2.rr];exact ha12):=by simp[l2.rr,ha12]
 simp only[dk,e1,e2];rfl
end Go.Qm
namespace Go.Qm
open Go.Cq Go.Cq.D Go.RowKit Go.Proofs
set_option maxRecDepth 10000
theorem tt{sp:List Space}{i j:Nat}{x y:Slot}:aF (aF sp i j x) i j y=aF sp i j y:=by
 simp only[aF];refine List.ext_getElem (by simp) fun q h1 h2=>?_
 simp only[List.getElem_modify];split<;>simp
theorem aDg{l:List Slot}{j:Nat}{b:Bool}(h:j<l.length):(l.map rL).modify j (fun row=>row.set 3 (.sc (.bool b)))=(l.map rL).set j (rL {l[j]with us:=b}):=by rw[af (ai (f:=rL) (List.getElem?_eq_getElem h))];rfl
theorem pq{sp:List Space}{i j:Nat}{x:Slot}(hi:i<sp.length)(hj:j<sp[i].sl.length):∃(h1:i< (aF sp i j x).length)(h2:j< (aF sp i j x)[i].sl.length),(aF sp i j x)[i].sl[j]=x:=⟨by simpa [aF]using hi,by simpa [aF]using hj,by simp[aF]⟩
theorem tG{S:List Space}{i j:Nat}{b:Bool}(hi:i<S.length)(hj:j<S[i].sl.length):(S.map rP).modify i (fun row=>row.set 2 (.sl 4 ((((S[i].sl.map rL).modify j (fun row=>row.set 3 (.sc (.bool b)))).drop 0).take S[i].sl.length)))=(aF S i j {S[i].sl[j]with us:=b}).map rP:=by rw[List.drop_zero,List.take_of_length_le (by simp),aDg hj];exact bf hi
set_option maxHeartbeats 8000000 in
theorem mF(m:Mem)(i j:Nat)(w:Wf m)(hi:i<m.sp.length)(hj:j<m.sp[i].sl.length):d6 Try.prog 147 [.agg (cW m.hd),.one (dI i),.one (dI j)] (hM m) 5
  fun x H'=>x= .tup [.agg (cW ((bE m i j).getD m).hd),.one (dB (bE m i j).isSome)]∧H'=hM ((bE m i j).getD m):=by
 refine aS hmix Try.func147 ok147 ?_;have l:=w.L;have hi5:i<5:=by rw[←l.sp];exact hi
 have hg:=ai (f:=rP) (List.getElem?_eq_getElem hi);have hx:=bV hi hj;conv=>whnf
 refine aB (k:=i) rfl rfl rfl hi5 ?_;conv=>whnf
 refine cK (i:=i) (k:=2) (sz':=4) (es':=m.sp[i].sl.map rL) m.sp[i].sl.length rfl rfl rfl (aT hg rfl rfl rfl) rfl (by simp) ?_;conv=>whnf
 refine aB (k:=j) rfl rfl rfl hj ?_;conv=>whnf
 refine nD (row:=rL (aK m i j)) rfl rfl rfl (by rw[hx];simp[hj]) (cu _) rfl rfl ?_;conv=>whnf
 refine aR (i:=i) (k:=2) (g':=7) (lo:=0) (len:=m.sp[i].sl.length) (es2:=m.sp.map rP) (ov2:=[]) rfl (ah hg (by simp[rP]) (by simp only[ab,if_true];rfl)) rfl rfl (by rw[List.drop_zero,ae];exact dK hi) (by simp only[ag,if_true];rfl) ?_;conv=>whnf
 obtain⟨s1,s2⟩:=w.slot hi hj;have skd:(aK m i j).kd=0∨(aK m i j).kd=1∨(aK m i j).kd=2:=by rw[hx];exact w.kd _ (List.getElem_mem hi) _ (List.getElem_mem hj)
 refine CondP.mk (fun c1=>?_) (fun c1=>?_)<;>conv=>whnf
 ·have c1:¬(aK m i j).kd=1:=by simpa using c1
  have hcall:=rC m (-1) w;cases hr:bF m (-1)with
  |none=>
   have hb:bE m i j=none:=by rw[bE,if_neg c1,hr];rfl
   rw[hr]at hcall;refine b8 (r:=.tup [.agg (cW m.hd),.one (dB false)]) (Hr:=hM m) [.pass,.pass] [0,1,2,3,4] rfl rfl rfl rfl hcall rfl (uN l l rfl) ?_
   (conv=>whnf)<;>repeat' first|(refine aE ?_;conv=>whnf)|(refine aD ?_;conv=>whnf)
   rw[hb];exact⟨rfl,rfl⟩
  |some m1=>
   obtain⟨w1,hf⟩:=w.bF hr;have l1:=w1.L;have ha:=bq w hr;obtain⟨hi1,hj1,ex, -⟩:=eU ha hi hj (.inl c1);have hg1:=ai (f:=rP) (List.getElem?_eq_getElem hi1);rw[hr]at hcall;refine b8 (r:=.tup [.agg (cW m1.hd),.one (dB true)]) (Hr:=hM m1) [.pass,.pass] [0,1,2,3,4] rfl rfl rfl rfl hcall rfl (uN l l1 rfl) ?_
   (conv=>whnf)<;>repeat' first|(refine aE ?_;conv=>whnf)|(refine aD ?_;conv=>whnf)
   refine CondP.mk (fun c0=>?_) (fun c0=>?_)<;>conv=>whnf
   ·have c0:(aK m i j).kd=0:=by simpa using c0
    have hb:bE m i j=some {m1 with ram:=aY m1.ram (aJ m1.ram.rf) jg 1,sp:=aF m1.sp i j ⟨1,aJ m1.ram.rf,true,true⟩}:=by rw[bE,if_neg c1,hr,Option.map_some,if_pos c0]
    refine aC [] rfl rfl rfl yq rfl ?_;conv=>whnf
    refine b8 [.pass,.pass] [0,1] rfl rfl rfl rfl (oR m1.ram jg l1.rt l1.rr hf) rfl ((aO (sz:=1) (es:=(aY m1.ram (aJ m1.ram.rf) jg 1).tx.map rS) (es0:=m1.ram.tx.map rS) (ov0:=[]) rfl rfl (by simp[aY])).trans ((aO (sz:=1) (es:=(aY m1.ram (aJ m1.ram.rf) jg 1).rf.map rI) (es0:=m1.ram.rf.map rI) (ov0:=[]) rfl rfl (by simp[aY])).trans rfl)) ?_;conv=>whnf
    refine aB (k:=i) rfl rfl rfl hi5 ?_;conv=>whnf
    refine cK (i:=i) (k:=2) (sz':=4) (es':=m1.sp[i].sl.map rL) m1.sp[i].sl.length rfl rfl rfl (aT hg1 rfl rfl rfl) rfl (by simp) ?_;conv=>whnf
    refine aB (k:=j) rfl rfl rfl hj1 ?_;conv=>whnf
    refine cG (row':=rL ⟨1,aJ m1.ram.rf,true,false⟩) rfl rfl rfl (by simpa using hj1) (eH (fun _=>rfl)) (cu _) rfl rfl rfl ?_;conv=>whnf
    refine aR (i:=i) (k:=2) (g':=7) (lo:=0) (len:=m1.sp[i].sl.length) (es2:=(aF m1.sp i j ⟨1,aJ m1.ram.rf,true,false⟩).map rP) (ov2:=[]) rfl (ah hg1 (by simp[rP]) (by simp only[ab,if_true];rfl)) rfl rfl (by rw[List.drop_zero,List.take_of_length_le (by simp)];exact bf hi1) (by simp only[ag,if_true];rfl) ?_;conv=>whnf
    obtain⟨hi2,hj2,e2⟩:=pq (x:=⟨1,aJ m1.ram.rf,true,false⟩) hi1 hj1;have hg2:=ai (f:=rP) (List.getElem?_eq_getElem hi2);refine aB (k:=i) rfl rfl rfl hi5 ?_;conv=>whnf
    refine cK (i:=i) (k:=2) (sz':=4) (es':=(aF m1.sp i j ⟨1,aJ m1.ram.rf,true,false⟩)[i].sl.map rL) (aF m1.sp i j ⟨1,aJ m1.ram.rf,true,false⟩)[i].sl.length rfl rfl rfl (aT hg2 rfl rfl rfl) rfl (by simp) ?_;conv=>whnf
    refine aB (k:=j) rfl rfl rfl hj2 ?_;conv=>whnf
    refine aI rfl rfl rfl (by simpa using hj2) (by decide) ?_;conv=>whnf
    refine aR (i:=i) (k:=2) (g':=7) (lo:=0) (len:=(aF m1.sp i j ⟨1,aJ m1.ram.rf,true,false⟩)[i].sl.length) (es2:=(aF m1.sp i j ⟨1,aJ m1.ram.rf,true,true⟩).map rP) (ov2:=[]) rfl (ah hg2 (by simp[rP]) (by simp only[ab,if_true];rfl)) rfl rfl (by rw[tG hi2 hj2,e2,tt]) (by simp only[ag,if_true];rfl) ?_;conv=>whnf
    rw[hb];exact⟨rfl,rfl⟩
   ·have c0:¬(aK m i j).kd=0:=by simpa using c0
    have hk2:(aK m i j).kd=2:=by omega
    obtain⟨f,e1,hf12,e3,e4⟩:=w1.we ha hi hj hk2;have hft:f<m1.swp.tx.length:=by rw[l1.st];exact hf12
    have hfr:f<m1.swp.rf.length:=by rw[l1.sr];exact hf12
    have gt:m1.swp.tx[f]?.getD []=m1.swp.tx[f]:=by simp[hft]
    have gr:m1.swp.rf[f]?.getD 0=m1.swp.rf[f]:=by simp[hfr]
    have hb:bE m i j=some ⟨aY m1.ram (aJ m1.ram.rf) m1.swp.tx[f] m1.swp.rf[f],aY m1.swp f [] 0,aF (aZ 2 f (bU 1 (aJ m1.ram.rf)) m1.sp) i j ⟨1,aJ m1.ram.rf,(aK m i j).ow,true⟩,m1.hd⟩:=by rw[bE,if_neg c1,hr,Option.map_some,if_neg c0,e1,Int.toNat_natCast,gt,gr]
    refine aB (k:=f) rfl rfl (by show some _=some _;rw[e1]) hf12 ?_;conv=>whnf
    refine bR rfl rfl rfl (aT (row:=rS m1.swp.tx[f]) (by simp[hft]) rfl rfl rfl) rfl ?_;conv=>whnf
    refine b8 [.pass,.pass] [0,1] rfl rfl rfl rfl (oR m1.ram m1.swp.tx[f] l1.rt l1.rr hf) rfl ((aO (sz:=1) (es:=(aY m1.ram (aJ m1.ram.rf) m1.swp.tx[f] 1).tx.map rS) (es0:=m1.ram.tx.map rS) (ov0:=[]) rfl rfl (by simp[aY])).trans ((aO (sz:=1) (es:=(aY m1.ram (aJ m1.ram.rf) m1.swp.tx[f] 1).rf.map rI) (es0:=m1.ram.rf.map rI) (ov0:=[]) rfl rfl (by simp[aY])).trans rfl)) ?_;conv=>whnf
    refine aB (k:=f) rfl rfl (by show some _=some _;rw[e1]) hf12 ?_;conv=>whnf
    refine bR rfl rfl rfl (aT (row:=rI m1.swp.rf[f]) (by simp[hfr]) rfl rfl rfl) rfl ?_;conv=>whnf
    refine aB (k:=aJ m1.ram.rf) rfl rfl rfl hf ?_;conv=>whnf
    refine aI rfl rfl rfl (by simpa [aY,l1.rr]using hf) (by decide) ?_;conv=>whnf
    rw[take_set (by rw[l1.rr];exact hf)];have l3:Lw ⟨aY m1.ram (aJ m1.ram.rf) m1.swp.tx[f] m1.swp.rf[f],m1.swp,m1.sp,m1.hd⟩:=⟨by simp[aY,l1.rt],by simp[aY,l1.rr],l1.st,l1.sr,l1.sp⟩;have l4:Lw ⟨aY m1.ram (aJ m1.ram.rf) m1.swp.tx[f] m1.swp.rf[f],m1.swp,aZ 2 f (bU 1 (aJ m1.ram.rf)) m1.sp,m1.hd⟩:=⟨l3.rt,l3.rr,l3.st,l3.sr,by simp[aZ,l1.sp]⟩;simp only[e1];refine b8 [.pass,.pass,.pass,.pass,.pass] [0,1,2,3,4] rfl rfl rfl rfl (xG ⟨aY m1.ram (aJ m1.ram.rf) m1.swp.tx[f] m1.swp.rf[f],m1.swp,m1.sp,m1.hd⟩ 2 f 1 (aJ m1.ram.rf) l3 w1.sl) rfl (uN l3 l4 rfl) ?_;conv=>whnf
    refine aB (k:=f) rfl rfl rfl hf12 ?_;conv=>whnf
    refine aI rfl rfl rfl (by simpa using hfr) (by decide) ?_;conv=>whnf
    refine aB (k:=f) rfl rfl rfl hf12 ?_;conv=>whnf
    refine aI rfl rfl rfl (by simpa using hft) (by decide) ?_;conv=>whnf
    rw[iD hfr,gR hft];obtain⟨S,hS⟩:∃S,aZ 2 f (bU 1 (aJ m1.ram.rf)) m1.sp=S:=⟨_,rfl⟩;have hi2:i<S.length:=by rw[←hS];simpa [aZ]using hi1
    have hj2:j<S[i].sl.length:=by simp only[←hS];simpa [aZ]using hj1
    have e2:S[i].sl[j]=bU 1 (aJ m1.ram.rf) (aK m i j):=by simp only[←hS,aZ,List.getElem_map,ex];rw[if_pos ⟨hk2,e1⟩]
    rw[hS]at hb ⊢;have hg2:=ai (f:=rP) (List.getElem?_eq_getElem hi2);refine aB (k:=i) rfl rfl rfl hi5 ?_;conv=>whnf
    refine cK (i:=i) (k:=2) (sz':=4) (es':=S[i].sl.map rL) S[i].sl.length rfl rfl rfl (aT hg2 rfl rfl rfl) rfl (by simp) ?_;conv=>whnf
    refine aB (k:=j) rfl rfl rfl hj2 ?_;conv=>whnf
    refine aI rfl rfl rfl (by simpa using hj2) (by decide) ?_;conv=>whnf
    refine aR (i:=i) (k:=2) (g':=7) (lo:=0) (len:=S[i].sl.length) (es2:=(aF S i j ⟨1,aJ m1.ram.rf,(aK m i j).ow,true⟩).map rP) (ov2:=[]) rfl (ah hg2 (by simp[rP]) (by simp only[ab,if_true];rfl)) rfl rfl (by rw[tG hi2 hj2,e2];rfl) (by simp only[ag,if_true];rfl) ?_;conv=>whnf
    rw[hb];exact⟨rfl,rfl⟩
 ·have c1:(aK m i j).kd=1:=by simpa using c1
  have hb:bE m i j=some {m with sp:=aF m.sp i j {aK m i j with us:=true}}:=by rw[bE,if_pos c1]
  refine aB (k:=i) rfl rfl rfl hi5 ?_;conv=>whnf
  refine cK (i:=i) (k:=2) (sz':=4) (es':=m.sp[i].sl.map rL) m.sp[i].sl.length rfl rfl rfl (aT hg rfl rfl rfl) rfl (by simp) ?_;conv=>whnf
  refine aB (k:=j) rfl rfl rfl hj ?_;conv=>whnf
  refine aI rfl rfl rfl (by simpa using hj) (by decide) ?_;conv=>whnf
  refine aR (i:=i) (k:=2) (g':=9) (lo:=0) (len:=m.sp[i].sl.length) (es2:=(aF m.sp i j {aK m i j with us:=true}).map rP) (ov2:=[]) rfl (ah hg (by simp[rP]) (by simp only[ab,if_true];rfl)) rfl rfl (by rw[hx];exact tG hi hj) (by simp only[ag,if_true];rfl) ?_;conv=>whnf
  rw[hb];exact⟨rfl,rfl⟩
end Go.Qm
namespace Go.Qm
open Go.Cq Go.Cq.D Go.RowKit Go.Proofs
set_option maxRecDepth 10000
theorem aAD{P:Prg}{ts:DTs}{H:DH}{n:Nat}{K:DT→DTs→DH→Nat→List Nat→Prop}{x y:Opd}{s:Str}{k:Nat}(hx:evS ts x=some (.str s))(hy:eC ts y=some (k:Int))(hk:k<s.length)(h:K (.v (.one (.sc (.int .u8 (s[k].toNat:Int))))) ts H n []):OpP P (.fl (.index x y)) ts H n K:=by refine fp ?_ h;simp only[dfl,hx,hy];rw[if_pos (by omega)];simp[hk]
theorem yz(a:Int):bC Try.prog 79 [.one (dI a)] (.v (.one (dB (inB a 0 63)))):=by
 refine aS hmix Try.func79 ok79 ?_;conv=>whnf
 refine aC [.pass,.pass,.pass] rfl rfl rfl (gV _ _ _) rfl ?_;conv=>whnf
 exact⟨rfl,rfl⟩
def byteOf(t:Str)(k:Nat):Int:=((t[k]?.getD 0).toNat:Int)
def getM(m:Mem)(i:Nat)(a:Nat):Mem×Int×Int:=
 if bA (gb m i) (a / 4:Nat)<0 then(m, -1,2)else match bE m i (a / 4)with
  |none=>(m, -1,4)
  |some m'=>(m',byteOf (m'.ram.tx[(aK m' i (a / 4)).pl.toNat]?.getD []) (a % 4),0)
theorem aDU{a:Nat}(h:a≤1000):IntKind.wrap .i64 ((a:Int).tdiv 4)=((a / 4:Nat):Int):=by rw[Int.tdiv_eq_ediv_of_nonneg (by omega),wrap64 (by omega) (by omega)];omega
theorem aBv{a:Nat}:(a:Int).tmod 4=((a % 4:Nat):Int):=by rw[Int.tmod_eq_emod_of_nonneg (by omega)];omega
theorem xg{b:UInt8}:IntKind.wrap .i64 (b.toNat:Int)=(b.toNat:Int):=by have:=b.toNat_lt;exact wrap64 (by omega) (by omega)
set_option maxHeartbeats 4000000 in
theorem ph(m:Mem)(i a:Nat)(w:Wf m)(hi:i<m.sp.length)(har:∀x,x∈m.sp[i].ar→bL x=true)(hal:m.sp[i].ar.length≤1048576)(hsl:m.sp[i].sl.length=16)(ha:a≤63)(h:m.fits 1048576):
  bC Try.prog 80 [oM m,.one (dI i),.one (dI a)] (.tup [oM (getM m i a).1,.one (dI (getM m i a).2.1),.one (dI (getM m i a).2.2)]):=by
 refine aS hmix Try.func80 ok80 ?_;have hae:gb m i=m.sp[i].ar:=by simp[gb,hi]
 have hj:a / 4<m.sp[i].sl.length:=by omega
 conv=>whnf
 refine fp rfl ?_;conv=>whnf
 simp only[aDU (show a≤1000 by omega),List.drop_zero,List.take_length];have hg:=ai (f:=rP) (List.getElem?_eq_getElem hi);refine aB (k:=i) rfl rfl rfl (by simpa using hi) ?_;conv=>whnf
 refine cK (i:=i) (k:=1) (sz':=4) (es':=m.sp[i].ar.map rA) m.sp[i].ar.length rfl rfl rfl (aT hg rfl rfl rfl) rfl (by simp) ?_;conv=>whnf
 refine aC [.lend,.pass] rfl xM rfl (oW true m.sp[i].ar ((a / 4:Nat):Int) (by omega) har) rfl ?_;conv=>whnf
 have hback:(m.sp.map rP).modify i (fun row=>row.set 1 (.sl 4 (m.sp[i].ar.map rA)))=m.sp.map rP:=by rw[af hg];exact jE hg
 refine aR (i:=i) (k:=1) (g':=8) (lo:=0) (len:=m.sp[i].ar.length) (es2:=m.sp.map rP) (ov2:=[]) rfl (ah hg (by simp[rP]) (by simp only[ab,if_true];rfl)) rfl rfl (by rw[List.drop_zero,ae];exact hback) (by simp only[ag,if_true];rfl) ?_;conv=>whnf
 simp only[List.drop_zero,List.take_length];refine CondP.mk (fun c1=>?_) (fun c1=>?_)<;>conv=>whnf
 ·have c1:bA m.sp[i].ar ((a / 4:Nat):Int)<0:=by simpa using c1
  refine⟨?_,rfl⟩;rw[getM,hae,if_pos c1];simp[oM,dI]
 have c1:¬bA m.sp[i].ar ((a / 4:Nat):Int)<0:=by simpa using c1
 simp only;refine aC (cas:=[aM true true true true true m]) [.lend] rfl gp rfl (eJ true true true true true m h) rfl ?_;conv=>whnf
 have l:=w.L;have hcall:=mF m i (a / 4) w hi hj;have hcas:some [DV.agg [DC.sl 0 0 (m.ram.tx.map rS).length,.sl 1 0 (m.ram.rf.map rI).length,.sl 2 0 (m.swp.tx.map rS).length,.sl 3 0 (m.swp.rf.map rI).length,.sl 4 0 (m.sp.map rP).length,dI m.hd],.one (dI i),.one (dI ((a / 4:Nat):Int))]=some [.agg (cW m.hd),.one (dI i),.one (dI ((a / 4:Nat):Int))]:=by simp only[List.length_map,l.rt,l.rr,l.st,l.sr,l.sp];rfl
 cases hb:bE m i (a / 4)with
 |none=>
  have hget:getM m i a=(m, -1,4):=by rw[getM,hae,if_neg c1,hb]
  rw[hb]at hcall;refine b8 (r:=.tup [.agg (cW m.hd),.one (dB false)]) (Hr:=hM m) [.pass,.pass,.pass] [12,13,14,15,16] rfl hcas rfl rfl hcall rfl (vG l l rfl rfl rfl rfl rfl rfl) ?_
  (conv=>whnf)<;>repeat' first|(refine aE ?_;conv=>whnf)|(refine aD ?_;conv=>whnf)
  rw[hget];refine⟨?_,rfl⟩;simp[oM,dI]
 |some m'=>
  have w':=w.jk hi hj hb;have l':=w'.L;obtain⟨hi',hj',hk1⟩:=fy w hi hj hb;obtain⟨k,e1,hk12, -,e4⟩:=w'.at1 _ (List.getElem_mem hi') _ (List.getElem_mem hj') hk1;have hkt:k<m'.ram.tx.length:=by rw[l'.rt];exact hk12
  have e4:m'.ram.tx[k].length=4:=by simpa [hkt]using e4
  have hb4:a % 4<m'.ram.tx[k].length:=by omega
  have hget:getM m i a=(m',(m'.ram.tx[k][a % 4].toNat:Int),0):=by rw[getM,hae,if_neg c1,hb];simp only[bV hi' hj',e1,Int.toNat_natCast,byteOf];simp[hkt,hb4]
  rw[hb]at hcall;refine b8 (r:=.tup [.agg (cW m'.hd),.one (dB true)]) (Hr:=hM m') [.pass,.pass,.pass] [12,13,14,15,16] rfl hcas rfl rfl hcall rfl (vG l l' rfl rfl rfl rfl rfl rfl) ?_
  (conv=>whnf)<;>repeat' first|(refine aE ?_;conv=>whnf)|(refine aD ?_;conv=>whnf)
  have t0:(m'.ram.tx.map rS).take 12=m'.ram.tx.map rS:=List.take_of_length_le (by simp[l'.rt]);have t1:(m'.ram.rf.map rI).take 12=m'.ram.rf.map rI:=List.take_of_length_le (by simp[l'.rr]);have t2:(m'.swp.tx.map rS).take 12=m'.swp.tx.map rS:=List.take_of_length_le (by simp[l'.st]);have t3:(m'.swp.rf.map rI).take 12=m'.swp.rf.map rI:=List.take_of_length_le (by simp[l'.sr]);have t4:(m'.sp.map rP).take 5=m'.sp.map rP:=List.take_of_length_le (by simp[l'.sp]);have hg':=ai (f:=rP) (List.getElem?_eq_getElem hi');simp only[List.drop_zero,t0,t1,t2,t3,t4];refine aB (k:=i) rfl rfl rfl (by simpa using hi') ?_;conv=>whnf
  refine cK (i:=i) (k:=2) (sz':=4) (es':=m'.sp[i].sl.map rL) m'.sp[i].sl.length rfl rfl rfl (aT hg' rfl rfl rfl) rfl (by simp) ?_;conv=>whnf
  refine aB (k:=a / 4) rfl rfl rfl hj' ?_;conv=>whnf
  refine bR rfl rfl rfl (aT (row:=rL m'.sp[i].sl[a / 4]) (by simp[hj']) rfl rfl rfl) rfl ?_;conv=>whnf
  refine aB (k:=k) rfl rfl (by show some _=some _;rw[e1]) (by simpa using hkt) ?_;conv=>whnf
  refine bR rfl rfl rfl (aT (row:=rS m'.ram.tx[k]) (by simp[hkt]) rfl rfl rfl) rfl ?_;conv=>whnf
  refine fp rfl ?_;conv=>whnf
  refine aAD rfl (by show some ((a:Int).tmod 4)=_;rw[aBv]) hb4 ?_;conv=>whnf
  refine aR (i:=i) (k:=2) (g':=23) (lo:=0) (len:=m'.sp[i].sl.length) (es2:=m'.sp.map rP) (ov2:=[]) rfl (ah hg' (by simp[rP]) (by simp only[ab,if_true];rfl)) rfl rfl (by rw[List.drop_zero,ae];exact dK hi') (by simp only[ag,if_true];rfl) ?_;conv=>whnf
  rw[hget,xg];refine⟨?_,rfl⟩;simp[oM,dI]
end Go.Qm
namespace Go.Qm
open Go.Cq Go.Cq.D Go.RowKit Go.Proofs
set_option maxRecDepth 10000
theorem fY{α β:Type}{f:α→β}{l:List α}{n:Nat}(h:l.length=n):(l.map f).take n=l.map f:=List.take_of_length_le (by simp[h])
theorem mO{sp:List Space}{i:Nat}(hi:i<sp.length):(sp.map rP).modify i (fun row=>row.set 1 (.sl 4 (sp[i].ar.map rA)))=sp.map rP:=by have hg:=ai (f:=rP) (List.getElem?_eq_getElem hi);rw[af hg];exact jE hg
theorem np{sp:List Space}{i j:Nat}{x:Slot}:(aF sp i j x).length=sp.length:=by simp[aF]
theorem rG{P:Prg}{ts:DTs}{H:DH}{n:Nat}{K:DT→DTs→DH→Nat→List Nat→Prop}{zs:List CV}{bytes:Nat}{x y:Opd}{g lo len g2 jw sz:Nat}{es0 es2:List (List PV)}(hx:cC ts x=some (.sl g lo len))(hy:cC ts y=some (.sl g2 0 jw))(hsz:Nat.beq zs.length sz=true)(h0:Nat.blt 0 sz=true)(hg:aG H g=some (.arr sz es0 []))(hg2:aG H g2=some (.arr sz es2 []))(hl:es2.length=jw)(hs:∀row,row∈es2→hO row)(h1:(len+jw)*bytes≤140737488355328)(h2:len+jw≤140737488355328)(h:K (.v (.one (.sl n 0 (len+jw)))) ts ((n,.arr sz ((es0.drop lo).take len++es2) [])::eM g H) (n+1) [g]):OpP P (.app zs bytes x y) ts H n K:=by
 have e:=Nat.eq_of_beq_eq_true hsz;have e0:0<sz:=by simpa using h0
 subst hl;have ee:(es2.drop 0).take es2.length=es2:=by rw[List.drop_zero,List.take_length]
 refine⟨lD ⟨.sl g lo len,.sl g2 0 es2.length,(es2.drop 0).take es2.length,none,hx,hy,?_,by omega,?_⟩⟩
 ·rw[e];exact .copy hg2 (by rw[ee];exact hs)
 ·rw[e,ee];exact⟨es0,hg,by simp,h1,h2,h⟩
theorem zj{sp:List Space}{Z:Nat}{A L:List (List PV)}(h:Z<sp.length):(((sp.map rP).modify Z (fun row=>row.set 0 (.sc (.bool true)))).modify Z (fun row=>row.set 2 (.sl 4 L))).modify Z (fun row=>row.set 1 (.sl 4 A))=(sp.map rP).set Z [eB true,.sl 4 A,.sl 4 L]:=by
 have hg:=ai (f:=rP) (List.getElem?_eq_getElem h);have hl:Z< (sp.map rP).length:=by simpa using h
 rw[af hg,af (List.getElem?_set_self hl),List.set_set,af (List.getElem?_set_self hl),List.set_set];rfl
theorem aDF{i a la b lb:Nat}{v:CV}{es:List (List PV)}{ov:List (Nat×Nat×DC)}(h:i<es.length)(h0:ov.all (fun p=>!Nat.beq p.2.1 0)=true):wrN i 0 [.sc v,.sl a 0 la,.sl b 0 lb] (.arr 3 es ov)=some (.arr 3 (es.modify i (·.set 0 (.sc v))) ((i,2,.sl b 0 lb)::(i,1,.sl a 0 la)::ov)):=by simp only[wrN,wr1,h,h0,true_and,List.length_modify,show(0:Nat)<3 by decide,show 0+1<3 by decide,show 0+1+1<3 by decide,if_true,ite_self]
theorem zd{P:Prg}{ts:DTs}{H:DH}{n:Nat}{KL:DTs→DH→DT→DTs→DH→Nat→List Nat→Prop}{x:Opd}{g i sz s1 s2:Nat}{v:CV}{a b es:List (List PV)}(la lb:Nat)(hx:cC ts x=some (.ptr g i 0))(hr:jm ts H (cT ts (COp.fl (.load (some 3) x)).reads)=true)(hg:aG H g=some (.arr sz es []))(he:es[i]?=some [.sc v,.sl s1 a,.sl s2 b])(h1:Nat.beq n g=false)(h2:Nat.beq (n+1) g=false)(ha:a.length=la)(hb:b.length=lb)(h:KL ts (cj g (.arr sz es [(i,2,.sl (n+1) 0 lb),(i,1,.sl n 0 la)]) ((n+1,.arr s2 b [])::cj g (.arr sz es [(i,1,.sl n 0 la)]) ((n,.arr s1 a [])::H))) (.v (.agg [.sc v,.sl n 0 la,.sl (n+1) 0 lb])) ts (cj g (.arr sz es [(i,2,.sl (n+1) 0 lb),(i,1,.sl n 0 la)]) ((n+1,.arr s2 b [])::cj g (.arr sz es [(i,1,.sl n 0 la)]) ((n,.arr s1 a [])::H))) (n+2) []):LdP P (.fl (.load (some 3) x)) ts H n KL:=by
 subst ha hb;have n1:¬g=n:=fun e=>Nat.ne_of_beq_eq_false h1 e.symm
 have n2:¬g=n+1:=fun e=>Nat.ne_of_beq_eq_false h2 e.symm
 have e0:∀{H:DH}{ov:List (Nat×Nat×DC)}{k:Nat}{c:DC},aG H g=some (.arr sz es ov)→(DB.arr sz es ov).cell i k=some c→∀ts,aa ts H (.h g i k)=some c:=fun h hc ts=>by simp only[aa,h,Option.bind_some,hc]
 have g1:aG (cj g (.arr sz es [(i,1,.sl n 0 a.length)]) ((n,.arr s1 a [])::H)) g=some (.arr sz es [(i,1,.sl n 0 a.length)]):=by rw[ax,if_pos rfl]
 have g2:aG (cj g (.arr sz es [(i,2,.sl (n+1) 0 b.length),(i,1,.sl n 0 a.length)]) ((n+1,.arr s2 b [])::cj g (.arr sz es [(i,1,.sl n 0 a.length)]) ((n,.arr s1 a [])::H))) g=some (.arr sz es [(i,2,.sl (n+1) 0 b.length),(i,1,.sl n 0 a.length)]):=by rw[ax,if_pos rfl]
 have c0:∀{ov:List (Nat×Nat×DC)},ab ov i 0=none→(DB.arr sz es ov).cell i 0=some (.sc v):=fun ho=>aT (p:=.sc v) he rfl rfl ho
 have c1:(DB.arr sz es []).cell i 1=some (.own s1 a):=aT (p:=.sl s1 a) he rfl rfl rfl;have c2:(DB.arr sz es [(i,1,.sl n 0 a.length)]).cell i 2=some (.own s2 b):=aT (p:=.sl s2 b) he rfl rfl rfl;have d1:(DB.arr sz es [(i,2,.sl (n+1) 0 b.length),(i,1,.sl n 0 a.length)]).cell i 1=some (.sl n 0 a.length):=ah he (by simp) (if_pos rfl);have d2:(DB.arr sz es [(i,2,.sl (n+1) 0 b.length),(i,1,.sl n 0 a.length)]).cell i 2=some (.sl (n+1) 0 b.length):=ah he (by simp) (if_pos rfl);refine sY hx hr (ts1:=ts) (n1:=n+2) ?_ (zL (r:=.agg [.sc v,.sl n 0 a.length,.sl (n+1) 0 b.length]) ?_ h)
 ·simp only[Option.getD_some,show List.range 3=[0,1,2]from rfl,List.map_cons,List.map_nil,Nat.zero_add,dU,exp,e0 hg (c0 rfl),e0 hg c1];simp only[fh,aW,if_neg n1,hg,DB.fc];simp only[e0 g1 c2,g1,if_neg n2]
 ·simp only[dfl,hx,fq,Nat.zero_add,e0 g2 (c0 rfl),e0 g2 d1,e0 g2 d2];rfl
set_option maxHeartbeats 4000000 in
theorem xl(m:Mem)(i:Nat)(w:Wf m)(hi:i<m.sp.length)(har:∀x,x∈m.sp[i].ar→bL x=true)(hal:m.sp[i].ar.length≤1048576)(hsl:m.sp[i].sl.length=16)(hlv:m.sp[i].lv=true):
  bC Try.prog 103 [oM m,.one (dI i)] (.tup [oM (lQ m i).1,.one (dI (lQ m i).2)]):=by
 refine aS hmix Try.func103 ok103 ?_;conv=>whnf
 simp only[List.drop_zero,List.take_length];refine aC (cas:=[aM true true true true true m]) [.lend] rfl gp rfl (nH true true true true true m (by rw[w.sp];omega)) rfl ?_;conv=>whnf
 refine CondP.mk (fun c1=>?_) (fun c1=>?_)<;>conv=>whnf
 ·have c1:¬bz m.sp<m.sp.length:=fun c=>by rw[iH,if_pos c]at c1;simp at c1;omega
  refine⟨?_,rfl⟩;rw[lQ,if_neg c1];simp[oM,dI]
 have c1:bz m.sp<m.sp.length:=by
  rcases Nat.lt_or_ge (bz m.sp) m.sp.length with c|c
  ·exact c
  ·rw[iH,if_neg (by omega)]at c1;simp at c1
 rw[iH,if_pos c1];have hfm:lQ m i=if(cL m i 16).2 then(iZ (jn (cL m i 16).1 i 16) i (bz m.sp),((bz m.sp:Nat):Int))else((cL m i 16).1, -1):=by rw[lQ,if_pos c1]
 have hZi:¬i=bz m.sp:=fun e=>by have:=kq c1;simp only[←e,hlv]at this;exact absurd this (by decide)
 obtain⟨Z,hZ⟩:∃Z,bz m.sp=Z:=⟨_,rfl⟩;rw[hZ]at c1 hfm hZi ⊢;simp only[List.drop_zero,List.take_length];refine ao (fun j:Nat=>[(1,.v (.one (dI i))),(2,.v (.one (.ptr 5 0 0))),(4,.v (.one (.ptr 6 0 0))),(6,.v (.one (dI Z))),(7,.v (.one (dI j)))]) (fun j=>[(6,bO fw),(5,bO (cL m i j).1)]) (fun _=>7)
  (fun j=>j≤16∧(cL m i j).2=true) (fun j=>16-j) 0 ⟨by omega,rfl⟩ rfl rfl rfl fun j hj=>?_
 obtain⟨hj16,hok⟩:=hj;obtain⟨w1,s1⟩:=aAQ w hi (j:=j) (by omega);have hstep:cL m i (j+1)=if(cL m i j).2&&(shP (cL m i j).1 i j&&decide ((aK (cL m i j).1 i j).kd=0))then(match bE (cL m i j).1 i j with
  |some m2=>(m2,true)
  |none=>((cL m i j).1,false))else cL m i j:=rfl
 rw[hok,Bool.true_and,shP,z8 s1 hi]at hstep;obtain⟨m1,hm1⟩:∃m1,(cL m i j).1=m1:=⟨_,rfl⟩;rw[hm1]at hstep w1 s1;simp only[hm1];have l1:=w1.L;have hi1:i<m1.sp.length:=by rw[s1.1];exact hi
 have hi5:i<5:=by rw[←l1.sp];exact hi1
 obtain⟨-,ear,esl⟩:=s1.2 i hi hi1;rw[←ear]at hstep hal har;have hg:=ai (f:=rP) (List.getElem?_eq_getElem hi1);conv=>whnf
 refine CondP.mk (fun c2=>?_) (fun c2=>?_)<;>conv=>whnf
 ·have hj15:j<16:=by
               have:(j:Int)<16:=by simpa using c2
               omega
  have hj1:j<m1.sp[i].sl.length:=by omega
  refine aB (k:=i) rfl rfl rfl (by simpa using hi1) ?_;conv=>whnf
  refine zd (v:=.bool m1.sp[i].lv) (a:=m1.sp[i].ar.map rA) (b:=m1.sp[i].sl.map rL) m1.sp[i].ar.length m1.sp[i].sl.length rfl rfl rfl hg rfl rfl (by simp) (by simp) ?_;conv=>whnf
  have hro:some [DV.agg [dB m1.sp[i].lv,.ro true 4 (((m1.sp[i].ar.map rA).drop 0).take m1.sp[i].ar.length),.ro true 4 (((m1.sp[i].sl.map rL).drop 0).take m1.sp[i].sl.length)],.one (dI j)]=some [.agg [dB m1.sp[i].lv,.ro true 4 (m1.sp[i].ar.map rA),.ro true 4 (m1.sp[i].sl.map rL)],.one (dI j)]:=by simp only[List.drop_zero,ae]
  refine aC [.lend,.pass] rfl hro rfl (lV true true m1.sp[i] j (by omega) har) rfl ?_;cases hsh:jT m1.sp[i].ar (bA m1.sp[i].ar j)with
  |false=>
   rw[hsh,Bool.false_and]at hstep
   (conv=>whnf)<;>repeat' first|(refine aE ?_;conv=>whnf)|(refine aD ?_;conv=>whnf)
   refine aR (i:=i) (k:=2) (g':=9) (lo:=0) (len:=m1.sp[i].sl.length) (es2:=m1.sp.map rP) (ov2:=[(i,1,.sl 8 0 m1.sp[i].ar.length)]) rfl (ah hg (by simp[rP]) (by simp only[ab,if_true];rfl)) rfl rfl (by rw[List.drop_zero,ae];exact dK hi1) (by simp only[ag,if_true];rfl) ?_;conv=>whnf
   refine aR (i:=i) (k:=1) (g':=8) (lo:=0) (len:=m1.sp[i].ar.length) (es2:=m1.sp.map rP) (ov2:=[]) rfl (ah hg (by simp[rP]) (by simp only[ab,if_true];rfl)) rfl rfl (by rw[List.drop_zero,ae];exact mO hi1) (by simp only[ag,if_true];rfl) ?_
   (conv=>whnf)<;>repeat' first|(refine aE ?_;conv=>whnf)|(refine aD ?_;conv=>whnf)
   refine⟨j+1,by omega,⟨by omega,by rw[hstep];exact hok⟩,?_,?_,rfl⟩
   ·rw[wrap64 (by omega) (by omega)];rfl
   ·rw[hstep];simp only[Bool.false_eq_true,if_false,hm1,List.drop_zero,List.take_length];rfl
  |true=>
   rw[hsh,Bool.true_and]at hstep
   (conv=>whnf)<;>repeat' first|(refine aE ?_;conv=>whnf)|(refine aD ?_;conv=>whnf)
   refine aB (k:=i) rfl rfl rfl (by simpa using hi1) ?_
   (conv=>whnf)<;>repeat' first|(refine aE ?_;conv=>whnf)|(refine aD ?_;conv=>whnf)
   refine bR rfl rfl rfl (ah hg (by simp[rP]) (if_pos rfl)) rfl ?_
   (conv=>whnf)<;>repeat' first|(refine aE ?_;conv=>whnf)|(refine aD ?_;conv=>whnf)
   refine aB (k:=j) rfl rfl rfl hj1 ?_
   (conv=>whnf)<;>repeat' first|(refine aE ?_;conv=>whnf)|(refine aD ?_;conv=>whnf)
   refine bR rfl rfl rfl (aT (row:=rL m1.sp[i].sl[j]) (by simp[hj1]) rfl rfl rfl) rfl ?_
   (conv=>whnf)<;>repeat' first|(refine aE ?_;conv=>whnf)|(refine aD ?_;conv=>whnf)
   refine aR (i:=i) (k:=2) (g':=9) (lo:=0) (len:=m1.sp[i].sl.length) (es2:=m1.sp.map rP) (ov2:=[(i,1,.sl 8 0 m1.sp[i].ar.length)]) rfl (ah hg (by simp[rP]) (by simp only[ab,if_true];rfl)) rfl rfl (by rw[List.drop_zero,ae];exact dK hi1) (by simp only[ag,if_true];rfl) ?_;conv=>whnf
   refine aR (i:=i) (k:=1) (g':=8) (lo:=0) (len:=m1.sp[i].ar.length) (es2:=m1.sp.map rP) (ov2:=[]) rfl (ah hg (by simp[rP]) (by simp only[ab,if_true];rfl)) rfl rfl (by rw[List.drop_zero,ae];exact mO hi1) (by simp only[ag,if_true];rfl) ?_;conv=>whnf
   have hx:=bV hi1 hj1;refine CondP.mk (fun c3=>?_) (fun c3=>?_)<;>conv=>whnf
   ·have c3:(aK m1 i j).kd=0:=by rw[hx];simpa using c3
    rw[decide_eq_true c3]at hstep;have hcall:=mF m1 i j w1 hi1 hj1;simp only[List.drop_zero,List.take_length];simp only[List.length_map,l1.rt,l1.rr,l1.st,l1.sr,l1.sp];cases hb:bE m1 i j with
    |none=>
     rw[hb]at hcall hstep;refine b8 (r:=.tup [.agg (cW m1.hd),.one (dB false)]) (Hr:=hM m1) [.pass,.pass,.pass] [7,8,9,10,11] rfl rfl rfl rfl hcall rfl (vG l1 l1 rfl rfl rfl rfl rfl rfl) ?_
     (conv=>whnf)<;>repeat' first|(refine aE ?_;conv=>whnf)|(refine aD ?_;conv=>whnf)
     have hst:cL m i 16=(m1,false):=by have:=wO (m:=m) (i:=i) (j:=j+1) (by rw[hstep];rfl) (15-j);rw[show j+1+(15-j)=16 by omega,hstep]at this;exact this
     rw[hfm,hst];refine⟨?_,rfl⟩;simp[oM,dI,fY l1.rt,fY l1.rr,fY l1.st,fY l1.sr,fY l1.sp]
    |some m2=>
     have w2:=w1.jk hi1 hj1 hb;have l2:=w2.L;rw[hb]at hcall hstep;refine b8 (r:=.tup [.agg (cW m2.hd),.one (dB true)]) (Hr:=hM m2) [.pass,.pass,.pass] [7,8,9,10,11] rfl rfl rfl rfl hcall rfl (vG l1 l2 rfl rfl rfl rfl rfl rfl) ?_
     (conv=>whnf)<;>repeat' first|(refine aE ?_;conv=>whnf)|(refine aD ?_;conv=>whnf)
     have hst:cL m i (j+1)=(m2,true):=hstep;refine⟨j+1,by omega,⟨by omega,by rw[hst]⟩,?_,?_,rfl⟩
     ·rw[wrap64 (by omega) (by omega)];rfl
     ·rw[hst];simp only[List.drop_zero,fY l2.rt,fY l2.rr,fY l2.st,fY l2.sr,fY l2.sp];rfl
   ·have c3:¬(aK m1 i j).kd=0:=by rw[hx];simpa using c3
    rw[decide_eq_false c3]at hstep;refine⟨j+1,by omega,⟨by omega,by rw[hstep];exact hok⟩,?_,?_,rfl⟩
    ·rw[wrap64 (by omega) (by omega)];rfl
    ·rw[hstep];simp only[Bool.false_eq_true,if_false,hm1,List.drop_zero,List.take_length];rfl
 have hje:j=16:=by
             have:¬(j:Int)<16:=by simpa using c2
             omega
 subst hje;rw[hok,hm1]at hfm;clear hstep c2 hok hj16;refine ao (fun j:Nat=>[(1,.v (.one (dI i))),(2,.v (.one (.ptr 5 0 0))),(4,.v (.one (.ptr 6 0 0))),(6,.v (.one (dI Z))),(10,.v (.one (dI j)))]) (fun j=>[(6,bO fw),(5,bO (jn m1 i j))]) (fun _=>7)
  (fun j=>j≤16) (fun j=>16-j) 0 (by omega) rfl rfl rfl fun j hj16=>?_
 have fk:=aAm w1.ram w1.swp (i:=i) (j:=j);obtain⟨m3,hm3⟩:∃m3,jn m1 i j=m3:=⟨_,rfl⟩;have hstep:jn m1 i (j+1)=pX m3 i j:=by rw[←hm3];rfl
 rw[hm3]at fk;simp only[hm3];have hi3:i<m3.sp.length:=by rw[fk.sm.1];exact hi1
 obtain⟨-,ear3,esl3⟩:=fk.sm.2 i hi1 hi3;rw[←ear3]at hal har;have hg3:=ai (f:=rP) (List.getElem?_eq_getElem hi3);conv=>whnf
 refine CondP.mk (fun c2=>?_) (fun c2=>?_)<;>conv=>whnf
 ·have hj15:j<16:=by
               have:(j:Int)<16:=by simpa using c2
               omega
  have hj3:j<m3.sp[i].sl.length:=by omega
  refine aB (k:=i) rfl rfl rfl (by simpa using hi3) ?_;conv=>whnf
  refine cK (i:=i) (k:=2) (sz':=4) (es':=m3.sp[i].sl.map rL) m3.sp[i].sl.length rfl rfl rfl (aT hg3 rfl rfl rfl) rfl (by simp) ?_;conv=>whnf
  refine aB (k:=j) rfl rfl rfl hj3 ?_;conv=>whnf
  refine nD (row:=rL (aK m3 i j)) rfl rfl rfl (by rw[bV hi3 hj3];simp[hj3]) (cu _) rfl rfl ?_;conv=>whnf
  refine aR (i:=i) (k:=2) (g':=8) (lo:=0) (len:=m3.sp[i].sl.length) (es2:=m3.sp.map rP) (ov2:=[]) rfl (ah hg3 (by simp[rP]) (by simp only[ab,if_true];rfl)) rfl rfl (by rw[List.drop_zero,ae];exact dK hi3) (by simp only[ag,if_true];rfl) ?_;conv=>whnf
  obtain⟨x,hx⟩:∃x,aK m3 i j=x:=⟨_,rfl⟩;obtain⟨sh,hsh⟩:∃sh,jT m3.sp[i].ar (bA m3.sp[i].ar j)=sh:=⟨_,rfl⟩;have hS:pX m3 i j=⟨gF (x.kd=1) m3.ram x.pl.toNat,gF (x.kd=2) m3.swp x.pl.toNat,aF m3.sp i j ⟨x.kd,x.pl,sh&&x.ow,x.us⟩,m3.hd⟩:=by rw[pX,shP,show arF m3 i=m3.sp[i].ar by simp[arF,hi3],hsh,hx];cases sh<;>rfl
  have htl:(x.kd=1→∃f:Nat,x.pl=f∧f<12)∧(x.kd=2→∃f:Nat,x.pl=f∧f<12):=by have e:=fk.at_ j (Nat.le_refl j);obtain⟨t1,t2⟩:=w1.slot (i:=i) (j:=j) hi1 (by omega);rw[←e,hx]at t1 t2;exact⟨fun c=>let⟨f,a,b,_⟩:=t1 c;⟨f,a,b⟩,fun c=>let⟨f,a,b,_⟩:=t2 c;⟨f,a,b⟩⟩
  simp only[hx,List.drop_zero,List.take_length];refine aB (k:=i) rfl rfl rfl (by simpa using hi3) ?_;conv=>whnf
  refine zd (v:=.bool m3.sp[i].lv) (a:=m3.sp[i].ar.map rA) (b:=m3.sp[i].sl.map rL) m3.sp[i].ar.length m3.sp[i].sl.length rfl rfl rfl hg3 rfl rfl (by simp) (by simp) ?_;conv=>whnf
  have hro:some [DV.agg [dB m3.sp[i].lv,.ro true 4 (((m3.sp[i].ar.map rA).drop 0).take m3.sp[i].ar.length),.ro true 4 (((m3.sp[i].sl.map rL).drop 0).take m3.sp[i].sl.length)],.one (dI j)]=some [.agg [dB m3.sp[i].lv,.ro true 4 (m3.sp[i].ar.map rA),.ro true 4 (m3.sp[i].sl.map rL)],.one (dI j)]:=by simp only[List.drop_zero,ae]
  refine aC [.lend,.pass] rfl hro rfl (lV true true m3.sp[i] j (by omega) har) rfl ?_;rw[hsh];cases sh
  all_goals
   (conv=>whnf)<;>repeat' first|(refine aE ?_;conv=>whnf)|(refine aD ?_;conv=>whnf)
   refine aR (i:=i) (k:=2) (g':=12) (lo:=0) (len:=m3.sp[i].sl.length) (es2:=m3.sp.map rP) (ov2:=[(i,1,.sl 11 0 m3.sp[i].ar.length)]) rfl (ah hg3 (by simp[rP]) (by simp only[ab,if_true];rfl)) rfl rfl (by rw[List.drop_zero,ae];exact dK hi3) (by simp only[ag,if_true];rfl) ?_;conv=>whnf
   refine aR (i:=i) (k:=1) (g':=11) (lo:=0) (len:=m3.sp[i].ar.length) (es2:=m3.sp.map rP) (ov2:=[]) rfl (ah hg3 (by simp[rP]) (by simp only[ab,if_true];rfl)) rfl rfl (by rw[List.drop_zero,ae];exact mO hi3) (by simp only[ag,if_true];rfl) ?_
   (conv=>whnf)<;>repeat' first|(refine aE ?_;conv=>whnf)|(refine aD ?_;conv=>whnf)
   simp only[List.drop_zero,List.take_length];refine aB (k:=i) rfl rfl rfl (by simpa using hi3) ?_;conv=>whnf
   refine cK (i:=i) (k:=2) (sz':=4) (es':=m3.sp[i].sl.map rL) m3.sp[i].sl.length rfl rfl rfl (aT hg3 rfl rfl rfl) rfl (by simp) ?_;conv=>whnf
   refine aB (k:=j) rfl rfl rfl hj3 ?_;conv=>whnf
   first
    |refine cG (row':=rL ⟨x.kd,x.pl,false,x.us⟩) rfl rfl rfl (by simpa using hj3) (eH (fun _=>rfl)) (cu _) rfl rfl rfl ?_
    |refine cG (row':=rL x) rfl rfl rfl (by simpa using hj3) (eH (fun _=>rfl)) (cu _) rfl rfl rfl ?_
   conv=>whnf
   refine aR (i:=i) (k:=2) (g':=11) (lo:=0) (len:=m3.sp[i].sl.length) (ov2:=[]) rfl (ah hg3 (by simp[rP]) (by simp only[ab,if_true];rfl)) rfl rfl (by rw[List.drop_zero,List.take_of_length_le (by simp),bf hi3]) (by simp only[ag,if_true];rfl) ?_;conv=>whnf
   simp only[List.drop_zero,List.take_of_length_le,List.length_map,np,Nat.le_refl];refine CondP.mk (fun c3=>?_) (fun c3=>?_)<;>conv=>whnf
   ·have c3:x.kd=1:=by simpa using c3
    obtain⟨f,e1,e2⟩:=htl.1 c3;have e3:f<m3.ram.rf.length:=by rw[fk.rl,l1.rr];exact e2
    refine aB (k:=f) rfl rfl (by show some _=some _;rw[e1]) (by simpa using e3) ?_;conv=>whnf
    refine bR rfl rfl rfl (aT (row:=rI m3.ram.rf[f]) (by simp[e3]) rfl rfl rfl) rfl ?_;conv=>whnf
    refine aB (k:=f) rfl rfl (by show some _=some _;rw[e1]) (by simpa using e3) ?_;conv=>whnf
    refine aI rfl rfl rfl (by simpa using e3) (by decide) ?_;conv=>whnf
    have hb:=fk.rb _ (List.getElem_mem e3);rw[rY c3 e1 e3,jH (show¬x.kd=2 by omega)]at hS;refine⟨j+1,by omega,by omega,?_,?_,rfl⟩
    ·rw[wrap64 (by omega) (by omega)];rfl
    ·rw[hstep,hS,iD e3,wrap64 (by omega) (by omega),List.drop_zero,List.take_of_length_le (by simp)];rfl
   ·have c3:¬x.kd=1:=by simpa using c3
    refine CondP.mk (fun c4=>?_) (fun c4=>?_)<;>conv=>whnf
    ·have c4:x.kd=2:=by simpa using c4
     obtain⟨f,e1,e2⟩:=htl.2 c4;have e3:f<m3.swp.rf.length:=by rw[fk.sl,l1.sr];exact e2
     refine aB (k:=f) rfl rfl (by show some _=some _;rw[e1]) (by simpa using e3) ?_;conv=>whnf
     refine bR rfl rfl rfl (aT (row:=rI m3.swp.rf[f]) (by simp[e3]) rfl rfl rfl) rfl ?_;conv=>whnf
     refine aB (k:=f) rfl rfl (by show some _=some _;rw[e1]) (by simpa using e3) ?_;conv=>whnf
     refine aI rfl rfl rfl (by simpa using e3) (by decide) ?_;conv=>whnf
     have hb:=fk.sb _ (List.getElem_mem e3);rw[jH c3,rY c4 e1 e3]at hS;refine⟨j+1,by omega,by omega,?_,?_,rfl⟩
     ·rw[wrap64 (by omega) (by omega)];rfl
     ·rw[hstep,hS,iD e3,wrap64 (by omega) (by omega),List.drop_zero,List.take_of_length_le (by simp)];rfl
    ·have c4:¬x.kd=2:=by simpa using c4
     rw[jH c3,jH c4]at hS;refine⟨j+1,by omega,by omega,?_,?_,rfl⟩
     ·rw[wrap64 (by omega) (by omega)];rfl
     ·rw[hstep,hS];rfl
 have hje:j=16:=by
             have:¬(j:Int)<16:=by simpa using c2
             omega
 subst hje;rw[hm3]at hfm;refine aB (k:=i) rfl rfl rfl (by simpa using hi3) ?_;conv=>whnf
 refine zd (v:=.bool m3.sp[i].lv) (a:=m3.sp[i].ar.map rA) (b:=m3.sp[i].sl.map rL) m3.sp[i].ar.length m3.sp[i].sl.length rfl rfl rfl hg3 rfl rfl (by simp) (by simp) ?_;conv=>whnf
 have hZ3:Z<m3.sp.length:=by rw[fk.sm.1,s1.1];exact c1
 refine bY rfl rfl rfl ?_;conv=>whnf
 refine rG rfl rfl rfl rfl rfl rfl (by simp) (ij sy _) (by omega) (by omega) ?_;conv=>whnf
 refine bY rfl rfl rfl ?_;conv=>whnf
 refine rG rfl rfl rfl rfl rfl rfl (by simp) (ij cu _) (by omega) (by omega) ?_;conv=>whnf
 refine aB (k:=Z) rfl rfl rfl (by simpa using hZ3) ?_;conv=>whnf
 refine ea rfl rfl rfl rfl rfl (aDF (by simpa using hZ3) rfl) ?_;conv=>whnf
 have hgZ:=ai (f:=rP) (List.getElem?_eq_getElem hZ3);have hiZ:¬Z=i:=fun e=>hZi e.symm
 have hm4:(iZ m3 i Z).sp=m3.sp.set Z ⟨true,m3.sp[i].ar,m3.sp[i].sl⟩:=by simp[iZ,arF,iM,hi3]
 have hi4:i< (iZ m3 i Z).sp.length:=by rw[hm4,List.length_set];exact hi3
 have hx4:(iZ m3 i Z).sp[i]=m3.sp[i]:=by simp only[hm4];exact List.getElem_set_ne hiZ _
 have hg4:=ai (f:=rP) (List.getElem?_eq_getElem hi4);refine aR (i:=Z) (k:=2) (g':=14) (lo:=0) (len:=0+m3.sp[i].sl.length) (ov2:=[(Z,1,.sl 12 0 (0+m3.sp[i].ar.length)),(i,2,.sl 9 0 m3.sp[i].sl.length),(i,1,.sl 8 0 m3.sp[i].ar.length)]) rfl (ah (gd hgZ) (by simp[rP]) (by simp only[ab,if_true];rfl)) rfl rfl rfl (by simp only[ag,if_true,if_neg hZi];rfl) ?_;conv=>whnf
 refine aR (i:=Z) (k:=1) (g':=12) (lo:=0) (len:=0+m3.sp[i].ar.length) (es2:=(iZ m3 i Z).sp.map rP) (ov2:=[(i,2,.sl 9 0 m3.sp[i].sl.length),(i,1,.sl 8 0 m3.sp[i].ar.length)]) rfl (ah (gd (gd hgZ)) (by simp[rP]) (by simp only[ab,if_true];rfl)) rfl rfl (by rw[zj hZ3,hm4,←map_set];simp[rP]) (by simp only[ag,if_true,if_neg hZi];rfl) ?_;conv=>whnf
 refine aR (i:=i) (k:=2) (g':=9) (lo:=0) (len:=m3.sp[i].sl.length) (es2:=(iZ m3 i Z).sp.map rP) (ov2:=[(i,1,.sl 8 0 m3.sp[i].ar.length)]) rfl (ah hg4 (by simp[rP]) (by simp only[ab,if_true];rfl)) rfl rfl (by rw[List.drop_zero,ae,←hx4];exact dK hi4) (by simp only[ag,if_true];rfl) ?_;conv=>whnf
 refine aR (i:=i) (k:=1) (g':=8) (lo:=0) (len:=m3.sp[i].ar.length) (es2:=(iZ m3 i Z).sp.map rP) (ov2:=[]) rfl (ah hg4 (by simp[rP]) (by simp only[ab,if_true];rfl)) rfl rfl (by rw[List.drop_zero,ae,←hx4];exact mO hi4) (by simp only[ag,if_true];rfl) ?_;conv=>whnf
 have e4:(iZ m3 i Z).sp.length=m3.sp.length:=by rw[hm4,List.length_set]
 rw[hfm];refine⟨?_,rfl⟩;simp[oM,dI,e4,fY e4,show(iZ m3 i Z).ram=m3.ram from rfl,show(iZ m3 i Z).swp=m3.swp from rfl,show(iZ m3 i Z).hd=m3.hd from rfl]
end Go.Qm
namespace Go.Qm
open Go.Cq Go.Cq.D Go.RowKit Go.Proofs
set_option maxRecDepth 10000
end Go.Qm
namespace Go.Qm
open Go.Cq Go.Cq.D Go.RowKit Go.Proofs
set_option maxRecDepth 10000
end Go.Qm
namespace Go.Qm
open Go.Cq Go.Cq.D Go.RowKit Go.Proofs
set_option maxRecDepth 10000
def mA(t:Str)(k:Nat)(b:Int):Str:=t.set k (vS b)
theorem wk{ts:DTs}{y:Opd}{d lim k:Nat}(h:eC ts y=some (k:Int))(hk:k≤lim):cR ts (some y) d lim=some k:=by simp only[cR,h];rw[if_pos ⟨by omega,by omega⟩,Int.toNat_natCast]
theorem aCt{P:Prg}{ts:DTs}{H:DH}{n:Nat}{K:DT→DTs→DH→Nat→List Nat→Prop}{x:Opd}{lo hi:Option Opd}{s:Str}{l h:Nat}(hx:evS ts x=some (.str s))(hh:cR ts hi s.length s.length=some h)(hl:cR ts lo 0 h=some l)(hK:K (.v (.one (.sc (.str ((s.drop l).take (h-l)))))) ts H n []):OpP P (.fl (.sliceS x lo hi)) ts H n K:=fp (by simp only[dfl,hx,hh,hl];rfl) hK
theorem aB2{t:Str}{k:Nat}{b:Int}(hk:k<t.length):(t.map dE).modify k (fun row=>row.set 0 (.sc (.int .u8 (IntKind.wrap .u8 b))))=(mA t k b).map dE:=by rw[af (ai (f:=dE) (List.getElem?_eq_getElem hk)),mA,←map_set,qZ];rfl
theorem xC(t:Str)(k:Nat)(b:Int)(hk:k<t.length):bC Try.prog 94 [.one (.sc (.str t)),.one (dI k),.one (dI b)] (.v (.one (.sc (.str (mA t k b))))):=by
 refine aS hmix Try.func94 ok94 ?_;conv=>whnf
 refine aEV rfl ?_;conv=>whnf
 refine aB (k:=k) rfl rfl rfl (by simpa using hk) ?_;conv=>whnf
 refine aI rfl rfl rfl (by simpa using hk) (by decide) ?_;conv=>whnf
 refine mw rfl rfl (bs:=mA t k b) (by simp only[List.drop_zero,ae];rw[aB2 hk];simp[mA,List.take_of_length_le]) ?_;conv=>whnf
 exact⟨rfl,rfl⟩
theorem aAj(t:Str)(k:Nat)(b:Int)(hk:k<t.length)(hl:t.length≤1000):bC Try.prog 152 [.one (.sc (.str t)),.one (dI k),.one (dI b)] (.v (.one (.sc (.str (mA t k b))))):=by
 refine aS hmix Try.func152 ok152 ?_;conv=>whnf
 refine aCt (s:=t) (h:=k) (l:=0) rfl (wk (k:=k) rfl (by omega)) rfl ?_;conv=>whnf
 refine bY rfl rfl rfl ?_;conv=>whnf
 refine mw rfl rfl (bs:=[vS b]) (by simp[qZ]) ?_;conv=>whnf
 refine aAr (l:=t.take k) (m:=[vS b]) rfl rfl (by simp;omega) ?_;conv=>whnf
 have e1:IntKind.wrap .i64 ((k:Int)+1)=((k+1:Nat):Int):=wrap64 (by omega) (by omega);simp only[e1];refine aCt (s:=t) (h:=t.length) (l:=k+1) rfl rfl (wk (k:=k+1) rfl (by omega)) ?_;conv=>whnf
 refine aAr (l:=t.take k++[vS b]) (m:=(t.drop (k+1)).take (t.length-(k+1))) rfl rfl (by simp;omega) ?_;conv=>whnf
 refine⟨?_,rfl⟩;rw[List.take_of_length_le (l:=t.drop (k+1)) (by simp),mA,List.set_eq_take_append_cons_drop,if_pos hk,List.append_assoc];rfl
end Go.Qm
namespace Go.Qm
open Go.Cq Go.Cq.D Go.RowKit Go.Proofs
set_option maxRecDepth 10000
theorem aCF(p:Pages)(k:Nat)(h1:p.tx.length=12)(h2:p.rf.length=12)(hk:k<12)(hb: -1000≤p.rf[k]?.getD 0∧p.rf[k]?.getD 0≤1000):d6 Try.prog 164 [.agg [.sl 0 0 12,.sl 1 0 12],.one (dI k)] (hP p) 2 fun x H'=>x= .v (.agg [.sl 0 0 12,.sl 1 0 12])∧H'=hP (cI p k):=by
 refine aS hmix Try.func164 ok164 ?_;have hr:k<p.rf.length:=by omega
 have ht:k<p.tx.length:=by omega
 have hr0:p.rf[k]?.getD 0=p.rf[k]:=by simp[hr]
 rw[hr0]at hb;conv=>whnf
 refine aB (k:=k) rfl rfl rfl hk ?_;conv=>whnf
 refine bR rfl rfl rfl (aT (row:=rI p.rf[k]) (by simp[hr]) rfl rfl rfl) rfl ?_;conv=>whnf
 have ew:IntKind.wrap .i64 (p.rf[k]-1)=p.rf[k]-1:=wrap64 (by omega) (by omega);simp only[ew];refine aB (k:=k) rfl rfl rfl hk ?_;conv=>whnf
 refine aI rfl rfl rfl (by simpa using hr) (by decide) ?_;conv=>whnf
 rw[iD hr];refine aB (k:=k) rfl rfl rfl hk ?_;conv=>whnf
 refine bR rfl rfl rfl (aT (row:=rI (p.rf[k]-1)) (by simp[hr]) rfl rfl rfl) rfl ?_;conv=>whnf
 refine CondP.mk (fun h=>?_) (fun h=>?_)<;>conv=>whnf
 ·have h:p.rf[k]=1:=by simp at h;omega
  refine aB (k:=k) rfl rfl rfl hk ?_;conv=>whnf
  refine aI rfl rfl rfl (by simpa using ht) (by decide) ?_;conv=>whnf
  refine⟨rfl,?_⟩;rw[gR ht];simp only[cI,hr0,if_pos h];rfl
 ·have h:¬p.rf[k]=1:=by simp at h;omega
  refine⟨rfl,?_⟩;simp only[cI,hr0,if_neg h];rfl
set_option maxHeartbeats 4000000 in
theorem z6(m:Mem)(i j:Nat)(w:Wf m)(hi:i<m.sp.length)(hj:j<m.sp[i].sl.length)(hk1:(aK m i j).kd=1):d6 Try.prog 151 [.agg (cW m.hd),.one (dI i),.one (dI j)] (hM m) 5
  fun x H'=>x= .tup [.agg (cW ((fB m i j).getD m).hd),.one (dB (fB m i j).isSome)]∧H'=hM ((fB m i j).getD m):=by
 refine aS hmix Try.func151 ok151 ?_;have l:=w.L;have hi5:i<5:=by rw[←l.sp];exact hi
 have hg:=ai (f:=rP) (List.getElem?_eq_getElem hi);have hx:=bV hi hj;obtain⟨f,e1,f12,e3,e4⟩:=(w.slot hi hj).1 hk1;have hft:f<m.ram.tx.length:=by rw[l.rt];exact f12
 have hfr:f<m.ram.rf.length:=by rw[l.rr];exact f12
 conv=>whnf
 refine aB (k:=i) rfl rfl rfl hi5 ?_;conv=>whnf
 refine cK (i:=i) (k:=2) (sz':=4) (es':=m.sp[i].sl.map rL) m.sp[i].sl.length rfl rfl rfl (aT hg rfl rfl rfl) rfl (by simp) ?_;conv=>whnf
 refine aB (k:=j) rfl rfl rfl hj ?_;conv=>whnf
 refine nD (row:=rL (aK m i j)) rfl rfl rfl (by rw[hx];simp[hj]) (cu _) rfl rfl ?_;conv=>whnf
 refine aR (i:=i) (k:=2) (g':=7) (lo:=0) (len:=m.sp[i].sl.length) (es2:=m.sp.map rP) (ov2:=[]) rfl (ah hg (by simp[rP]) (by simp only[ab,if_true];rfl)) rfl rfl (by rw[List.drop_zero,ae];exact dK hi) (by simp only[ag,if_true];rfl) ?_;conv=>whnf
 obtain⟨x,hxx⟩:∃x,aK m i j=x:=⟨_,rfl⟩;rw[hxx]at e1 hk1;simp only[hxx];have hrf:m.ram.rf[f]?.getD 0=m.ram.rf[f]:=by simp[hfr]
 refine CondP.mk (fun c1=>?_) (fun c1=>?_)<;>rw[c1]<;>(conv=>whnf)<;>repeat' first|(refine aE ?_;conv=>whnf)|(refine aD ?_;conv=>whnf)
 ·have c1:x.ow=false:=by simpa using c1
  refine aB (k:=f) rfl rfl (by show some _=some _;rw[e1]) f12 ?_
  (conv=>whnf)<;>repeat' first|(refine aE ?_;conv=>whnf)|(refine aD ?_;conv=>whnf)
  refine bR rfl rfl rfl (aT (row:=rI m.ram.rf[f]) (by simp[hfr]) rfl rfl rfl) rfl ?_
  (conv=>whnf)<;>repeat' first|(refine aE ?_;conv=>whnf)|(refine aD ?_;conv=>whnf)
  refine CondP.mk (fun c2=>?_) (fun c2=>?_)<;>conv=>whnf
  ·have c2:1<m.ram.rf[f]:=by simpa using c2
   have hcond:x.ow=false∧1<m.ram.rf[x.pl.toNat]?.getD 0:=⟨c1,by rw[e1,Int.toNat_natCast,hrf];exact c2⟩;have hcall:=rC m x.pl w;cases hr:bF m x.pl with
   |none=>
    have hb:fB m i j=none:=by rw[fB,hxx,if_pos hcond,hr];rfl
    rw[hr]at hcall;refine b8 (r:=.tup [.agg (cW m.hd),.one (dB false)]) (Hr:=hM m) [.pass,.pass] [0,1,2,3,4] rfl rfl rfl rfl hcall rfl (uN l l rfl) ?_
    (conv=>whnf)<;>repeat' first|(refine aE ?_;conv=>whnf)|(refine aD ?_;conv=>whnf)
    rw[hb];exact⟨rfl,rfl⟩
   |some m1=>
    obtain⟨w1,hf⟩:=w.bF hr;have l1:=w1.L;have ha:=bq w hr;obtain⟨hi1,hj1,ex, -⟩:=eU ha hi hj (.inr (by rw[hxx]));rw[hxx]at ex;have hg1:=ai (f:=rP) (List.getElem?_eq_getElem hi1);obtain⟨f',q1,q12,q3,q4⟩:=w1.at1 _ (List.getElem_mem hi1) _ (List.getElem_mem hj1) (by rw[ex];exact hk1);obtain rfl:f'=f:=by rw[ex,e1]at q1;omega
    have hft1:f'<m1.ram.tx.length:=by rw[l1.rt];exact f12
    have gt:m1.ram.tx[f']?.getD []=m1.ram.tx[f']:=by simp[hft1]
    rw[hr]at hcall;refine b8 (r:=.tup [.agg (cW m1.hd),.one (dB true)]) (Hr:=hM m1) [.pass,.pass] [0,1,2,3,4] rfl rfl rfl rfl hcall rfl (uN l l1 rfl) ?_
    (conv=>whnf)<;>repeat' first|(refine aE ?_;conv=>whnf)|(refine aD ?_;conv=>whnf)
    refine aB (k:=f') rfl rfl (by show some _=some _;rw[e1]) f12 ?_;conv=>whnf
    refine bR rfl rfl rfl (aT (row:=rS m1.ram.tx[f']) (by simp[hft1]) rfl rfl rfl) rfl ?_;conv=>whnf
    obtain⟨p,hp⟩:∃p,aY m1.ram (aJ m1.ram.rf) m1.ram.tx[f'] 1=p:=⟨_,rfl⟩;have hpt:p.tx.length=12:=by rw[←hp];simp[aY,l1.rt]
    have hpr:p.rf.length=12:=by rw[←hp];simp[aY,l1.rr]
    have hpb:0≤p.rf[f']?.getD 0∧p.rf[f']?.getD 0≤1000:=by rw[←hp];exact(w1.ram.take (t:=m1.ram.tx[f']) (n:=1) (k:=aJ m1.ram.rf) (by decide)).get
    have ht:=oR m1.ram m1.ram.tx[f'] l1.rt l1.rr hf;rw[hp]at ht;refine b8 [.pass,.pass] [0,1] rfl rfl rfl rfl ht rfl ((aO (sz:=1) (es:=p.tx.map rS) (es0:=m1.ram.tx.map rS) (ov0:=[]) rfl rfl (by simp[hpt,l1.rt])).trans ((aO (sz:=1) (es:=p.rf.map rI) (es0:=m1.ram.rf.map rI) (ov0:=[]) rfl rfl (by simp[hpr,l1.rr])).trans rfl)) ?_;conv=>whnf
    have hgv:=aCF p f' hpt hpr f12 (by omega);have hqt:(cI p f').tx.length=12:=by simp[cI];split<;>simp[hpt]
    have hqr:(cI p f').rf.length=12:=by simp[cI,hpr]
    rw[←e1]at hgv;refine b8 [.pass,.pass] [0,1] rfl rfl rfl rfl hgv rfl ((aO (sz:=1) (es:=(cI p f').tx.map rS) (es0:=p.tx.map rS) (ov0:=[]) rfl rfl (by simp[hpt,hqt])).trans ((aO (sz:=1) (es:=(cI p f').rf.map rI) (es0:=p.rf.map rI) (ov0:=[]) rfl rfl (by simp[hpr,hqr])).trans rfl)) ?_;conv=>whnf
    have hb:fB m i j=some {m1 with ram:=cI p f',sp:=aF m1.sp i j ⟨x.kd,aJ m1.ram.rf,true,x.us⟩}:=by rw[fB,hxx,if_pos hcond,hr,Option.map_some,e1,Int.toNat_natCast,gt,hp]
    refine aB (k:=i) rfl rfl rfl hi5 ?_;conv=>whnf
    refine cK (i:=i) (k:=2) (sz':=4) (es':=m1.sp[i].sl.map rL) m1.sp[i].sl.length rfl rfl rfl (aT hg1 rfl rfl rfl) rfl (by simp) ?_;conv=>whnf
    refine aB (k:=j) rfl rfl rfl hj1 ?_;conv=>whnf
    refine cG (row':=rL ⟨x.kd,aJ m1.ram.rf,true,x.us⟩) rfl rfl rfl (by simpa using hj1) (eH (fun _=>rfl)) (cu _) rfl rfl rfl ?_;conv=>whnf
    refine aR (i:=i) (k:=2) (g':=9) (lo:=0) (len:=m1.sp[i].sl.length) (es2:=(aF m1.sp i j ⟨x.kd,aJ m1.ram.rf,true,x.us⟩).map rP) (ov2:=[]) rfl (ah hg1 (by simp[rP]) (by simp only[ab,if_true];rfl)) rfl rfl (by rw[List.drop_zero,List.take_of_length_le (by simp)];exact bf hi1) (by simp only[ag,if_true];rfl) ?_;conv=>whnf
    rw[hb];exact⟨rfl,rfl⟩
  ·have c2:¬1<m.ram.rf[f]:=by simpa using c2
   have hb:fB m i j=some {m with sp:=aF m.sp i j {x with ow:=true}}:=by rw[fB,hxx,if_neg (fun c=>c2 (by have:=c.2;rw[e1,Int.toNat_natCast,hrf]at this;exact this))]
   refine aB (k:=i) rfl rfl rfl hi5 ?_;conv=>whnf
   refine cK (i:=i) (k:=2) (sz':=4) (es':=m.sp[i].sl.map rL) m.sp[i].sl.length rfl rfl rfl (aT hg rfl rfl rfl) rfl (by simp) ?_;conv=>whnf
   refine aB (k:=j) rfl rfl rfl hj ?_;conv=>whnf
   refine cG (row':=rL ⟨x.kd,x.pl,true,x.us⟩) rfl rfl rfl (by simpa using hj) (eH (fun _=>rfl)) (cu _) rfl rfl rfl ?_;conv=>whnf
   refine aR (i:=i) (k:=2) (g':=9) (lo:=0) (len:=m.sp[i].sl.length) (es2:=(aF m.sp i j ⟨x.kd,x.pl,true,x.us⟩).map rP) (ov2:=[]) rfl (ah hg (by simp[rP]) (by simp only[ab,if_true];rfl)) rfl rfl (by rw[List.drop_zero,List.take_of_length_le (by simp)];exact bf hi) (by simp only[ag,if_true];rfl) ?_;conv=>whnf
   rw[hb];exact⟨rfl,rfl⟩
 ·have c1:x.ow=true:=by simpa using c1
  have hb:fB m i j=some {m with sp:=aF m.sp i j {x with ow:=true}}:=by rw[fB,hxx,if_neg (fun c=>by rw[c1]at c;exact absurd c.1 (by decide))]
  refine aB (k:=i) rfl rfl rfl hi5 ?_;conv=>whnf
  refine cK (i:=i) (k:=2) (sz':=4) (es':=m.sp[i].sl.map rL) m.sp[i].sl.length rfl rfl rfl (aT hg rfl rfl rfl) rfl (by simp) ?_;conv=>whnf
  refine aB (k:=j) rfl rfl rfl hj ?_;conv=>whnf
  refine cG (row':=rL ⟨x.kd,x.pl,true,x.us⟩) rfl rfl rfl (by simpa using hj) (eH (fun _=>rfl)) (cu _) rfl rfl rfl ?_;conv=>whnf
  refine aR (i:=i) (k:=2) (g':=9) (lo:=0) (len:=m.sp[i].sl.length) (es2:=(aF m.sp i j ⟨x.kd,x.pl,true,x.us⟩).map rP) (ov2:=[]) rfl (ah hg (by simp[rP]) (by simp only[ab,if_true];rfl)) rfl rfl (by rw[List.drop_zero,List.take_of_length_le (by simp)];exact bf hi) (by simp only[ag,if_true];rfl) ?_;conv=>whnf
  rw[hb];exact⟨rfl,rfl⟩
end Go.Qm
namespace Go.Qm
open Go.Cq Go.Cq.D Go.RowKit Go.Proofs
set_option maxRecDepth 10000
def aBA(l:List Area)(k:Int):Bool:=(l[k.toNat]?.map (·.wr)).getD false
def i9(m:Mem)(k o:Nat)(b:Int):Mem:={m with ram:=⟨m.ram.tx.set k (mA (m.ram.tx[k]?.getD []) o b),m.ram.rf⟩}
def cE(m:Mem)(i a:Nat)(b:Int):Mem×Int:=
 if bA (gb m i) (a / 4:Nat)<0 then(m,2)else if aBA (gb m i) (bA (gb m i) (a / 4:Nat))=false then(m,3)else match(bE m i (a / 4)).bind fun m1=>fB m1 i (a / 4)with
  |none=>(m,4)
  |some m2=>(i9 m2 (aK m2 i (a / 4)).pl.toNat (a % 4) b,0)
set_option maxHeartbeats 4000000 in
theorem qF(m:Mem)(i a:Nat)(b:Int)(w:Wf m)(hi:i<m.sp.length)(har:∀x,x∈m.sp[i].ar→bL x=true)(hal:m.sp[i].ar.length≤1048576)(hsl:m.sp[i].sl.length=16)(ha:a≤63)(h:m.fits 1048576):
  bC Try.prog 95 [oM m,.one (dI i),.one (dI a),.one (dI b)] (.tup [oM (cE m i a b).1,.one (dI (cE m i a b).2)]):=by
 refine aS hmix Try.func95 ok95 ?_;have hae:gb m i=m.sp[i].ar:=by simp[gb,hi]
 have hj:a / 4<m.sp[i].sl.length:=by omega
 conv=>whnf
 refine fp rfl ?_;conv=>whnf
 simp only[aDU (show a≤1000 by omega),List.drop_zero,List.take_length];have hg:=ai (f:=rP) (List.getElem?_eq_getElem hi);have hback:(m.sp.map rP).modify i (fun row=>row.set 1 (.sl 4 (m.sp[i].ar.map rA)))=m.sp.map rP:=mO hi;refine aB (k:=i) rfl rfl rfl (by simpa using hi) ?_;conv=>whnf
 refine cK (i:=i) (k:=1) (sz':=4) (es':=m.sp[i].ar.map rA) m.sp[i].ar.length rfl rfl rfl (aT hg rfl rfl rfl) rfl (by simp) ?_;conv=>whnf
 refine aC [.lend,.pass] rfl xM rfl (oW true m.sp[i].ar ((a / 4:Nat):Int) (by omega) har) rfl ?_;conv=>whnf
 obtain⟨at_,hat⟩:∃at_,bA m.sp[i].ar ((a / 4:Nat):Int)=at_:=⟨_,rfl⟩;rw[hat];refine aR (i:=i) (k:=1) (g':=8) (lo:=0) (len:=m.sp[i].ar.length) (es2:=m.sp.map rP) (ov2:=[]) rfl (ah hg (by simp[rP]) (by simp only[ab,if_true];rfl)) rfl rfl (by rw[List.drop_zero,ae];exact hback) (by simp only[ag,if_true];rfl) ?_;conv=>whnf
 simp only[List.drop_zero,List.take_length];refine CondP.mk (fun c1=>?_) (fun c1=>?_)<;>conv=>whnf
 ·have c1:at_<0:=by simpa using c1
  refine⟨?_,rfl⟩;rw[cE,hae,hat,if_pos c1];simp[oM,dI]
 have c1:¬at_<0:=by simpa using c1
 have hlt:at_.toNat<m.sp[i].ar.length:=by rw[←hat];exact iv (by omega)
 simp only;refine aB (k:=i) rfl rfl rfl (by simpa using hi) ?_;conv=>whnf
 refine cK (i:=i) (k:=1) (sz':=4) (es':=m.sp[i].ar.map rA) m.sp[i].ar.length rfl rfl rfl (aT hg rfl rfl rfl) rfl (by simp) ?_;conv=>whnf
 refine aB (k:=at_.toNat) rfl rfl (by show some at_=_;congr 1;omega) hlt ?_;conv=>whnf
 refine bR rfl rfl rfl (aT (row:=rA m.sp[i].ar[at_.toNat]) (by simp[hlt]) rfl rfl rfl) rfl ?_;conv=>whnf
 refine aR (i:=i) (k:=1) (g':=8) (lo:=0) (len:=m.sp[i].ar.length) (es2:=m.sp.map rP) (ov2:=[]) rfl (ah hg (by simp[rP]) (by simp only[ab,if_true];rfl)) rfl rfl (by rw[List.drop_zero,ae];exact hback) (by simp only[ag,if_true];rfl) ?_;conv=>whnf
 have hwr:aBA m.sp[i].ar at_=m.sp[i].ar[at_.toNat].wr:=by simp[aBA,hlt]
 simp only[List.drop_zero,List.take_length];refine CondP.mk (fun c2=>?_) (fun c2=>?_)<;>conv=>whnf
 ·have c2:m.sp[i].ar[at_.toNat].wr=false:=by simpa using c2
  refine⟨?_,rfl⟩;rw[cE,hae,hat,if_neg c1,hwr,if_pos c2];simp[oM,dI]
 have c2:¬m.sp[i].ar[at_.toNat].wr=false:=by simpa using c2
 have hset:cE m i a b=match(bE m i (a / 4)).bind fun m1=>fB m1 i (a / 4)with
  |none=>(m,4)
  |some m2=>(i9 m2 (aK m2 i (a / 4)).pl.toNat (a % 4) b,0):=by rw[cE,hae,hat,if_neg c1,hwr,if_neg c2]
 simp only;refine aC (cas:=[aM true true true true true m]) [.lend] rfl gp rfl (eJ true true true true true m h) rfl ?_;conv=>whnf
 have l:=w.L;have hcall:=mF m i (a / 4) w hi hj;have hcas:some [DV.agg [DC.sl 0 0 (m.ram.tx.map rS).length,.sl 1 0 (m.ram.rf.map rI).length,.sl 2 0 (m.swp.tx.map rS).length,.sl 3 0 (m.swp.rf.map rI).length,.sl 4 0 (m.sp.map rP).length,dI m.hd],.one (dI i),.one (dI ((a / 4:Nat):Int))]=some [.agg (cW m.hd),.one (dI i),.one (dI ((a / 4:Nat):Int))]:=by simp only[List.length_map,l.rt,l.rr,l.st,l.sr,l.sp];rfl
 cases hb:bE m i (a / 4)with
 |none=>
  rw[hb]at hcall hset;refine b8 (r:=.tup [.agg (cW m.hd),.one (dB false)]) (Hr:=hM m) [.pass,.pass,.pass] [12,13,14,15,16] rfl hcas rfl rfl hcall rfl (vG l l rfl rfl rfl rfl rfl rfl) ?_
  (conv=>whnf)<;>repeat' first|(refine aE ?_;conv=>whnf)|(refine aD ?_;conv=>whnf)
  rw[hset];refine⟨?_,rfl⟩;simp[oM,dI]
 |some m1=>
  have w1:=w.jk hi hj hb;have l1:=w1.L;obtain⟨hi1,hj1,hk1⟩:=fy w hi hj hb;have hx1:=bV hi1 hj1;rw[hb]at hcall;refine b8 (r:=.tup [.agg (cW m1.hd),.one (dB true)]) (Hr:=hM m1) [.pass,.pass,.pass] [12,13,14,15,16] rfl hcas rfl rfl hcall rfl (vG l l1 rfl rfl rfl rfl rfl rfl) ?_
  (conv=>whnf)<;>repeat' first|(refine aE ?_;conv=>whnf)|(refine aD ?_;conv=>whnf)
  have hown:=z6 m1 i (a / 4) w1 hi1 hj1 (by rw[hx1];exact hk1);simp only[List.drop_zero,fY l1.rt,fY l1.rr,fY l1.st,fY l1.sr,fY l1.sp];have hcas1:some [DV.agg [DC.sl 0 0 (m1.ram.tx.map rS).length,.sl 1 0 (m1.ram.rf.map rI).length,.sl 2 0 (m1.swp.tx.map rS).length,.sl 3 0 (m1.swp.rf.map rI).length,.sl 4 0 (m1.sp.map rP).length,dI m1.hd],.one (dI i),.one (dI ((a / 4:Nat):Int))]=some [.agg (cW m1.hd),.one (dI i),.one (dI ((a / 4:Nat):Int))]:=by simp only[List.length_map,l1.rt,l1.rr,l1.st,l1.sr,l1.sp];rfl
  rw[hb,Option.bind_some]at hset;cases ho:fB m1 i (a / 4)with
  |none=>
   rw[ho]at hown hset;refine b8 (r:=.tup [.agg (cW m1.hd),.one (dB false)]) (Hr:=hM m1) [.pass,.pass,.pass] [18,19,20,21,22] rfl hcas1 rfl rfl hown rfl (vG l1 l1 rfl rfl rfl rfl rfl rfl) ?_
   (conv=>whnf)<;>repeat' first|(refine aE ?_;conv=>whnf)|(refine aD ?_;conv=>whnf)
   rw[hset];refine⟨?_,rfl⟩;simp[oM,dI]
  |some m2=>
   obtain⟨w2,s2,hk2⟩:=w1.own hi1 hj1 (by rw[hx1];exact hk1) ho;have l2:=w2.L;have hi2:i<m2.sp.length:=by rw[s2.1];exact hi1
   have hj2:a / 4<m2.sp[i].sl.length:=by rw[(s2.2 i hi1 hi2).2.2];exact hj1
   have hx2:=bV hi2 hj2;have hg2:=ai (f:=rP) (List.getElem?_eq_getElem hi2);obtain⟨k,e1,k12, -,e4⟩:=(w2.slot hi2 hj2).1 hk2;have hkt:k<m2.ram.tx.length:=by rw[l2.rt];exact k12
   have gt:m2.ram.tx[k]?.getD []=m2.ram.tx[k]:=by simp[hkt]
   rw[gt]at e4;rw[ho]at hown hset;refine b8 (r:=.tup [.agg (cW m2.hd),.one (dB true)]) (Hr:=hM m2) [.pass,.pass,.pass] [18,19,20,21,22] rfl hcas1 rfl rfl hown rfl (vG l1 l2 rfl rfl rfl rfl rfl rfl) ?_
   (conv=>whnf)<;>repeat' first|(refine aE ?_;conv=>whnf)|(refine aD ?_;conv=>whnf)
   simp only[List.drop_zero,fY l2.rt,fY l2.rr,fY l2.st,fY l2.sr,fY l2.sp];refine aB (k:=i) rfl rfl rfl (by simpa using hi2) ?_;conv=>whnf
   refine cK (i:=i) (k:=2) (sz':=4) (es':=m2.sp[i].sl.map rL) m2.sp[i].sl.length rfl rfl rfl (aT hg2 rfl rfl rfl) rfl (by simp) ?_;conv=>whnf
   refine aB (k:=a / 4) rfl rfl rfl hj2 ?_;conv=>whnf
   refine bR rfl rfl rfl (aT (row:=rL (aK m2 i (a / 4))) (by rw[hx2];simp[hj2]) rfl rfl rfl) rfl ?_;conv=>whnf
   refine aR (i:=i) (k:=2) (g':=19) (lo:=0) (len:=m2.sp[i].sl.length) (es2:=m2.sp.map rP) (ov2:=[]) rfl (ah hg2 (by simp[rP]) (by simp only[ab,if_true];rfl)) rfl rfl (by rw[List.drop_zero,ae];exact dK hi2) (by simp only[ag,if_true];rfl) ?_;conv=>whnf
   simp only[List.drop_zero,List.take_length];refine aB (k:=k) rfl rfl (by show some _=some _;rw[e1]) (by simpa using hkt) ?_;conv=>whnf
   refine bR rfl rfl rfl (aT (row:=rS m2.ram.tx[k]) (by simp[hkt]) rfl rfl rfl) rfl ?_;conv=>whnf
   refine fp rfl ?_;conv=>whnf
   simp only[aBv];refine aC [.pass,.pass,.pass] rfl rfl rfl (aAj m2.ram.tx[k] (a % 4) b (by omega) (by omega)) rfl ?_;conv=>whnf
   refine aB (k:=k) rfl rfl (by show some _=some _;rw[e1]) (by simpa using hkt) ?_;conv=>whnf
   refine aI rfl rfl rfl (by simpa using hkt) (by decide) ?_;conv=>whnf
   rw[hset];refine⟨?_,rfl⟩;simp only[e1,Int.toNat_natCast,i9,gt];rw[gR hkt];obtain⟨T,hT⟩:∃T,m2.ram.tx.set k (mA m2.ram.tx[k] (a % 4) b)=T:=⟨_,rfl⟩;have hTl:T.length=m2.ram.tx.length:=by rw[←hT,List.length_set]
   rw[hT];simp[oM,dI,hTl,fY hTl]
end Go.Qm
namespace Go.Qm
open Go.Cq Go.Cq.D Go.RowKit Go.Proofs
set_option maxRecDepth 10000
def dm(m:Mem)(who a b:Int):Mem×Int:=if cY m&&(fe m.sp who&&(inB a 0 63&&inB b 0 255))then cE m who.toNat a.toNat b else(fw,1)
end Go.Qm
namespace Go.Qm
open Go.Cq Go.Cq.D Go.RowKit Go.Proofs
set_option maxRecDepth 10000
set_option maxHeartbeats 4000000 in
theorem t7(b1 b2 b3 b4 b5:Bool)(m:Mem)(who a b:Int)(h:m.fits 1048576):bC Try.prog 39 [aM b1 b2 b3 b4 b5 m,.one (dI who),.one (dI a),.one (dI b)] (.tup [oM (dm m who a b).1,.one (dI (dm m who a b).2)]):=by
 refine aS hmix Try.func39 ok39 ?_;conv=>whnf
 refine aC [.pass] rfl rfl rfl (rK b1 b2 b3 b4 b5 m (h.mono (by decide))) rfl ?_;conv=>whnf
 refine CondP.mk (fun h1=>?_) (fun h1=>?_)<;>rw[h1]<;>(conv=>whnf)<;>repeat' first|(refine aE ?_;conv=>whnf)|(refine aD ?_;conv=>whnf)
 ·refine⟨?_,rfl⟩;have h1:cY m=false:=by simpa using h1
  simp[dm,h1,oM,fw,dI]
 have h1:cY m=true:=by simpa using h1
 refine aC [.pass,.pass] rfl rfl rfl (ma b1 b2 b3 b4 b5 m who (by have:=h.sp;omega)) rfl ?_
 (conv=>whnf)<;>repeat' first|(refine aE ?_;conv=>whnf)|(refine aD ?_;conv=>whnf)
 refine CondP.mk (fun h2=>?_) (fun h2=>?_)<;>rw[h2]<;>(conv=>whnf)<;>repeat' first|(refine aE ?_;conv=>whnf)|(refine aD ?_;conv=>whnf)
 ·refine⟨?_,rfl⟩;have h2:fe m.sp who=false:=by simpa using h2
  simp[dm,h2,oM,fw,dI]
 have h2:fe m.sp who=true:=by simpa using h2
 refine aC [.pass] rfl rfl rfl (yz a) rfl ?_
 (conv=>whnf)<;>repeat' first|(refine aE ?_;conv=>whnf)|(refine aD ?_;conv=>whnf)
 refine CondP.mk (fun h3=>?_) (fun h3=>?_)<;>rw[h3]<;>(conv=>whnf)<;>repeat' first|(refine aE ?_;conv=>whnf)|(refine aD ?_;conv=>whnf)
 ·refine⟨?_,rfl⟩;have h3:inB a 0 63=false:=by simpa using h3
  simp[dm,h3,oM,fw,dI]
 have h3:inB a 0 63=true:=by simpa using h3
 refine aC [.pass,.pass,.pass] rfl rfl rfl (gV b 0 255) rfl ?_
 (conv=>whnf)<;>repeat' first|(refine aE ?_;conv=>whnf)|(refine aD ?_;conv=>whnf)
 refine CondP.mk (fun h5=>?_) (fun h5=>?_)<;>conv=>whnf
 ·refine⟨?_,rfl⟩;have h5:inB b 0 255=false:=by simpa using h5
  simp[dm,h5,oM,fw,dI]
 have h5:inB b 0 255=true:=by simpa using h5
 have h4:=h3;simp only[inB,Bool.and_eq_true,decide_eq_true_eq]at h4;obtain⟨c,rfl⟩:=Int.eq_ofNat_of_zero_le h4.1;obtain⟨i,rfl,hi,hlv⟩:=gC h2;obtain⟨ha,hal,hsl⟩:=mf h1 hi hlv;refine aC [.pass] rfl rfl rfl (eJ b1 b2 b3 b4 b5 m h) rfl ?_;conv=>whnf
 refine aC [.fX,.pass,.pass,.pass] rfl rfl rfl (by simpa [oM,dI]using qF m i c b (m0 h1) hi (fW ha) (by omega) hsl (by omega) h) rfl ?_;conv=>whnf
 refine⟨?_,rfl⟩;simp[dm,h1,h2,h3,h5,oM,dI]
end Go.Qm
namespace Go.Qm
open Go.Cq Go.Cq.D Go.RowKit Go.Proofs
set_option maxRecDepth 10000
def nG:Pages:=⟨List.replicate 12 [],List.replicate 12 0⟩
def kK:Mem:=⟨nG,nG,List.replicate 5 ⟨false,[],[]⟩,0⟩
theorem nb:bC Try.prog 170 [.one (dI 12)] (.tup [.agg [.own 1 (nG.tx.map rS),.own 1 (nG.rf.map rI)],.one (dB true)]):=by
 refine aS hmix Try.func170 ok170 ?_;conv=>whnf
 refine aC [.pass,.pass,.pass] rfl rfl rfl (gV _ _ _) rfl ?_;conv=>whnf
 refine CondP.mk (fun h=>by simp[inB]at h) (fun _=>?_);conv=>whnf
 refine rN rfl rfl (m:=12) (c:=12) rfl rfl (by decide) (by decide) (by decide) ?_;conv=>whnf
 refine rN rfl rfl (m:=12) (c:=12) rfl rfl (by decide) (by decide) (by decide) ?_;conv=>whnf
 exact⟨rfl,rfl⟩
theorem x6:bC Try.prog 143 [] (.v (oM kK)):=by
 refine aS hmix Try.func143 ok143 ?_;conv=>whnf
 refine aC [.pass] rfl rfl rfl nb rfl ?_;conv=>whnf
 refine aC [.pass] rfl rfl rfl nb rfl ?_;conv=>whnf
 refine rN rfl rfl (m:=5) (c:=5) rfl rfl (by decide) (by decide) (by decide) ?_;conv=>whnf
 exact⟨rfl,rfl⟩
end Go.Qm
namespace Go.Qm
open Go.Cq Go.Cq.D Go.RowKit Go.Proofs
set_option maxRecDepth 10000
def v9:Space:=⟨true,[],List.replicate 16 dQ⟩
def et(m:Mem):Mem:={m with sp:=m.sp.set (bz m.sp) v9}
def f8(m:Mem):Mem×Int×Bool:=if cY m&&decide (bz m.sp<m.sp.length)then(et m,iH m.sp,true)else(fw, -1,false)
theorem oz(b1 b2 b3 b4 b5:Bool)(m:Mem)(h:m.fits 1048576):bC Try.prog 142 [aM b1 b2 b3 b4 b5 m] (.tup [oM (f8 m).1,.one (dI (f8 m).2.1),.one (dB (f8 m).2.2)]):=by
 refine aS hmix Try.func142 ok142 ?_;conv=>whnf
 refine aC [.pass] rfl rfl rfl (rK b1 b2 b3 b4 b5 m (h.mono (by decide))) rfl ?_;conv=>whnf
 refine CondP.mk (fun h1=>?_) (fun h1=>?_)<;>rw[h1]<;>(conv=>whnf)<;>repeat' first|(refine aE ?_;conv=>whnf)|(refine aD ?_;conv=>whnf)
 ·refine⟨?_,rfl⟩;have h1:cY m=false:=by simpa using h1
  simp[f8,h1,oM,fw,dI,dB]
 have h1:cY m=true:=by simpa using h1
 refine aC [.pass] rfl rfl rfl (nH b1 b2 b3 b4 b5 m (by have:=h.sp;omega)) rfl ?_
 (conv=>whnf)<;>repeat' first|(refine aE ?_;conv=>whnf)|(refine aD ?_;conv=>whnf)
 refine CondP.mk (fun h2=>?_) (fun h2=>?_)<;>conv=>whnf
 ·have c1:¬bz m.sp<m.sp.length:=fun c=>by rw[iH,if_pos c]at h2;simp at h2;omega
  refine⟨?_,rfl⟩;simp[f8,c1,oM,fw,dI,dB]
 have c1:bz m.sp<m.sp.length:=by
  rcases Nat.lt_or_ge (bz m.sp) m.sp.length with c|c
  ·exact c
  ·rw[iH,if_neg (by omega)]at h2;simp at h2
 refine aC [.pass] rfl rfl rfl (eJ b1 b2 b3 b4 b5 m h) rfl ?_;conv=>whnf
 refine aC [.pass] rfl rfl rfl (nH b1 b2 b3 b4 b5 m (by have:=h.sp;omega)) rfl ?_;conv=>whnf
 obtain⟨Z,hZ⟩:∃Z,bz m.sp=Z:=⟨_,rfl⟩;rw[hZ]at c1;have hS:iH m.sp=(Z:Int):=by simp[iH,c1,hZ]
 have hM:f8 m=(et m,(Z:Int),true):=by simp[f8,h1,c1,hS,hZ]
 rw[hM,hS];simp only[List.drop_zero,List.take_length];refine bY rfl rfl rfl ?_;conv=>whnf
 refine rN rfl rfl (m:=16) (c:=16) rfl rfl (by decide) (by decide) (by decide) ?_;conv=>whnf
 refine aB (k:=Z) rfl rfl rfl (by simpa using c1) ?_;conv=>whnf
 refine ea rfl rfl rfl rfl rfl (aDF (by simpa using c1) rfl) ?_;conv=>whnf
 have hgZ:=ai (f:=rP) (List.getElem?_eq_getElem c1);have hm4:(et m).sp=m.sp.set Z v9:=by rw[et,hZ]
 have e4:(et m).sp.length=m.sp.length:=by rw[hm4,List.length_set]
 refine aR (i:=Z) (k:=2) (g':=5) (lo:=0) (len:=16) (ov2:=[(Z,1,.sl 4 0 0)]) rfl (ah (gd hgZ) (by simp[rP]) (by simp only[ab,if_true];rfl)) rfl rfl rfl (by simp only[ag,if_true];rfl) ?_;conv=>whnf
 refine aR (i:=Z) (k:=1) (g':=4) (lo:=0) (len:=0) (es2:=(et m).sp.map rP) (ov2:=[]) rfl (ah (gd (gd hgZ)) (by simp[rP]) (by simp only[ab,if_true];rfl)) rfl rfl (by rw[zj c1,hm4,←map_set];simp[rP];rfl) (by simp only[ag,if_true];rfl) ?_;conv=>whnf
 refine⟨?_,rfl⟩;simp[oM,dI,dB,e4,fY e4,show(et m).ram=m.ram from rfl,show(et m).swp=m.swp from rfl,show(et m).hd=m.hd from rfl]
end Go.Qm
namespace Go.Qm
open Go.Cq Go.Cq.D Go.RowKit Go.Proofs
set_option maxRecDepth 10000
def sK:Space:=⟨false,[],[]⟩
def jS(m:Mem)(i:Nat):Mem:={m with sp:=m.sp.set i sK}
def xD(m:Mem)(i:Nat):Mem:=jS (cm m i 0 16) i
theorem xb(m:Mem)(i:Nat)(hL:LsOk m i 0 0):bC Try.prog 171 [oM m,.one (dI i)] (.v (oM (xD m i))):=by
 refine aS hmix Try.func171 ok171 ?_;have hi:=hL.hi;conv=>whnf
 refine ao (fun t:Nat=>[(1,.v (.one (dI i))),(2,.v (.one (.ptr 5 0 0))),(4,.v (.one (.ptr 6 0 0))),(5,.v (.one (dI t)))]) (fun t=>[(6,bO fw),(5,bO (cm m i 0 t))]) (fun _=>7)
  (fun t=>t≤16) (fun t=>16-t) 0 (by omega) rfl (by simp only[List.drop_zero,List.take_length];rfl) rfl fun t ht=>?_
 have hlt:=rZ hL (t:=t) (by omega);conv=>whnf
 refine CondP.mk (fun c2=>?_) (fun c2=>?_)<;>conv=>whnf
 ·have c2:t<16:=by
              have:(t:Int)<16:=by simpa using c2
              omega
  have hj:0+t< ((cm m i 0 t).sp[i]'hlt.hi).sl.length:=by rw[hlt.sl];omega
  have hok:=hlt.ok (by omega) (Nat.le_refl _) hlt.hi hj;refine aC [.fX,.pass,.pass] rfl rfl rfl (by simpa [oM,dI]using ql (cm m i 0 t) i (0+t) hlt.hi hj hok.1 hok.2) rfl ?_;conv=>whnf
  refine⟨t+1,by omega,by omega,?_,?_,rfl⟩
  ·rw[wrap64 (by omega) (by omega)];rfl
  ·simp[bO,cm,dI]
 ·have c2:t=16:=by
              have:¬(t:Int)<16:=by simpa using c2
              omega
  subst c2;have hz:i< (cm m i 0 16).sp.length:=hlt.hi;have hD:xD m i=jS (cm m i 0 16) i:=rfl;rw[hD];clear hD hlt;generalize cm m i 0 16=w at hz ⊢;refine aB (k:=i) rfl rfl rfl (by simpa using hz) ?_;conv=>whnf
  refine ea rfl rfl rfl rfl rfl (by simp[wrN,wr1,DV.cells,hz];rfl) ?_;conv=>whnf
  have hg:=ai (f:=rP) (List.getElem?_eq_getElem hz);have e4:(jS w i).sp.length=w.sp.length:=by simp[jS]
  refine aR (i:=i) (k:=2) (g':=9) (lo:=0) (len:=0) (ov2:=[(i,1,.sl 8 0 0)]) rfl (ah (gd hg) (by simp[rP]) (by simp only[ab,if_true];rfl)) rfl rfl rfl (by simp only[ag,if_true];rfl) ?_;conv=>whnf
  refine aR (i:=i) (k:=1) (g':=8) (lo:=0) (len:=0) (es2:=(jS w i).sp.map rP) (ov2:=[]) rfl (ah (gd (gd hg)) (by simp[rP]) (by simp only[ab,if_true];rfl)) rfl rfl (by rw[List.modify_modify_eq,List.modify_modify_eq,i4 hg,jS,←map_set];rfl) (by simp only[ag,if_true];rfl) ?_;conv=>whnf
  refine⟨?_,rfl⟩;simp[oM,dI,e4,fY e4,show(jS w i).ram=w.ram from rfl,show(jS w i).swp=w.swp from rfl,show(jS w i).hd=w.hd from rfl]
end Go.Qm

