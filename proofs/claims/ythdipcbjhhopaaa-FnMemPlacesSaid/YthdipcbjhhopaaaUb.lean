import Derived.Test.YthdipcbjhhopaaaUa
namespace Go.Qm
open Go.Cq Go.Cq.D Go.RowKit Go.Proofs
set_option maxRecDepth 10000
def jR(c:CV)(es:List (List PV)):JN:=⟨fun _=>none,some (c,es)⟩
theorem xN(c:CV)(es:List (List PV))(hc:uB es c)(hl:es.length≤9223372036854775807):e8 Try.prog (jR (nA c) (es.take 2000)) 73 [.one (.sc c)] [] 0 fun res H'=>∃t,res= .v (.one (.ptr t 0 0))∧aF H' t=some (.box ([nA c,.int .i64 0].map .sc)):=by
 refine d9 hmix Try.func73 ok73 (fun g p h=>by simp[jR]at h) ?_;rcases hc with⟨rfl,z,rfl⟩| ⟨id,base,lim,rfl⟩
 ·conv=>whnf
  refine wK rfl ?_;conv=>whnf
  refine CondP.mk (fun h=>by simp at h) (fun _=>?_);conv=>whnf
  exact⟨0,rfl,rfl⟩
 ·conv=>whnf
  refine kW rfl ?_;conv=>whnf
  refine CondP.mk (fun h=>?_) (fun h=>?_)<;>conv=>whnf
  ·have h:2000<es.length:=by simp at h;omega
   refine aCE (m:=2000) (b':=base+0) (l':=2000-0) (lim':=lim.map (· -0)) (es:=es.take 2000) rfl rfl (by simp only[jR,nA,if_pos h]) (by omega) ?_;conv=>whnf
   exact⟨0,rfl,by simp only[nA,if_pos h];rfl⟩
  ·have h:¬2000<es.length:=by simp at h;omega
   exact⟨0,rfl,by simp only[nA,if_neg h];rfl⟩
theorem aDJ{a b:Int}(h1:0≤a)(h2:a<4611686018427387904)(h3:0≤b)(h4:b<4611686018427387904):0≤IntKind.wrap .i64 ((BitVec.ofInt IntKind.i64.bits a ^^^ BitVec.ofInt IntKind.i64.bits b).toNat:Int):=by
 have e:∀{a:Int},0≤a→a<4611686018427387904→(BitVec.ofInt 64 a).toNat<2 ^ 62:=fun{a} h1 h2=>by rw[BitVec.toNat_ofInt];omega
 have:=Nat.xor_lt_two_pow (e h1 h2) (e h3 h4);have hx:(BitVec.ofInt IntKind.i64.bits a ^^^ BitVec.ofInt IntKind.i64.bits b).toNat<2 ^ 62:=by rw[BitVec.toNat_xor];exact this
 rw[wrap64 (by omega) (by omega)];omega
theorem aCL(c:CV)(bs:List UInt8)(p:Nat)(n:Int)(hc:uB (bs.map dL) c)(hl:bs.length≤2000)(hp:p≤1000000)(hn:1≤n∧n≤1000):e8 Try.prog (jR c (bs.map dL)) 91 [.one (.ptr 0 0 0),.one (dI n)] [(0,.box [.sc c,dI p])] 1
  fun x H'=>∃v:Int,0≤v∧v<n∧x= .v (.one (dI v))∧H'=[(0,.box [.sc c,dI ((p+1:Nat):Int)])]:=by
 refine d9 hmix Try.func91 ok91 (fun g p h=>by simp[jR]at h) ?_;have hn0:decide (n<1)=false:=by simp;omega
 have hw:IntKind.wrap .i64 ((p:Int)+1)=((p+1:Nat):Int):=by rw[wrap64 (by omega) (by omega)];omega
 rcases hc with⟨he,z,rfl⟩| ⟨id,base,lim,rfl⟩
 ·have he:bs=[]:=by simpa using he
  conv=>whnf
  rw[hn0,hw];refine aD ?_;conv=>whnf
  refine aD ?_;conv=>whnf
  refine aD ?_;conv=>whnf
  refine aD ?_;conv=>whnf
  refine aD ?_;conv=>whnf
  refine wK rfl ?_;conv=>whnf
  refine aD ?_;conv=>whnf
  refine aE ?_;conv=>whnf
  exact⟨0,by omega,by omega,rfl,rfl⟩
 ·rw[List.length_map];conv=>whnf
  rw[hn0,hw];refine aD ?_;conv=>whnf
  refine aD ?_;conv=>whnf
  refine aD ?_;conv=>whnf
  refine aD ?_;conv=>whnf
  refine aD ?_;conv=>whnf
  refine kW rfl ?_;conv=>whnf
  refine aD ?_;conv=>whnf
  have hw2:IntKind.wrap .i64 (((p+1:Nat):Int)-1)=(p:Int):=by rw[wrap64 (by omega) (by omega)];omega
  refine CondP.mk (fun h=>?_) (fun h=>?_)<;>conv=>whnf
  ·exact⟨0,by omega,by omega,rfl,rfl⟩
  have hb:0<bs.length:=by simp only[decide_eq_false_iff_not]at h;omega
  rw[hw2];refine kW rfl ?_;conv=>whnf
  refine CondP.mk (fun h2=>?_) (fun h2=>?_)<;>conv=>whnf
  ·have h2:p<bs.length:=by simp at h2;omega
   refine sE (k:=p) rfl rfl rfl (by simpa using h2) ?_;conv=>whnf
   refine aH (r:=.one (.sc (.int .u8 bs[p].toNat))) rfl (by simp[an,dL,h2]) ?_;conv=>whnf
   rw[show IntKind.wrap .i64 (bs[p].toNat:Int)=bs[p].toNat from wrap64 (by omega) (by have:=bs[p].toNat_lt;omega)];refine r8 rfl rfl (by omega) ?_;conv=>whnf
   refine⟨_,?_,?_,rfl,rfl⟩
   ·exact Int.tmod_nonneg _ (by omega)
   ·exact Int.tmod_lt_of_pos _ (by omega)
  ·have h2:bs.length≤p:=by simp at h2;omega
   refine kW rfl ?_;conv=>whnf
   refine r8 rfl rfl (by omega) ?_;conv=>whnf
   have hL:(0:Int)<bs.length:=by omega
   have q1:p % bs.length<bs.length:=Nat.mod_lt _ hb;have q2:(p*7+3) % bs.length<bs.length:=Nat.mod_lt _ hb;have d1:=bs[p % bs.length].toNat_lt;have d2:=bs[(p*7+3) % bs.length].toNat_lt;have w1:IntKind.wrap .i64 ((p:Int)*7)=(p:Int)*7:=wrap64 (by omega) (by omega);have w2:IntKind.wrap .i64 ((p:Int)*7+3)=(p:Int)*7+3:=wrap64 (by omega) (by omega);have e1:((p:Int)).tmod bs.length=((p % bs.length:Nat):Int):=by rw[Int.tmod_eq_emod_of_nonneg (by omega)];omega
   have e2:((p:Int)*7+3).tmod bs.length=(((p*7+3) % bs.length:Nat):Int):=by rw[Int.tmod_eq_emod_of_nonneg (by omega)];simp
   rw[e1];refine sE (k:=p % bs.length) rfl rfl rfl (by simpa using q1) ?_;conv=>whnf
   refine aH (r:=.one (.sc (.int .u8 bs[p % bs.length].toNat))) rfl (by simp[an,dL,q1]) ?_;conv=>whnf
   refine kW rfl ?_;conv=>whnf
   rw[w1,w2];refine r8 rfl rfl (by omega) ?_;conv=>whnf
   rw[e2];refine sE (k:=(p*7+3) % bs.length) rfl rfl rfl (by simpa using q2) ?_;conv=>whnf
   refine aH (r:=.one (.sc (.int .u8 bs[(p*7+3) % bs.length].toNat))) rfl (by simp[an,dL,q2]) ?_;conv=>whnf
   refine kW rfl ?_;conv=>whnf
   refine aAH rfl rfl (by omega) ?_;conv=>whnf
   obtain⟨X,hX,x0,x1⟩:∃X:Int,IntKind.wrap .i64 (IntKind.wrap .i64 (IntKind.wrap .i64 (IntKind.wrap .i64 (IntKind.wrap .i64 (bs[p % bs.length].toNat:Int)*131)+IntKind.wrap .i64 (IntKind.wrap .i64 (bs[(p*7+3) % bs.length].toNat:Int)*1117))+IntKind.wrap .i64 ((p:Int)*29))+IntKind.wrap .i64 (IntKind.wrap .i64 ((p:Int).tdiv bs.length)*53))=X∧0≤X∧X<4611686018427387904:=by
    generalize bs[p % bs.length].toNat=B1 at d1;generalize bs[(p*7+3) % bs.length].toNat=B2 at d2;have hQ:(p:Int).tdiv bs.length=((p / bs.length:Nat):Int):=by rw[Int.tdiv_eq_ediv_of_nonneg (by omega)];simp
    have hQ2:p / bs.length≤p:=Nat.div_le_self _ _;rw[hQ];generalize p / bs.length=Q at hQ2;have d1:B1<256:=d1;have d2:B2<256:=d2;have a1:IntKind.wrap .i64 (B1:Int)=B1:=wrap64 (by omega) (by omega);have a2:IntKind.wrap .i64 ((B1:Int)*131)=B1*131:=wrap64 (by omega) (by omega);have a3:IntKind.wrap .i64 (B2:Int)=B2:=wrap64 (by omega) (by omega);have a4:IntKind.wrap .i64 ((B2:Int)*1117)=B2*1117:=wrap64 (by omega) (by omega);have a5:IntKind.wrap .i64 ((B1:Int)*131+B2*1117)=B1*131+B2*1117:=wrap64 (by omega) (by omega);have a6:IntKind.wrap .i64 ((p:Int)*29)=p*29:=wrap64 (by omega) (by omega);have a7:IntKind.wrap .i64 ((B1:Int)*131+B2*1117+p*29)=B1*131+B2*1117+p*29:=wrap64 (by omega) (by omega);have a8:IntKind.wrap .i64 (Q:Int)=Q:=wrap64 (by omega) (by omega);have a9:IntKind.wrap .i64 ((Q:Int)*53)=Q*53:=wrap64 (by omega) (by omega);have a10:IntKind.wrap .i64 ((B1:Int)*131+B2*1117+p*29+Q*53)=B1*131+B2*1117+p*29+Q*53:=wrap64 (by omega) (by omega);rw[a1,a2,a3,a4,a5,a6,a7,a8,a9,a10];exact⟨_,rfl,by omega,by omega⟩
   rw[hX];refine aAH rfl rfl (by decide) ?_;have hY:IntKind.wrap .i64 (X.tdiv 64)=X / 64:=by rw[Int.tdiv_eq_ediv_of_nonneg x0];exact wrap64 (by omega) (by omega)
   rw[hY];conv=>whnf
   refine r8 rfl rfl (by omega) ?_;conv=>whnf
   refine⟨_,?_,?_,rfl,rfl⟩
   ·exact Int.tmod_nonneg _ (aDJ x0 x1 (by omega) (by omega))
   ·exact Int.tmod_lt_of_pos _ (by omega)
end Go.Qm
namespace Go.Qm
open Go.Cq Go.Cq.D Go.RowKit Go.Proofs
set_option maxRecDepth 10000
def rB(c:CV)(p:Nat):DB:=.box [.sc c,dI p]
structure RdOk(c:CV)(bs:List UInt8):Prop where
 c:uB (bs.map dL) c
 l:bs.length≤2000
section
variable{c:CV}{bs:List UInt8}{ts:DTs}{H:DH}{m:Nat}{K:DT→DTs→DH→Nat→List Nat→Prop}
theorem aq{x y:Opd}{g p:Nat}{n:Int}(r:RdOk c bs)(hx:cD ts x=some (.ptr g 0 0))(hy:evD ts y=some (.one (dI n)))(hg:aF H g=some (rB c p))(hp:p≤1000000)(hn:1≤n∧n≤1000)(h:∀v:Int,0≤v→v<n→fTs ts fun ts1=>fDH (cY g (rB c (p+1)) H) fun H'=>K (.v (.one (dI v))) ts1 H' m [g]):OpP ⟨Try.prog,jR c (bs.map dL)⟩ (.call 91 [x,y]) ts H m K:=by
 have hxd:evD ts x=some (.one (.ptr g 0 0)):=by
  unfold cD at hx;split at hx
  ·rename_i e;cases hx;exact e
  ·simp at hx
 have hr:fM [g] g 0=some 0:=by simp[fM]
 refine gk [] [.pass,.pass] [g] (jR c (bs.map dL)) (das:=[.one (.ptr g 0 0),.one (dI n)]) (cas:=[.one (.ptr 0 0 0),.one (dI n)]) (Hc:=[(0,rB c p)]) rfl (by simp only[dJ,hxd,hy]) (by simp only[fD,qV,qz,hr,Option.map_some,dI]) (by simp only[dq,hg,Option.bind_some];rfl) (by simp[nodup,given,dM,bZ]) (aCL c bs p n r.c r.l hp hn) (fun t p h=>by simp[jR]at h) ?_;rintro res H3 ⟨v,h1,h2,rfl,rfl⟩;have h:=h v h1 h2;simp only[kF,kJ]at h;refine⟨rfl,cY g (rB c (p+1)) H,?_,h⟩;simp only[given,fO,bB,aF,Nat.beq_refl,cond_true,hg,rB,List.length_cons,List.length_nil,if_true];rfl
end
theorem aBL(c:CV)(bs:List UInt8)(p:Nat)(r:RdOk c bs)(hp:p≤999990):e8 Try.prog (jR c (bs.map dL)) 76 [.one (.ptr 0 0 0)] [(0,rB c p)] 1
  fun x H'=>∃(a:Int)(q:Nat), -1≤a∧a≤64∧p≤q∧q≤p+2∧x= .v (.one (dI a))∧H'=[(0,rB c q)]:=by
 refine d9 hmix Try.func76 ok76 (fun g p h=>by simp[jR]at h) ?_;rcases r.c with⟨-,z,rfl⟩| ⟨id,base,lim,rfl⟩<;>conv=>whnf
 all_goals
  refine aq r rfl rfl rfl (by omega) (by omega) fun v h1 h2=>?_
  conv=>whnf
  refine CondP.mk (fun h=>?_) (fun h=>?_)<;>conv=>whnf
  ·refine bV (db:=.arr 1 [rI (-1),rI 63,rI 64] []) rfl rfl rfl ?_;conv=>whnf
   refine aq r rfl rfl rfl (by omega) (by omega) fun w h3 h4=>?_
   conv=>whnf
   have hw:w=0∨w=1∨w=2:=by omega
   rcases hw with rfl|rfl|rfl
   all_goals
    conv=>whnf
    refine aB (k:=_) rfl rfl rfl (by decide) ?_;conv=>whnf
    refine bf rfl rfl rfl rfl rfl ?_;conv=>whnf
    exact⟨_,p+2,by decide,by decide,by omega,by omega,rfl,rfl⟩
  ·refine aq r rfl rfl rfl (by omega) (by omega) fun w h3 h4=>?_
   conv=>whnf
   exact⟨w,p+2,by omega,by omega,by omega,by omega,rfl,rfl⟩
theorem aBX(c:CV)(bs:List UInt8)(p:Nat)(r:RdOk c bs)(hp:p≤999990):e8 Try.prog (jR c (bs.map dL)) 119 [.one (.ptr 0 0 0)] [(0,rB c p)] 1
  fun x H'=>∃(a:Area)(q:Nat),0≤a.fr∧a.fr≤15∧ -1≤a.mn∧a.mn≤17∧p≤q∧q≤p+6∧x= .v (.agg (aA a))∧H'=[(0,rB c q)]:=by
 refine d9 hmix Try.func119 ok119 (fun g p h=>by simp[jR]at h) ?_;rcases r.c with⟨-,z,rfl⟩| ⟨id,base,lim,rfl⟩<;>conv=>whnf
 all_goals
  refine aq r rfl rfl rfl (by omega) (by omega) fun f f1 f2=>?_
  conv=>whnf
  refine aq r rfl rfl rfl (by omega) (by omega) fun k k1 k2=>?_
  conv=>whnf
  have ew:IntKind.wrap .i64 (1+k)=1+k:=wrap64 (by omega) (by omega);rw[ew];refine aq r rfl rfl rfl (by omega) (by omega) fun w w1 w2=>?_
  conv=>whnf
  refine aq r rfl rfl rfl (by omega) (by omega) fun s s1 s2=>?_
  conv=>whnf
  refine aq r rfl rfl rfl (by omega) (by omega) fun u u1 u2=>?_
  conv=>whnf
  refine CondP.mk (fun h=>?_) (fun h=>?_)<;>conv=>whnf
  ·refine bV (db:=.arr 1 [rI 0,rI (-1),rI 16,rI 17] []) rfl rfl rfl ?_;conv=>whnf
   refine aq r rfl rfl rfl (by omega) (by omega) fun x x1 x2=>?_
   conv=>whnf
   have hx:x=0∨x=1∨x=2∨x=3:=by omega
   rcases hx with rfl|rfl|rfl|rfl
   all_goals
    conv=>whnf
    refine aB (k:=_) rfl rfl rfl (by decide) ?_;conv=>whnf
    refine bf rfl rfl rfl rfl rfl ?_;conv=>whnf
    exact⟨⟨f,_,_,_⟩,p+6,f1,by simp only;omega,by simp,by simp,by omega,by omega,rfl,rfl⟩
  ·exact⟨⟨f,1+k,_,_⟩,p+5,f1,by simp only;omega,by simp only;omega,by simp only;omega,by omega,by omega,rfl,rfl⟩
end Go.Qm
namespace Go.Qm
open Go.Cq Go.Cq.D Go.RowKit Go.Proofs
set_option maxRecDepth 10000
theorem aDN(c:CV)(bs:List UInt8)(p:Nat)(b1 b2 b3 b4 b5:Bool)(m:Mem)(r:RdOk c bs)(hp:p≤999900)(hl:m.sp.length≤5):e8 Try.prog (jR c (bs.map dL)) 75 [.one (.ptr 0 0 0),aM b1 b2 b3 b4 b5 m] [(0,rB c p)] 1
  fun x H'=>∃(w:Int)(q:Nat), -1≤w∧w≤5∧p≤q∧q≤p+11∧x= .v (.one (dI w))∧H'=[(0,rB c q)]:=by
 refine d9 hmix Try.func75 ok75 (fun g p h=>by simp[jR]at h) ?_;rcases r.c with⟨-,z,rfl⟩| ⟨id,base,lim,rfl⟩<;>conv=>whnf
 all_goals
  refine ai (fun s:Nat×Nat=>[(0,.v (.one (.ptr 0 0 0))),(3,.v (.one (.ptr 1 0 0))),(5,.v (.one (dI s.1)))]) (fun s=>[(1,.box [.ro b1 1 (m.ram.tx.map rS),.ro b2 1 (m.ram.rf.map rI),.ro b3 1 (m.swp.tx.map rS),.ro b4 1 (m.swp.rf.map rI),.ro b5 3 (m.sp.map rP),dI m.hd]),(0,rB _ s.2)]) (fun _=>2)
   (fun s=>s.1≤m.sp.length∧p≤s.2∧s.2≤p+2*s.1) (fun s=>m.sp.length-s.1) (0,p) ⟨by omega,by omega,by omega⟩ rfl rfl rfl fun s hs=>?_
  obtain⟨i,q⟩:=s;obtain⟨hi,hq1,hq2⟩:=hs;simp only at hi hq1 hq2;conv=>whnf
  refine CondP.mk (fun h=>?_) (fun h=>?_)<;>rw[h]<;>(conv=>whnf)<;>repeat' first|(refine aE ?_;conv=>whnf)|(refine aD ?_;conv=>whnf)
  case' _=>
   have hlt:i<m.sp.length:=by simpa using h
   refine aq r rfl rfl rfl (by omega) (by omega) fun v v1 v2=>?_
   conv=>whnf
   refine aE ?_;conv=>whnf
   refine CondP.mk (fun h1=>?_) (fun h1=>?_)<;>conv=>whnf
   case' _=>
    refine aK (k:=i) rfl rfl (by simpa using hlt) ?_;conv=>whnf
    refine aH rfl (r:=.one (dB m.sp[i].lv)) (by simp[an,rP,hlt,eB,dB]) ?_;conv=>whnf
    have next:i+1≤m.sp.length∧m.sp.length-(i+1)<m.sp.length-i∧IntKind.wrap .i64 ((i:Int)+1)=((i+1:Nat):Int):=⟨hlt,by omega,up hlt (by omega)⟩
    refine CondP.mk (fun h2=>?_) (fun h2=>?_)<;>rw[h2]<;>(conv=>whnf)<;>repeat' first|(refine aE ?_;conv=>whnf)|(refine aD ?_;conv=>whnf)
    case' _=>
     refine aq r rfl rfl rfl (by omega) (by omega) fun w w1 w2=>?_
     conv=>whnf
     refine aE ?_;conv=>whnf
     refine CondP.mk (fun h3=>?_) (fun h3=>?_)<;>conv=>whnf
     case _=>exact⟨_,_,by omega,by omega,by omega,by omega,rfl,rfl⟩
     case _=>exact⟨(i+1,q+2),next.2.1,⟨next.1,by omega,by omega⟩,by rw[next.2.2];rfl,rfl,rfl⟩
    case _=>exact⟨(i+1,q+1),next.2.1,⟨next.1,by omega,by omega⟩,by rw[next.2.2];rfl,rfl,rfl⟩
  all_goals
   refine bV (db:=.arr 1 [rI 0,rI 0,rI 0,rI 1,rI 2,rI 4,rI (-1),rI 5] []) rfl rfl rfl ?_;conv=>whnf
   refine aq r rfl rfl rfl (by simp only;omega) (by omega) fun w w1 w2=>?_
   conv=>whnf
   have hw:w=0∨w=1∨w=2∨w=3∨w=4∨w=5∨w=6∨w=7:=by omega
   rcases hw with rfl|rfl|rfl|rfl|rfl|rfl|rfl|rfl
   all_goals
    conv=>whnf
    refine aB (k:=_) rfl rfl rfl (by decide) ?_;conv=>whnf
    refine bf rfl rfl rfl rfl rfl ?_;conv=>whnf
    exact⟨_,_,by decide,by decide,by omega,by omega,rfl,rfl⟩
end Go.Qm
namespace Go.Qm
open Go.Cq Go.Cq.D Go.RowKit Go.Proofs
set_option maxRecDepth 10000
theorem LsOk.cU{m:Mem}{i fr:Nat}{l:List Area}(h:LsOk m i fr 0):LsOk (Go.Qm.cU m i l) i fr 0:=by
 have hl:i< (Go.Qm.cU m i l).sp.length:=by simpa [Go.Qm.cU]using h.hi
 have hi:=h.hi;have e:(Go.Qm.cU m i l).sp[i].sl=m.sp[i].sl:=by simp[Go.Qm.cU]
 exact⟨h.ram,h.swp,hl,by rw[e];exact h.sl,fun j hj hf=>by simp only[e];exact h.pl j (by rw[←e];exact hj) hf⟩
set_option maxHeartbeats 8000000 in
theorem aB2(c:CV)(bs:List UInt8)(p:Nat)(m:Mem)(r:RdOk c bs)(hp:p≤999900)(h:Inv m):e8 Try.prog (jR c (bs.map dL)) 144 [.one (.ptr 0 0 0),oM m] [(0,rB c p)] 1
  fun x H'=>∃(m':Mem)(q:Nat),Inv m'∧p≤q∧q≤p+8∧x= .v (oM m')∧H'=[(0,rB c q)]:=by
 refine d9 hmix Try.func144 ok144 (fun g p h=>by simp[jR]at h) ?_;rcases r.c with⟨-,z,rfl⟩| ⟨id,base,lim,rfl⟩<;>conv=>whnf
 all_goals
  refine aq r rfl rfl rfl (by omega) (by omega) fun v v1 v2=>?_
  conv=>whnf
  simp only[List.drop_zero,List.take_length];refine aC (cas:=[aM true true true true true m,.one (dI v)]) [.lend,.pass] rfl (by show some [DV.agg [DC.ro true 1 (List.take _ (List.drop 0 _)),DC.ro true 1 (List.take _ (List.drop 0 _)),DC.ro true 1 (List.take _ (List.drop 0 _)),DC.ro true 1 (List.take _ (List.drop 0 _)),DC.ro true 3 (List.take _ (List.drop 0 _)),_],_]=_;simp only[List.drop_zero,List.take_length];rfl) rfl (mH true true true true true m v (by rw[h.sp];decide)) rfl ?_;conv=>whnf
  refine CondP.mk (fun h1=>?_) (fun h1=>?_)<;>rw[h1]<;>(conv=>whnf)<;>repeat' first|(refine aE ?_;conv=>whnf)|(refine aD ?_;conv=>whnf)
  case' _=>
   simp only[List.drop_zero,List.take_length];refine aC (cas:=[aM true true true true true m,.one (dI 0)]) [.lend,.pass] rfl (by show some [DV.agg [DC.ro true 1 (List.take _ (List.drop 0 _)),DC.ro true 1 (List.take _ (List.drop 0 _)),DC.ro true 1 (List.take _ (List.drop 0 _)),DC.ro true 1 (List.take _ (List.drop 0 _)),DC.ro true 3 (List.take _ (List.drop 0 _)),_],_]=_;simp only[List.drop_zero,List.take_length];rfl) rfl (mH true true true true true m 0 (by rw[h.sp];decide)) rfl ?_;conv=>whnf
   refine CondP.mk (fun h2=>?_) (fun h2=>?_)<;>rw[h2]<;>(conv=>whnf)<;>repeat' first|(refine aE ?_;conv=>whnf)|(refine aD ?_;conv=>whnf)
   case' _=>
    simp only[List.drop_zero,List.take_length];refine aC (cas:=[aM true true true true true m]) [.lend] rfl (by show some [DV.agg [DC.ro true 1 (List.take _ (List.drop 0 _)),DC.ro true 1 (List.take _ (List.drop 0 _)),DC.ro true 1 (List.take _ (List.drop 0 _)),DC.ro true 1 (List.take _ (List.drop 0 _)),DC.ro true 3 (List.take _ (List.drop 0 _)),_]]=_;simp only[List.drop_zero,List.take_length];rfl) rfl (oS true true true true true m h.fits) rfl ?_;conv=>whnf
    refine CondP.mk (fun h3=>?_) (fun h3=>?_)<;>conv=>whnf
    case _=>
     have hz:bp m.sp<m.sp.length:=by
      rcases Nat.lt_or_ge (bp m.sp) m.sp.length with c|c
      ·exact c
      ·simp[fS,show¬bp m.sp<m.sp.length by omega]at h3
     have hM:(fS m).1=ed m:=by
      unfold fS at h3 ⊢;split
      ·rfl
      ·rename_i c;rw[if_neg c]at h3;simp at h3
     refine⟨ed m,p+1,h.make hz,by omega,by omega,?_,rfl⟩;rw[hM];simp[oM,dI]
    case _=>refine⟨m,p+1,h,by omega,by omega,?_,rfl⟩;simp[oM,dI]
   case' _=>
    have h2:fT m.sp 0=true:=by simpa using h2
    obtain⟨hi,hlv⟩:∃hi:0<m.sp.length,m.sp[0].lv=true:=by
     obtain⟨i,e,hi,hlv⟩:=fm h2;have:i=0:=by omega
     subst this;exact⟨hi,hlv⟩
  rotate_left
  case' _=>
   have h1:fT m.sp v=true:=by simpa using h1
   obtain⟨i,rfl,hi,hlv⟩:=fm h1;simp only[List.drop_zero,List.take_length];refine aC (cas:=[aM true true true true true m,.one (dI i)]) [.lend,.pass] rfl (by show some [DV.agg [DC.ro true 1 (List.take _ (List.drop 0 _)),DC.ro true 1 (List.take _ (List.drop 0 _)),DC.ro true 1 (List.take _ (List.drop 0 _)),DC.ro true 1 (List.take _ (List.drop 0 _)),DC.ro true 3 (List.take _ (List.drop 0 _)),_],_]=_;simp only[List.drop_zero,List.take_length];rfl) rfl (mH true true true true true m i (by rw[h.sp];decide)) rfl ?_;rw[h1]
   (conv=>whnf)<;>repeat' first|(refine aE ?_;conv=>whnf)|(refine aD ?_;conv=>whnf)
  all_goals
   have ar:=h.ar hi hlv;refine aq r rfl rfl rfl (by omega) (by omega) fun ad a1 a2=>?_
   obtain⟨a,rfl⟩:=Int.eq_ofNat_of_zero_le a1;conv=>whnf
   refine aq r rfl rfl rfl (by omega) (by omega) fun k k1 k2=>?_
   conv=>whnf
   refine CondP.mk (fun c0=>?_) (fun c0=>?_)<;>conv=>whnf
   case' _=>
    simp only[List.drop_zero,List.take_length];refine aC (cas:=[aM true true true true true m]) [.lend] rfl (by show some [DV.agg [DC.ro true 1 (List.take _ (List.drop 0 _)),DC.ro true 1 (List.take _ (List.drop 0 _)),DC.ro true 1 (List.take _ (List.drop 0 _)),DC.ro true 1 (List.take _ (List.drop 0 _)),DC.ro true 3 (List.take _ (List.drop 0 _)),_]]=_;simp only[List.drop_zero,List.take_length];rfl) rfl (dz true true true true true m h.fits) rfl ?_;conv=>whnf
    refine aC [.fQ,.pass] rfl rfl rfl (by simpa [oM,dI]using xw m _ h.wf hi ar.1 (by omega) ar.2.2 hlv) rfl ?_;conv=>whnf
    refine CondP.mk (fun c1=>?_) (fun c1=>?_)<;>conv=>whnf
    case _=>refine⟨_,p+3,h.kv hi hlv (by simpa using c1),by omega,by omega,?_,rfl⟩;simp[oM,dI]
    case _=>refine⟨m,p+3,h,by omega,by omega,?_,rfl⟩;simp[oM,dI]
   refine CondP.mk (fun c1=>?_) (fun c1=>?_)<;>conv=>whnf
   case' _=>
    simp only[List.drop_zero,List.take_length];refine aC (cas:=[aM true true true true true m]) [.lend] rfl (by show some [DV.agg [DC.ro true 1 (List.take _ (List.drop 0 _)),DC.ro true 1 (List.take _ (List.drop 0 _)),DC.ro true 1 (List.take _ (List.drop 0 _)),DC.ro true 1 (List.take _ (List.drop 0 _)),DC.ro true 3 (List.take _ (List.drop 0 _)),_]]=_;simp only[List.drop_zero,List.take_length];rfl) rfl (dz true true true true true m h.fits) rfl ?_;conv=>whnf
    refine aq r rfl rfl rfl (by omega) (by omega) fun f f1 f2=>?_
    conv=>whnf
    refine aq r rfl rfl rfl (by omega) (by omega) fun n n1 n2=>?_
    conv=>whnf
    refine aC [.fQ,.pass,.pass,.pass] rfl rfl rfl (by simpa [oM,dI]using yO m _ f (IntKind.wrap .i64 (1+n)) hi ar.2.1 fun l fr=>LsOk.cU (h.ls hi hlv fr)) rfl ?_;conv=>whnf
    refine⟨_,p+5,h.cut hi hlv (fr:=f) (mn:=IntKind.wrap .i64 (1+n)),by omega,by omega,?_,rfl⟩;simp[oM,dI]
   refine CondP.mk (fun c2=>?_) (fun c2=>?_)<;>rw[c2]<;>(conv=>whnf)<;>repeat' first|(refine aE ?_;conv=>whnf)|(refine aD ?_;conv=>whnf)
   case' _=>
    simp only[List.drop_zero,List.take_length];refine aC (cas:=[aM true true true true true m]) [.lend] rfl (by show some [DV.agg [DC.ro true 1 (List.take _ (List.drop 0 _)),DC.ro true 1 (List.take _ (List.drop 0 _)),DC.ro true 1 (List.take _ (List.drop 0 _)),DC.ro true 1 (List.take _ (List.drop 0 _)),DC.ro true 3 (List.take _ (List.drop 0 _)),_]]=_;simp only[List.drop_zero,List.take_length];rfl) rfl (dz true true true true true m h.fits) rfl ?_;conv=>whnf
    refine aq r rfl rfl rfl (by omega) (by omega) fun f f1 f2=>?_
    conv=>whnf
    refine aq r rfl rfl rfl (by omega) (by omega) fun n n1 n2=>?_
    conv=>whnf
    refine aq r rfl rfl rfl (by omega) (by omega) fun w w1 w2=>?_
    conv=>whnf
    refine aq r rfl rfl rfl (by omega) (by omega) fun s s1 s2=>?_
    conv=>whnf
    refine aC [.fQ,.pass,.pass] rfl rfl rfl (by simpa [oM,dI,aA,dB]using mT m _ ⟨f,IntKind.wrap .i64 (1+n),decide (0<w),decide (s=0)⟩ hi (by omega)) rfl ?_;conv=>whnf
    refine⟨_,p+7,h.map hi hlv ⟨f,IntKind.wrap .i64 (1+n),decide (0<w),decide (s=0)⟩,by omega,by omega,?_,rfl⟩;simp[oM,dI]
   refine CondP.mk (fun c3=>?_) (fun c3=>?_)<;>rw[c3]<;>(conv=>whnf)<;>repeat' first|(refine aE ?_;conv=>whnf)|(refine aD ?_;conv=>whnf)
   case' _=>
    simp only[List.drop_zero,List.take_length];refine aC (cas:=[aM true true true true true m]) [.lend] rfl (by show some [DV.agg [DC.ro true 1 (List.take _ (List.drop 0 _)),DC.ro true 1 (List.take _ (List.drop 0 _)),DC.ro true 1 (List.take _ (List.drop 0 _)),DC.ro true 1 (List.take _ (List.drop 0 _)),DC.ro true 3 (List.take _ (List.drop 0 _)),_]]=_;simp only[List.drop_zero,List.take_length];rfl) rfl (dz true true true true true m h.fits) rfl ?_;conv=>whnf
    refine aq r rfl rfl rfl (by omega) (by omega) fun f f1 f2=>?_
    conv=>whnf
    refine aq r rfl rfl rfl (by omega) (by omega) fun n n1 n2=>?_
    conv=>whnf
    refine aq r rfl rfl rfl (by omega) (by omega) fun w w1 w2=>?_
    conv=>whnf
    refine aq r rfl rfl rfl (by omega) (by omega) fun s s1 s2=>?_
    conv=>whnf
    refine aC [.fQ,.pass,.pass] rfl rfl rfl (by simpa [oM,dI,aA,dB]using mT m _ ⟨f,IntKind.wrap .i64 (1+n),decide (0<w),decide (s=0)⟩ hi (by omega)) rfl ?_;conv=>whnf
    refine⟨_,p+7,h.map hi hlv ⟨f,IntKind.wrap .i64 (1+n),decide (0<w),decide (s=0)⟩,by omega,by omega,?_,rfl⟩;simp[oM,dI]
   refine CondP.mk (fun c4=>?_) (fun c4=>?_)<;>conv=>whnf
   case' _=>
    simp only[List.drop_zero,List.take_length];refine aC (cas:=[aM true true true true true m]) [.lend] rfl (by show some [DV.agg [DC.ro true 1 (List.take _ (List.drop 0 _)),DC.ro true 1 (List.take _ (List.drop 0 _)),DC.ro true 1 (List.take _ (List.drop 0 _)),DC.ro true 1 (List.take _ (List.drop 0 _)),DC.ro true 3 (List.take _ (List.drop 0 _)),_]]=_;simp only[List.drop_zero,List.take_length];rfl) rfl (dz true true true true true m h.fits) rfl ?_;conv=>whnf
    refine aq r rfl rfl rfl (by omega) (by omega) fun f f1 f2=>?_
    conv=>whnf
    refine aq r rfl rfl rfl (by omega) (by omega) fun n n1 n2=>?_
    conv=>whnf
    refine aq r rfl rfl rfl (by omega) (by omega) fun w w1 w2=>?_
    conv=>whnf
    refine aq r rfl rfl rfl (by omega) (by omega) fun s s1 s2=>?_
    conv=>whnf
    refine aC [.fQ,.pass,.pass] rfl rfl rfl (by simpa [oM,dI,aA,dB]using mT m _ ⟨f,IntKind.wrap .i64 (1+n),decide (0<w),decide (s=0)⟩ hi (by omega)) rfl ?_;conv=>whnf
    refine⟨_,p+7,h.map hi hlv ⟨f,IntKind.wrap .i64 (1+n),decide (0<w),decide (s=0)⟩,by omega,by omega,?_,rfl⟩;simp[oM,dI]
   refine CondP.mk (fun c5=>?_) (fun c5=>?_)<;>conv=>whnf
   case' _=>
    refine aq r rfl rfl rfl (by omega) (by omega) fun f f1 f2=>?_
    conv=>whnf
    refine CondP.mk (fun c6=>?_) (fun c6=>?_)<;>conv=>whnf
    case' _=>
     simp only[List.drop_zero,List.take_length];refine aC (cas:=[aM true true true true true m]) [.lend] rfl (by show some [DV.agg [DC.ro true 1 (List.take _ (List.drop 0 _)),DC.ro true 1 (List.take _ (List.drop 0 _)),DC.ro true 1 (List.take _ (List.drop 0 _)),DC.ro true 1 (List.take _ (List.drop 0 _)),DC.ro true 3 (List.take _ (List.drop 0 _)),_]]=_;simp only[List.drop_zero,List.take_length];rfl) rfl (dz true true true true true m h.fits) rfl ?_;conv=>whnf
     refine aC [.fQ,.pass] rfl rfl rfl (by simpa [oM,dI]using xA m _ (h.ls hi hlv 0)) rfl ?_;conv=>whnf
     refine⟨_,p+4,h.drop hi hlv,by omega,by omega,?_,rfl⟩;simp[oM,dI]
    refine⟨m,p+4,h,by omega,by omega,?_,rfl⟩;simp[oM,dI]
   refine CondP.mk (fun c6=>?_) (fun c6=>?_)<;>rw[c6]<;>(conv=>whnf)<;>repeat' first|(refine aE ?_;conv=>whnf)|(refine aD ?_;conv=>whnf)
   case' _=>
    simp only[List.drop_zero,List.take_length];refine aC [.fQ,.pass,.pass] rfl rfl rfl (by simpa [oM,dI]using mJ m _ a h.wf hi ar.1 (by omega) ar.2.2 (by omega) h.fits) rfl ?_;conv=>whnf
    refine⟨_,p+3,h.get hi hlv (a:=a) (by omega),by omega,by omega,?_,rfl⟩;simp[oM,dI]
   refine CondP.mk (fun c7=>?_) (fun c7=>?_)<;>rw[c7]<;>(conv=>whnf)<;>repeat' first|(refine aE ?_;conv=>whnf)|(refine aD ?_;conv=>whnf)
   case' _=>
    simp only[List.drop_zero,List.take_length];refine aC [.fQ,.pass,.pass] rfl rfl rfl (by simpa [oM,dI]using mJ m _ a h.wf hi ar.1 (by omega) ar.2.2 (by omega) h.fits) rfl ?_;conv=>whnf
    refine⟨_,p+3,h.get hi hlv (a:=a) (by omega),by omega,by omega,?_,rfl⟩;simp[oM,dI]
   refine CondP.mk (fun c8=>?_) (fun c8=>?_)<;>conv=>whnf
   case' _=>
    simp only[List.drop_zero,List.take_length];refine aC [.fQ,.pass,.pass] rfl rfl rfl (by simpa [oM,dI]using mJ m _ a h.wf hi ar.1 (by omega) ar.2.2 (by omega) h.fits) rfl ?_;conv=>whnf
    refine⟨_,p+3,h.get hi hlv (a:=a) (by omega),by omega,by omega,?_,rfl⟩;simp[oM,dI]
   refine aq r rfl rfl rfl (by omega) (by omega) fun b b1 b2=>?_
   conv=>whnf
   simp only[List.drop_zero,List.take_length];refine aC [.fQ,.pass,.pass,.pass] rfl rfl rfl (by simpa [oM,dI]using tX m _ a b h.wf hi ar.1 (by omega) ar.2.2 (by omega) h.fits) rfl ?_;conv=>whnf
   refine⟨_,p+4,h.tE hi hlv (a:=a) (b:=b) (by omega),by omega,by omega,?_,rfl⟩;simp[oM,dI]
end Go.Qm
namespace Go.Qm
open Go.Cq Go.Cq.D Go.RowKit Go.Proofs
set_option maxRecDepth 10000
def L0(m:Mem):Prop:=∃hi:0<m.sp.length,m.sp[0].lv=true
theorem L0.same{a b:Mem}(h:L0 a)(s:cG a.sp b.sp):L0 b:=by
 obtain⟨hi,hl⟩:=h;have hi':0<b.sp.length:=by rw[s.1];exact hi
 exact⟨hi',(s.2 0 hi hi').1.trans hl⟩
theorem L0.map{m:Mem}(h:L0 m){c:Option (List Area)}{i:Nat}:L0 (mapM c m i).1:=by
 obtain⟨hi,hl⟩:=h;cases c with
 |none=>exact⟨hi,hl⟩
 |some l=>refine⟨by simpa [mapM,cU]using hi,?_⟩;simp only[mapM,cU,List.getElem_modify];split<;>exact hl
theorem ye{m:Mem}(h:Inv m){i a:Nat}{b:Int}(hi:i<m.sp.length)(hlv:m.sp[i].lv=true)(ha:a≤63):cG m.sp (cZ m i a b).1.sp:=by
 have h16:=((h.ss _ (List.getElem_mem hi)).lv hlv).2;unfold cZ;split
 ·exact cG.refl
 ·split
  ·exact cG.refl
  ·split
   ·exact cG.refl
   ·rename_i m2 hm;rw[Option.bind_eq_some_iff]at hm;obtain⟨m1,h1,h2⟩:=hm;obtain⟨hi1,hj1,hk⟩:=gb h.wf hi (by omega) h1;have s1:=eZ h.wf h1;have s2:=((h.wf.ic hi (by omega) h1).own hi1 hj1 (by rw[bU hi1 hj1];exact hk) h2).2.1;exact s1.trans s2
theorem aDF{l:List Int}{f:Nat}{v:Int}:(l.map rI).modify f (·.set 0 (.sc (.int .i64 v)))=(l.set f v).map rI:=by
 refine List.ext_getElem? fun j=>?_
 rw[List.getElem?_modify,List.getElem?_map,List.getElem?_map,List.getElem?_set];by_cases e:f=j
 ·subst e;by_cases h:f<l.length
  ·simp[h,rI,eI]
  ·simp[h]
 ·simp[e]
theorem aCD{P:Prg}{ts:DTs}{H:DH}{n:Nat}{K:DT→DTs→DH→Nat→List Nat→Prop}{x:Opd}{g i0 ln sz:Nat}{es:List (List PV)}{ov:List (Nat×Nat×DC)}(hx:cD ts x=some (.sl g i0 ln))(hg:aF H g=some (.arr sz es ov))(h1:1≤ln)(h:K (.v (.one (.sl g (i0+1) (ln-1)))) ts H n []):OpP P (.fl (.sliceL x (some (.k (.int .i64 1))) none sz)) ts H n K:=by
 refine fC (r:=.one (.sl g (i0+1) (ln-1))) ?_ h;have e:cI ts (some (.k (.int .i64 1))) 0 ln=some 1:=by show(if 0≤(1:Int)∧(1:Int)≤ln then some (1:Int).toNat else none)=some 1;rw[if_pos (by omega)];rfl
 simp only[cI]at e;simp only[dfl,hx,hg,if_true,cI,e,if_pos h1]
set_option maxHeartbeats 8000000 in
theorem aCp(c:CV)(bs:List UInt8)(p:Nat)(r:RdOk c bs)(hp:p≤900000):e8 Try.prog (jR c (bs.map dL)) 74 [.one (.ptr 0 0 0)] [(0,rB c p)] 1
  fun x H'=>∃(m':Mem)(q:Nat),m'.fits 1048576∧m'.sp.length≤5∧p≤q∧q≤p+1000∧x= .v (oM m')∧H'=[(0,rB c q)]:=by
 refine d9 hmix Try.func74 ok74 (fun g p h=>by simp[jR]at h) ?_;rcases r.c with⟨-,z,rfl⟩| ⟨id,base,lim,rfl⟩<;>conv=>whnf
 all_goals
  refine aC [] rfl rfl rfl xx rfl ?_;conv=>whnf
  refine aC [.lend] rfl rfl rfl (oS true true true true true kC wZ.fits) rfl ?_;rw[show fS kC=(ed kC,0,true)from by decide];conv=>whnf
  refine aq r rfl rfl rfl (by omega) (by omega) fun v v1 v2=>?_
  conv=>whnf
  have i0:Inv (ed kC):=wZ.make (by decide);have l0:L0 (ed kC):=⟨by decide,by decide⟩;refine CondP.mk (fun c0=>?_) (fun c0=>?_)<;>conv=>whnf
  case' _=>
   refine aq r rfl rfl rfl (by omega) (by omega) fun n n1 n2=>?_
   conv=>whnf
   refine aq r rfl rfl rfl (by omega) (by omega) fun s s1 s2=>?_
   conv=>whnf
   obtain⟨hi,hlv⟩:=l0;have ar:=i0.ar hi hlv;simp only[List.drop_zero,List.take_length];refine aC [.fQ,.pass,.pass] rfl rfl rfl (by simpa [oM,dI,aA,dB]using mT (ed kC) 0 ⟨0,IntKind.wrap .i64 (8+n),true,decide (s=0)⟩ hi (by omega)) rfl ?_;conv=>whnf
   have i1:=i0.map hi hlv ⟨0,IntKind.wrap .i64 (8+n),true,decide (s=0)⟩;have l1:L0 (mapM (lU (gX (ed kC) 0) ⟨0,IntKind.wrap .i64 (8+n),true,decide (s=0)⟩) (ed kC) 0).1:=L0.map ⟨hi,hlv⟩;generalize (mapM (lU (gX (ed kC) 0) ⟨0,IntKind.wrap .i64 (8+n),true,decide (s=0)⟩) (ed kC) 0).1=w0 at i1 l1 ⊢;simp only[List.drop_zero,List.take_length];refine aq r rfl rfl rfl (by omega) (by omega) fun pg g1 g2=>?_
   obtain⟨pg,rfl⟩:=Int.eq_ofNat_of_zero_le g1;conv=>whnf
   refine ai (fun s:Mem×Nat=>[(0,.v (.one (.ptr 0 0 0))),(2,.v (.one (.ptr 1 0 0))),(3,.v (.one (.ptr 12 0 0))),(6,.v (.one (dI s.2)))]) (fun s=>[(12,bO s.1),(1,bO gH),(0,rB _ (p+4))]) (fun _=>13)
    (fun s=>Inv s.1∧L0 s.1∧s.2≤15) (fun s=>s.2) (w0,pg) ⟨i1,l1,by omega⟩ rfl rfl rfl fun s hs=>?_
   obtain⟨w,t⟩:=s;obtain⟨iw,lw,ht⟩:=hs;simp only at iw lw ht;conv=>whnf
   refine CondP.mk (fun c1=>?_) (fun c1=>?_)<;>conv=>whnf
   case' _=>
    have c1:0<t:=by simp at c1;omega
    obtain⟨hi,hlv⟩:=lw;have ar:=iw.ar hi hlv;rw[show IntKind.wrap .i64 (IntKind.wrap .i64 (((w,t).2:Int)*4)-1)=((t*4-1:Nat):Int) by rw[wrap64 (x:=((w,t).2:Int)*4) (by simp only;omega) (by simp only;omega),wrap64 (by simp only;omega) (by simp only;omega)];simp only;omega];refine aC [.fQ,.pass,.pass,.pass] rfl rfl rfl (by simpa [oM,dI]using tX w 0 (t*4-1) (IntKind.wrap .i64 (1+t)) iw.wf hi ar.1 (by omega) ar.2.2 (by omega) iw.fits) rfl ?_;conv=>whnf
    have i2:=iw.tE (b:=IntKind.wrap .i64 (1+t)) hi hlv (a:=t*4-1) (by omega);have l2:L0 (cZ w 0 (t*4-1) (IntKind.wrap .i64 (1+t))).1:=L0.same ⟨hi,hlv⟩ (ye iw hi hlv (by omega));refine⟨(_,t-1),by simp only;omega,⟨i2,l2,by simp only;omega⟩,?_,?_,rfl⟩
    ·rw[wrap64 (by simp only;omega) (by simp only;omega)];simp only[dI];rw[show((t:Int)-1)=((t-1:Nat):Int) by omega]
    ·simp[bO,dI,rB]
  case' _=>have i0:=iw;have l0:=lw;simp only
  rotate_left
  case' _=>generalize ed kC=w at i0 l0 ⊢;simp only[List.drop_zero,List.take_length]
  all_goals
   refine aq r rfl rfl rfl (by omega) (by omega) fun k k1 k2=>?_
   obtain⟨k,rfl⟩:=Int.eq_ofNat_of_zero_le k1;conv=>whnf
   refine ai (fun s:Mem×Nat×Nat=>[(0,.v (.one (.ptr 0 0 0))),(2,.v (.one (.ptr 1 0 0))),(3,.v (.one (.ptr 12 0 0))),(7,.v (.one (dI s.2.1)))]) (fun s=>[(12,bO s.1),(1,bO gH),(0,rB _ s.2.2)]) (fun _=>13)
    (fun s=>Inv s.1∧s.2.1≤29∧p≤s.2.2∧s.2.2+8*s.2.1≤p+300) (fun s=>s.2.1) (w,k,_) ⟨i0,by simp only;omega,by simp only;omega,by simp only;omega⟩ rfl rfl rfl fun s hs=>?_
   obtain⟨u,t,q⟩:=s;obtain⟨iu,ht,q1,q2⟩:=hs;simp only at iu ht q1 q2;conv=>whnf
   refine CondP.mk (fun c1=>?_) (fun c1=>?_)<;>conv=>whnf
   case' _=>
    have c1:0<t:=by simp at c1;omega
    refine gk [] [.pass,.fQ] [0] (jR _ (bs.map dL)) rfl rfl rfl rfl rfl (by simpa [oM,dI,rB]using aB2 _ bs q u r (by omega) iu) (fun t p h=>by simp[jR]at h) (hv:=.inr (by simp[jR])) ?_;rintro res H3 ⟨u',j1,q',j2,j3,rfl,rfl⟩;refine⟨rfl,_,rfl,?_⟩;conv=>whnf
    refine⟨(u',t-1,q'),by simp only;omega,⟨j1,by simp only;omega,by simp only;omega,by simp only;omega⟩,?_,?_,rfl⟩
    ·rw[wrap64 (by simp only;omega) (by simp only;omega)];simp only[dI];rw[show((t:Int)-1)=((t-1:Nat):Int) by omega]
    ·simp[bO,dI,rB]
   have fu:=iu.fits;have u5:=iu.sp;simp only[List.drop_zero,List.take_length];refine aq r rfl rfl rfl (by first|omega| (simp only;omega)) (by omega) fun y y1 y2=>?_
   conv=>whnf
   refine CondP.mk (fun d0=>?_) (fun d0=>?_)<;>conv=>whnf
   case' _=>
    refine bV (db:=.arr 1 [rI (-1),rI 12,rI 3] []) rfl rfl rfl ?_;conv=>whnf
    refine aq r rfl rfl rfl (by first|omega| (simp only;omega)) (by omega) fun e e1 e2=>?_
    conv=>whnf
    have he:e=0∨e=1∨e=2:=by omega
    rcases he with rfl|rfl|rfl
    ·conv=>whnf
     refine aB (k:=0) rfl rfl rfl (by decide) ?_;conv=>whnf
     refine bf rfl rfl rfl rfl rfl ?_;conv=>whnf
     exact⟨{u with hd:= -1},q+2,⟨fu.rt,fu.rr,fu.st,fu.sr,fu.sp,fu.ss⟩,by first|omega| (simp only;omega),by omega,by omega,by simp[oM,dI],rfl⟩
    ·conv=>whnf
     refine aB (k:=1) rfl rfl rfl (by decide) ?_;conv=>whnf
     refine bf rfl rfl rfl rfl rfl ?_;conv=>whnf
     exact⟨{u with hd:=12},q+2,⟨fu.rt,fu.rr,fu.st,fu.sr,fu.sp,fu.ss⟩,by first|omega| (simp only;omega),by omega,by omega,by simp[oM,dI],rfl⟩
    ·conv=>whnf
     refine aB (k:=2) rfl rfl rfl (by decide) ?_;conv=>whnf
     refine bf rfl rfl rfl rfl rfl ?_;conv=>whnf
     exact⟨{u with hd:=3},q+2,⟨fu.rt,fu.rr,fu.st,fu.sr,fu.sp,fu.ss⟩,by first|omega| (simp only;omega),by omega,by omega,by simp[oM,dI],rfl⟩
   refine CondP.mk (fun d1=>?_) (fun d1=>?_)<;>conv=>whnf
   case' _=>
    refine aq r rfl rfl rfl (by first|omega| (simp only;omega)) (by omega) fun f f1 f2=>?_
    obtain⟨f,rfl⟩:=Int.eq_ofNat_of_zero_le f1;conv=>whnf
    refine aq r rfl rfl rfl (by first|omega| (simp only;omega)) (by omega) fun v v1 v2=>?_
    conv=>whnf
    refine aB (k:=f) rfl rfl rfl (by simp[iu.ram.rf];omega) ?_;conv=>whnf
    refine aN rfl rfl rfl (by simp[iu.ram.rf];omega) (by decide) ?_;conv=>whnf
    exact⟨{u with ram:=⟨u.ram.tx,u.ram.rf.set f v⟩},q+3,⟨fu.rt,by simpa using fu.rr,fu.st,fu.sr,fu.sp,fu.ss⟩,by first|omega| (simp only;omega),by omega,by omega,by simp[oM,dI,aDF,List.take_of_length_le],rfl⟩
   refine CondP.mk (fun d2=>?_) (fun d2=>?_)<;>conv=>whnf
   case' _=>
    have hi:0<u.sp.length:=by omega
    have hg:=aj (f:=rP) (List.getElem?_eq_getElem hi);refine aB (k:=0) rfl rfl rfl (by simpa using hi) ?_;conv=>whnf
    refine bf rfl rfl rfl (aS hg rfl rfl rfl) rfl ?_;conv=>whnf
    refine CondP.mk (fun hlv=>?_) (fun hlv=>?_)<;>conv=>whnf
    case' _=>
     have h16:=(iu.ar hi hlv).2.2;refine aB (k:=0) rfl rfl rfl (by simpa using hi) ?_;conv=>whnf
     refine bw (i:=0) (k:=2) (sz':=4) (es':=u.sp[0].sl.map rL) u.sp[0].sl.length rfl rfl rfl (aS (by rw[List.drop_zero,List.take_length];exact hg) rfl rfl rfl) rfl (by simp) ?_;conv=>whnf
     simp only[List.drop_zero,List.take_length];refine aq r rfl rfl rfl (by first|omega| (simp only;omega)) (by omega) fun s s1 s2=>?_
     obtain⟨s,rfl⟩:=Int.eq_ofNat_of_zero_le s1;conv=>whnf
     refine aq r rfl rfl rfl (by first|omega| (simp only;omega)) (by omega) fun kd k1 k2=>?_
     conv=>whnf
     refine aq r rfl rfl rfl (by first|omega| (simp only;omega)) (by omega) fun pl p1 p2=>?_
     conv=>whnf
     refine aq r rfl rfl rfl (by first|omega| (simp only;omega)) (by omega) fun ow o1 o2=>?_
     conv=>whnf
     refine aq r rfl rfl rfl (by first|omega| (simp only;omega)) (by omega) fun us u1 u2=>?_
     conv=>whnf
     refine aB (k:=s) rfl rfl rfl (by rw[h16];omega) ?_;conv=>whnf
     refine cC (row':=rL ⟨kd,IntKind.wrap .i64 (pl-1),decide (ow=0),decide (us=0)⟩) rfl rfl rfl (by simp[h16];omega) (dt (fun _=>rfl)) (ck _) rfl rfl rfl ?_;conv=>whnf
     refine aY (i:=0) (k:=2) (g':=14) (lo:=0) (len:=u.sp[0].sl.length) (es2:=(aG u.sp 0 s ⟨kd,IntKind.wrap .i64 (pl-1),decide (ow=0),decide (us=0)⟩).map rP) (ov2:=[]) rfl (ag hg (by simp[rP]) (by simp only[af,if_true];rfl)) rfl rfl (by rw[List.drop_zero,List.take_of_length_le (by simp)];exact bz hi) (by simp only[ae,if_true];rfl) ?_;conv=>whnf
     refine⟨{u with sp:=aG u.sp 0 s ⟨kd,IntKind.wrap .i64 (pl-1),decide (ow=0),decide (us=0)⟩},q+6,⟨fu.rt,fu.rr,fu.st,fu.sr,by simp[aG,u5],fun s' hs'=>?_⟩,by simp[aG,u5],by omega,by omega,by simp[oM,dI,aG,List.take_of_length_le],rfl⟩;simp only[aG]at hs';obtain⟨k,hk,rfl⟩:=List.getElem_of_mem hs';rw[List.length_modify]at hk;have:=fu.ss _ (List.getElem_mem hk);rw[List.getElem_modify];split
     ·simpa using this
     ·exact this
    exact⟨u,q+1,fu,by first|omega| (simp only;omega),by omega,by omega,by simp[oM,dI],rfl⟩
   refine CondP.mk (fun d3=>?_) (fun d3=>?_)<;>conv=>whnf
   case' _=>
    refine aCD rfl rfl (by simp[u5]) ?_;conv=>whnf
    exact⟨{u with sp:=u.sp.drop 1},q+1,⟨fu.rt,fu.rr,fu.st,fu.sr,by simp[u5],fun s hs=>fu.ss s (List.mem_of_mem_drop hs)⟩,by simp[u5],by omega,by omega,by simp[oM,dI,u5,List.take_of_length_le],rfl⟩
   refine CondP.mk (fun d4=>?_) (fun d4=>?_)<;>conv=>whnf
   case' _=>
    have hi:1<u.sp.length:=by omega
    have hg:=aj (f:=rP) (List.getElem?_eq_getElem hi);refine aB (k:=1) rfl rfl rfl (by simpa using hi) ?_;conv=>whnf
    refine bw (i:=1) (k:=1) (sz':=4) (es':=u.sp[1].ar.map rA) u.sp[1].ar.length rfl rfl rfl (aS hg rfl rfl rfl) rfl (by simp) ?_;conv=>whnf
    refine gk [] [.pass] [0] (jR _ (bs.map dL)) rfl rfl rfl rfl rfl (aBX _ bs (q+1) r (by omega)) (fun t p h=>by simp[jR]at h) (hv:=.inr (by simp[jR])) ?_;rintro res H3 ⟨a,q',a1,a2,a3,a4,a5,a6,rfl,rfl⟩;refine⟨rfl,_,rfl,?_⟩;conv=>whnf
    refine bV (db:=.arr 4 [rA a] []) rfl rfl rfl ?_;conv=>whnf
    have hal:u.sp[1].ar.length≤6:=by
     have i1:=iu.ss _ (List.getElem_mem hi);cases e:u.sp[1].lv with
     |true=>exact l6 (i1.lv e).1
     |false=>rw[(i1.dd e).1];simp
    refine dS [] [] 1 (sz:=4) rfl rfl rfl rfl rfl rfl rfl rfl (by omega) (by omega) ?_;conv=>whnf
    refine aB (k:=1) rfl rfl rfl (by simpa using hi) ?_;conv=>whnf
    refine eY rfl rfl rfl rfl rfl (by simp[wrN,wr1,DV.cells,hi];rfl) ?_;conv=>whnf
    refine aY (i:=1) (k:=1) (g':=16) (lo:=0) (len:=u.sp[1].ar.length+1) (es2:=(cU u 1 (u.sp[1].ar++[a])).sp.map rP) (ov2:=[]) rfl (ag hg (by simp[rP]) (by simp only[af,if_true];rfl)) rfl rfl (by
     have e:List.take (u.sp[1].ar.length+1) (List.drop 0 (List.take u.sp[1].ar.length (List.drop 0 (u.sp[1].ar.map rA))++List.take 1 (List.drop 0 [rA a])))=(u.sp[1].ar++[a]).map rA:=by simp[List.take_of_length_le]
     rw[e];exact lQ hi) (by simp only[ae,if_true];rfl) ?_
    conv=>whnf
    refine⟨cU u 1 (u.sp[1].ar++[a]),q',⟨fu.rt,fu.rr,fu.st,fu.sr,by simp[cU,u5],fun s' hs'=>?_⟩,by simp[cU,u5],by omega,by omega,by simp[oM,dI,cU,List.take_of_length_le],rfl⟩;simp only[cU]at hs';obtain⟨k,hk,rfl⟩:=List.getElem_of_mem hs';rw[List.length_modify]at hk;have:=fu.ss _ (List.getElem_mem hk);rw[List.getElem_modify];split
    ·exact⟨by simp;omega,this.2⟩
    ·exact this
   exact⟨u,q+1,fu,by first|omega| (simp only;omega),by omega,by omega,by simp[oM,dI],rfl⟩
end Go.Qm
namespace Go.Qm
open Go.Cq Go.Cq.D Go.RowKit Go.Proofs
set_option maxRecDepth 10000
theorem zI{bs:List UInt8}{c:CV}(h:uB (bs.map dL) c):RdOk (nA c) (bs.take 2000):=by
 have hl:(bs.take 2000).length≤2000:=by rw[List.length_take];omega
 refine⟨?_,hl⟩;rcases h with⟨he,z,rfl⟩| ⟨id,base,lim,rfl⟩
 ·have he:bs=[]:=by simpa using he
  subst he;exact .inl ⟨rfl,z,rfl⟩
 ·simp only[nA,List.length_map];split
  ·exact .inr ⟨id,base+0,lim.map (· -0),by rw[List.length_map,List.length_take,Nat.min_eq_left (by omega)]⟩
  ·rw[List.take_of_length_le (by omega)];exact .inr ⟨id,base,lim,by rw[List.length_map]⟩
set_option maxHeartbeats 8000000 in
theorem um(b:Bool)(bs:List UInt8)(hl:bs.length≤1048576):du Try.prog 29 [.one (.ro b 1 (bs.map dL))] [] 0 fun x H'=>∃(m:Mem)(w a:Int),m.fits 1048576∧m.sp.length≤5∧x= .tup [oM m,.one (dI w),.one (dI a)]∧H'=[]:=by
 refine zF fun c hc=>?_
 have r:=zI hc;have ho:=xN c (bs.map dL) hc (by rw[List.length_map];omega);rw[←List.map_take]at ho ⊢;generalize nA c=c' at r ho ⊢;generalize bs.take 2000=bs' at r ho ⊢;refine d9 hmix Try.func29 ok29 (fun g p h=>by simp at h) ?_;rcases hc with⟨-,z,rfl⟩| ⟨id,base,lim,rfl⟩<;>rcases r.c with⟨-,z',rfl⟩| ⟨id',base',lim',rfl⟩<;>conv=>whnf
 all_goals
  refine zb [.pass] (jR _ (bs'.map dL)) [_,.int .i64 0] rfl rfl rfl rfl ho ?_;conv=>whnf
  refine gk [] [.pass] [1] (jR _ (bs'.map dL)) rfl rfl rfl rfl rfl (aCp _ bs' 0 r (by omega)) (fun t p h=>by simp[jR]at h) (hv:=.inr rfl) ?_;rintro res H3 ⟨m,q,j1,j5,j2,j3,rfl,rfl⟩;refine⟨rfl,_,rfl,?_⟩;conv=>whnf
  simp only[List.drop_zero,List.take_length];refine gk [] [.pass,.lend] [1] (jR _ (bs'.map dL)) (cas:=[.one (.ptr 0 0 0),aM true true true true true m]) rfl rfl (by show some [_,DV.agg [DC.ro true 1 (List.take _ (List.drop 0 _)),DC.ro true 1 (List.take _ (List.drop 0 _)),DC.ro true 1 (List.take _ (List.drop 0 _)),DC.ro true 1 (List.take _ (List.drop 0 _)),DC.ro true 3 (List.take _ (List.drop 0 _)),_]]=_;simp only[List.drop_zero,List.take_length];rfl) rfl rfl (aDN _ bs' q true true true true true m r (by omega) j5) (fun t p h=>by simp[jR]at h) (hv:=.inr rfl) ?_;rintro res H3 ⟨w,q2,w1,w2,w3,w4,rfl,rfl⟩;refine⟨rfl,_,rfl,?_⟩;conv=>whnf
  refine gk [] [.pass] [1] (jR _ (bs'.map dL)) rfl rfl rfl rfl rfl (aBL _ bs' q2 r (by omega)) (fun t p h=>by simp[jR]at h) (hv:=.inr rfl) ?_;rintro res H3 ⟨a,q3,a1,a2,a3,a4,rfl,rfl⟩;refine⟨rfl,_,rfl,?_⟩;conv=>whnf
  exact⟨m,w,a,j1,j5,by simp[oM,dI],rfl⟩
end Go.Qm
namespace Go.Qm
open Go.Cq Go.Cq.D Go.RowKit Go.Proofs
set_option maxRecDepth 10000
def tk(D:Nat×Nat)(j:Nat):List PV:=[.sc (.ptr D.1 ((D.2+j)*4+0))]
def mB(D:Nat×Nat)(kd pl:Int):Nat→List Slot→List (List PV)
 |_,[]=>[]
 |j,x::l=>(if x.kd=kd∧x.pl=pl then [tk D j]else [])++mB D kd pl (j+1) l
theorem uR{D:Nat×Nat}{kd pl:Int}:∀{l:List Slot}{j:Nat},(mB D kd pl j l).length≤l.length:=by
 intro l;induction l with
 |nil=>intro j;exact Nat.le_refl 0
 |cons x l ih=>intro j;have:=ih (j:=j+1);simp only[mB,List.length_append,List.length_cons];split<;>simp<;>omega
theorem aAv{D:Nat×Nat}{kd pl:Int}{x:Slot}:∀{l:List Slot}{j:Nat},mB D kd pl j (l++[x])=mB D kd pl j l++(if x.kd=kd∧x.pl=pl then [tk D (j+l.length)]else []):=by
 intro l;induction l with
 |nil=>intro j;simp[mB]
 |cons y l ih=>intro j;simp only[List.cons_append,mB,ih,List.append_assoc,List.length_cons,show j+1+l.length=j+(l.length+1) by omega]
theorem yP{D:Nat×Nat}{kd pl:Int}{l:List Slot}{k:Nat}(h:k<l.length):mB D kd pl 0 (l.take (k+1))=mB D kd pl 0 (l.take k)++(if l[k].kd=kd∧l[k].pl=pl then [tk D k]else []):=by rw[List.take_succ_eq_append_getElem h,aAv,List.length_take,Nat.min_eq_left (by omega),Nat.zero_add]
def J1(D:Nat×Nat):Nm:=fun t=>if t=0 then some (D.1,D.2,4)else none
theorem aDY{D:Nat×Nat}{n:Nat}(hn:0<n):∀g p,J1 D g=some p→g<n:=by
 intro g p h;unfold J1 at h;split at h
 ·omega
 ·simp at h
theorem cN{f:Nat→Option Nat}{H3 H:DH}{g t:Nat}{l:List Nat}{cs cs0:List DC}{db':DB}(h1:aF H3 t=some (.box cs))(h2:aF H g=some (.box cs0))(h3:cs.length=cs0.length)(h4:eb f (.box cs)=some db'):bB f H3 (g::l) t H=bB f H3 l (t+1) (cY g db' H):=tw h1 h2 h3 h4
set_option maxHeartbeats 1000000 in
theorem iZ(l:List Slot)(D:Nat×Nat)(kd pl:Int)(acc:List (List PV))(who:Int)(j:Nat)(hj:j<l.length)(ha:acc.length≤1000):e8 Try.prog (J1 D) 173 [.one (dI who),.one (dI j),.one (.sc (.ptr D.1 ((D.2+j)*4+0))),.one (.ptr 1 0 0),.one (.ptr 2 0 0),.one (.ptr 3 0 0)] [(0,.arr 4 (l.map rL) []),(1,.box [dI kd]),(2,.box [dI pl]),(3,.box [.own 1 acc])] 4
  fun x H'=>x= .tup []∧H'=[(0,.arr 4 (l.map rL) []),(1,.box [dI kd]),(2,.box [dI pl]),(3,.box [.own 1 (acc++if l[j].kd=kd∧l[j].pl=pl then [tk D j]else [])])]:=by
 refine d9 hmix Try.func173 ok173 (aDY (by decide)) ?_;conv=>whnf
 refine ft (g:=0) (i:=j) rfl rfl rfl rfl ?_;conv=>whnf
 refine bf rfl rfl rfl (aS (row:=rL l[j]) (by simp[hj]) rfl rfl rfl) rfl ?_;conv=>whnf
 refine CondP.mk (fun c1=>?_) (fun c1=>?_)<;>rw[c1]<;>(conv=>whnf)<;>repeat' first|(refine aE ?_;conv=>whnf)|(refine aD ?_;conv=>whnf)
 ·have c1:l[j].kd=kd:=by simpa using c1
  refine ft (g:=0) (i:=j) rfl rfl rfl rfl ?_
  (conv=>whnf)<;>repeat' first|(refine aE ?_;conv=>whnf)|(refine aD ?_;conv=>whnf)
  refine bf rfl rfl rfl (aS (row:=rL l[j]) (by simp[hj]) rfl rfl rfl) rfl ?_
  (conv=>whnf)<;>repeat' first|(refine aE ?_;conv=>whnf)|(refine aD ?_;conv=>whnf)
  refine CondP.mk (fun c2=>?_) (fun c2=>?_)<;>conv=>whnf
  ·have c2:l[j].pl=pl:=by simpa using c2
   refine bV rfl rfl rfl ?_;conv=>whnf
   refine dS [] [] 1 (sz:=1) rfl rfl rfl rfl rfl rfl rfl rfl (by omega) (by omega) ?_;conv=>whnf
   refine⟨rfl,?_⟩;rw[if_pos ⟨c1,c2⟩];simp[tk,dI,List.replicate,List.take_of_length_le]
  ·have c2:¬l[j].pl=pl:=by simpa using c2
   refine⟨rfl,?_⟩;rw[if_neg fun c=>c2 c.2];simp[dI]
 ·have c1:¬l[j].kd=kd:=by simpa using c1
  refine⟨rfl,?_⟩;rw[if_neg fun c=>c1 c.1];simp[dI]
end Go.Qm
namespace Go.Qm
open Go.Cq Go.Cq.D Go.RowKit Go.Proofs
set_option maxRecDepth 10000
def ovS(S:Nat→List Slot):List (Nat×Nat×DC):=[(0,2,.sl 2 0 (S 0).length),(1,2,.sl 3 0 (S 1).length),(2,2,.sl 4 0 (S 2).length),(3,2,.sl 5 0 (S 3).length),(4,2,.sl 6 0 (S 4).length)]
def bxO(T:Pages)(W:Pages)(hd:Int):DB:=.box [.own 1 (T.tx.map rS),.own 1 (T.rf.map rI),.own 1 (W.tx.map rS),.own 1 (W.rf.map rI),.sl 1 0 5,dI hd]
def oH(E:List (List PV))(T W:Pages)(hd:Int)(S:Nat→List Slot):DH:=[(0,bxO T W hd),(1,.arr 3 E (ovS S)),(2,.arr 4 ((S 0).map rL) []),(3,.arr 4 ((S 1).map rL) []),(4,.arr 4 ((S 2).map rL) []),(5,.arr 4 ((S 3).map rL) []),(6,.arr 4 ((S 4).map rL) [])]
def oy(Js:Nat→Nat×Nat)(S:Nat→List Slot)(kd pl:Int)(A:List (List PV)):Nat→List (List PV)
 |0=>A
 |i+1=>oy Js S kd pl A i++mB (Js i) kd pl 0 (S i)
structure NJ(J:Nm)(Js:Nat→Nat×Nat)(S:Nat→List Slot):Prop where
 lt:∀g p,J g=some p→g<7
 at5:∀i,i<5→S i≠[]→J (2+i)=some ((Js i).1,(Js i).2,4)
theorem pf{Js:Nat→Nat×Nat}{S:Nat→List Slot}{kd pl:Int}(hS:∀i,(S i).length≤16):∀{i:Nat},(oy Js S kd pl [] i).length≤16*i:=by
 intro i;induction i with
 |zero=>exact Nat.le_refl 0
 |succ i ih=>have h1:=hS i;have h2:=uR (D:=Js i) (kd:=kd) (pl:=pl) (l:=S i) (j:=0);simp only[oy,List.length_append];omega
theorem tK{D:Nat×Nat}{P:Prg}{ρ:List Nat}{g:Nat}(h0:ρ[0]?=some g)(h:P.J g=some (D.1,D.2,4)):∀t p,J1 D t=some p→∃g,ρ[t]?=some g∧P.J g=some p:=by
 intro t p ht;unfold J1 at ht;split at ht
 ·rename_i e;subst e;cases ht;exact⟨g,h0,h⟩
 ·simp at ht
set_option maxHeartbeats 4000000 in
theorem aBJ (E : List (List PV)) (T W : Pages) (hd : Int) (S : Nat → List Slot) (Js : Nat → Nat × Nat) (kd pl : Int) (hE : E.length = 5) (hr : ∀ row, row ∈ E → row.length = 3) (hS : ∀ i, (S i).length ≤ 16) (hk : kd ≠ 0) (J : Nm) (nj : NJ J Js S) :
  e8 Try.prog J 172 [.one (.ptr 0 0 0), .one (.fn 173 [(7, 0, 0), (8, 0, 0), (9, 0, 0)])] (oH E T W hd S ++ [(7, .box [dI kd]), (8, .box [dI pl]), (9, .box [.own 1 []])]) 10
  fun x H' => x = .tup [] ∧ H' = oH E T W hd S ++ [(7, .box [dI kd]), (8, .box [dI pl]), (9, .box [.own 1 (oy Js S kd pl [] 5)])] := by
 refine d9 hmix Try.func172 ok172 (fun g p h => by have := nj.lt g p h; omega) ?_; have hi3 : ∀ i, i < 5 → ∃ row, E[i]? = some row ∧ 2 < row.length := fun i hi => ⟨E[i]'(by omega), List.getElem?_eq_getElem (by omega), by rw [hr _ (List.getElem_mem _)]; omega⟩
 conv => whnf
 refine ai (fun i : Nat => [(0, .v (.one (.ptr 0 0 0))), (1, .v (.one (.fn 173 [(7, 0, 0), (8, 0, 0), (9, 0, 0)]))), (11, .v (.one (dI 5))), (12, .v (.one (dI i)))]) (fun i => oH E T W hd S ++ [(7, .box [dI kd]), (8, .box [dI pl]), (9, .box [.own 1 (oy Js S kd pl [] i)])]) (fun _ => 10)
  (fun i => i ≤ 5) (fun i => 5 - i) 0 (by omega) rfl rfl rfl fun i hi => ?_
 conv => whnf
 refine CondP.mk (fun h => ?_) (fun h => ?_) <;> conv => whnf
 ·have hi5 : i < 5 := by
              have : (i : Int) < 5 := by simpa using h
              omega
  have ha := pf (Js := Js) (kd := kd) (pl := pl) hS (i := i); have hs := hS i; obtain ⟨I, hI⟩ : ∃ I : Int, (i : Int) = I := ⟨_, rfl⟩; obtain ⟨N, hN⟩ : ∃ N, (S i).length = N := ⟨_, rfl⟩; obtain ⟨D, hD⟩ : ∃ D, Js i = D := ⟨_, rfl⟩; obtain ⟨A1, hA⟩ : ∃ A1, oy Js S kd pl [] i = A1 := ⟨_, rfl⟩; obtain ⟨F, hF⟩ : ∃ F : Nat → List (List PV), ∀ j, F j = A1 ++ mB D kd pl 0 ((S i).take j) := ⟨_, fun _ => rfl⟩; have hF0 : F 0 = A1 := by rw [hF]; simp [mB]
  have hFe : F N = oy Js S kd pl [] (i + 1) := by rw [hF, ← hN, List.take_length, oy, hD, hA]
  have hFs : ∀ j (hj : j < (S i).length), F (j + 1) = F j ++ if (S i)[j].kd = kd ∧ (S i)[j].pl = pl then [tk D j] else [] := fun j hj => by rw [hF, hF, yP hj, List.append_assoc]
  have hFl : ∀ j, (F j).length ≤ 1000 := fun j => by have := uR (D := D) (kd := kd) (pl := pl) (l := (S i).take j) (j := 0); rw [List.length_take] at this; rw [hF, List.length_append]; rw [hA] at ha; omega
  have hJ : 0 < N → (Prg.mk Try.prog J).J (2 + i) = some (D.1, D.2, 4) := fun h0 => by have := nj.at5 i hi5 (fun e => by rw [e] at hN; simp at hN; omega); rw [hD] at this; exact this
  obtain ⟨row, hrow, hrl⟩ := hi3 i hi5; obtain ⟨i1, hi1⟩ : ∃ i1, i1 = i + 1 := ⟨_, rfl⟩; have next : IntKind.wrap .i64 (I + 1) = (i1 : Int) := by rw [← hI, hi1]; exact wrap64 (by omega) (by omega)
  have hmu : 5 - i1 < 5 - i := by omega
  have hle : i1 ≤ 5 := by omega
  rw [← hi1] at hFe; rw [hI, hA]; have hc : i = 0 ∨ i = 1 ∨ i = 2 ∨ i = 3 ∨ i = 4 := by omega
  clear ha h hD hF hi hA; rcases hc with rfl | rfl | rfl | rfl | rfl
  all_goals
   refine aB rfl rfl (by show some I = _; rw [← hI]) hi5 ?_; conv => whnf
   refine bf rfl rfl rfl (ag hrow hrl rfl) rfl ?_; conv => whnf
   refine ai (fun j : Nat => [(0, .v (.one (.ptr 0 0 0))), (1, .v (.one (.fn 173 [(7, 0, 0), (8, 0, 0), (9, 0, 0)]))), (4, .v (.one (dI I))), (11, .v (.one (dI 5))), (12, .v (.one (dI I))), (23, .v (.one (dI N))), (24, .v (.one (dI j)))]) (fun j => oH E T W hd S ++ [(7, .box [dI kd]), (8, .box [dI pl]), (9, .box [.own 1 (F j)])]) (fun _ => 10)
    (fun j => j ≤ N) (fun j => N - j) 0 (by omega) (by rw [← hN]; rfl) (by rw [hF0]; rfl) rfl fun j hjN => ?_
   conv => whnf
   refine CondP.mk (fun h1 => ?_) (fun h1 => ?_) <;> conv => whnf
   ·have hj : j < N := by
               have : (j : Int) < (N : Int) := by simpa using h1
               omega
    have hJ := hJ (by omega); rw [← hN] at hj; have nextj : IntKind.wrap .i64 ((j : Int) + 1) = ((j + 1 : Nat) : Int) := wrap64 (by omega) (by omega); refine aB rfl rfl (by show some I = _; rw [← hI]) hi5 ?_; conv => whnf
    refine bf rfl rfl rfl (ag hrow hrl rfl) rfl ?_; conv => whnf
    refine aBy (k := j) rfl rfl rfl hj hJ ?_; conv => whnf
    refine ft (i := j) rfl rfl hJ ?_ ?_; rfl; conv => whnf
    refine bf rfl rfl rfl (aS (aj (f := rL) (List.getElem?_eq_getElem hj)) rfl rfl rfl) rfl ?_; conv => whnf
    refine CondP.mk (fun c0 => ?_) (fun c0 => ?_) <;> conv => whnf
    ·first
      | refine g9 [.pass, .pass, .pass, .pass, .pass, .pass] [2, 7, 8, 9] (J1 D) rfl rfl rfl rfl rfl rfl (iZ _ D kd pl (F j) _ j hj (hFl j)) (tK rfl hJ) rfl ((aa rfl rfl (by rfl)).trans ((cN rfl rfl (by rfl) rfl).trans ((cN rfl rfl (by rfl) rfl).trans ((cN rfl rfl (by rfl) rfl).trans rfl)))) ?_
      | refine g9 [.pass, .pass, .pass, .pass, .pass, .pass] [3, 7, 8, 9] (J1 D) rfl rfl rfl rfl rfl rfl (iZ _ D kd pl (F j) _ j hj (hFl j)) (tK rfl hJ) rfl ((aa rfl rfl (by rfl)).trans ((cN rfl rfl (by rfl) rfl).trans ((cN rfl rfl (by rfl) rfl).trans ((cN rfl rfl (by rfl) rfl).trans rfl)))) ?_
      | refine g9 [.pass, .pass, .pass, .pass, .pass, .pass] [4, 7, 8, 9] (J1 D) rfl rfl rfl rfl rfl rfl (iZ _ D kd pl (F j) _ j hj (hFl j)) (tK rfl hJ) rfl ((aa rfl rfl (by rfl)).trans ((cN rfl rfl (by rfl) rfl).trans ((cN rfl rfl (by rfl) rfl).trans ((cN rfl rfl (by rfl) rfl).trans rfl)))) ?_
      | refine g9 [.pass, .pass, .pass, .pass, .pass, .pass] [5, 7, 8, 9] (J1 D) rfl rfl rfl rfl rfl rfl (iZ _ D kd pl (F j) _ j hj (hFl j)) (tK rfl hJ) rfl ((aa rfl rfl (by rfl)).trans ((cN rfl rfl (by rfl) rfl).trans ((cN rfl rfl (by rfl) rfl).trans ((cN rfl rfl (by rfl) rfl).trans rfl)))) ?_
      | refine g9 [.pass, .pass, .pass, .pass, .pass, .pass] [6, 7, 8, 9] (J1 D) rfl rfl rfl rfl rfl rfl (iZ _ D kd pl (F j) _ j hj (hFl j)) (tK rfl hJ) rfl ((aa rfl rfl (by rfl)).trans ((cN rfl rfl (by rfl) rfl).trans ((cN rfl rfl (by rfl) rfl).trans ((cN rfl rfl (by rfl) rfl).trans rfl)))) ?_
     conv => whnf
     rw [← hFs j hj]; refine ⟨j + 1, by omega, by omega, ?_, rfl, rfl⟩; rw [nextj]; rfl
    ·have hs1 := hFs j hj; rw [if_neg (fun c => hk (by rw [← c.1]; simpa using c0)), List.append_nil] at hs1; refine ⟨j + 1, by omega, by omega, ?_, by rw [hs1]; rfl, rfl⟩; rw [nextj]; rfl
   ·have : j = N := by
              have : ¬ (j : Int) < (N : Int) := by simpa using h1
              omega
    subst this; refine ⟨i1, hmu, hle, ?_, by rw [hFe]; rfl, rfl⟩; rw [next]; rfl
 ·have : i = 5 := by
            have : ¬ (i : Int) < 5 := by simpa using h
            omega
  subst this; exact ⟨rfl, rfl⟩
end Go.Qm
namespace Go.Qm
open Go.Cq Go.Cq.D Go.RowKit Go.Proofs
set_option maxRecDepth 10000
theorem oT{f:Nat→Option Nat}{H3 H:DH}{g t sz:Nat}{l:List Nat}{es es0:List (List PV)}{ov ov0:List (Nat×Nat×DC)}{db':DB}(h1:aF H3 t=some (.arr sz es ov))(h2:aF H g=some (.arr sz es0 ov0))(h3:es.length=es0.length)(h4:eb f (.arr sz es ov)=some db'):bB f H3 (g::l) t H=bB f H3 l (t+1) (cY g db' H):=tw h1 h2 ⟨rfl,h3⟩ h4
theorem NJ.of{J:Nm}{Js:Nat→Nat×Nat}{S:Nat→List Slot}(nj:NJ J Js S){P:Program}{ρ:List Nat}(h:∀t,t<7→ρ[t]?=some t):∀t p,J t=some p→∃g,ρ[t]?=some g∧(Prg.mk P J).J g=some p:=fun t p ht=>⟨t,h t (nj.lt t p ht),ht⟩
theorem lt7{p:Nat→Prop}(h:p 0∧p 1∧p 2∧p 3∧p 4∧p 5∧p 6):∀t,t<7→p t:=by
 intro t ht;have:t=0∨t=1∨t=2∨t=3∨t=4∨t=5∨t=6:=by omega
 rcases this with rfl|rfl|rfl|rfl|rfl|rfl|rfl
 ·exact h.1
 ·exact h.2.1
 ·exact h.2.2.1
 ·exact h.2.2.2.1
 ·exact h.2.2.2.2.1
 ·exact h.2.2.2.2.2.1
 ·exact h.2.2.2.2.2.2
set_option maxHeartbeats 2000000 in
theorem aC0(E:List (List PV))(T W:Pages)(hd:Int)(S:Nat→List Slot)(Js:Nat→Nat×Nat)(kd pl:Int)(hE:E.length=5)(hr:∀row,row∈E→row.length=3)(hS:∀i,(S i).length≤16)(hk:kd≠0)(J:Nm)(nj:NJ J Js S):
  e8 Try.prog J 145 [.one (.ptr 0 0 0),.one (dI kd),.one (dI pl)] (oH E T W hd S) 7
  fun x H'=>x= .v (.one (.own 1 (oy Js S kd pl [] 5)))∧H'=oH E T W hd S:=by
 refine d9 hmix Try.func145 ok145 nj.lt ?_;conv=>whnf
 refine bV rfl rfl rfl ?_;conv=>whnf
 refine aAk rfl rfl ?_;conv=>whnf
 refine iy [] [.pass,.pass] [0,1,2,3,4,5,6,7,8,10] J rfl rfl rfl rfl rfl (aBJ E T W hd S Js kd pl hE hr hS hk J nj) (nj.of (lt7 ⟨rfl,rfl,rfl,rfl,rfl,rfl,rfl⟩)) rfl
  ((cN rfl rfl (by rfl) rfl).trans ((oT rfl rfl (by rfl) rfl).trans ((aa rfl rfl (by rfl)).trans ((aa rfl rfl (by rfl)).trans ((aa rfl rfl (by rfl)).trans ((aa rfl rfl (by rfl)).trans ((aa rfl rfl (by rfl)).trans ((cN rfl rfl (by rfl) rfl).trans ((cN rfl rfl (by rfl) rfl).trans ((cN rfl rfl (by rfl) rfl).trans rfl)))))))))) ?_
 conv=>whnf
 refine⟨?_,rfl⟩;simp
end Go.Qm
namespace Go.Qm
open Go.Cq Go.Cq.D Go.RowKit Go.Proofs
set_option maxRecDepth 10000
def kr(kd pl:Int):Nat→List Slot→List Nat
 |_,[]=>[]
 |j,x::l=>(if x.kd=kd∧x.pl=pl then [j]else [])++kr kd pl (j+1) l
theorem aBh{D:Nat×Nat}{kd pl:Int}:∀{l:List Slot}{j:Nat},mB D kd pl j l=(kr kd pl j l).map (tk D):=by
 intro l;induction l with
 |nil=>intro j;rfl
 |cons x l ih=>intro j;simp only[mB,kr,List.map_append,ih];split<;>rfl
theorem ya{kd pl:Int}{k:Nat}:∀{l:List Slot}{j:Nat},k∈kr kd pl j l↔j≤k∧∃x,l[k-j]?=some x∧x.kd=kd∧x.pl=pl:=by
 intro l;induction l with
 |nil=>intro j;simp[kr]
 |cons x l ih=>
  intro j;simp only[kr,List.mem_append,ih];constructor
  ·rintro(h| ⟨h1,y,h2,h3⟩)
   ·split at h
    ·rename_i c;simp only[List.mem_singleton]at h;subst h;exact⟨Nat.le_refl _,x,by simp,c⟩
    ·simp at h
   ·refine⟨by omega,y,?_,h3⟩;rw[show k-j=(k-(j+1))+1 by omega,List.getElem?_cons_succ];exact h2
  ·rintro⟨h1,y,h2,h3⟩;by_cases c:k=j
   ·subst c;simp only[Nat.sub_self,List.getElem?_cons_zero,Option.some.injEq]at h2;subst h2;rw[if_pos h3];exact .inl (by simp)
   ·rw[show k-j=(k-(j+1))+1 by omega,List.getElem?_cons_succ]at h2;exact .inr ⟨by omega,y,h2,h3⟩
def jd(S:Nat→List Slot)(kd pl:Int):Nat→List (Nat×Nat)
 |0=>[]
 |i+1=>jd S kd pl i++(kr kd pl 0 (S i)).map fun j=>(i,j)
def tkP(Js:Nat→Nat×Nat)(p:Nat×Nat):List PV:=tk (Js p.1) p.2
theorem ny{Js:Nat→Nat×Nat}{S:Nat→List Slot}{kd pl:Int}:∀{n:Nat},oy Js S kd pl [] n=(jd S kd pl n).map (tkP Js):=by
 intro n;induction n with
 |zero=>rfl
 |succ n ih=>simp only[oy,jd,ih,aBh,List.map_append,List.map_map];rfl
theorem lz{S:Nat→List Slot}{kd pl:Int}{i j:Nat}:∀{n:Nat},(i,j)∈jd S kd pl n↔i<n∧∃x,(S i)[j]?=some x∧x.kd=kd∧x.pl=pl:=by
 intro n;induction n with
 |zero=>simp[jd]
 |succ n ih=>
  simp only[jd,List.mem_append,ih,List.mem_map,Prod.mk.injEq,ya];constructor
  ·rintro(⟨h1,h2⟩| ⟨k,⟨-,h2⟩,h3,h4⟩)
   ·exact⟨by omega,h2⟩
   ·subst h3 h4;exact⟨by omega,h2⟩
  ·rintro⟨h1,h2⟩;by_cases c:i=n
   ·subst c;exact .inr ⟨j,⟨Nat.zero_le _,h2⟩,rfl,rfl⟩
   ·exact .inl ⟨by omega,h2⟩
def eg(f:Slot→Slot)(S:Nat→List Slot)(L:List (Nat×Nat)):Nat→List Slot:=fun t=>(S t).mapIdx fun j x=>if(t,j)∈L then f x else x
def rX(S:Nat→List Slot)(i j:Nat)(y:Slot):Nat→List Slot:=fun t=>if t=i then(S t).set j y else S t
theorem oJ{f:Slot→Slot}{S:Nat→List Slot}:eg f S []=S:=by
 funext t;refine List.ext_getElem? fun k=>?_
 simp only[eg,List.getElem?_mapIdx,List.not_mem_nil,if_false];cases (S t)[k]?<;>rfl
theorem iz{f:Slot→Slot}{S:Nat→List Slot}{L:List (Nat×Nat)}{i j:Nat}{x:Slot}(h:(S i)[j]?=some x):(eg f S L i)[j]?=some (if(i,j)∈L then f x else x):=by simp only[eg,List.getElem?_mapIdx,h,Option.map_some]
theorem sq{f:Slot→Slot}{S:Nat→List Slot}{L:List (Nat×Nat)}{t:Nat}:(eg f S L t).length=(S t).length:=by simp[eg]
theorem m0{f:Slot→Slot}{S:Nat→List Slot}{L:List (Nat×Nat)}{q i j:Nat}{x:Slot}(hq:q<L.length)(he:L[q]=(i,j))(hx:(S i)[j]?=some x):eg f S (L.take (q+1))=rX (eg f S (L.take q)) i j (f x):=by
 funext t;rw[List.take_succ_eq_append_getElem hq,he];refine List.ext_getElem? fun k=>?_
 simp only[eg,rX,List.mem_append,List.mem_singleton,Prod.mk.injEq,List.getElem?_mapIdx];by_cases c:t=i
 ·subst c;rw[if_pos rfl,List.getElem?_set];by_cases c2:j=k
  ·subst c2;obtain⟨hj,hx'⟩:=List.getElem?_eq_some_iff.1 hx;simp[hj,hx']
  ·have c3:¬k=j:=fun e=>c2 e.symm
   simp[c2,c3,List.getElem?_mapIdx]
 ·simp[c,List.getElem?_mapIdx]
theorem zp{f:Slot→Slot}{S:Nat→List Slot}{kd pl:Int}(h0:∀t,5≤t→S t=[]):eg f S (jd S kd pl 5)=fun t=>(S t).map fun x=>if x.kd=kd∧x.pl=pl then f x else x:=by
 funext t;refine List.ext_getElem? fun k=>?_
 simp only[eg,List.getElem?_mapIdx,List.getElem?_map,lz];cases e:(S t)[k]? with
 |none=>rfl
 |some x=>
  have ht:t<5:=by
   rcases Nat.lt_or_ge t 5 with c|c
   ·exact c
   ·rw[h0 t c]at e;simp at e
  simp only[Option.map_some,Option.some.injEq];by_cases c:x.kd=kd∧x.pl=pl
  ·rw[if_pos ⟨ht,x,rfl,c⟩,if_pos c]
  ·rw[if_neg c,if_neg (by rintro⟨-,y,h2,h3⟩;rw[Option.some.injEq]at h2;subst h2;exact c h3)]
def qt(S:Nat→List Slot)(L:List (Nat×Nat)):Bool:=L.any fun p=>((S p.1)[p.2]?.map (·.us)).getD false
theorem vJ{S:Nat→List Slot}{L:List (Nat×Nat)}{q i j:Nat}{x:Slot}(hq:q<L.length)(he:L[q]=(i,j))(hx:(S i)[j]?=some x):qt S (L.take (q+1))=(qt S (L.take q)||(if(i,j)∈L.take q then dh x else x).us):=by
 rw[List.take_succ_eq_append_getElem hq,he];simp only[qt,List.any_append,List.any_cons,List.any_nil,Bool.or_false,hx,Option.map_some,Option.getD_some];by_cases c:(i,j)∈L.take q
 ·rw[if_pos c];show _=(_||false);rw[Bool.or_false];cases hu:x.us with
  |false=>rw[Bool.or_false]
  |true=>have:(L.take q).any (fun p=>((S p.1)[p.2]?.map (·.us)).getD false)=true:=List.any_eq_true.2 ⟨(i,j),c,by simp[hx,hu]⟩;rw[this];rfl
 ·rw[if_neg c]
def spS(sp:List Space):Nat→List Slot:=fun t=>(sp[t]?.map (·.sl)).getD []
theorem jP{sp:List Space}{i:Nat}(h:i<sp.length):spS sp i=sp[i].sl:=by simp[spS,h]
theorem oz{sp:List Space}{i:Nat}(h:sp.length≤i):spS sp i=[]:=by simp[spS,h]
theorem rm{kd pl:Int}{f:Slot→Slot}{sp:List Space}:spS (aZ kd pl f sp)=fun t=>(spS sp t).map fun x=>if x.kd=kd∧x.pl=pl then f x else x:=by funext t;simp only[spS,aZ,List.getElem?_map];cases sp[t]?<;>rfl
theorem pJ{kd pl:Int}{f:Slot→Slot}{sp:List Space}(h:sp.length=5):eg f (spS sp) (jd (spS sp) kd pl 5)=spS (aZ kd pl f sp):=by rw[rm,zp fun t ht=>oz (by omega)]
theorem aAF{kd pl:Int}{sp:List Space}(h:sp.length=5):qt (spS sp) (jd (spS sp) kd pl 5)=dP kd pl sp:=by
 rw[Bool.eq_iff_iff];simp only[qt,dP,List.any_eq_true,Bool.and_eq_true,decide_eq_true_eq];constructor
 ·rintro⟨⟨i,j⟩,h1,h2⟩;obtain⟨hi,x,hx,hk⟩:=lz.1 h1;have hi':i<sp.length:=by omega
  simp only[hx,Option.map_some,Option.getD_some]at h2;rw[jP hi']at hx;exact⟨sp[i],List.getElem_mem hi',x,List.mem_of_getElem? hx,hk,h2⟩
 ·rintro⟨s,hs,x,hx,hk,hu⟩;obtain⟨i,hi,rfl⟩:=List.getElem_of_mem hs;obtain⟨j,hj,rfl⟩:=List.getElem_of_mem hx;have e:(spS sp i)[j]?=some sp[i].sl[j]:=by rw[jP hi,List.getElem?_eq_getElem hj]
  exact⟨(i,j),lz.2 ⟨by omega,_,e,hk⟩,by simp only[e,Option.map_some,Option.getD_some];exact hu⟩
theorem w6{sp:List Space}{i j:Nat}{y:Slot}:spS (aG sp i j y)=rX (spS sp) i j y:=by
 funext t;simp only[spS,aG,rX,List.getElem?_modify];by_cases c:t=i
 ·subst c;simp only[if_true];cases sp[t]?<;>rfl
 ·have c':¬i=t:=fun e=>c e.symm
  simp only[c,c',if_false];cases sp[t]?<;>rfl
theorem aB5{S:Nat→List Slot}{i j:Nat}{y:Slot}:ovS (rX S i j y)=ovS S:=by
 have:∀t,(rX S i j y t).length=(S t).length:=fun t=>by unfold rX;split<;>simp
 simp only[ovS,this]
theorem pH{E:List (List PV)}{T W:Pages}{hd:Int}{S:Nat→List Slot}{i j:Nat}{y:Slot}(hi:i<5):cY (2+i) (.arr 4 (((S i).set j y).map rL) []) (oH E T W hd S)=oH E T W hd (rX S i j y):=by
 have hc:i=0∨i=1∨i=2∨i=3∨i=4:=by omega
 unfold oH;rw[aB5];rcases hc with rfl|rfl|rfl|rfl|rfl<;>rfl
end Go.Qm
namespace Go.Qm
open Go.Cq Go.Cq.D Go.RowKit Go.Proofs
set_option maxRecDepth 10000
def kI(l:List Int):Int:=if aJ l<l.length then(aJ l:Int)else-1
theorem ri(b1 b2:Bool)(p:Pages)(hl:p.rf.length≤1048576):bC Try.prog 150 [.agg [.ro b1 1 (p.tx.map rS),.ro b2 1 (p.rf.map rI)]] (.v (.one (dI (kI p.rf)))):=by
 refine aQ hmix Try.func150 ok150 ?_;conv=>whnf
 refine ai (fun i:Nat=>[(6,.v (.one (.ro b2 1 (p.rf.map rI)))),(7,.v (.one (dI p.rf.length))),(8,.v (.one (dI i)))]) (fun _=>[]) (fun _=>0)
  (fun i=>i≤p.rf.length∧i≤aJ p.rf) (fun i=>p.rf.length-i) 0 (by omega) (by simp[dI]) rfl rfl fun i hi=>?_
 conv=>whnf
 refine CondP.mk (fun h=>?_) (fun h=>?_)<;>conv=>whnf
 ·have hlt:i<p.rf.length:=by simpa using h
  refine aK (k:=i) rfl rfl (by simpa using hlt) ?_;conv=>whnf
  refine aH rfl (r:=.one (dI p.rf[i])) (by simp[an,rI,hlt,eI,dI]) ?_;conv=>whnf
  refine CondP.mk (fun h1=>?_) (fun h1=>?_)<;>conv=>whnf
  ·have h1:p.rf[i]=0:=by simpa using h1
   have e:aJ p.rf=i:=by have:=mV hlt h1;omega
   refine⟨?_,rfl⟩;rw[kI,e,if_pos hlt];rfl
  ·have h1:¬p.rf[i]=0:=by simpa using h1
   refine⟨i+1,by omega,⟨by omega,?_⟩,?_,rfl,rfl⟩
   ·rcases Nat.lt_or_ge i (aJ p.rf)with c|c
    ·omega
    ·have e:aJ p.rf=i:=by omega
     have:=gl (l:=p.rf) (by omega);simp only[e]at this;exact absurd this h1
   ·rw[up hlt (by omega)];rfl
 ·have:¬i<p.rf.length:=by simpa using h
  refine⟨?_,rfl⟩;rw[kI,if_neg (by omega)];rfl
end Go.Qm
namespace Go.Qm
open Go.Cq Go.Cq.D Go.RowKit Go.Proofs
set_option maxRecDepth 10000
theorem NJ.same{J:Nm}{Js:Nat→Nat×Nat}{S S':Nat→List Slot}(h:NJ J Js S)(hl:∀t,(S' t).length=(S t).length):NJ J Js S':=⟨h.lt,fun i hi hne=>h.at5 i hi fun e=>hne (List.eq_nil_of_length_eq_zero (by rw[hl,e];rfl))⟩
def oHm(E:List (List PV))(m:Mem):DH:=oH E m.ram m.swp m.hd (spS m.sp)
theorem aC4{J:Nm}{E:List (List PV)}{m:Mem}(h1:∀g p,J g=some p→g<7)(h2:∀g sz es ov,aF (oHm E m) g=some (.arr sz es ov)→es≠[]→∃id base,J g=some (id,base,sz)):∃Js,NJ J Js (spS m.sp):=by
 have:∀i,∃D:Nat×Nat,i<5→spS m.sp i≠[]→J (2+i)=some (D.1,D.2,4):=fun i=>by
  by_cases c:i<5∧spS m.sp i≠[]
  ·have hg:aF (oHm E m) (2+i)=some (.arr 4 ((spS m.sp i).map rL) []):=by
    have hc:i=0∨i=1∨i=2∨i=3∨i=4:=by omega
    rcases hc with rfl|rfl|rfl|rfl|rfl<;>rfl
   obtain⟨id,base,e⟩:=h2 _ _ _ _ hg (by simpa using c.2);exact⟨(id,base),fun _ _=>e⟩
  ·exact⟨(0,0),fun a b=>absurd ⟨a,b⟩ c⟩
 obtain⟨Js,hJ⟩:=Classical.axiomOfChoice this;exact⟨Js,h1,hJ⟩
theorem yN{kd pl:Int}{g:Slot→Slot}(hg:∀x,(g x).kd=x.kd∧(g x).pl=x.pl):∀{l:List Slot}{j:Nat},kr kd pl j (l.map g)=kr kd pl j l:=by
 intro l;induction l with
 |nil=>intro j;rfl
 |cons x l ih=>intro j;simp only[List.map_cons,kr,ih,(hg x).1,(hg x).2]
theorem z5{S:Nat→List Slot}{kd pl:Int}{g:Slot→Slot}(hg:∀x,(g x).kd=x.kd∧(g x).pl=x.pl):∀{n:Nat},jd (fun t=>(S t).map g) kd pl n=jd S kd pl n:=by
 intro n;induction n with
 |zero=>rfl
 |succ n ih=>simp only[jd,ih,yN hg]
theorem xc{m:Mem}{kd pl p:Int}{n:Nat}:jd (spS (dF m p).sp) kd pl n=jd (spS m.sp) kd pl n:=by simp only[dF,rm];exact z5 fun x=>by split<;>exact⟨rfl,rfl⟩
theorem aAl{J:Nm}{Js:Nat→Nat×Nat}{S:Nat→List Slot}{L:List (Nat×Nat)}{kd pl:Int}{P:Program}(nj:NJ J Js S)(hL:jd S kd pl 5=L)(q:Nat)(hq:q<L.length):∃i j x,L[q]=(i,j)∧i<5∧(S i)[j]?=some x∧(Prg.mk P J).J (2+i)=some ((Js i).1,(Js i).2,4):=by
 have hm:=List.getElem_mem hq;cases hp:L[q]with
 |mk i j=>rw[hp,←hL,lz]at hm;obtain⟨h1,x,h2, -⟩:=hm;exact⟨i,j,x,rfl,h1,h2,nj.at5 i h1 fun e=>by rw[e]at h2;simp at h2⟩
theorem eF{α β:Type}{f:α→β}{l:List α}(h:l.length=12):(l.map f).take 12=l.map f:=List.take_of_length_le (by simp[h])
def nW(m:Mem)(but:Int):Int:=match bT m but with
 |some m'=>aJ m'.ram.rf
 |none=> -1
set_option maxHeartbeats 4000000 in
theorem wa(E:List (List PV))(m:Mem)(but:Int)(w:Wf m)(hE:E.length=5)(hr:∀row,row∈E→row.length=3):
  du Try.prog 92 [.one (.ptr 0 0 0),.one (dI but)] (oHm E m) 7
  fun x H'=>x= .tup [.one (dI (nW m but)),.one (dB (bT m but).isSome)]∧H'=oHm E ((bT m but).getD m):=by
 refine rK hmix Try.func92 ok92 fun J hJ1 hJ2=>?_
 obtain⟨Js,nj⟩:=aC4 hJ1 hJ2;clear hJ1 hJ2;have l:=w.L;conv=>whnf
 refine aC (cas:=[.agg [.ro true 1 (m.ram.tx.map rS),.ro true 1 (m.ram.rf.map rI)]]) [.lend] rfl (by show some [DV.agg [DC.ro true 1 (List.take _ (List.drop 0 _)),DC.ro true 1 (List.take _ (List.drop 0 _))]]=_;simp only[List.drop_zero,List.take_length]) rfl (ri true true m.ram (by rw[l.rr];omega)) rfl ?_;conv=>whnf
 have hfi:∀p:Pages,decide (0≤kI p.rf)=decide (aJ p.rf<p.rf.length):=fun p=>by
  unfold kI;split
  ·rename_i c;rw[decide_eq_true c,decide_eq_true (by omega)]
  ·rename_i c;rw[decide_eq_false c,decide_eq_false (by omega)]
 simp only[List.drop_zero,List.take_length];refine CondP.mk (fun h=>?_) (fun h=>?_)<;>conv=>whnf
 ·have h:aJ m.ram.rf<m.ram.rf.length:=by rw[hfi]at h;simpa using h
  have e:bT m but=some m:=by rw[bT,if_pos h]
  rw[nW,e,kI,if_pos h];exact⟨rfl,rfl⟩
 have h:¬aJ m.ram.rf<m.ram.rf.length:=by rw[hfi]at h;simpa using h
 refine aC (cas:=[.agg [.ro true 1 (m.swp.tx.map rS),.ro true 1 (m.swp.rf.map rI)]]) [.lend] rfl (by show some [DV.agg [DC.ro true 1 (List.take _ (List.drop 0 _)),DC.ro true 1 (List.take _ (List.drop 0 _))]]=_;simp only[List.drop_zero,List.take_length]) rfl (ri true true m.swp (by rw[l.sr];omega)) rfl ?_;conv=>whnf
 have hfl:∀p:Pages,decide (kI p.rf<0)= !decide (aJ p.rf<p.rf.length):=fun p=>by
  unfold kI;split
  ·rename_i c;rw[decide_eq_true c,decide_eq_false (by omega)];rfl
  ·rename_i c;rw[decide_eq_false c,decide_eq_true (by omega)];rfl
 simp only[List.drop_zero,List.take_length];refine CondP.mk (fun h2=>?_) (fun h2=>?_)<;>conv=>whnf
 ·have h2:¬aJ m.swp.rf<m.swp.rf.length:=by rw[hfl]at h2;simpa using h2
  have e:bT m but=none:=by rw[bT,if_neg h,if_neg h2]
  rw[nW,e];exact⟨rfl,rfl⟩
 have h2:aJ m.swp.rf<m.swp.rf.length:=by rw[hfl]at h2;simpa using h2
 have e:bT m but=some (cn m but):=by rw[bT,if_neg h,if_pos h2]
 rw[nW,e,kI,if_pos h2];simp only[Option.getD_some,Option.isSome_some];rw[w.swp.rf]at h2;obtain⟨F,hF⟩:∃F,aJ m.swp.rf=F:=⟨_,rfl⟩;rw[hF]at h2 ⊢;refine ai (fun s:Mem×DTs=>(0,.v (.one (.ptr 0 0 0)))::(1,.v (.one (dI but)))::(7,.v (.one (dI F)))::s.2) (fun s=>oHm E s.1) (fun _=>7)
  (fun s=>Wf s.1∧aJ s.1.swp.rf=F∧cn s.1 but=cn m but∧∀t,(spS s.1.sp t).length=(spS m.sp t).length) (fun s=>mu s.1 but) (m,_) ⟨w,hF,rfl,fun _=>rfl⟩ rfl rfl rfl fun s hs=>?_
 clear l w h e hF;obtain⟨s,rest⟩:=s;obtain⟨ws,hf,hr2,hlS⟩:=hs;simp only at ws hf hr2 hlS;obtain⟨a,ha⟩:=Int.eq_ofNat_of_zero_le ws.hd.1;have ha12:a<12:=by have:=ws.hd;omega
 conv=>whnf
 refine fC rfl ?_;conv=>whnf
 simp only[rE ws.hd];refine CondP.mk (fun h3=>?_) (fun h3=>?_)<;>conv=>whnf
 ·have h3:s.hd=but:=by simpa using h3
  have hc:clk s but= .inl (cr s):=by rw[clk,if_pos h3]
  exact⟨(cr s,_),gw hc,⟨ws.hand,hf,by rw[←hr2,fv hc],hlS⟩,rfl,rfl,rfl⟩
 have h3:¬s.hd=but:=by simpa using h3
 have nj1:=nj.same hlS;have hS16:∀i,(spS s.sp i).length≤16:=fun i=>by
  rcases Nat.lt_or_ge i s.sp.length with c|c
  ·rw[jP c];exact ws.sl _ (List.getElem_mem c)
  ·rw[oz c];exact Nat.zero_le _
 refine iy [] [.pass,.pass,.pass] [0,1,2,3,4,5,6] J rfl rfl rfl rfl rfl (aC0 E s.ram s.swp ((s.hd+1) % 12) (spS s.sp) Js 1 s.hd hE hr hS16 (by decide) J nj1) (nj1.of (lt7 ⟨rfl,rfl,rfl,rfl,rfl,rfl,rfl⟩)) rfl
  ((cN rfl rfl (by rfl) rfl).trans ((oT rfl rfl (by rfl) rfl).trans ((aa rfl rfl (by rfl)).trans ((aa rfl rfl (by rfl)).trans ((aa rfl rfl (by rfl)).trans ((aa rfl rfl (by rfl)).trans ((aa rfl rfl (by rfl)).trans rfl))))))) ?_
 conv=>whnf
 simp only[List.drop_zero,List.take_length,ny];obtain⟨S,hSe⟩:∃S,spS s.sp=S:=⟨_,rfl⟩;rw[hSe]at nj1 hS16;simp only[hSe];obtain⟨L,hL⟩:∃L,jd S 1 s.hd 5=L:=⟨_,rfl⟩;simp only[hL,List.length_map];obtain⟨N,hN⟩:∃N,L.length=N:=⟨_,rfl⟩;simp only[hN];have hN80:N≤1000:=by have:=pf (Js:=Js) (kd:=1) (pl:=s.hd) hS16 (i:=5);rw[ny,hL,List.length_map,hN]at this;omega
 refine ai (fun z:Nat×Bool=>[(0,.v (.one (.ptr 0 0 0))),(1,.v (.one (dI but))),(7,.v (.one (dI F))),(8,.v (.one (dI s.hd))),(9,.v (.one (.sl 7 0 N))),(10,.v (.one (dB z.2))),(49,.v (.one (.sl 7 0 N))),(50,.v (.one (dI N))),(51,.v (.one (dI z.1)))])
  (fun z=>(7,.arr 1 (L.map (tkP Js)) [])::oH E s.ram s.swp ((s.hd+1) % 12) (eg dh S (L.take z.1))) (fun _=>8)
  (fun z=>z.1≤N∧z.2=qt S (L.take z.1)) (fun z=>N-z.1) (0,false) ⟨Nat.zero_le _,rfl⟩ rfl (by rw[List.take_zero,oJ];rfl) rfl fun z hz=>?_
 obtain⟨q,u⟩:=z;obtain⟨hqN,hu⟩:=hz;simp only at hqN hu;conv=>whnf
 refine CondP.mk (fun h4=>?_) (fun h4=>?_)<;>conv=>whnf
 ·have hq:q<L.length:=by
                 have:(q:Int)< (N:Int):=by simpa using h4
                 omega
  obtain⟨i,j,x,he,hi5,hx,hJ⟩:=aAl (P:=Try.prog) nj1 hL q hq;have hrow:(L.map (tkP Js))[q]?=some (tk (Js i) j):=by simp[hq,he,tkP]
  have hst:cY (2+i) (.arr 4 (((eg dh S (L.take q) i).map rL).modify j (fun row=>row.set 3 (.sc (.bool false)))) []) (oH E s.ram s.swp ((s.hd+1) % 12) (eg dh S (L.take q)))=oH E s.ram s.swp ((s.hd+1) % 12) (eg dh S (L.take (q+1))):=by rw[m0 hq he hx,←pH hi5,ao (aj (f:=rL) (iz hx)),←map_set];split<;>rfl
  have hx':=iz (f:=dh) (L:=L.take q) hx;have hu':=vJ hq he hx;rw[←hu]at hu';obtain⟨S',hS'⟩:∃S',eg dh S (L.take q)=S':=⟨_,rfl⟩;obtain⟨x',hxe⟩:∃x',(if(i,j)∈L.take q then dh x else x)=x':=⟨_,rfl⟩;rw[hS']at hst hx';rw[hxe]at hx' hu';simp only[hS'];obtain⟨D,hD⟩:∃D,Js i=D:=⟨_,rfl⟩;rw[hD]at hrow hJ;have hjl:j< (S' i).length:=(List.getElem?_eq_some_iff.1 hx').1;have nextq:IntKind.wrap .i64 ((q:Int)+1)=((q+1:Nat):Int):=wrap64 (by omega) (by omega);refine aB (k:=q) rfl rfl rfl (by omega) ?_;conv=>whnf
  refine bf rfl rfl rfl (aS hrow rfl rfl rfl) rfl ?_;conv=>whnf
  have hc:i=0∨i=1∨i=2∨i=3∨i=4:=by omega
  clear hx hD he hxe hS' hi5;cases u
  ·(conv=>whnf)<;>repeat' first|(refine aE ?_;conv=>whnf)|(refine aD ?_;conv=>whnf)
   rcases hc with rfl|rfl|rfl|rfl|rfl
   all_goals
    refine ft (i:=j) rfl rfl hJ rfl ?_
    (conv=>whnf)<;>repeat' first|(refine aE ?_;conv=>whnf)|(refine aD ?_;conv=>whnf)
    refine bf rfl rfl rfl (aS (aj (f:=rL) hx') rfl rfl rfl) rfl ?_;conv=>whnf
    refine ft (i:=j) rfl rfl hJ rfl ?_;conv=>whnf
    refine aN rfl rfl rfl (by simpa using hjl) (by decide) ?_;conv=>whnf
    refine⟨(q+1,x'.us),by show N-(q+1)<N-q;omega,⟨by show q+1≤N;omega,by rw[hu'];rfl⟩,?_,by rw[←hst];rfl,rfl⟩;rw[nextq];rfl
  ·(conv=>whnf)<;>repeat' first|(refine aE ?_;conv=>whnf)|(refine aD ?_;conv=>whnf)
   rcases hc with rfl|rfl|rfl|rfl|rfl
   all_goals
    refine ft (i:=j) rfl rfl hJ rfl ?_;conv=>whnf
    refine aN rfl rfl rfl (by simpa using hjl) (by decide) ?_;conv=>whnf
    refine⟨(q+1,true),by show N-(q+1)<N-q;omega,⟨by show q+1≤N;omega,by rw[hu'];rfl⟩,?_,by rw[←hst];rfl,rfl⟩;rw[nextq];rfl
 have hqe:q=N:=by
             have:¬(q:Int)< (N:Int):=by simpa using h4
             omega
 subst hqe;have w2:=ws.hand.calm s.hd;have l2:=w2.L;have hSc:eg dh S (L.take q)=spS (dF (cr s) s.hd).sp:=by rw[List.take_of_length_le (by omega),←hL,←hSe];exact pJ ws.sp
 have huc:u=dP 1 s.hd s.sp:=by rw[hu,List.take_of_length_le (by omega),←hL,←hSe];exact aAF ws.sp
 simp only[hSc];refine CondP.mk (fun h5=>?_) (fun h5=>?_)<;>conv=>whnf
 ·have hc:clk s but= .inl (dF (cr s) s.hd):=by rw[clk,if_neg h3,if_pos (huc.symm.trans h5)]
  refine⟨(dF (cr s) s.hd,_),gw hc,⟨w2,hf,by rw[←hr2,fv hc],fun t=>?_⟩,rfl,rfl,rfl⟩;show(spS (dF (cr s) s.hd).sp t).length=_;rw[←hSc,sq,←hlS,hSe]
 have hc:clk s but= .inr (dC (dF (cr s) s.hd) s.hd.toNat):=by rw[clk,if_neg h3,if_neg (by rw[←huc];exact fun c=>by rw[h5]at c;exact absurd c (by decide))]
 rw[←hr2,iK hc];have wev:=(w2.qP ha12 (by show aJ s.swp.rf<12;omega));have hto:s.hd.toNat=a:=by omega
 rw[hto];have e1:s.ram=(dF (cr s) s.hd).ram:=rfl;have e2:s.swp=(dF (cr s) s.hd).swp:=rfl;have e3:(s.hd+1) % 12=(dF (cr s) s.hd).hd:=rfl;have hlS2:∀t,(spS (dF (cr s) s.hd).sp t).length=(spS m.sp t).length:=fun t=>by rw[←hSc,sq,←hlS,hSe]
 rw[e2]at hf;have hL2:jd (spS (dF (cr s) s.hd).sp) 1 a 5=L:=by rw[xc,←ha,←hL,←hSe];rfl
 simp only[e1,e2,ha];rw[←ha];generalize hs2:dF (cr s) s.hd=s2 at*;have hq:(List.take q (List.drop 0 (List.map (tkP Js) L)))=L.map (tkP Js):=by rw[List.drop_zero,List.take_of_length_le (by simp;omega)]
 simp only[hq,ha,List.length_map,l2.rt,l2.st,l2.sr];refine aB (k:=a) rfl rfl rfl ha12 ?_;conv=>whnf
 obtain⟨tx,htx⟩:∃tx,s2.ram.tx[a]?=some tx:=⟨_,List.getElem?_eq_getElem (by rw[l2.rt];exact ha12)⟩;obtain⟨rf,hrf⟩:∃rf,s2.ram.rf[a]?=some rf:=⟨_,List.getElem?_eq_getElem (by rw[l2.rr];exact ha12)⟩;refine bf rfl rfl rfl (aS (aj (f:=rS) htx) rfl rfl rfl) rfl ?_;conv=>whnf
 simp only[List.length_map,l2.rr];refine aB (k:=a) rfl rfl rfl ha12 ?_;conv=>whnf
 refine bf rfl rfl rfl (aS (aj (f:=rI) hrf) rfl rfl rfl) rfl ?_;conv=>whnf
 refine aB (k:=F) rfl rfl rfl h2 ?_;conv=>whnf
 refine aN rfl rfl rfl (by simpa [l2.st]using h2) (by decide) ?_;conv=>whnf
 refine aB (k:=F) rfl rfl rfl h2 ?_;conv=>whnf
 refine aN rfl rfl rfl (by simpa [l2.sr]using h2) (by decide) ?_;conv=>whnf
 have hhd:((a:Int)+1) % 12=s2.hd:=by rw[←ha];exact e3
 rw[jD (by rw[l2.st];exact h2),iW (by rw[l2.sr];exact h2),hhd];simp only[List.drop_zero,eF l2.rt,eF l2.rr,eF (show(s2.swp.tx.set F tx).length=12 by simp[l2.st]),eF (show(s2.swp.rf.set F rf).length=12 by simp[l2.sr]),List.length_map,l2.rt,l2.rr];refine aB (k:=a) rfl rfl rfl ha12 ?_;conv=>whnf
 refine aN rfl rfl rfl (by simpa [l2.rt]using ha12) (by decide) ?_;conv=>whnf
 refine aB (k:=a) rfl rfl rfl ha12 ?_;conv=>whnf
 refine aN rfl rfl rfl (by simpa [l2.rr]using ha12) (by decide) ?_;conv=>whnf
 rw[jD (by rw[l2.rt];exact ha12),iW (by rw[l2.rr];exact ha12)];simp only[List.drop_zero,eF (show(s2.ram.tx.set a []).length=12 by simp[l2.rt]),eF (show(s2.ram.rf.set a 0).length=12 by simp[l2.rr]),List.length_map];rw[List.take_of_length_le (l:=List.map (tkP Js) L) (by simp)];have hN80:L.length≤1000:=by omega
 obtain⟨N,hN⟩:∃N,L.length=N:=⟨_,rfl⟩;rw[hN]at hN80;simp only[hN];have nj2:=nj.same hlS2;obtain⟨S2,hS2⟩:∃S2,spS s2.sp=S2:=⟨_,rfl⟩;rw[hS2]at hL2 nj2;simp only[hS2];refine ai (fun q:Nat=>[(0,.v (.one (.ptr 0 0 0))),(7,.v (.one (dI F))),(111,.v (.one (.own 1 (L.map (tkP Js))))),(112,.v (.one (dI N))),(113,.v (.one (dI q)))])
  (fun q=>oH E (aT s2.ram a [] 0) (aT s2.swp F tx rf) s2.hd (eg (bS 2 F) S2 (L.take q))) (fun _=>7)
  (fun q=>q≤N) (fun q=>N-q) 0 (Nat.zero_le _) rfl (by rw[List.take_zero,oJ];rfl) rfl fun q hqN=>?_
 conv=>whnf
 refine CondP.mk (fun h6=>?_) (fun h6=>?_)<;>conv=>whnf
 ·have hq:q<L.length:=by
                 have:(q:Int)< (N:Int):=by simpa using h6
                 omega
  obtain⟨i,j,x,he,hi5,hx,hJ⟩:=aAl (P:=Try.prog) nj2 hL2 q hq;have hrow:(L.map (tkP Js))[q]?=some (tk (Js i) j):=by simp[hq,he,tkP]
  have hst:cY (2+i) (.arr 4 ((((eg (bS 2 F) S2 (L.take q) i).map rL).modify j (fun row=>row.set 0 (.sc (.int .i64 2)))).modify j (fun row=>row.set 1 (.sc (.int .i64 F)))) []) (oH E (aT s2.ram a [] 0) (aT s2.swp F tx rf) s2.hd (eg (bS 2 F) S2 (L.take q)))=oH E (aT s2.ram a [] 0) (aT s2.swp F tx rf) s2.hd (eg (bS 2 F) S2 (L.take (q+1))):=by have hx':=iz (f:=bS 2 F) (L:=L.take q) hx;have hjl:=(List.getElem?_eq_some_iff.1 hx').1;rw[m0 hq he hx,←pH hi5,ao (aj (f:=rL) hx'),ao (List.getElem?_set_self (by simpa using hjl)),List.set_set,←map_set];split<;>rfl
  have hjl:j< (eg (bS 2 F) S2 (L.take q) i).length:=(List.getElem?_eq_some_iff.1 (iz (f:=bS 2 F) (L:=L.take q) hx)).1;obtain⟨S',hS'⟩:∃S',eg (bS 2 F) S2 (L.take q)=S':=⟨_,rfl⟩;rw[hS']at hst hjl;simp only[hS'];obtain⟨D,hD⟩:∃D,Js i=D:=⟨_,rfl⟩;rw[hD]at hrow hJ;have nextq:IntKind.wrap .i64 ((q:Int)+1)=((q+1:Nat):Int):=wrap64 (by omega) (by omega);simp only[List.length_map,hN];refine aB (k:=q) rfl rfl rfl (by omega) ?_;conv=>whnf
  refine bf rfl rfl rfl (aS hrow rfl rfl rfl) rfl ?_;conv=>whnf
  have hc:i=0∨i=1∨i=2∨i=3∨i=4:=by omega
  clear hx hD he hS' hi5;rcases hc with rfl|rfl|rfl|rfl|rfl
  all_goals
   refine ft (i:=j) rfl rfl hJ rfl ?_;conv=>whnf
   refine aN rfl rfl rfl (by simpa using hjl) (by decide) ?_;conv=>whnf
   refine ft (i:=j) rfl rfl hJ rfl ?_;conv=>whnf
   refine aN rfl rfl rfl (by simpa using hjl) (by decide) ?_;conv=>whnf
   refine⟨q+1,by omega,by omega,?_,by rw[←hst];rfl,rfl⟩;rw[nextq,List.take_of_length_le (by simp;omega)];rfl
 have hqe:q=N:=by
             have:¬(q:Int)< (N:Int):=by simpa using h6
             omega
 subst hqe;have hSt:eg (bS 2 F) S2 (L.take q)=spS (dC s2 a).sp:=by rw[List.take_of_length_le (by omega),←hL2,←hS2,←hf];exact pJ w2.sp
 simp only[hSt];have hrl:(aT s2.ram a [] 0).rf.length=12:=by simp[aT,l2.rr]
 refine aC (cas:=[.agg [.ro true 1 ((aT s2.ram a [] 0).tx.map rS),.ro true 1 ((aT s2.ram a [] 0).rf.map rI)]]) [.lend] rfl (by show some [DV.agg [DC.ro true 1 (List.take _ (List.drop 0 _)),DC.ro true 1 (List.take _ (List.drop 0 _))]]=_;simp only[List.drop_zero,List.take_length]) rfl (ri true true (aT s2.ram a [] 0) (by omega)) rfl ?_;conv=>whnf
 simp only[List.drop_zero,List.take_length];have hfr:kI (aT s2.ram a [] 0).rf=(aJ (dC s2 a).ram.rf:Int):=by rw[kI,if_pos (by rw[hrl];exact wev.2)];rfl
 have heq:dC s2 a=⟨aT s2.ram a [] 0,aT s2.swp F tx rf,(dC s2 a).sp,s2.hd⟩:=by simp only[dC,hf,htx,hrf,Option.getD_some]
 rw[hfr];refine⟨rfl,?_⟩;rw[heq];rfl
end Go.Qm
namespace Go.Qm
open Go.Cq Go.Cq.D Go.RowKit Go.Proofs
set_option maxRecDepth 10000
theorem aDL{E:List (List PV)}{T W:Pages}{hd:Int}{S:Nat→List Slot}{i j:Nat}{x y:Slot}{f:List PV→List PV}(hi:i<5)(hx:(S i)[j]?=some x)(hf:f (rL x)=rL y):cY (2+i) (.arr 4 (((S i).map rL).modify j f) []) (oH E T W hd S)=oH E T W hd (rX S i j y):=by rw[←pH hi,ao (aj (f:=rL) hx),hf,map_set]
theorem aCY{E:List (List PV)}{T W:Pages}{hd:Int}{sp:List Space}{i j:Nat}{x:Slot}(hi:i<5)(hx:(spS sp i)[j]?=some x):cY (2+i) (.arr 4 (((spS sp i).map rL).modify j (fun row=>row.set 3 (.sc (.bool true)))) []) (oH E T W hd (spS sp))=oH E T W hd (spS (aG sp i j {x with us:=true})):=by rw[w6];exact aDL hi hx rfl
theorem aCd{E:List (List PV)}{T W:Pages}{hd:Int}{sp:List Space}{i j:Nat}{x:Slot}{kd pl:Int}{ow:Bool}(hi:i<5)(hx:(spS sp i)[j]?=some x):cY (2+i) (.arr 4 ((((spS sp i).map rL).set j (rL ⟨kd,pl,ow,false⟩)).modify j (fun row=>row.set 3 (.sc (.bool true)))) []) (oH E T W hd (spS sp))=oH E T W hd (spS (aG sp i j ⟨kd,pl,ow,true⟩)):=by have hj:=(List.getElem?_eq_some_iff.1 hx).1;rw[w6,←pH hi,ao (List.getElem?_set_self (by simpa using hj)),List.set_set,←map_set];rfl
theorem wY{but:Int}{sp sp':List Space}(h:alike but sp sp')(t:Nat):(spS sp' t).length=(spS sp t).length:=by
 obtain⟨h1,h2⟩:=h;rcases Nat.lt_or_ge t sp.length with c|c
 ·have c':t<sp'.length:=by omega
  rw[jP c,jP c'];exact(h2 t c c').2.2.1
 ·rw[oz c,oz (by omega)]
theorem oW{E:List (List PV)}{m m1:Mem}(hl:∀t,(spS m1.sp t).length=(spS m.sp t).length):bB (fun t=>([0,1,2,3,4,5,6]:List Nat)[t]?) (oHm E m1) [0,1,2,3,4,5,6] 0 (oHm E m)=some (oHm E m1):=(cN rfl rfl (by rfl) rfl).trans ((oT rfl rfl (by rfl) rfl).trans ((aa rfl rfl (by simp[hl])).trans ((aa rfl rfl (by simp[hl])).trans ((aa rfl rfl (by simp[hl])).trans ((aa rfl rfl (by simp[hl])).trans ((aa rfl rfl (by simp[hl])).trans rfl))))))
set_option maxHeartbeats 8000000 in
theorem aAa(E:List (List PV))(m:Mem)(i j:Nat)(w:Wf m)(hE:E.length=5)(hr:∀row,row∈E→row.length=3)(hi:i<m.sp.length)(hj:j<m.sp[i].sl.length):
  du Try.prog 78 [.one (.ptr 0 0 0),.one (dI i),.one (dI j)] (oHm E m) 7
  fun x H'=>x= .v (.one (dB (bJ m i j).isSome))∧H'=oHm E ((bJ m i j).getD m):=by
 refine rK hmix Try.func78 ok78 fun J hJ1 hJ2=>?_
 obtain⟨Js,nj⟩:=aC4 hJ1 hJ2;clear hJ1 hJ2;have l:=w.L;have hi5:i<5:=by rw[←l.sp];exact hi
 have hx:=bU hi hj;have hxS:(spS m.sp i)[j]?=some (aI m i j):=by rw[jP hi,hx];exact List.getElem?_eq_getElem hj
 have hjS:j< (spS m.sp i).length:=by rw[jP hi];exact hj
 obtain⟨row,hrow,hrl⟩:∃row,E[i]?=some row∧2<row.length:=⟨E[i]'(by omega),List.getElem?_eq_getElem (by omega),by rw[hr _ (List.getElem_mem _)];omega⟩;obtain⟨I,hI⟩:∃I:Int,(i:Int)=I:=⟨_,rfl⟩;obtain⟨s1,s2⟩:=w.slot hi hj;have skd:(aI m i j).kd=0∨(aI m i j).kd=1∨(aI m i j).kd=2:=by rw[hx];exact w.kd _ (List.getElem_mem hi) _ (List.getElem_mem hj)
 rw[hI];conv=>whnf
 refine aB (k:=i) rfl rfl (by show some I=_;rw[←hI]) hi5 ?_;conv=>whnf
 have hc:i=0∨i=1∨i=2∨i=3∨i=4:=by omega
 obtain⟨x,hxe⟩:∃x,aI m i j=x:=⟨_,rfl⟩;rw[hxe]at hx hxS s1 s2 skd;have hnone:¬x.kd=1→bT m (-1)=none→bJ m i j=none:=fun c1 hrm=>by rw[bJ,hxe,if_neg c1,hrm];rfl
 have hsome:¬x.kd=1→∀m1,bT m (-1)=some m1→(spS m1.sp i)[j]?=some x∧j< (spS m1.sp i).length:=fun c1 m1 hrm=>by
  obtain⟨hi1,hj1,ex, -⟩:=eN (cX w hrm) hi hj (.inl (by rw[hxe];exact c1));have:(spS m1.sp i)[j]?=some x:=by rw[jP hi1,List.getElem?_eq_getElem hj1,ex,hxe]
  exact⟨this,(List.getElem?_eq_some_iff.1 this).1⟩
 have hb0:x.kd=0→∀m1,bT m (-1)=some m1→bJ m i j=some {m1 with ram:=aT m1.ram (aJ m1.ram.rf) j6 1,sp:=aG m1.sp i j ⟨1,aJ m1.ram.rf,true,true⟩}:=fun c0 m1 hrm=>by rw[bJ,hxe,if_neg (by omega),hrm,Option.map_some,if_pos c0]
 have hb1:x.kd=1→bJ m i j=some {m with sp:=aG m.sp i j {x with us:=true}}:=fun c1=>by rw[bJ,hxe,if_pos c1]
 have hb2:x.kd=2→∀m1,bT m (-1)=some m1→∃f:Nat,x.pl=f∧f<12∧(spS (aZ 2 f (bS 1 (aJ m1.ram.rf)) m1.sp) i)[j]?=some (bS 1 (aJ m1.ram.rf) x)∧bJ m i j=some ⟨aT m1.ram (aJ m1.ram.rf) (m1.swp.tx[f]?.getD []) (m1.swp.rf[f]?.getD 0),aT m1.swp f [] 0,aG (aZ 2 f (bS 1 (aJ m1.ram.rf)) m1.sp) i j ⟨1,aJ m1.ram.rf,x.ow,true⟩,m1.hd⟩:=fun c2 m1 hrm=>by
  obtain⟨f,e1,hf12, -⟩:=(w.bT hrm).1.we (cX w hrm) hi hj (by rw[hxe];exact c2);rw[hxe]at e1;refine⟨f,e1,hf12,?_,?_⟩
  ·rw[rm];simp only[List.getElem?_map,(hsome (by omega) m1 hrm).1,Option.map_some];rw[if_pos ⟨c2,e1⟩]
  ·rw[bJ,hxe,if_neg (by omega),hrm,Option.map_some,if_neg (by omega),e1,Int.toNat_natCast]
 rcases hc with rfl|rfl|rfl|rfl|rfl
 all_goals
  refine bf rfl rfl rfl (ag hrow hrl rfl) rfl ?_;conv=>whnf
  refine aB (k:=j) rfl rfl rfl hjS ?_;conv=>whnf
  refine bf rfl rfl rfl (aS (aj (f:=rL) hxS) rfl rfl rfl) rfl ?_;conv=>whnf
  refine CondP.mk (fun c0=>?_) (fun c0=>?_)<;>conv=>whnf
  ·have c0:x.kd=0:=by simpa using c0
   have c1:¬x.kd=1:=by omega
   have hcall:=wa E m (-1) w hE hr;cases hrm:bT m (-1)with
   |none=>
    rw[nW,hrm]at hcall;have hb:=hnone c1 hrm;refine b8 (r:=.tup [.one (dI (-1)),.one (dB false)]) (Hr:=oHm E m) [.pass,.pass] [0,1,2,3,4,5,6] rfl rfl rfl rfl hcall rfl (oW (E:=E) (m:=m) (m1:=m) fun _=>rfl) ?_
    (conv=>whnf)<;>repeat' first|(refine aE ?_;conv=>whnf)|(refine aD ?_;conv=>whnf)
    rw[hb];exact⟨rfl,rfl⟩
   |some m1=>
    rw[nW,hrm]at hcall;obtain⟨w1,hf⟩:=w.bT hrm;have l1:=w1.L;have ha:=cX w hrm;have hlS:=wY ha;obtain⟨hxS1,hjS1⟩:=hsome c1 m1 hrm;refine b8 (r:=.tup [.one (dI (aJ m1.ram.rf)),.one (dB true)]) (Hr:=oHm E m1) [.pass,.pass] [0,1,2,3,4,5,6] rfl rfl rfl rfl hcall rfl (oW (E:=E) (m:=m) (m1:=m1) hlS) ?_
    (conv=>whnf)<;>repeat' first|(refine aE ?_;conv=>whnf)|(refine aD ?_;conv=>whnf)
    refine qm rfl rfl (m:=4) (c:=4) rfl rfl (by decide) (by decide) (by decide) ?_;conv=>whnf
    refine oX rfl rfl (bs:=j6) rfl ?_;conv=>whnf
    simp only[List.length_map,l1.rt,l1.rr];refine aB (k:=aJ m1.ram.rf) rfl rfl rfl hf ?_;conv=>whnf
    refine aN rfl rfl rfl (by simpa [l1.rt]using hf) (by decide) ?_;conv=>whnf
    refine aB (k:=aJ m1.ram.rf) rfl rfl rfl hf ?_;conv=>whnf
    refine aN rfl rfl rfl (by simpa [l1.rr]using hf) (by decide) ?_;conv=>whnf
    refine cC (row':=rL ⟨1,aJ m1.ram.rf,true,false⟩) rfl rfl rfl (by simpa using hjS1) (dt (fun _=>rfl)) (ck _) rfl rfl rfl ?_;conv=>whnf
    refine aN rfl rfl rfl (by simpa using hjS1) (by decide) ?_;conv=>whnf
    rw[hb0 c0 m1 hrm,jD (by rw[l1.rt];exact hf),iW (by rw[l1.rr];exact hf)];simp only[List.drop_zero,eF (show(m1.ram.tx.set (aJ m1.ram.rf) j6).length=12 by simp[l1.rt]),eF (show(m1.ram.rf.set (aJ m1.ram.rf) 1).length=12 by simp[l1.rr])];refine⟨rfl,?_⟩;show _=oH E (aT m1.ram (aJ m1.ram.rf) j6 1) m1.swp m1.hd (spS (aG m1.sp _ j _));rw[←aCd hi5 hxS1];rfl
  ·have c0:¬x.kd=0:=by simpa using c0
   refine CondP.mk (fun c2=>?_) (fun c2=>?_)<;>conv=>whnf
   ·have c2:x.kd=2:=by simpa using c2
    have c1:¬x.kd=1:=by omega
    have hcall:=wa E m (-1) w hE hr;cases hrm:bT m (-1)with
    |none=>
     rw[nW,hrm]at hcall;have hb:=hnone c1 hrm;refine b8 (r:=.tup [.one (dI (-1)),.one (dB false)]) (Hr:=oHm E m) [.pass,.pass] [0,1,2,3,4,5,6] rfl rfl rfl rfl hcall rfl (oW (E:=E) (m:=m) (m1:=m) fun _=>rfl) ?_
     (conv=>whnf)<;>repeat' first|(refine aE ?_;conv=>whnf)|(refine aD ?_;conv=>whnf)
     rw[hb];exact⟨rfl,rfl⟩
    |some m1=>
     rw[nW,hrm]at hcall;obtain⟨w1,hf⟩:=w.bT hrm;have l1:=w1.L;have ha:=cX w hrm;have hlS:=wY ha;obtain⟨hxS1,hjS1⟩:=hsome c1 m1 hrm;refine b8 (r:=.tup [.one (dI (aJ m1.ram.rf)),.one (dB true)]) (Hr:=oHm E m1) [.pass,.pass] [0,1,2,3,4,5,6] rfl rfl rfl rfl hcall rfl (oW (E:=E) (m:=m) (m1:=m1) hlS) ?_
     (conv=>whnf)<;>repeat' first|(refine aE ?_;conv=>whnf)|(refine aD ?_;conv=>whnf)
     obtain⟨f,e1,hf12,hx2,hb⟩:=hb2 c2 m1 hrm;obtain⟨tx,htx⟩:∃tx,m1.swp.tx[f]?=some tx:=⟨_,List.getElem?_eq_getElem (by rw[l1.st];exact hf12)⟩;obtain⟨rf,hrf⟩:∃rf,m1.swp.rf[f]?=some rf:=⟨_,List.getElem?_eq_getElem (by rw[l1.sr];exact hf12)⟩;rw[htx,hrf]at hb;simp only[Option.getD_some]at hb;rw[hb];generalize aJ m1.ram.rf=F at*;refine bf rfl rfl rfl (aS (aj (f:=rL) hxS1) rfl rfl rfl) rfl ?_;conv=>whnf
     simp only[e1,List.length_map,l1.rt,l1.rr,l1.st];refine aB (k:=f) rfl rfl rfl hf12 ?_;conv=>whnf
     refine bf rfl rfl rfl (aS (aj (f:=rS) htx) rfl rfl rfl) rfl ?_;conv=>whnf
     simp only[List.length_map,l1.sr];refine aB (k:=f) rfl rfl rfl hf12 ?_;conv=>whnf
     refine bf rfl rfl rfl (aS (aj (f:=rI) hrf) rfl rfl rfl) rfl ?_;conv=>whnf
     refine aB (k:=F) rfl rfl rfl hf ?_;conv=>whnf
     refine aN rfl rfl rfl (by simpa [l1.rt]using hf) (by decide) ?_;conv=>whnf
     refine aB (k:=F) rfl rfl rfl hf ?_;conv=>whnf
     refine aN rfl rfl rfl (by simpa [l1.rr]using hf) (by decide) ?_;conv=>whnf
     rw[jD (by rw[l1.rt];exact hf),iW (by rw[l1.rr];exact hf)];simp only[List.drop_zero,eF l1.st,eF l1.sr,eF (show(m1.ram.tx.set F tx).length=12 by simp[l1.rt]),eF (show(m1.ram.rf.set F rf).length=12 by simp[l1.rr]),List.length_map,l1.st,l1.sr];refine aB (k:=f) rfl rfl rfl hf12 ?_;conv=>whnf
     refine aN rfl rfl rfl (by simpa [l1.st]using hf12) (by decide) ?_;conv=>whnf
     refine aB (k:=f) rfl rfl rfl hf12 ?_;conv=>whnf
     refine aN rfl rfl rfl (by simpa [l1.sr]using hf12) (by decide) ?_;conv=>whnf
     rw[jD (by rw[l1.st];exact hf12),iW (by rw[l1.sr];exact hf12)];simp only[List.drop_zero,eF (show(m1.swp.tx.set f []).length=12 by simp[l1.st]),eF (show(m1.swp.rf.set f 0).length=12 by simp[l1.sr])];have nj1:=nj.same hlS;have hS16:∀i,(spS m1.sp i).length≤16:=fun i=>by
      rcases Nat.lt_or_ge i m1.sp.length with c|c
      ·rw[jP c];exact w1.sl _ (List.getElem_mem c)
      ·rw[oz c];exact Nat.zero_le _
     refine iy [] [.pass,.pass,.pass] [0,1,2,3,4,5,6] J rfl rfl rfl rfl rfl (aC0 E (aT m1.ram F tx rf) (aT m1.swp f [] 0) m1.hd (spS m1.sp) Js 2 f hE hr hS16 (by decide) J nj1) (nj1.of (lt7 ⟨rfl,rfl,rfl,rfl,rfl,rfl,rfl⟩)) rfl
      ((cN rfl rfl (by rfl) rfl).trans ((oT rfl rfl (by rfl) rfl).trans ((aa rfl rfl (by rfl)).trans ((aa rfl rfl (by rfl)).trans ((aa rfl rfl (by rfl)).trans ((aa rfl rfl (by rfl)).trans ((aa rfl rfl (by rfl)).trans rfl))))))) ?_
     conv=>whnf
     simp only[List.drop_zero,List.take_length,ny];obtain⟨S,hSe⟩:∃S,spS m1.sp=S:=⟨_,rfl⟩;rw[hSe]at nj1 hS16;simp only[hSe];obtain⟨L,hL⟩:∃L,jd S 2 f 5=L:=⟨_,rfl⟩;simp only[hL,List.length_map];obtain⟨N,hN⟩:∃N,L.length=N:=⟨_,rfl⟩;have hN80:N≤1000:=by have:=pf (Js:=Js) (kd:=2) (pl:=f) hS16 (i:=5);rw[ny,hL,List.length_map,hN]at this;omega
     simp only[hN];refine ai (fun q:Nat=>[(7,.v (.one (.ptr _ j 0))),(10,.v (.one (dI F))),(117,.v (.one (.own 1 (L.map (tkP Js))))),(118,.v (.one (dI N))),(119,.v (.one (dI q)))])
      (fun q=>oH E (aT m1.ram F tx rf) (aT m1.swp f [] 0) m1.hd (eg (bS 1 F) S (L.take q))) (fun _=>7)
      (fun q=>q≤N) (fun q=>N-q) 0 (Nat.zero_le _) rfl (by rw[List.take_zero,oJ];rfl) rfl fun q hqN=>?_
     conv=>whnf
     refine CondP.mk (fun h6=>?_) (fun h6=>?_)<;>conv=>whnf
     ·have hq:q<L.length:=by
                     have:(q:Int)< (N:Int):=by simpa using h6
                     omega
      obtain⟨i',j',y,he,hi5',hy,hJ⟩:=aAl (P:=Try.prog) nj1 hL q hq;have hrow':(L.map (tkP Js))[q]?=some (tk (Js i') j'):=by simp[hq,he,tkP]
      have hst:cY (2+i') (.arr 4 ((((eg (bS 1 F) S (L.take q) i').map rL).modify j' (fun row=>row.set 0 (.sc (.int .i64 1)))).modify j' (fun row=>row.set 1 (.sc (.int .i64 F)))) []) (oH E (aT m1.ram F tx rf) (aT m1.swp f [] 0) m1.hd (eg (bS 1 F) S (L.take q)))=oH E (aT m1.ram F tx rf) (aT m1.swp f [] 0) m1.hd (eg (bS 1 F) S (L.take (q+1))):=by have hx':=iz (f:=bS 1 F) (L:=L.take q) hy;have hjl:=(List.getElem?_eq_some_iff.1 hx').1;rw[m0 hq he hy,←pH hi5',ao (aj (f:=rL) hx'),ao (List.getElem?_set_self (by simpa using hjl)),List.set_set,←map_set];split<;>rfl
      have hjl:j'< (eg (bS 1 F) S (L.take q) i').length:=(List.getElem?_eq_some_iff.1 (iz (f:=bS 1 F) (L:=L.take q) hy)).1;obtain⟨S',hS'⟩:∃S',eg (bS 1 F) S (L.take q)=S':=⟨_,rfl⟩;rw[hS']at hst hjl;simp only[hS'];obtain⟨D,hD⟩:∃D,Js i'=D:=⟨_,rfl⟩;rw[hD]at hrow' hJ;have nextq:IntKind.wrap .i64 ((q:Int)+1)=((q+1:Nat):Int):=wrap64 (by omega) (by omega);simp only[List.length_map,hN];refine aB (k:=q) rfl rfl rfl (by omega) ?_;conv=>whnf
      refine bf rfl rfl rfl (aS hrow' rfl rfl rfl) rfl ?_;conv=>whnf
      have hc':i'=0∨i'=1∨i'=2∨i'=3∨i'=4:=by omega
      clear hy hD he hS' hi5';rcases hc' with rfl|rfl|rfl|rfl|rfl
      all_goals
       refine ft (i:=j') rfl rfl hJ rfl ?_;conv=>whnf
       refine aN rfl rfl rfl (by simpa using hjl) (by decide) ?_;conv=>whnf
       refine ft (i:=j') rfl rfl hJ rfl ?_;conv=>whnf
       refine aN rfl rfl rfl (by simpa using hjl) (by decide) ?_;conv=>whnf
       refine⟨q+1,by omega,by omega,?_,by rw[←hst];rfl,rfl⟩;rw[nextq,List.take_of_length_le (by simp;omega)];rfl
     ·have hqe:q=N:=by
                  have:¬(q:Int)< (N:Int):=by simpa using h6
                  omega
      subst hqe;have hSt:eg (bS 1 F) S (L.take q)=spS (aZ 2 f (bS 1 F) m1.sp):=by rw[List.take_of_length_le (by omega),←hL,←hSe];exact pJ w1.sp
      simp only[hSt];refine aN rfl rfl rfl (by simpa using(List.getElem?_eq_some_iff.1 hx2).1) (by decide) ?_;conv=>whnf
      refine⟨rfl,?_⟩;show _=oH E (aT m1.ram F tx rf) (aT m1.swp f [] 0) m1.hd (spS (aG (aZ 2 f (bS 1 F) m1.sp) _ j {bS 1 F x with us:=true}));rw[←aCY hi5 hx2];rfl
   ·have c2:¬x.kd=2:=by simpa using c2
    have c1:x.kd=1:=by omega
    refine aN rfl rfl rfl (by simpa using hjS) (by decide) ?_;conv=>whnf
    rw[hb1 c1];refine⟨rfl,?_⟩;show _=oH E m.ram m.swp m.hd (spS (aG m.sp _ j _));rw[←aCY hi5 hxS];rfl
end Go.Qm
namespace Go.Qm
open Go.Cq Go.Cq.D Go.RowKit Go.Proofs
set_option maxRecDepth 10000
theorem aCa{α:Type}{l:List α}(h:l.length=5):∃a b c d e,l=[a,b,c,d,e]:=
 match l,h with
 | [a,b,c,d,e],_=>⟨a,b,c,d,e,rfl⟩
theorem zW{P:Prg}{ts:DTs}{H:DH}{n:Nat}{K:DT→DTs→DH→Nat→List Nat→Prop}(es:List Go.Cq.D.Loc)(ms:List M)(ρ:List Nat)(J:Nm){f:FuncId}{args:List Opd}{Hr:DH}{r:DT}(hJ:∀t p,J t=some p→∃g,ρ[t]?=some g∧P.J g=some p)(h5:gh ρ.length Hr=true)(h:xS es ts H n fun ts1 H1 n1=>∃das cas Hc H',dJ ts1 args=some das∧fD H1 ρ ms das=some cas∧dq (fun g=>fM ρ g 0) H1 ρ 0=some Hc∧(nodup ρ&&(nodup (given ms das)&&(bZ (given ms das) ρ&&(bZ (dM ms das) (given ms das)&&bZ (dM ms das) ρ))))=true∧(e8 P.prog J f cas Hc ρ.length fun x H'=>x=r∧H'=Hr)∧
   bB (fun t=>ρ[t]?) Hr ρ 0 (fO (given ms das) H1)=some H'∧fDT (gR (fun t=>ρ[t]?) r) fun x=>fTs ts1 fun ts1=>fDH H' fun H'=>K x ts1 H' n1 (given ms das++ρ)):OpP P (.call f args) ts H n K:=by
 rw[rQ]at h;obtain⟨das,cas,Hc,H',h1,h2,h3,h4,hc,h6,h⟩:=h;exact iy es ms ρ J rfl h1 h2 h3 h4 hc hJ h5 h6 h
theorem i5{es:List (List PV)}{i:Nat}{s t:Space}(h:es[i]?=some (rP s))(h1:t.lv=s.lv)(h2:t.ar=s.ar):es.modify i (fun row=>row.set 2 (.sl 4 (((t.sl.map rL).drop 0).take t.sl.length)))=es.set i (rP t):=by rw[ao h,List.drop_zero,aU];simp only[rP,h1,h2];rfl
theorem sa{ram swp:Pages}{s0 s1 s2 s3 s4:Space}{hd:Int}{i j:Nat}(w:Wf ⟨ram,swp,[s0,s1,s2,s3,s4],hd⟩):∃(ram' swp':Pages)(t0 t1 t2 t3 t4:Space)(hd':Int),(bJ ⟨ram,swp,[s0,s1,s2,s3,s4],hd⟩ i j).getD ⟨ram,swp,[s0,s1,s2,s3,s4],hd⟩=⟨ram',swp',[t0,t1,t2,t3,t4],hd'⟩∧(t0.lv=s0.lv∧t0.ar=s0.ar∧t0.sl.length=s0.sl.length)∧(t1.lv=s1.lv∧t1.ar=s1.ar∧t1.sl.length=s1.sl.length)∧(t2.lv=s2.lv∧t2.ar=s2.ar∧t2.sl.length=s2.sl.length)∧(t3.lv=s3.lv∧t3.ar=s3.ar∧t3.sl.length=s3.sl.length)∧(t4.lv=s4.lv∧t4.ar=s4.ar∧t4.sl.length=s4.sl.length):=by
 cases hb:bJ ⟨ram,swp,[s0,s1,s2,s3,s4],hd⟩ i j with
 |none=>exact⟨_,_,_,_,_,_,_,_,rfl,⟨rfl,rfl,rfl⟩,⟨rfl,rfl,rfl⟩,⟨rfl,rfl,rfl⟩,⟨rfl,rfl,rfl⟩,⟨rfl,rfl,rfl⟩⟩
 |some m'=>obtain⟨h1,h2⟩:=eZ w hb;obtain⟨ram',swp',sp',hd'⟩:=m';obtain⟨t0,t1,t2,t3,t4,rfl⟩:=aCa (h1.trans rfl);exact⟨_,_,_,_,_,_,_,_,rfl,h2 0 (by simp) (by simp),h2 1 (by simp) (by simp),h2 2 (by simp) (by simp),h2 3 (by simp) (by simp),h2 4 (by simp) (by simp)⟩
theorem aDV{P:Prg}{ρ:List Nat}:∀t p,noJ t=some p→∃g,ρ[t]?=some g∧P.J g=some p:=fun t p e=>by simp[noJ]at e
set_option maxHeartbeats 4000000 in
theorem yS(hc:vG)(b1 b2 b3 b4 b5:Bool)(m:Mem)(who a:Int)(h:m.fits 1048576):bC Try.prog 30 [aM b1 b2 b3 b4 b5 m,.one (dI who),.one (dI a)] (.tup [oM (d7 m who a).1,.one (dI (d7 m who a).2.1),.one (dI (d7 m who a).2.2)]):=by
 refine aQ hmix Try.func30 ok30 ?_;conv=>whnf
 refine aC [.pass] rfl rfl rfl (hc b1 b2 b3 b4 b5 m h) rfl ?_;conv=>whnf
 cases h1:cV m with
 |false=>
  (conv=>whnf)<;>repeat' first|(refine aE ?_;conv=>whnf)|(refine aD ?_;conv=>whnf)
  refine⟨?_,rfl⟩;simp[d7,h1,oM,gH,dI]
 |true=>
 (conv=>whnf)<;>repeat' first|(refine aE ?_;conv=>whnf)|(refine aD ?_;conv=>whnf)
 refine aC [.pass,.pass] rfl rfl rfl (aBN b1 b2 b3 b4 b5 m who (by have:=h.sp;omega)) rfl ?_
 (conv=>whnf)<;>repeat' first|(refine aE ?_;conv=>whnf)|(refine aD ?_;conv=>whnf)
 cases h2:fT m.sp who with
 |false=>
  (conv=>whnf)<;>repeat' first|(refine aE ?_;conv=>whnf)|(refine aD ?_;conv=>whnf)
  refine⟨?_,rfl⟩;simp[d7,h2,oM,gH,dI]
 |true=>
 (conv=>whnf)<;>repeat' first|(refine aE ?_;conv=>whnf)|(refine aD ?_;conv=>whnf)
 refine aC [.pass,.pass,.pass] rfl rfl rfl (kN a 0 63) rfl ?_
 (conv=>whnf)<;>repeat' first|(refine aE ?_;conv=>whnf)|(refine aD ?_;conv=>whnf)
 cases h3:inB a 0 63 with
 |false=>
  (conv=>whnf)<;>repeat' first|(refine aE ?_;conv=>whnf)|(refine aD ?_;conv=>whnf)
  refine⟨?_,rfl⟩;simp[d7,h3,oM,gH,dI]
 |true=>
 have h4:=h3;simp only[inB,Bool.and_eq_true,decide_eq_true_eq]at h4;obtain⟨c,rfl⟩:=Int.eq_ofNat_of_zero_le h4.1;obtain⟨i,rfl,hi,hlv⟩:=fm h2;obtain⟨ha,hal,hsl⟩:=mI h1 hi hlv;have hae:gX m i=m.sp[i].ar:=by simp[gX,hi]
 have hget:d7 m i c=getM m i c:=by simp[d7,h1,h2,h3]
 have hat:dW m.sp[i].ar ((c / 4:Nat):Int)=az m.sp[i].ar ((c / 4:Nat):Int):=by rw[dW,if_pos ha]
 rw[hget]
 (conv=>whnf)<;>repeat' first|(refine aE ?_;conv=>whnf)|(refine aD ?_;conv=>whnf)
 refine aC [.pass] rfl rfl rfl (nT b1 b2 b3 b4 b5 m h) rfl ?_;conv=>whnf
 refine aK (k:=i) rfl rfl (by simpa using hi) ?_;conv=>whnf
 refine aH rfl (r:=.one (.ro b5 4 (m.sp[i].ar.map rA))) (by simp[an,rP,hi]) ?_;conv=>whnf
 refine fC rfl ?_;conv=>whnf
 simp only[xe (show c≤1000 by omega)];refine aC [.pass,.pass] rfl rfl rfl (lR b5 m.sp[i].ar ((c / 4:Nat):Int) (by omega)) rfl ?_;conv=>whnf
 rw[hat];refine CondP.mk (fun c1=>?_) (fun c1=>?_)<;>conv=>whnf
 ·have c1:az m.sp[i].ar ((c / 4:Nat):Int)<0:=by simpa using c1
  refine⟨?_,rfl⟩;rw[getM,hae,if_pos c1];simp[oM,dI]
 have c1:¬az m.sp[i].ar ((c / 4:Nat):Int)<0:=by simpa using c1
 have w:=mK h1;have hj:c / 4<m.sp[i].sl.length:=by omega
 refine fC rfl ?_;conv=>whnf
 simp only[xe (show c≤1000 by omega),List.drop_zero,List.take_length];obtain⟨ram,swp,sp,hd⟩:=m;obtain⟨s0,s1,s2,s3,s4,rfl⟩:=aCa w.sp;have hcall:=aAa ([s0,s1,s2,s3,s4].map rP) ⟨ram,swp,[s0,s1,s2,s3,s4],hd⟩ i (c / 4) w rfl (by simp[rP]) hi hj;obtain⟨ram',swp',t0,t1,t2,t3,t4,hd',hm',p0,p1,p2,p3,p4⟩:=sa (i:=i) (j:=c / 4) w;rw[hm']at hcall;refine zW (Hr:=oHm ([s0,s1,s2,s3,s4].map rP) ⟨ram',swp',[t0,t1,t2,t3,t4],hd'⟩) (r:=.v (.one (dB (bJ ⟨ram,swp,[s0,s1,s2,s3,s4],hd⟩ i (c / 4)).isSome))) [.h 2 0 4,.h 3 4 2,.h 3 3 2,.h 3 2 2,.h 3 1 2,.h 3 0 2] [.pass,.pass,.pass] [2,3,8,7,6,5,4] noJ aDV rfl ?_;conv=>whnf
 simp only[List.length_map];refine⟨_,_,_,_,rfl,rfl,rfl,rfl,hcall.toJ,(cN rfl rfl (by rfl) rfl).trans ((oT rfl rfl (by rfl) rfl).trans ((aa rfl rfl (by simp[spS,p0.2.2])).trans ((aa rfl rfl (by simp[spS,p1.2.2])).trans ((aa rfl rfl (by simp[spS,p2.2.2])).trans ((aa rfl rfl (by simp[spS,p3.2.2])).trans ((aa rfl rfl (by simp[spS,p4.2.2])).trans rfl)))))),?_⟩;conv=>whnf
 refine aY (lo:=0) (len:=t0.sl.length) rfl rfl rfl rfl (i5 (t:=t0) rfl p0.1 p0.2.1) rfl ?_;conv=>whnf
 refine aY (lo:=0) (len:=t1.sl.length) rfl rfl rfl rfl (i5 (t:=t1) rfl p1.1 p1.2.1) rfl ?_;conv=>whnf
 refine aY (lo:=0) (len:=t2.sl.length) rfl rfl rfl rfl (i5 (t:=t2) rfl p2.1 p2.2.1) rfl ?_;conv=>whnf
 refine aY (lo:=0) (len:=t3.sl.length) rfl rfl rfl rfl (i5 (t:=t3) rfl p3.1 p3.2.1) rfl ?_;conv=>whnf
 refine aY (lo:=0) (len:=t4.sl.length) (es2:=[t0,t1,t2,t3,t4].map rP) rfl rfl rfl rfl ((i5 (t:=t4) rfl p4.1 p4.2.1).trans rfl) rfl ?_;conv=>whnf
 cases hb:bJ ⟨ram,swp,[s0,s1,s2,s3,s4],hd⟩ i (c / 4)with
 |none=>
  (conv=>whnf)<;>repeat' first|(refine aE ?_;conv=>whnf)|(refine aD ?_;conv=>whnf)
  refine aC [.pass] rfl rfl rfl (nT b1 b2 b3 b4 b5 ⟨ram,swp,[s0,s1,s2,s3,s4],hd⟩ h) rfl ?_;conv=>whnf
  refine⟨?_,rfl⟩;rw[getM,hae,if_neg c1,hb];simp[oM,dI]
 |some m'=>
  rw[hb,Option.getD_some]at hm';subst hm';obtain⟨hi',hj',hk1⟩:=gb w hi hj hb
  (conv=>whnf)<;>repeat' first|(refine aE ?_;conv=>whnf)|(refine aD ?_;conv=>whnf)
  have ht5:List.take 5 (List.map rP [t0,t1,t2,t3,t4])=List.map rP [t0,t1,t2,t3,t4]:=rfl;dsimp only;simp only[List.drop_zero,ht5];have w':=w.ic hi hj hb;have l':=w'.L;obtain⟨k,e1,hk12, -,e4⟩:=w'.at1 _ (List.getElem_mem hi') _ (List.getElem_mem hj') hk1;have hkt:k<ram'.tx.length:=by rw[l'.rt];exact hk12
  have e4:ram'.tx[k].length=4:=by simpa [hkt]using e4
  have hb4:c % 4<ram'.tx[k].length:=by omega
  have hget:getM ⟨ram,swp,[s0,s1,s2,s3,s4],hd⟩ i c=(⟨ram',swp',[t0,t1,t2,t3,t4],hd'⟩,(ram'.tx[k][c % 4].toNat:Int),0):=by rw[getM,hae,if_neg c1,hb];simp only[bU hi' hj',e1,Int.toNat_natCast,byteOf];simp[hkt,hb4]
  rw[hget];clear p0 p1 p2 p3 p4 ht5 hcall hb hget w' l' hk1;generalize hsp':[t0,t1,t2,t3,t4]=sp' at*;dsimp only at hi' hj' e1;have hg':=aj (f:=rP) (List.getElem?_eq_getElem hi');refine aB (k:=i) rfl rfl rfl (by simpa using hi') ?_;conv=>whnf
  refine bw (i:=i) (k:=2) (sz':=4) (es':=sp'[i].sl.map rL) sp'[i].sl.length rfl rfl rfl (aS hg' rfl rfl rfl) rfl (by simp) ?_;conv=>whnf
  refine fC rfl ?_;conv=>whnf
  simp only[xe (show c≤1000 by omega)];refine aB (k:=c / 4) rfl rfl rfl hj' ?_;conv=>whnf
  refine bf rfl rfl rfl (aS (row:=rL sp'[i].sl[c / 4]) (by simp[hj']) rfl rfl rfl) rfl ?_;conv=>whnf
  refine aB (k:=k) rfl rfl (by show some _=some _;rw[e1]) (by simpa using hkt) ?_;conv=>whnf
  refine bf rfl rfl rfl (aS (row:=rS ram'.tx[k]) (by simp[hkt]) rfl rfl rfl) rfl ?_;conv=>whnf
  refine fC rfl ?_;conv=>whnf
  refine sx rfl (by show some ((c:Int).tmod 4)=_;rw[aCu]) hb4 ?_;conv=>whnf
  refine aY (i:=i) (k:=2) (g':=8) (lo:=0) (len:=sp'[i].sl.length) (es2:=sp'.map rP) (ov2:=[]) rfl (ag hg' (by simp[rP]) (by simp only[af,if_true];rfl)) rfl rfl (by rw[List.drop_zero,aU];exact c9 hi') (by simp only[ae,if_true];rfl) ?_;conv=>whnf
  rw[q9];refine⟨?_,rfl⟩;simp[oM,dI]
end Go.Qm
namespace Go.Qm
open Go.Cq Go.Cq.D Go.RowKit Go.Proofs
set_option maxRecDepth 10000
theorem Wf.small{m m':Mem}(w:Wf m')(hs:cG m.sp m'.sp)(h:m.fits 16):m'.fits 16:=by
 refine⟨by rw[w.ram.tx];omega,by rw[w.ram.rf];omega,by rw[w.swp.tx];omega,by rw[w.swp.rf];omega,by rw[w.sp];omega,fun s hs'=>?_⟩;obtain⟨q,hq,rfl⟩:=List.getElem_of_mem hs';have hq':q<m.sp.length:=by rw[←hs.1];exact hq
 obtain⟨-,e2,e3⟩:=hs.2 q hq' hq;rw[e2,e3];exact h.ss _ (List.getElem_mem hq')
theorem vQ:gH.fits 16:=⟨by simp[gH],by simp[gH],by simp[gH],by simp[gH],by simp[gH],fun s hs=>by simp[gH]at hs⟩
theorem rU{m:Mem}{who a:Int}:(d7 m who a).1.fits 16:=by
 unfold d7;split
 ·rename_i h;simp only[Bool.and_eq_true]at h;have w:=mK h.1;have hs:=sy h.1;unfold getM;split
  ·exact hs
  ·split
   ·exact hs
   ·rename_i m' hb;obtain⟨i,hi,hi',hlv⟩:=fm h.2.1;have h4:=h.2.2;simp only[inB,Bool.and_eq_true,decide_eq_true_eq]at h4;rw[hi,Int.toNat_natCast]at hb;have hsl:=(mI h.1 hi' hlv).2.2;exact(w.ic hi' (by omega) hb).small (eZ w hb) hs
 ·exact vQ
end Go.Qm
namespace Go.Qm
open Go.Cq Go.Cq.D Go.RowKit Go.Proofs
set_option maxRecDepth 10000
theorem sS{m:Mem}{w a:Int}(h:(d7 m w a).2.2=0):∃i c:Nat,w=i∧a=c∧c≤63∧cV m=true∧∃hi:i<m.sp.length,m.sp[i].lv=true∧bJ m i (c / 4)=some (d7 m w a).1:=by
 unfold d7 at h ⊢;split at h
 ·rename_i c;rw[if_pos c];simp only[Bool.and_eq_true]at c;obtain⟨c1,c2,c3⟩:=c;obtain⟨i,rfl,hi,hlv⟩:=fm c2;simp only[inB,Bool.and_eq_true,decide_eq_true_eq]at c3;obtain⟨k,rfl⟩:=Int.eq_ofNat_of_zero_le c3.1;simp only[Int.toNat_natCast]at h ⊢;refine⟨i,k,rfl,rfl,by omega,c1,hi,hlv,?_⟩;unfold getM at h ⊢;split at h
  ·simp at h
  ·rename_i c4;rw[if_neg c4];split at h
   ·simp at h
   ·rename_i m' hm;rw[hm]
 ·simp at h
set_option maxHeartbeats 8000000 in
theorem sA(hc:vG)(b:Bool)(bs:List UInt8):bC Try.prog 4 [.one (.ro b 1 (bs.map dL))] (.v (.one (dB true))):=by
 refine aQ hmix Try.func4 ok4 ?_;conv=>whnf
 refine CondP.mk (fun h=>?_) (fun h=>?_)<;>conv=>whnf
 ·exact⟨rfl,rfl⟩
 have hl:bs.length≤1048576:=by simp at h;omega
 refine oZ [.pass] [] rfl rfl rfl rfl (um b bs hl) ?_;rintro res H3 ⟨m,w,a,hf,h5,rfl,rfl⟩;refine⟨rfl,rfl,_,rfl,?_⟩;conv=>whnf
 simp only[List.drop_zero,List.take_length];have g1:=yS hc true true true true true m w a hf;have g2:=uc true true true true true m w a hf;have hsm:=rU (m:=m) (who:=w) (a:=a);have hbr:=sS (m:=m) (w:=w) (a:=a);generalize d7 m w a=x at g1 g2 hsm hbr;have hq:bC Try.prog 32 [aM true true true true true x.1,aM true true true true true x.1] (.v (.one (dB true))):=yz true true true true true true true true true true x.1 (hsm.mono (by decide));refine aC (cas:=[aM true true true true true m,.one (dI w),.one (dI a)]) [.lend,.pass,.pass] rfl (by show some [DV.agg [DC.ro true 1 (List.take _ (List.drop 0 _)),DC.ro true 1 (List.take _ (List.drop 0 _)),DC.ro true 1 (List.take _ (List.drop 0 _)),DC.ro true 1 (List.take _ (List.drop 0 _)),DC.ro true 3 (List.take _ (List.drop 0 _)),_],_,_]=_;simp only[List.drop_zero,List.take_length];rfl) rfl g1 rfl ?_;conv=>whnf
 simp only[List.drop_zero,List.take_length];refine aC (cas:=[aM true true true true true m,.one (dI w),.one (dI a)]) [.lend,.pass,.pass] rfl (by show some [DV.agg [DC.ro true 1 (List.take _ (List.drop 0 _)),DC.ro true 1 (List.take _ (List.drop 0 _)),DC.ro true 1 (List.take _ (List.drop 0 _)),DC.ro true 1 (List.take _ (List.drop 0 _)),DC.ro true 3 (List.take _ (List.drop 0 _)),_],_,_]=_;simp only[List.drop_zero,List.take_length];rfl) rfl g2 rfl ?_;conv=>whnf
 simp only[List.drop_zero,List.take_length];refine CondP.mk (fun h=>by simp at h) (fun h=>?_);rw[h]
 (conv=>whnf)<;>repeat' first|(refine aE ?_;conv=>whnf)|(refine aD ?_;conv=>whnf)
 refine CondP.mk (fun h=>by simp at h) (fun h=>?_);rw[h]
 (conv=>whnf)<;>repeat' first|(refine aE ?_;conv=>whnf)|(refine aD ?_;conv=>whnf)
 simp only[List.drop_zero,List.take_length];refine aC (cas:=[aM true true true true true x.1,aM true true true true true x.1]) [.lend,.lend] rfl (by show some [DV.agg [DC.ro true 1 (List.take _ (List.drop 0 _)),DC.ro true 1 (List.take _ (List.drop 0 _)),DC.ro true 1 (List.take _ (List.drop 0 _)),DC.ro true 1 (List.take _ (List.drop 0 _)),DC.ro true 3 (List.take _ (List.drop 0 _)),_],DV.agg [DC.ro true 1 (List.take _ (List.drop 0 _)),DC.ro true 1 (List.take _ (List.drop 0 _)),DC.ro true 1 (List.take _ (List.drop 0 _)),DC.ro true 1 (List.take _ (List.drop 0 _)),DC.ro true 3 (List.take _ (List.drop 0 _)),_]]=_;simp only[List.drop_zero,List.take_length];rfl) rfl hq rfl ?_
 (conv=>whnf)<;>repeat' first|(refine aE ?_;conv=>whnf)|(refine aD ?_;conv=>whnf)
 refine CondP.mk (fun h=>?_) (fun h=>?_)<;>conv=>whnf
 ·refine CondP.mk (fun h1=>?_) (fun h1=>by simp at h1);rw[h1]
  (conv=>whnf)<;>repeat' first|(refine aE ?_;conv=>whnf)|(refine aD ?_;conv=>whnf)
  refine CondP.mk (fun h1=>?_) (fun h1=>by simp at h1);rw[h1]
  (conv=>whnf)<;>repeat' first|(refine aE ?_;conv=>whnf)|(refine aD ?_;conv=>whnf)
  simp only[List.drop_zero,List.take_length];refine aC (cas:=[aM true true true true true x.1,aM true true true true true x.1]) [.lend,.lend] rfl (by show some [DV.agg [DC.ro true 1 (List.take _ (List.drop 0 _)),DC.ro true 1 (List.take _ (List.drop 0 _)),DC.ro true 1 (List.take _ (List.drop 0 _)),DC.ro true 1 (List.take _ (List.drop 0 _)),DC.ro true 3 (List.take _ (List.drop 0 _)),_],DV.agg [DC.ro true 1 (List.take _ (List.drop 0 _)),DC.ro true 1 (List.take _ (List.drop 0 _)),DC.ro true 1 (List.take _ (List.drop 0 _)),DC.ro true 1 (List.take _ (List.drop 0 _)),DC.ro true 3 (List.take _ (List.drop 0 _)),_]]=_;simp only[List.drop_zero,List.take_length];rfl) rfl hq rfl ?_
  (conv=>whnf)<;>repeat' first|(refine aE ?_;conv=>whnf)|(refine aD ?_;conv=>whnf)
  exact⟨rfl,rfl⟩
 have h0:x.2.2=0:=by simpa using h
 obtain⟨i,c,rfl,rfl,c63,hok,hi,hlv,hb⟩:=hbr h0;have hw:=mK hok;have h16:=(mI hok hi hlv).2.2;have hj:c / 4<m.sp[i].sl.length:=by omega
 have mo:=aAK hok;obtain⟨mx,hN⟩:=mo.ic hw hi hj hb;have q1:=kU (l:=m.ram.rf);have q2:=kU (l:=m.swp.rf);have q3:=kU (l:=x.1.ram.rf);have q4:=kU (l:=x.1.swp.rf);rw[mo.ram.rf]at q1;rw[mo.swp.rf]at q2;rw[mx.ram.rf]at q3;rw[mx.swp.rf]at q4;rw[bU hi hj]at hN;simp only[gv]at hN;simp only[List.drop_zero,List.take_length];refine aC (cas:=[.agg [.ro true 1 (m.ram.tx.map rS),.ro true 1 (m.ram.rf.map rI)]]) [.lend] rfl (by show some [DV.agg [DC.ro true 1 (List.take _ (List.drop 0 _)),DC.ro true 1 (List.take _ (List.drop 0 _))]]=_;simp only[List.drop_zero,List.take_length]) rfl (k9 true true m.ram mo.ram.wq) rfl ?_;conv=>whnf
 refine aC (cas:=[.agg [.ro true 1 (m.swp.tx.map rS),.ro true 1 (m.swp.rf.map rI)]]) [.lend] rfl (by show some [DV.agg [DC.ro true 1 (List.take _ (List.drop 0 _)),DC.ro true 1 (List.take _ (List.drop 0 _))]]=_;simp only[List.drop_zero,List.take_length]) rfl (k9 true true m.swp mo.swp.wq) rfl ?_;conv=>whnf
 refine aC (cas:=[.agg [.ro true 1 (x.1.ram.tx.map rS),.ro true 1 (x.1.ram.rf.map rI)]]) [.lend] rfl (by show some [DV.agg [DC.ro true 1 (List.take _ (List.drop 0 _)),DC.ro true 1 (List.take _ (List.drop 0 _))]]=_;simp only[List.drop_zero,List.take_length]) rfl (k9 true true x.1.ram mx.ram.wq) rfl ?_;conv=>whnf
 refine aC (cas:=[.agg [.ro true 1 (x.1.swp.tx.map rS),.ro true 1 (x.1.swp.rf.map rI)]]) [.lend] rfl (by show some [DV.agg [DC.ro true 1 (List.take _ (List.drop 0 _)),DC.ro true 1 (List.take _ (List.drop 0 _))]]=_;simp only[List.drop_zero,List.take_length]) rfl (k9 true true x.1.swp mx.swp.wq) rfl ?_;conv=>whnf
 simp only[List.drop_zero,List.take_length];have hg:=aj (f:=rP) (List.getElem?_eq_getElem hi);refine aB (k:=i) rfl rfl rfl (by simpa using hi) ?_;conv=>whnf
 refine bw (i:=i) (k:=2) (sz':=4) (es':=m.sp[i].sl.map rL) m.sp[i].sl.length rfl rfl rfl (aS hg rfl rfl rfl) rfl (by simp) ?_;conv=>whnf
 refine fC rfl ?_;conv=>whnf
 simp only[xe (show c≤1000 by omega)];refine aB (k:=c / 4) rfl rfl rfl hj ?_;conv=>whnf
 refine bf rfl rfl rfl (aS (row:=rL m.sp[i].sl[c / 4]) (by simp[hj]) rfl rfl rfl) rfl ?_;conv=>whnf
 refine aY (i:=i) (k:=2) (g':=7) (lo:=0) (len:=m.sp[i].sl.length) (es2:=m.sp.map rP) (ov2:=[]) rfl (ag hg (by simp[rP]) (by simp only[af,if_true];rfl)) rfl rfl (by rw[List.drop_zero,aU];exact c9 hi) (by simp only[ae,if_true];rfl) ?_;rw[wrap64 (x:=(eU m.ram.rf:Int)+eU m.swp.rf) (by omega) (by omega),wrap64 (x:=(eU x.1.ram.rf:Int)+eU x.1.swp.rf) (by omega) (by omega)];by_cases hk:m.sp[i].sl[c / 4].kd=0
 ·rw[if_pos hk]at hN;rw[decide_eq_true hk];conv=>whnf
  refine CondP.mk (fun h1=>?_) (fun h1=>?_)<;>rw[h1]<;>(conv=>whnf)<;>repeat' first|(refine aE ?_;conv=>whnf)|(refine aD ?_;conv=>whnf)
  ·have h1:=of_decide_eq_true h1;omega
  rw[wrap64 (x:=(eU x.1.ram.rf:Int)+eU x.1.swp.rf+1) (by omega) (by omega)];refine CondP.mk (fun h2=>?_) (fun h2=>?_)<;>rw[h2]<;>(conv=>whnf)<;>repeat' first|(refine aE ?_;conv=>whnf)|(refine aD ?_;conv=>whnf)
  ·exact⟨rfl,rfl⟩
  ·have h2:=of_decide_eq_false h2;omega
 ·rw[if_neg hk]at hN;rw[decide_eq_false hk];conv=>whnf
  refine CondP.mk (fun h1=>?_) (fun h1=>?_)<;>rw[h1]<;>(conv=>whnf)<;>repeat' first|(refine aE ?_;conv=>whnf)|(refine aD ?_;conv=>whnf)
  ·exact⟨rfl,rfl⟩
  ·have h1:=of_decide_eq_false h1;omega
end Go.Qm

