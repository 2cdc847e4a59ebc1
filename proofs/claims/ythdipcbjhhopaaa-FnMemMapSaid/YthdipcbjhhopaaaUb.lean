import Derived.Test.YthdipcbjhhopaaaUa
namespace Go.Qm
open Go.Cq Go.Cq.D Go.RowKit Go.Proofs
set_option maxRecDepth 10000
theorem qk:SpI rJ:=⟨fun e=>by simp[rJ]at e,fun _=>⟨rfl,rfl⟩,fun x hx=>by simp[rJ]at hx⟩
theorem vr:Inv jv:=by
 have hp:∀kd:Int,Pl mq fun k=>cnt kd k jv.sp:=fun kd=>by
  have h0:∀k:Nat,cnt kd k jv.sp=0:=fun k=>by simp[jv,List.replicate,cnt,eH]
  refine⟨rfl,rfl,fun k hk=>?_,fun k hk h=>absurd (h0 k) h⟩;rw[h0,mq];simp only[List.getElem?_replicate,hk,if_true];rfl
 exact⟨hp 1,hp 2,rfl,by decide,fun s hs=>by rw[jv]at hs;obtain rfl:=List.eq_of_mem_replicate hs;exact qk⟩
theorem Inv.make{m:Mem}(h:Inv m)(hz:bm m.sp<m.sp.length):Inv (e8 m):=by
 have hd:=(h.ss _ (List.getElem_mem hz)).dd (kb hz);refine h.put hz ⟨fun _=>⟨by decide,rfl⟩,fun e=>by simp[ud]at e,fun x hx=>?_⟩ fun kd pl hk=>?_
 ·obtain rfl:=List.eq_of_mem_replicate hx;exact .inl rfl
 ·rw[hd.2];exact qP hk fun x hx=>by obtain rfl:=List.eq_of_mem_replicate hx;rfl
theorem tK{m:Mem}{i j k:Nat}(hi:i<m.sp.length)(hj:j<m.sp[i].sl.length):aJ (il m i j) i k=if k=j then cr else aJ m i k:=by
 have e:(m.sp[i]?.bind fun s=>s.sl[j]?)=some m.sp[i].sl[j]:=by simp[hi,hj]
 simp only[il,e];by_cases c:k=j
 ·subst c;rw[if_pos rfl];simp[aJ,aH,hi,hj]
 ·rw[if_neg c,pO c]
theorem p7{m:Mem}(h:Inv m){i:Nat}(hi:i<m.sp.length)(hlv:m.sp[i].lv=true):∀{t k:Nat},t≤16→k<t→aJ (cZ m i 0 t) i k=cr:=by
 intro t;induction t with
 |zero=>intro k _ hk;omega
 |succ t ih=>
  intro k ht hk;obtain⟨h1,s1⟩:=h.cZ (fr:=0) hi hlv (t:=t) (by omega);have hi1:i< (cZ m i 0 t).sp.length:=by rw[s1.1];exact hi
  have h16:=((h.ss _ (List.getElem_mem hi)).lv hlv).2;have hl:=(s1.2 i hi hi1).2.2;rw[cZ,tK hi1 (by omega)];split
  ·rfl
  ·exact ih (by omega) (by omega)
theorem Inv.drop{m:Mem}(h:Inv m){i:Nat}(hi:i<m.sp.length)(hlv:m.sp[i].lv=true):Inv (wP m i):=by
 obtain⟨h1,s1⟩:=h.cZ (fr:=0) hi hlv (t:=16) (by omega);have hz:=fun k(hk:k<16)=>p7 h hi hlv (t:=16) (k:=k) (Nat.le_refl _) hk
 have h16:=((h.ss _ (List.getElem_mem hi)).lv hlv).2;have hi1:i< (Go.Qm.cZ m i 0 16).sp.length:=by rw[s1.1];exact hi
 have hl:=(s1.2 i hi hi1).2.2;rw[wP];generalize Go.Qm.cZ m i 0 16=w at h1 s1 hz hi1 hl;refine h1.put hi1 qk fun kd pl hk=>?_
 rw[qP hk (l:=w.sp[i].sl) fun x hx=>?_]
 ·rfl
 ·obtain⟨k,hk2,rfl⟩:=List.getElem_of_mem hx;rw[←bf hi1 hk2,hz k (by omega)];rfl
theorem Inv.map{m:Mem}(h:Inv m){i:Nat}(hi:i<m.sp.length)(hlv:m.sp[i].lv=true)(a:Area):Inv (mapM (eo (eY m i) a) m i).1:=by
 cases e:eo (eY m i) a with
 |none=>exact h
 |some l=>exact h.bH hi hlv (kU e).2
theorem Inv.get{m:Mem}(h:Inv m){i a:Nat}(hi:i<m.sp.length)(hlv:m.sp[i].lv=true)(ha:a≤63):Inv (getM m i a).1:=by
 have h16:=((h.ss _ (List.getElem_mem hi)).lv hlv).2;unfold getM;split
 ·exact h
 ·split
  ·exact h
  ·rename_i m' hm;exact h.lh hi (by omega) hm
theorem Inv.sN{m:Mem}(h:Inv m){i a:Nat}{b:Int}(hi:i<m.sp.length)(hlv:m.sp[i].lv=true)(ha:a≤63):Inv (cY m i a b).1:=by
 have h16:=((h.ss _ (List.getElem_mem hi)).lv hlv).2;unfold cY;split
 ·exact h
 ·split
  ·exact h
  ·split
   ·exact h
   ·rename_i m2 hm;rw[Option.bind_eq_some_iff]at hm;obtain⟨m1,h1,h2⟩:=hm;have i1:=h.lh hi (by omega) h1;obtain⟨hi1,hj1,hk⟩:=iz h.wf hi (by omega) h1;have i2:=i1.own hi1 hj1 (by rw[bf hi1 hj1];exact hk) h2;exact i2.text (by simp[Go.Qm.sN])
theorem Inv.cut{m:Mem}(h:Inv m){i:Nat}(hi:i<m.sp.length)(hlv:m.sp[i].lv=true){fr mn:Int}:Inv (zy (im (eY m i) fr mn) m i fr mn).1:=by
 cases e:im (eY m i) fr mn with
 |none=>exact h
 |some l=>
  obtain⟨h2,h4⟩:=o7 e;have hb:=bz.1 h2;simp only at hb;have h1:=h.bH hi hlv h4;have hi1:i< (Go.Qm.bH m i l).sp.length:=by simpa [Go.Qm.bH]using hi
  have hlv1:(Go.Qm.bH m i l).sp[i].lv=true:=by simp[Go.Qm.bH,hlv]
  exact(h1.cZ (fr:=fr.toNat) (t:=mn.toNat) hi1 hlv1 (by omega)).1
theorem lI{l:List Area}(h:aT l=true):l.length≤6:=by simp only[aT,Bool.and_eq_true,decide_eq_true_eq]at h;exact h.2
theorem Inv.ar{m:Mem}(h:Inv m){i:Nat}(hi:i<m.sp.length)(hlv:m.sp[i].lv=true):(∀x,x∈m.sp[i].ar→az x=true)∧m.sp[i].ar.length≤6∧m.sp[i].sl.length=16:=⟨cx ((h.ss _ (List.getElem_mem hi)).lv hlv).1,lI ((h.ss _ (List.getElem_mem hi)).lv hlv).1,((h.ss _ (List.getElem_mem hi)).lv hlv).2⟩
theorem Inv.fits{m:Mem}(h:Inv m):m.fits 1048576:=by
 refine⟨by rw[h.ram.tx];decide,by rw[h.ram.rf];decide,by rw[h.swp.tx];decide,by rw[h.swp.rf];decide,by rw[h.sp];decide,fun s hs=>⟨?_,?_⟩⟩
 ·have i1:=h.ss s hs;cases e:s.lv with
  |true=>have:=lI (i1.lv e).1;omega
  |false=>rw[(i1.dd e).1];simp
 ·have:=(h.ss s hs).l16;omega
end Go.Qm
namespace Go.Qm
open Go.Cq Go.Cq.D Go.RowKit Go.Proofs
set_option maxRecDepth 10000
def jR(c:CV)(es:List (List PV)):JN:=⟨fun _=>none,some (c,es)⟩
theorem yH(c:CV)(es:List (List PV))(hc:uH es c)(hl:es.length≤9223372036854775807):gq Try.prog (jR (mY c) (es.take 2000)) 73 [.one (.sc c)] [] 0 fun res H'=>∃t,res= .v (.one (.ptr t 0 0))∧aG H' t=some (.box ([mY c,.int .i64 0].map .sc)):=by
 refine fm hmix Try.func73 ok73 (fun g p h=>by simp[jR]at h) ?_;rcases hc with⟨rfl,z,rfl⟩| ⟨id,base,lim,rfl⟩
 ·conv=>whnf
  refine vi rfl ?_;conv=>whnf
  refine CondP.mk (fun h=>by simp at h) (fun _=>?_);conv=>whnf
  exact⟨0,rfl,rfl⟩
 ·conv=>whnf
  refine kP rfl ?_;conv=>whnf
  refine CondP.mk (fun h=>?_) (fun h=>?_)<;>conv=>whnf
  ·have h:2000<es.length:=by simp at h;omega
   refine aBJ (m:=2000) (b':=base+0) (l':=2000-0) (lim':=lim.map (· -0)) (es:=es.take 2000) rfl rfl (by simp only[jR,mY,if_pos h]) (by omega) ?_;conv=>whnf
   exact⟨0,rfl,by simp only[mY,if_pos h];rfl⟩
  ·have h:¬2000<es.length:=by simp at h;omega
   exact⟨0,rfl,by simp only[mY,if_neg h];rfl⟩
theorem aC5{a b:Int}(h1:0≤a)(h2:a<4611686018427387904)(h3:0≤b)(h4:b<4611686018427387904):0≤IntKind.wrap .i64 ((BitVec.ofInt IntKind.i64.bits a ^^^ BitVec.ofInt IntKind.i64.bits b).toNat:Int):=by
 have e:∀{a:Int},0≤a→a<4611686018427387904→(BitVec.ofInt 64 a).toNat<2 ^ 62:=fun{a} h1 h2=>by rw[BitVec.toNat_ofInt];omega
 have:=Nat.xor_lt_two_pow (e h1 h2) (e h3 h4);have hx:(BitVec.ofInt IntKind.i64.bits a ^^^ BitVec.ofInt IntKind.i64.bits b).toNat<2 ^ 62:=by rw[BitVec.toNat_xor];exact this
 rw[wrap64 (by omega) (by omega)];omega
theorem aBr(c:CV)(bs:List UInt8)(p:Nat)(n:Int)(hc:uH (bs.map dO) c)(hl:bs.length≤2000)(hp:p≤1000000)(hn:1≤n∧n≤1000):gq Try.prog (jR c (bs.map dO)) 91 [.one (.ptr 0 0 0),.one (dI n)] [(0,.box [.sc c,dI p])] 1
  fun x H'=>∃v:Int,0≤v∧v<n∧x= .v (.one (dI v))∧H'=[(0,.box [.sc c,dI ((p+1:Nat):Int)])]:=by
 refine fm hmix Try.func91 ok91 (fun g p h=>by simp[jR]at h) ?_;have hn0:decide (n<1)=false:=by simp;omega
 have hw:IntKind.wrap .i64 ((p:Int)+1)=((p+1:Nat):Int):=by rw[wrap64 (by omega) (by omega)];omega
 rcases hc with⟨he,z,rfl⟩| ⟨id,base,lim,rfl⟩
 ·have he:bs=[]:=by simpa using he
  conv=>whnf
  rw[hn0,hw];refine aC ?_;conv=>whnf
  refine aC ?_;conv=>whnf
  refine aC ?_;conv=>whnf
  refine aC ?_;conv=>whnf
  refine aC ?_;conv=>whnf
  refine vi rfl ?_;conv=>whnf
  refine aC ?_;conv=>whnf
  refine aD ?_;conv=>whnf
  exact⟨0,by omega,by omega,rfl,rfl⟩
 ·rw[List.length_map];conv=>whnf
  rw[hn0,hw];refine aC ?_;conv=>whnf
  refine aC ?_;conv=>whnf
  refine aC ?_;conv=>whnf
  refine aC ?_;conv=>whnf
  refine aC ?_;conv=>whnf
  refine kP rfl ?_;conv=>whnf
  refine aC ?_;conv=>whnf
  have hw2:IntKind.wrap .i64 (((p+1:Nat):Int)-1)=(p:Int):=by rw[wrap64 (by omega) (by omega)];omega
  refine CondP.mk (fun h=>?_) (fun h=>?_)<;>conv=>whnf
  ·exact⟨0,by omega,by omega,rfl,rfl⟩
  have hb:0<bs.length:=by simp only[decide_eq_false_iff_not]at h;omega
  rw[hw2];refine kP rfl ?_;conv=>whnf
  refine CondP.mk (fun h2=>?_) (fun h2=>?_)<;>conv=>whnf
  ·have h2:p<bs.length:=by simp at h2;omega
   refine rN (k:=p) rfl rfl rfl (by simpa using h2) ?_;conv=>whnf
   refine aF (r:=.one (.sc (.int .u8 bs[p].toNat))) rfl (by simp[ah,dO,h2]) ?_;conv=>whnf
   rw[show IntKind.wrap .i64 (bs[p].toNat:Int)=bs[p].toNat from wrap64 (by omega) (by have:=bs[p].toNat_lt;omega)];refine rQ rfl rfl (by omega) ?_;conv=>whnf
   refine⟨_,?_,?_,rfl,rfl⟩
   ·exact Int.tmod_nonneg _ (by omega)
   ·exact Int.tmod_lt_of_pos _ (by omega)
  ·have h2:bs.length≤p:=by simp at h2;omega
   refine kP rfl ?_;conv=>whnf
   refine rQ rfl rfl (by omega) ?_;conv=>whnf
   have hL:(0:Int)<bs.length:=by omega
   have q1:p % bs.length<bs.length:=Nat.mod_lt _ hb;have q2:(p*7+3) % bs.length<bs.length:=Nat.mod_lt _ hb;have d1:=bs[p % bs.length].toNat_lt;have d2:=bs[(p*7+3) % bs.length].toNat_lt;have w1:IntKind.wrap .i64 ((p:Int)*7)=(p:Int)*7:=wrap64 (by omega) (by omega);have w2:IntKind.wrap .i64 ((p:Int)*7+3)=(p:Int)*7+3:=wrap64 (by omega) (by omega);have e1:((p:Int)).tmod bs.length=((p % bs.length:Nat):Int):=by rw[Int.tmod_eq_emod_of_nonneg (by omega)];omega
   have e2:((p:Int)*7+3).tmod bs.length=(((p*7+3) % bs.length:Nat):Int):=by rw[Int.tmod_eq_emod_of_nonneg (by omega)];simp
   rw[e1];refine rN (k:=p % bs.length) rfl rfl rfl (by simpa using q1) ?_;conv=>whnf
   refine aF (r:=.one (.sc (.int .u8 bs[p % bs.length].toNat))) rfl (by simp[ah,dO,q1]) ?_;conv=>whnf
   refine kP rfl ?_;conv=>whnf
   rw[w1,w2];refine rQ rfl rfl (by omega) ?_;conv=>whnf
   rw[e2];refine rN (k:=(p*7+3) % bs.length) rfl rfl rfl (by simpa using q2) ?_;conv=>whnf
   refine aF (r:=.one (.sc (.int .u8 bs[(p*7+3) % bs.length].toNat))) rfl (by simp[ah,dO,q2]) ?_;conv=>whnf
   refine kP rfl ?_;conv=>whnf
   refine aA1 rfl rfl (by omega) ?_;conv=>whnf
   obtain⟨X,hX,x0,x1⟩:∃X:Int,IntKind.wrap .i64 (IntKind.wrap .i64 (IntKind.wrap .i64 (IntKind.wrap .i64 (IntKind.wrap .i64 (bs[p % bs.length].toNat:Int)*131)+IntKind.wrap .i64 (IntKind.wrap .i64 (bs[(p*7+3) % bs.length].toNat:Int)*1117))+IntKind.wrap .i64 ((p:Int)*29))+IntKind.wrap .i64 (IntKind.wrap .i64 ((p:Int).tdiv bs.length)*53))=X∧0≤X∧X<4611686018427387904:=by
    generalize bs[p % bs.length].toNat=B1 at d1;generalize bs[(p*7+3) % bs.length].toNat=B2 at d2;have hQ:(p:Int).tdiv bs.length=((p / bs.length:Nat):Int):=by rw[Int.tdiv_eq_ediv_of_nonneg (by omega)];simp
    have hQ2:p / bs.length≤p:=Nat.div_le_self _ _;rw[hQ];generalize p / bs.length=Q at hQ2;have d1:B1<256:=d1;have d2:B2<256:=d2;have a1:IntKind.wrap .i64 (B1:Int)=B1:=wrap64 (by omega) (by omega);have a2:IntKind.wrap .i64 ((B1:Int)*131)=B1*131:=wrap64 (by omega) (by omega);have a3:IntKind.wrap .i64 (B2:Int)=B2:=wrap64 (by omega) (by omega);have a4:IntKind.wrap .i64 ((B2:Int)*1117)=B2*1117:=wrap64 (by omega) (by omega);have a5:IntKind.wrap .i64 ((B1:Int)*131+B2*1117)=B1*131+B2*1117:=wrap64 (by omega) (by omega);have a6:IntKind.wrap .i64 ((p:Int)*29)=p*29:=wrap64 (by omega) (by omega);have a7:IntKind.wrap .i64 ((B1:Int)*131+B2*1117+p*29)=B1*131+B2*1117+p*29:=wrap64 (by omega) (by omega);have a8:IntKind.wrap .i64 (Q:Int)=Q:=wrap64 (by omega) (by omega);have a9:IntKind.wrap .i64 ((Q:Int)*53)=Q*53:=wrap64 (by omega) (by omega);have a10:IntKind.wrap .i64 ((B1:Int)*131+B2*1117+p*29+Q*53)=B1*131+B2*1117+p*29+Q*53:=wrap64 (by omega) (by omega);rw[a1,a2,a3,a4,a5,a6,a7,a8,a9,a10];exact⟨_,rfl,by omega,by omega⟩
   rw[hX];refine aA1 rfl rfl (by decide) ?_;have hY:IntKind.wrap .i64 (X.tdiv 64)=X / 64:=by rw[Int.tdiv_eq_ediv_of_nonneg x0];exact wrap64 (by omega) (by omega)
   rw[hY];conv=>whnf
   refine rQ rfl rfl (by omega) ?_;conv=>whnf
   refine⟨_,?_,?_,rfl,rfl⟩
   ·exact Int.tmod_nonneg _ (aC5 x0 x1 (by omega) (by omega))
   ·exact Int.tmod_lt_of_pos _ (by omega)
end Go.Qm
namespace Go.Qm
open Go.Cq Go.Cq.D Go.RowKit Go.Proofs
set_option maxRecDepth 10000
def rB(c:CV)(p:Nat):DB:=.box [.sc c,dI p]
structure RdOk(c:CV)(bs:List UInt8):Prop where
 c:uH (bs.map dO) c
 l:bs.length≤2000
section
variable{c:CV}{bs:List UInt8}{ts:DTs}{H:DH}{m:Nat}{K:DT→DTs→DH→Nat→List Nat→Prop}
theorem ax{x y:Opd}{g p:Nat}{n:Int}(r:RdOk c bs)(hx:cJ ts x=some (.ptr g 0 0))(hy:evD ts y=some (.one (dI n)))(hg:aG H g=some (rB c p))(hp:p≤1000000)(hn:1≤n∧n≤1000)(h:∀v:Int,0≤v→v<n→fTs ts fun ts1=>fDH (dK g (rB c (p+1)) H) fun H'=>K (.v (.one (dI v))) ts1 H' m [g]):OpP ⟨Try.prog,jR c (bs.map dO)⟩ (.call 91 [x,y]) ts H m K:=by
 have hxd:evD ts x=some (.one (.ptr g 0 0)):=by
  unfold cJ at hx;split at hx
  ·rename_i e;cases hx;exact e
  ·simp at hx
 have hr:gC [g] g 0=some 0:=by simp[gC]
 refine gi [] [.pass,.pass] [g] (jR c (bs.map dO)) (das:=[.one (.ptr g 0 0),.one (dI n)]) (cas:=[.one (.ptr 0 0 0),.one (dI n)]) (Hc:=[(0,rB c p)]) rfl (by simp only[di,hxd,hy]) (by simp only[gD,qM,qD,hr,Option.map_some,dI]) (by simp only[eh,hg,Option.bind_some];rfl) (by simp[nodup,given,eF,cQ]) (aBr c bs p n r.c r.l hp hn) (fun t p h=>by simp[jR]at h) ?_;rintro res H3 ⟨v,h1,h2,rfl,rfl⟩;have h:=h v h1 h2;simp only[lK,lW]at h;refine⟨rfl,dK g (rB c (p+1)) H,?_,h⟩;simp only[given,fq,cB,aG,Nat.beq_refl,cond_true,hg,rB,List.length_cons,List.length_nil,if_true];rfl
end
theorem wJ(c:CV)(bs:List UInt8)(p:Nat)(r:RdOk c bs)(hp:p≤999990):gq Try.prog (jR c (bs.map dO)) 119 [.one (.ptr 0 0 0)] [(0,rB c p)] 1
  fun x H'=>∃(a:Area)(q:Nat),0≤a.fr∧a.fr≤15∧ -1≤a.mn∧a.mn≤17∧p≤q∧q≤p+6∧x= .v (.agg (aA a))∧H'=[(0,rB c q)]:=by
 refine fm hmix Try.func119 ok119 (fun g p h=>by simp[jR]at h) ?_;rcases r.c with⟨-,z,rfl⟩| ⟨id,base,lim,rfl⟩<;>conv=>whnf
 all_goals
  refine ax r rfl rfl rfl (by omega) (by omega) fun f f1 f2=>?_
  conv=>whnf
  refine ax r rfl rfl rfl (by omega) (by omega) fun k k1 k2=>?_
  conv=>whnf
  have ew:IntKind.wrap .i64 (1+k)=1+k:=wrap64 (by omega) (by omega);rw[ew];refine ax r rfl rfl rfl (by omega) (by omega) fun w w1 w2=>?_
  conv=>whnf
  refine ax r rfl rfl rfl (by omega) (by omega) fun s s1 s2=>?_
  conv=>whnf
  refine ax r rfl rfl rfl (by omega) (by omega) fun u u1 u2=>?_
  conv=>whnf
  refine CondP.mk (fun h=>?_) (fun h=>?_)<;>conv=>whnf
  ·refine bX (db:=.arr 1 [rI 0,rI (-1),rI 16,rI 17] []) rfl rfl rfl ?_;conv=>whnf
   refine ax r rfl rfl rfl (by omega) (by omega) fun x x1 x2=>?_
   conv=>whnf
   have hx:x=0∨x=1∨x=2∨x=3:=by omega
   rcases hx with rfl|rfl|rfl|rfl
   all_goals
    conv=>whnf
    refine aE (k:=_) rfl rfl rfl (by decide) ?_;conv=>whnf
    refine d9 rfl rfl rfl rfl rfl ?_;conv=>whnf
    exact⟨⟨f,_,_,_⟩,p+6,f1,by simp only;omega,by simp,by simp,by omega,by omega,rfl,rfl⟩
  ·exact⟨⟨f,1+k,_,_⟩,p+5,f1,by simp only;omega,by simp only;omega,by simp only;omega,by omega,by omega,rfl,rfl⟩
end Go.Qm
namespace Go.Qm
open Go.Cq Go.Cq.D Go.RowKit Go.Proofs
set_option maxRecDepth 10000
theorem aC6(c:CV)(bs:List UInt8)(p:Nat)(b1 b2 b3 b4 b5:Bool)(m:Mem)(r:RdOk c bs)(hp:p≤999900)(hl:m.sp.length≤5):gq Try.prog (jR c (bs.map dO)) 75 [.one (.ptr 0 0 0),aM b1 b2 b3 b4 b5 m] [(0,rB c p)] 1
  fun x H'=>∃(w:Int)(q:Nat), -1≤w∧w≤5∧p≤q∧q≤p+11∧x= .v (.one (dI w))∧H'=[(0,rB c q)]:=by
 refine fm hmix Try.func75 ok75 (fun g p h=>by simp[jR]at h) ?_;rcases r.c with⟨-,z,rfl⟩| ⟨id,base,lim,rfl⟩<;>conv=>whnf
 all_goals
  refine ak (fun s:Nat×Nat=>[(0,.v (.one (.ptr 0 0 0))),(3,.v (.one (.ptr 1 0 0))),(5,.v (.one (dI s.1)))]) (fun s=>[(1,.box [.ro b1 1 (m.ram.tx.map rS),.ro b2 1 (m.ram.rf.map rI),.ro b3 1 (m.swp.tx.map rS),.ro b4 1 (m.swp.rf.map rI),.ro b5 3 (m.sp.map rP),dI m.hd]),(0,rB _ s.2)]) (fun _=>2)
   (fun s=>s.1≤m.sp.length∧p≤s.2∧s.2≤p+2*s.1) (fun s=>m.sp.length-s.1) (0,p) ⟨by omega,by omega,by omega⟩ rfl rfl rfl fun s hs=>?_
  obtain⟨i,q⟩:=s;obtain⟨hi,hq1,hq2⟩:=hs;simp only at hi hq1 hq2;conv=>whnf
  refine CondP.mk (fun h=>?_) (fun h=>?_)<;>rw[h]<;>(conv=>whnf)<;>repeat' first|(refine aD ?_;conv=>whnf)|(refine aC ?_;conv=>whnf)
  case' _=>
   have hlt:i<m.sp.length:=by simpa using h
   refine ax r rfl rfl rfl (by omega) (by omega) fun v v1 v2=>?_
   conv=>whnf
   refine aD ?_;conv=>whnf
   refine CondP.mk (fun h1=>?_) (fun h1=>?_)<;>conv=>whnf
   case' _=>
    refine aI (k:=i) rfl rfl (by simpa using hlt) ?_;conv=>whnf
    refine aF rfl (r:=.one (dB m.sp[i].lv)) (by simp[ah,rP,hlt,eB,dB]) ?_;conv=>whnf
    have next:i+1≤m.sp.length∧m.sp.length-(i+1)<m.sp.length-i∧IntKind.wrap .i64 ((i:Int)+1)=((i+1:Nat):Int):=⟨hlt,by omega,up hlt (by omega)⟩
    refine CondP.mk (fun h2=>?_) (fun h2=>?_)<;>rw[h2]<;>(conv=>whnf)<;>repeat' first|(refine aD ?_;conv=>whnf)|(refine aC ?_;conv=>whnf)
    case' _=>
     refine ax r rfl rfl rfl (by omega) (by omega) fun w w1 w2=>?_
     conv=>whnf
     refine aD ?_;conv=>whnf
     refine CondP.mk (fun h3=>?_) (fun h3=>?_)<;>conv=>whnf
     case _=>exact⟨_,_,by omega,by omega,by omega,by omega,rfl,rfl⟩
     case _=>exact⟨(i+1,q+2),next.2.1,⟨next.1,by omega,by omega⟩,by rw[next.2.2];rfl,rfl,rfl⟩
    case _=>exact⟨(i+1,q+1),next.2.1,⟨next.1,by omega,by omega⟩,by rw[next.2.2];rfl,rfl,rfl⟩
  all_goals
   refine bX (db:=.arr 1 [rI 0,rI 0,rI 0,rI 1,rI 2,rI 4,rI (-1),rI 5] []) rfl rfl rfl ?_;conv=>whnf
   refine ax r rfl rfl rfl (by simp only;omega) (by omega) fun w w1 w2=>?_
   conv=>whnf
   have hw:w=0∨w=1∨w=2∨w=3∨w=4∨w=5∨w=6∨w=7:=by omega
   rcases hw with rfl|rfl|rfl|rfl|rfl|rfl|rfl|rfl
   all_goals
    conv=>whnf
    refine aE (k:=_) rfl rfl rfl (by decide) ?_;conv=>whnf
    refine d9 rfl rfl rfl rfl rfl ?_;conv=>whnf
    exact⟨_,_,by decide,by decide,by omega,by omega,rfl,rfl⟩
end Go.Qm
namespace Go.Qm
open Go.Cq Go.Cq.D Go.RowKit Go.Proofs
set_option maxRecDepth 10000
theorem LsOk.bH{m:Mem}{i fr:Nat}{l:List Area}(h:LsOk m i fr 0):LsOk (Go.Qm.bH m i l) i fr 0:=by
 have hl:i< (Go.Qm.bH m i l).sp.length:=by simpa [Go.Qm.bH]using h.hi
 have hi:=h.hi;have e:(Go.Qm.bH m i l).sp[i].sl=m.sp[i].sl:=by simp[Go.Qm.bH]
 exact⟨h.ram,h.swp,hl,by rw[e];exact h.sl,fun j hj hf=>by simp only[e];exact h.pl j (by rw[←e];exact hj) hf⟩
set_option maxHeartbeats 8000000 in
theorem aBX(c:CV)(bs:List UInt8)(p:Nat)(m:Mem)(r:RdOk c bs)(hp:p≤999900)(h:Inv m):gq Try.prog (jR c (bs.map dO)) 144 [.one (.ptr 0 0 0),oM m] [(0,rB c p)] 1
  fun x H'=>∃(m':Mem)(q:Nat),Inv m'∧p≤q∧q≤p+8∧x= .v (oM m')∧H'=[(0,rB c q)]:=by
 refine fm hmix Try.func144 ok144 (fun g p h=>by simp[jR]at h) ?_;rcases r.c with⟨-,z,rfl⟩| ⟨id,base,lim,rfl⟩<;>conv=>whnf
 all_goals
  refine ax r rfl rfl rfl (by omega) (by omega) fun v v1 v2=>?_
  conv=>whnf
  simp only[List.drop_zero,List.take_length];refine aB (cas:=[aM true true true true true m,.one (dI v)]) [.lend,.pass] rfl (by show some [DV.agg [DC.ro true 1 (List.take _ (List.drop 0 _)),DC.ro true 1 (List.take _ (List.drop 0 _)),DC.ro true 1 (List.take _ (List.drop 0 _)),DC.ro true 1 (List.take _ (List.drop 0 _)),DC.ro true 3 (List.take _ (List.drop 0 _)),_],_]=_;simp only[List.drop_zero,List.take_length];rfl) rfl (mJ true true true true true m v (by rw[h.sp];decide)) rfl ?_;conv=>whnf
  refine CondP.mk (fun h1=>?_) (fun h1=>?_)<;>rw[h1]<;>(conv=>whnf)<;>repeat' first|(refine aD ?_;conv=>whnf)|(refine aC ?_;conv=>whnf)
  case' _=>
   simp only[List.drop_zero,List.take_length];refine aB (cas:=[aM true true true true true m,.one (dI 0)]) [.lend,.pass] rfl (by show some [DV.agg [DC.ro true 1 (List.take _ (List.drop 0 _)),DC.ro true 1 (List.take _ (List.drop 0 _)),DC.ro true 1 (List.take _ (List.drop 0 _)),DC.ro true 1 (List.take _ (List.drop 0 _)),DC.ro true 3 (List.take _ (List.drop 0 _)),_],_]=_;simp only[List.drop_zero,List.take_length];rfl) rfl (mJ true true true true true m 0 (by rw[h.sp];decide)) rfl ?_;conv=>whnf
   refine CondP.mk (fun h2=>?_) (fun h2=>?_)<;>rw[h2]<;>(conv=>whnf)<;>repeat' first|(refine aD ?_;conv=>whnf)|(refine aC ?_;conv=>whnf)
   case' _=>
    simp only[List.drop_zero,List.take_length];refine aB (cas:=[aM true true true true true m]) [.lend] rfl (by show some [DV.agg [DC.ro true 1 (List.take _ (List.drop 0 _)),DC.ro true 1 (List.take _ (List.drop 0 _)),DC.ro true 1 (List.take _ (List.drop 0 _)),DC.ro true 1 (List.take _ (List.drop 0 _)),DC.ro true 3 (List.take _ (List.drop 0 _)),_]]=_;simp only[List.drop_zero,List.take_length];rfl) rfl (oH true true true true true m h.fits) rfl ?_;conv=>whnf
    refine CondP.mk (fun h3=>?_) (fun h3=>?_)<;>conv=>whnf
    case _=>
     have hz:bm m.sp<m.sp.length:=by
      rcases Nat.lt_or_ge (bm m.sp) m.sp.length with c|c
      ·exact c
      ·simp[fT,show¬bm m.sp<m.sp.length by omega]at h3
     have hM:(fT m).1=e8 m:=by
      unfold fT at h3 ⊢;split
      ·rfl
      ·rename_i c;rw[if_neg c]at h3;simp at h3
     refine⟨e8 m,p+1,h.make hz,by omega,by omega,?_,rfl⟩;rw[hM];simp[oM,dI]
    case _=>refine⟨m,p+1,h,by omega,by omega,?_,rfl⟩;simp[oM,dI]
   case' _=>
    have h2:dn m.sp 0=true:=by simpa using h2
    obtain⟨hi,hlv⟩:∃hi:0<m.sp.length,m.sp[0].lv=true:=by
     obtain⟨i,e,hi,hlv⟩:=fh h2;have:i=0:=by omega
     subst this;exact⟨hi,hlv⟩
  rotate_left
  case' _=>
   have h1:dn m.sp v=true:=by simpa using h1
   obtain⟨i,rfl,hi,hlv⟩:=fh h1;simp only[List.drop_zero,List.take_length];refine aB (cas:=[aM true true true true true m,.one (dI i)]) [.lend,.pass] rfl (by show some [DV.agg [DC.ro true 1 (List.take _ (List.drop 0 _)),DC.ro true 1 (List.take _ (List.drop 0 _)),DC.ro true 1 (List.take _ (List.drop 0 _)),DC.ro true 1 (List.take _ (List.drop 0 _)),DC.ro true 3 (List.take _ (List.drop 0 _)),_],_]=_;simp only[List.drop_zero,List.take_length];rfl) rfl (mJ true true true true true m i (by rw[h.sp];decide)) rfl ?_;rw[h1]
   (conv=>whnf)<;>repeat' first|(refine aD ?_;conv=>whnf)|(refine aC ?_;conv=>whnf)
  all_goals
   have ar:=h.ar hi hlv;refine ax r rfl rfl rfl (by omega) (by omega) fun ad a1 a2=>?_
   obtain⟨a,rfl⟩:=Int.eq_ofNat_of_zero_le a1;conv=>whnf
   refine ax r rfl rfl rfl (by omega) (by omega) fun k k1 k2=>?_
   conv=>whnf
   refine CondP.mk (fun c0=>?_) (fun c0=>?_)<;>conv=>whnf
   case' _=>
    simp only[List.drop_zero,List.take_length];refine aB (cas:=[aM true true true true true m]) [.lend] rfl (by show some [DV.agg [DC.ro true 1 (List.take _ (List.drop 0 _)),DC.ro true 1 (List.take _ (List.drop 0 _)),DC.ro true 1 (List.take _ (List.drop 0 _)),DC.ro true 1 (List.take _ (List.drop 0 _)),DC.ro true 3 (List.take _ (List.drop 0 _)),_]]=_;simp only[List.drop_zero,List.take_length];rfl) rfl (dz true true true true true m h.fits) rfl ?_;conv=>whnf
    refine aB [.fI,.pass] rfl rfl rfl (by simpa [oM,dI]using xF m _ h.wf hi ar.1 (by omega) ar.2.2 hlv) rfl ?_;conv=>whnf
    refine CondP.mk (fun c1=>?_) (fun c1=>?_)<;>conv=>whnf
    case _=>refine⟨_,p+3,h.ko hi hlv (by simpa using c1),by omega,by omega,?_,rfl⟩;simp[oM,dI]
    case _=>refine⟨m,p+3,h,by omega,by omega,?_,rfl⟩;simp[oM,dI]
   refine CondP.mk (fun c1=>?_) (fun c1=>?_)<;>conv=>whnf
   case' _=>
    simp only[List.drop_zero,List.take_length];refine aB (cas:=[aM true true true true true m]) [.lend] rfl (by show some [DV.agg [DC.ro true 1 (List.take _ (List.drop 0 _)),DC.ro true 1 (List.take _ (List.drop 0 _)),DC.ro true 1 (List.take _ (List.drop 0 _)),DC.ro true 1 (List.take _ (List.drop 0 _)),DC.ro true 3 (List.take _ (List.drop 0 _)),_]]=_;simp only[List.drop_zero,List.take_length];rfl) rfl (dz true true true true true m h.fits) rfl ?_;conv=>whnf
    refine ax r rfl rfl rfl (by omega) (by omega) fun f f1 f2=>?_
    conv=>whnf
    refine ax r rfl rfl rfl (by omega) (by omega) fun n n1 n2=>?_
    conv=>whnf
    refine aB [.fI,.pass,.pass,.pass] rfl rfl rfl (by simpa [oM,dI]using xg m _ f (IntKind.wrap .i64 (1+n)) hi ar.2.1 fun l fr=>LsOk.bH (h.ls hi hlv fr)) rfl ?_;conv=>whnf
    refine⟨_,p+5,h.cut hi hlv (fr:=f) (mn:=IntKind.wrap .i64 (1+n)),by omega,by omega,?_,rfl⟩;simp[oM,dI]
   refine CondP.mk (fun c2=>?_) (fun c2=>?_)<;>rw[c2]<;>(conv=>whnf)<;>repeat' first|(refine aD ?_;conv=>whnf)|(refine aC ?_;conv=>whnf)
   case' _=>
    simp only[List.drop_zero,List.take_length];refine aB (cas:=[aM true true true true true m]) [.lend] rfl (by show some [DV.agg [DC.ro true 1 (List.take _ (List.drop 0 _)),DC.ro true 1 (List.take _ (List.drop 0 _)),DC.ro true 1 (List.take _ (List.drop 0 _)),DC.ro true 1 (List.take _ (List.drop 0 _)),DC.ro true 3 (List.take _ (List.drop 0 _)),_]]=_;simp only[List.drop_zero,List.take_length];rfl) rfl (dz true true true true true m h.fits) rfl ?_;conv=>whnf
    refine ax r rfl rfl rfl (by omega) (by omega) fun f f1 f2=>?_
    conv=>whnf
    refine ax r rfl rfl rfl (by omega) (by omega) fun n n1 n2=>?_
    conv=>whnf
    refine ax r rfl rfl rfl (by omega) (by omega) fun w w1 w2=>?_
    conv=>whnf
    refine ax r rfl rfl rfl (by omega) (by omega) fun s s1 s2=>?_
    conv=>whnf
    refine aB [.fI,.pass,.pass] rfl rfl rfl (by simpa [oM,dI,aA,dB]using kB m _ ⟨f,IntKind.wrap .i64 (1+n),decide (0<w),decide (s=0)⟩ hi (by omega)) rfl ?_;conv=>whnf
    refine⟨_,p+7,h.map hi hlv ⟨f,IntKind.wrap .i64 (1+n),decide (0<w),decide (s=0)⟩,by omega,by omega,?_,rfl⟩;simp[oM,dI]
   refine CondP.mk (fun c3=>?_) (fun c3=>?_)<;>rw[c3]<;>(conv=>whnf)<;>repeat' first|(refine aD ?_;conv=>whnf)|(refine aC ?_;conv=>whnf)
   case' _=>
    simp only[List.drop_zero,List.take_length];refine aB (cas:=[aM true true true true true m]) [.lend] rfl (by show some [DV.agg [DC.ro true 1 (List.take _ (List.drop 0 _)),DC.ro true 1 (List.take _ (List.drop 0 _)),DC.ro true 1 (List.take _ (List.drop 0 _)),DC.ro true 1 (List.take _ (List.drop 0 _)),DC.ro true 3 (List.take _ (List.drop 0 _)),_]]=_;simp only[List.drop_zero,List.take_length];rfl) rfl (dz true true true true true m h.fits) rfl ?_;conv=>whnf
    refine ax r rfl rfl rfl (by omega) (by omega) fun f f1 f2=>?_
    conv=>whnf
    refine ax r rfl rfl rfl (by omega) (by omega) fun n n1 n2=>?_
    conv=>whnf
    refine ax r rfl rfl rfl (by omega) (by omega) fun w w1 w2=>?_
    conv=>whnf
    refine ax r rfl rfl rfl (by omega) (by omega) fun s s1 s2=>?_
    conv=>whnf
    refine aB [.fI,.pass,.pass] rfl rfl rfl (by simpa [oM,dI,aA,dB]using kB m _ ⟨f,IntKind.wrap .i64 (1+n),decide (0<w),decide (s=0)⟩ hi (by omega)) rfl ?_;conv=>whnf
    refine⟨_,p+7,h.map hi hlv ⟨f,IntKind.wrap .i64 (1+n),decide (0<w),decide (s=0)⟩,by omega,by omega,?_,rfl⟩;simp[oM,dI]
   refine CondP.mk (fun c4=>?_) (fun c4=>?_)<;>conv=>whnf
   case' _=>
    simp only[List.drop_zero,List.take_length];refine aB (cas:=[aM true true true true true m]) [.lend] rfl (by show some [DV.agg [DC.ro true 1 (List.take _ (List.drop 0 _)),DC.ro true 1 (List.take _ (List.drop 0 _)),DC.ro true 1 (List.take _ (List.drop 0 _)),DC.ro true 1 (List.take _ (List.drop 0 _)),DC.ro true 3 (List.take _ (List.drop 0 _)),_]]=_;simp only[List.drop_zero,List.take_length];rfl) rfl (dz true true true true true m h.fits) rfl ?_;conv=>whnf
    refine ax r rfl rfl rfl (by omega) (by omega) fun f f1 f2=>?_
    conv=>whnf
    refine ax r rfl rfl rfl (by omega) (by omega) fun n n1 n2=>?_
    conv=>whnf
    refine ax r rfl rfl rfl (by omega) (by omega) fun w w1 w2=>?_
    conv=>whnf
    refine ax r rfl rfl rfl (by omega) (by omega) fun s s1 s2=>?_
    conv=>whnf
    refine aB [.fI,.pass,.pass] rfl rfl rfl (by simpa [oM,dI,aA,dB]using kB m _ ⟨f,IntKind.wrap .i64 (1+n),decide (0<w),decide (s=0)⟩ hi (by omega)) rfl ?_;conv=>whnf
    refine⟨_,p+7,h.map hi hlv ⟨f,IntKind.wrap .i64 (1+n),decide (0<w),decide (s=0)⟩,by omega,by omega,?_,rfl⟩;simp[oM,dI]
   refine CondP.mk (fun c5=>?_) (fun c5=>?_)<;>conv=>whnf
   case' _=>
    refine ax r rfl rfl rfl (by omega) (by omega) fun f f1 f2=>?_
    conv=>whnf
    refine CondP.mk (fun c6=>?_) (fun c6=>?_)<;>conv=>whnf
    case' _=>
     simp only[List.drop_zero,List.take_length];refine aB (cas:=[aM true true true true true m]) [.lend] rfl (by show some [DV.agg [DC.ro true 1 (List.take _ (List.drop 0 _)),DC.ro true 1 (List.take _ (List.drop 0 _)),DC.ro true 1 (List.take _ (List.drop 0 _)),DC.ro true 1 (List.take _ (List.drop 0 _)),DC.ro true 3 (List.take _ (List.drop 0 _)),_]]=_;simp only[List.drop_zero,List.take_length];rfl) rfl (dz true true true true true m h.fits) rfl ?_;conv=>whnf
     refine aB [.fI,.pass] rfl rfl rfl (by simpa [oM,dI]using xA m _ (h.ls hi hlv 0)) rfl ?_;conv=>whnf
     refine⟨_,p+4,h.drop hi hlv,by omega,by omega,?_,rfl⟩;simp[oM,dI]
    refine⟨m,p+4,h,by omega,by omega,?_,rfl⟩;simp[oM,dI]
   refine CondP.mk (fun c6=>?_) (fun c6=>?_)<;>rw[c6]<;>(conv=>whnf)<;>repeat' first|(refine aD ?_;conv=>whnf)|(refine aC ?_;conv=>whnf)
   case' _=>
    simp only[List.drop_zero,List.take_length];refine aB [.fI,.pass,.pass] rfl rfl rfl (by simpa [oM,dI]using og m _ a h.wf hi ar.1 (by omega) ar.2.2 (by omega) h.fits) rfl ?_;conv=>whnf
    refine⟨_,p+3,h.get hi hlv (a:=a) (by omega),by omega,by omega,?_,rfl⟩;simp[oM,dI]
   refine CondP.mk (fun c7=>?_) (fun c7=>?_)<;>rw[c7]<;>(conv=>whnf)<;>repeat' first|(refine aD ?_;conv=>whnf)|(refine aC ?_;conv=>whnf)
   case' _=>
    simp only[List.drop_zero,List.take_length];refine aB [.fI,.pass,.pass] rfl rfl rfl (by simpa [oM,dI]using og m _ a h.wf hi ar.1 (by omega) ar.2.2 (by omega) h.fits) rfl ?_;conv=>whnf
    refine⟨_,p+3,h.get hi hlv (a:=a) (by omega),by omega,by omega,?_,rfl⟩;simp[oM,dI]
   refine CondP.mk (fun c8=>?_) (fun c8=>?_)<;>conv=>whnf
   case' _=>
    simp only[List.drop_zero,List.take_length];refine aB [.fI,.pass,.pass] rfl rfl rfl (by simpa [oM,dI]using og m _ a h.wf hi ar.1 (by omega) ar.2.2 (by omega) h.fits) rfl ?_;conv=>whnf
    refine⟨_,p+3,h.get hi hlv (a:=a) (by omega),by omega,by omega,?_,rfl⟩;simp[oM,dI]
   refine ax r rfl rfl rfl (by omega) (by omega) fun b b1 b2=>?_
   conv=>whnf
   simp only[List.drop_zero,List.take_length];refine aB [.fI,.pass,.pass,.pass] rfl rfl rfl (by simpa [oM,dI]using sj m _ a b h.wf hi ar.1 (by omega) ar.2.2 (by omega) h.fits) rfl ?_;conv=>whnf
   refine⟨_,p+4,h.sN hi hlv (a:=a) (b:=b) (by omega),by omega,by omega,?_,rfl⟩;simp[oM,dI]
end Go.Qm
namespace Go.Qm
open Go.Cq Go.Cq.D Go.RowKit Go.Proofs
set_option maxRecDepth 10000
def L0(m:Mem):Prop:=∃hi:0<m.sp.length,m.sp[0].lv=true
theorem L0.same{a b:Mem}(h:L0 a)(s:cL a.sp b.sp):L0 b:=by
 obtain⟨hi,hl⟩:=h;have hi':0<b.sp.length:=by rw[s.1];exact hi
 exact⟨hi',(s.2 0 hi hi').1.trans hl⟩
theorem L0.map{m:Mem}(h:L0 m){c:Option (List Area)}{i:Nat}:L0 (mapM c m i).1:=by
 obtain⟨hi,hl⟩:=h;cases c with
 |none=>exact⟨hi,hl⟩
 |some l=>refine⟨by simpa [mapM,bH]using hi,?_⟩;simp only[mapM,bH,List.getElem_modify];split<;>exact hl
theorem xY{m:Mem}(h:Inv m){i a:Nat}{b:Int}(hi:i<m.sp.length)(hlv:m.sp[i].lv=true)(ha:a≤63):cL m.sp (cY m i a b).1.sp:=by
 have h16:=((h.ss _ (List.getElem_mem hi)).lv hlv).2;unfold cY;split
 ·exact cL.refl
 ·split
  ·exact cL.refl
  ·split
   ·exact cL.refl
   ·rename_i m2 hm;rw[Option.bind_eq_some_iff]at hm;obtain⟨m1,h1,h2⟩:=hm;obtain⟨hi1,hj1,hk⟩:=iz h.wf hi (by omega) h1;have s1:=gX h.wf h1;have s2:=((h.wf.lh hi (by omega) h1).own hi1 hj1 (by rw[bf hi1 hj1];exact hk) h2).2.1;exact s1.trans s2
theorem aCc{l:List Int}{f:Nat}{v:Int}:(l.map rI).modify f (·.set 0 (.sc (.int .i64 v)))=(l.set f v).map rI:=by
 refine List.ext_getElem? fun j=>?_
 rw[List.getElem?_modify,List.getElem?_map,List.getElem?_map,List.getElem?_set];by_cases e:f=j
 ·subst e;by_cases h:f<l.length
  ·simp[h,rI,eI]
  ·simp[h]
 ·simp[e]
theorem aBC{P:Prg}{ts:DTs}{H:DH}{n:Nat}{K:DT→DTs→DH→Nat→List Nat→Prop}{x:Opd}{g i0 ln sz:Nat}{es:List (List PV)}{ov:List (Nat×Nat×DC)}(hx:cJ ts x=some (.sl g i0 ln))(hg:aG H g=some (.arr sz es ov))(h1:1≤ln)(h:K (.v (.one (.sl g (i0+1) (ln-1)))) ts H n []):OpP P (.fl (.sliceL x (some (.k (.int .i64 1))) none sz)) ts H n K:=by
 refine f0 (r:=.one (.sl g (i0+1) (ln-1))) ?_ h;have e:cR ts (some (.k (.int .i64 1))) 0 ln=some 1:=by show(if 0≤(1:Int)∧(1:Int)≤ln then some (1:Int).toNat else none)=some 1;rw[if_pos (by omega)];rfl
 simp only[cR]at e;simp only[dfl,hx,hg,if_true,cR,e,if_pos h1]
set_option maxHeartbeats 8000000 in
theorem aCm(c:CV)(bs:List UInt8)(p:Nat)(r:RdOk c bs)(hp:p≤900000):gq Try.prog (jR c (bs.map dO)) 74 [.one (.ptr 0 0 0)] [(0,rB c p)] 1
  fun x H'=>∃(m':Mem)(q:Nat),m'.fits 1048576∧m'.sp.length≤5∧p≤q∧q≤p+1000∧x= .v (oM m')∧H'=[(0,rB c q)]:=by
 refine fm hmix Try.func74 ok74 (fun g p h=>by simp[jR]at h) ?_;rcases r.c with⟨-,z,rfl⟩| ⟨id,base,lim,rfl⟩<;>conv=>whnf
 all_goals
  refine aB [] rfl rfl rfl xe rfl ?_;conv=>whnf
  refine aB [.lend] rfl rfl rfl (oH true true true true true jv vr.fits) rfl ?_;rw[show fT jv=(e8 jv,0,true)from by decide];conv=>whnf
  refine ax r rfl rfl rfl (by omega) (by omega) fun v v1 v2=>?_
  conv=>whnf
  have i0:Inv (e8 jv):=vr.make (by decide);have l0:L0 (e8 jv):=⟨by decide,by decide⟩;refine CondP.mk (fun c0=>?_) (fun c0=>?_)<;>conv=>whnf
  case' _=>
   refine ax r rfl rfl rfl (by omega) (by omega) fun n n1 n2=>?_
   conv=>whnf
   refine ax r rfl rfl rfl (by omega) (by omega) fun s s1 s2=>?_
   conv=>whnf
   obtain⟨hi,hlv⟩:=l0;have ar:=i0.ar hi hlv;simp only[List.drop_zero,List.take_length];refine aB [.fI,.pass,.pass] rfl rfl rfl (by simpa [oM,dI,aA,dB]using kB (e8 jv) 0 ⟨0,IntKind.wrap .i64 (8+n),true,decide (s=0)⟩ hi (by omega)) rfl ?_;conv=>whnf
   have i1:=i0.map hi hlv ⟨0,IntKind.wrap .i64 (8+n),true,decide (s=0)⟩;have l1:L0 (mapM (eo (eY (e8 jv) 0) ⟨0,IntKind.wrap .i64 (8+n),true,decide (s=0)⟩) (e8 jv) 0).1:=L0.map ⟨hi,hlv⟩;generalize (mapM (eo (eY (e8 jv) 0) ⟨0,IntKind.wrap .i64 (8+n),true,decide (s=0)⟩) (e8 jv) 0).1=w0 at i1 l1 ⊢;simp only[List.drop_zero,List.take_length];refine ax r rfl rfl rfl (by omega) (by omega) fun pg g1 g2=>?_
   obtain⟨pg,rfl⟩:=Int.eq_ofNat_of_zero_le g1;conv=>whnf
   refine ak (fun s:Mem×Nat=>[(0,.v (.one (.ptr 0 0 0))),(2,.v (.one (.ptr 1 0 0))),(3,.v (.one (.ptr 12 0 0))),(6,.v (.one (dI s.2)))]) (fun s=>[(12,bO s.1),(1,bO hO),(0,rB _ (p+4))]) (fun _=>13)
    (fun s=>Inv s.1∧L0 s.1∧s.2≤15) (fun s=>s.2) (w0,pg) ⟨i1,l1,by omega⟩ rfl rfl rfl fun s hs=>?_
   obtain⟨w,t⟩:=s;obtain⟨iw,lw,ht⟩:=hs;simp only at iw lw ht;conv=>whnf
   refine CondP.mk (fun c1=>?_) (fun c1=>?_)<;>conv=>whnf
   case' _=>
    have c1:0<t:=by simp at c1;omega
    obtain⟨hi,hlv⟩:=lw;have ar:=iw.ar hi hlv;rw[show IntKind.wrap .i64 (IntKind.wrap .i64 (((w,t).2:Int)*4)-1)=((t*4-1:Nat):Int) by rw[wrap64 (x:=((w,t).2:Int)*4) (by simp only;omega) (by simp only;omega),wrap64 (by simp only;omega) (by simp only;omega)];simp only;omega];refine aB [.fI,.pass,.pass,.pass] rfl rfl rfl (by simpa [oM,dI]using sj w 0 (t*4-1) (IntKind.wrap .i64 (1+t)) iw.wf hi ar.1 (by omega) ar.2.2 (by omega) iw.fits) rfl ?_;conv=>whnf
    have i2:=iw.sN (b:=IntKind.wrap .i64 (1+t)) hi hlv (a:=t*4-1) (by omega);have l2:L0 (cY w 0 (t*4-1) (IntKind.wrap .i64 (1+t))).1:=L0.same ⟨hi,hlv⟩ (xY iw hi hlv (by omega));refine⟨(_,t-1),by simp only;omega,⟨i2,l2,by simp only;omega⟩,?_,?_,rfl⟩
    ·rw[wrap64 (by simp only;omega) (by simp only;omega)];simp only[dI];rw[show((t:Int)-1)=((t-1:Nat):Int) by omega]
    ·simp[bO,dI,rB]
  case' _=>have i0:=iw;have l0:=lw;simp only
  rotate_left
  case' _=>generalize e8 jv=w at i0 l0 ⊢;simp only[List.drop_zero,List.take_length]
  all_goals
   refine ax r rfl rfl rfl (by omega) (by omega) fun k k1 k2=>?_
   obtain⟨k,rfl⟩:=Int.eq_ofNat_of_zero_le k1;conv=>whnf
   refine ak (fun s:Mem×Nat×Nat=>[(0,.v (.one (.ptr 0 0 0))),(2,.v (.one (.ptr 1 0 0))),(3,.v (.one (.ptr 12 0 0))),(7,.v (.one (dI s.2.1)))]) (fun s=>[(12,bO s.1),(1,bO hO),(0,rB _ s.2.2)]) (fun _=>13)
    (fun s=>Inv s.1∧s.2.1≤29∧p≤s.2.2∧s.2.2+8*s.2.1≤p+300) (fun s=>s.2.1) (w,k,_) ⟨i0,by simp only;omega,by simp only;omega,by simp only;omega⟩ rfl rfl rfl fun s hs=>?_
   obtain⟨u,t,q⟩:=s;obtain⟨iu,ht,q1,q2⟩:=hs;simp only at iu ht q1 q2;conv=>whnf
   refine CondP.mk (fun c1=>?_) (fun c1=>?_)<;>conv=>whnf
   case' _=>
    have c1:0<t:=by simp at c1;omega
    refine gi [] [.pass,.fI] [0] (jR _ (bs.map dO)) rfl rfl rfl rfl rfl (by simpa [oM,dI,rB]using aBX _ bs q u r (by omega) iu) (fun t p h=>by simp[jR]at h) (hv:=.inr (by simp[jR])) ?_;rintro res H3 ⟨u',j1,q',j2,j3,rfl,rfl⟩;refine⟨rfl,_,rfl,?_⟩;conv=>whnf
    refine⟨(u',t-1,q'),by simp only;omega,⟨j1,by simp only;omega,by simp only;omega,by simp only;omega⟩,?_,?_,rfl⟩
    ·rw[wrap64 (by simp only;omega) (by simp only;omega)];simp only[dI];rw[show((t:Int)-1)=((t-1:Nat):Int) by omega]
    ·simp[bO,dI,rB]
   have fu:=iu.fits;have u5:=iu.sp;simp only;refine ax r rfl rfl rfl (by first|omega| (simp only;omega)) (by omega) fun y y1 y2=>?_
   conv=>whnf
   refine CondP.mk (fun d0=>?_) (fun d0=>?_)<;>conv=>whnf
   case' _=>
    refine bX (db:=.arr 1 [rI (-1),rI 12,rI 3] []) rfl rfl rfl ?_;conv=>whnf
    refine ax r rfl rfl rfl (by first|omega| (simp only;omega)) (by omega) fun e e1 e2=>?_
    conv=>whnf
    have he:e=0∨e=1∨e=2:=by omega
    rcases he with rfl|rfl|rfl
    ·conv=>whnf
     refine aE (k:=0) rfl rfl rfl (by decide) ?_;conv=>whnf
     refine d9 rfl rfl rfl rfl rfl ?_;conv=>whnf
     exact⟨{u with hd:= -1},q+2,⟨fu.rt,fu.rr,fu.st,fu.sr,fu.sp,fu.ss⟩,by first|omega| (simp only;omega),by omega,by omega,by simp[oM,dI],rfl⟩
    ·conv=>whnf
     refine aE (k:=1) rfl rfl rfl (by decide) ?_;conv=>whnf
     refine d9 rfl rfl rfl rfl rfl ?_;conv=>whnf
     exact⟨{u with hd:=12},q+2,⟨fu.rt,fu.rr,fu.st,fu.sr,fu.sp,fu.ss⟩,by first|omega| (simp only;omega),by omega,by omega,by simp[oM,dI],rfl⟩
    ·conv=>whnf
     refine aE (k:=2) rfl rfl rfl (by decide) ?_;conv=>whnf
     refine d9 rfl rfl rfl rfl rfl ?_;conv=>whnf
     exact⟨{u with hd:=3},q+2,⟨fu.rt,fu.rr,fu.st,fu.sr,fu.sp,fu.ss⟩,by first|omega| (simp only;omega),by omega,by omega,by simp[oM,dI],rfl⟩
   refine CondP.mk (fun d1=>?_) (fun d1=>?_)<;>conv=>whnf
   case' _=>
    refine ax r rfl rfl rfl (by first|omega| (simp only;omega)) (by omega) fun f f1 f2=>?_
    obtain⟨f,rfl⟩:=Int.eq_ofNat_of_zero_le f1;conv=>whnf
    refine ax r rfl rfl rfl (by first|omega| (simp only;omega)) (by omega) fun v v1 v2=>?_
    conv=>whnf
    refine aE (k:=f) rfl rfl rfl (by simp[iu.ram.rf];omega) ?_;conv=>whnf
    refine an rfl rfl rfl (by simp[iu.ram.rf];omega) (by decide) ?_;conv=>whnf
    exact⟨{u with ram:=⟨u.ram.tx,u.ram.rf.set f v⟩},q+3,⟨fu.rt,by simpa using fu.rr,fu.st,fu.sr,fu.sp,fu.ss⟩,by first|omega| (simp only;omega),by omega,by omega,by simp[oM,dI,aCc,List.take_of_length_le],rfl⟩
   refine CondP.mk (fun d2=>?_) (fun d2=>?_)<;>conv=>whnf
   case' _=>
    have hi:0<u.sp.length:=by omega
    have hg:=ay (f:=rP) (List.getElem?_eq_getElem hi);refine aE (k:=0) rfl rfl rfl (by simpa using hi) ?_;conv=>whnf
    refine d9 rfl rfl rfl (af hg rfl rfl rfl) rfl ?_;conv=>whnf
    refine CondP.mk (fun hlv=>?_) (fun hlv=>?_)<;>conv=>whnf
    case' _=>
     have h16:=(iu.ar hi hlv).2.2;refine aE (k:=0) rfl rfl rfl (by simpa using hi) ?_;conv=>whnf
     refine cF (i:=0) (k:=2) (sz':=4) (es':=u.sp[0].sl.map rL) u.sp[0].sl.length rfl rfl rfl (af (by rw[List.drop_zero,List.take_length];exact hg) rfl rfl rfl) rfl (by simp) ?_;conv=>whnf
     simp only[List.drop_zero,List.take_length];refine ax r rfl rfl rfl (by first|omega| (simp only;omega)) (by omega) fun s s1 s2=>?_
     obtain⟨s,rfl⟩:=Int.eq_ofNat_of_zero_le s1;conv=>whnf
     refine ax r rfl rfl rfl (by first|omega| (simp only;omega)) (by omega) fun kd k1 k2=>?_
     conv=>whnf
     refine ax r rfl rfl rfl (by first|omega| (simp only;omega)) (by omega) fun pl p1 p2=>?_
     conv=>whnf
     refine ax r rfl rfl rfl (by first|omega| (simp only;omega)) (by omega) fun ow o1 o2=>?_
     conv=>whnf
     refine ax r rfl rfl rfl (by first|omega| (simp only;omega)) (by omega) fun us u1 u2=>?_
     conv=>whnf
     refine aE (k:=s) rfl rfl rfl (by rw[h16];omega) ?_;conv=>whnf
     refine bg (row':=rL ⟨kd,IntKind.wrap .i64 (pl-1),decide (ow=0),decide (us=0)⟩) rfl rfl rfl (by simp[h16];omega) (d8 (fun _=>rfl)) (cn _) rfl rfl rfl ?_;conv=>whnf
     refine aX (i:=0) (k:=2) (g':=14) (lo:=0) (len:=u.sp[0].sl.length) (es2:=(aH u.sp 0 s ⟨kd,IntKind.wrap .i64 (pl-1),decide (ow=0),decide (us=0)⟩).map rP) (ov2:=[]) rfl (ai hg (by simp[rP]) (by simp only[aa,if_true];rfl)) rfl rfl (by rw[List.drop_zero,List.take_of_length_le (by simp)];exact br hi) (by simp only[aY,if_true];rfl) ?_;conv=>whnf
     refine⟨{u with sp:=aH u.sp 0 s ⟨kd,IntKind.wrap .i64 (pl-1),decide (ow=0),decide (us=0)⟩},q+6,⟨fu.rt,fu.rr,fu.st,fu.sr,by simp[aH,u5],fun s' hs'=>?_⟩,by simp[aH,u5],by omega,by omega,by simp[oM,dI,aH,List.take_of_length_le],rfl⟩;simp only[aH]at hs';obtain⟨k,hk,rfl⟩:=List.getElem_of_mem hs';rw[List.length_modify]at hk;have:=fu.ss _ (List.getElem_mem hk);rw[List.getElem_modify];split
     ·simpa using this
     ·exact this
    exact⟨u,q+1,fu,by first|omega| (simp only;omega),by omega,by omega,by simp[oM,dI],rfl⟩
   refine CondP.mk (fun d3=>?_) (fun d3=>?_)<;>conv=>whnf
   case' _=>
    refine aBC rfl rfl (by simp[u5]) ?_;conv=>whnf
    exact⟨{u with sp:=u.sp.drop 1},q+1,⟨fu.rt,fu.rr,fu.st,fu.sr,by simp[u5],fun s hs=>fu.ss s (List.mem_of_mem_drop hs)⟩,by simp[u5],by omega,by omega,by simp[oM,dI,u5,List.take_of_length_le],rfl⟩
   refine CondP.mk (fun d4=>?_) (fun d4=>?_)<;>conv=>whnf
   case' _=>
    have hi:1<u.sp.length:=by omega
    have hg:=ay (f:=rP) (List.getElem?_eq_getElem hi);refine aE (k:=1) rfl rfl rfl (by simpa using hi) ?_;conv=>whnf
    refine cF (i:=1) (k:=1) (sz':=4) (es':=u.sp[1].ar.map rA) u.sp[1].ar.length rfl rfl rfl (af hg rfl rfl rfl) rfl (by simp) ?_;conv=>whnf
    refine gi [] [.pass] [0] (jR _ (bs.map dO)) rfl rfl rfl rfl rfl (wJ _ bs (q+1) r (by omega)) (fun t p h=>by simp[jR]at h) (hv:=.inr (by simp[jR])) ?_;rintro res H3 ⟨a,q',a1,a2,a3,a4,a5,a6,rfl,rfl⟩;refine⟨rfl,_,rfl,?_⟩;conv=>whnf
    refine bX (db:=.arr 4 [rA a] []) rfl rfl rfl ?_;conv=>whnf
    have hal:u.sp[1].ar.length≤6:=by
     have i1:=iu.ss _ (List.getElem_mem hi);cases e:u.sp[1].lv with
     |true=>exact lI (i1.lv e).1
     |false=>rw[(i1.dd e).1];simp
    refine dP [] [] 1 (sz:=4) rfl rfl rfl rfl rfl rfl rfl rfl (by omega) (by omega) ?_;conv=>whnf
    refine aE (k:=1) rfl rfl rfl (by simpa using hi) ?_;conv=>whnf
    refine dj rfl rfl rfl rfl rfl (by simp[wrN,wr1,DV.cells,hi];rfl) ?_;conv=>whnf
    refine aX (i:=1) (k:=1) (g':=16) (lo:=0) (len:=u.sp[1].ar.length+1) (es2:=(bH u 1 (u.sp[1].ar++[a])).sp.map rP) (ov2:=[]) rfl (ai hg (by simp[rP]) (by simp only[aa,if_true];rfl)) rfl rfl (by
     have e:List.take (u.sp[1].ar.length+1) (List.drop 0 (List.take u.sp[1].ar.length (List.drop 0 (u.sp[1].ar.map rA))++List.take 1 (List.drop 0 [rA a])))=(u.sp[1].ar++[a]).map rA:=by simp[List.take_of_length_le]
     rw[e];exact jJ hi) (by simp only[aY,if_true];rfl) ?_
    conv=>whnf
    refine⟨bH u 1 (u.sp[1].ar++[a]),q',⟨fu.rt,fu.rr,fu.st,fu.sr,by simp[bH,u5],fun s' hs'=>?_⟩,by simp[bH,u5],by omega,by omega,by simp[oM,dI,bH,List.take_of_length_le],rfl⟩;simp only[bH]at hs';obtain⟨k,hk,rfl⟩:=List.getElem_of_mem hs';rw[List.length_modify]at hk;have:=fu.ss _ (List.getElem_mem hk);rw[List.getElem_modify];split
    ·exact⟨by simp;omega,this.2⟩
    ·exact this
   exact⟨u,q+1,fu,by first|omega| (simp only;omega),by omega,by omega,by simp[oM,dI],rfl⟩
end Go.Qm
namespace Go.Qm
open Go.Cq Go.Cq.D Go.RowKit Go.Proofs
set_option maxRecDepth 10000
theorem za{bs:List UInt8}{c:CV}(h:uH (bs.map dO) c):RdOk (mY c) (bs.take 2000):=by
 have hl:(bs.take 2000).length≤2000:=by rw[List.length_take];omega
 refine⟨?_,hl⟩;rcases h with⟨he,z,rfl⟩| ⟨id,base,lim,rfl⟩
 ·have he:bs=[]:=by simpa using he
  subst he;exact .inl ⟨rfl,z,rfl⟩
 ·simp only[mY,List.length_map];split
  ·exact .inr ⟨id,base+0,lim.map (· -0),by rw[List.length_map,List.length_take,Nat.min_eq_left (by omega)]⟩
  ·rw[List.take_of_length_le (by omega)];exact .inr ⟨id,base,lim,by rw[List.length_map]⟩
end Go.Qm
namespace Go.Qm
open Go.Cq Go.Cq.D Go.RowKit Go.Proofs
set_option maxRecDepth 10000
theorem vt(x y:Area):bA Try.prog 159 [.agg (aA x),.agg (aA y)] (.v (.one (dI (IntKind.wrap .i64 (x.fr-y.fr))))):=by
 refine aN hmix Try.func159 ok159 ?_;conv=>whnf
 exact⟨rfl,rfl⟩
def srt(l:List Area)(a:Area)(i:Nat):List Area:=if i≤l.length then dA l a l.length else kl l a
theorem qN{l:List Area}{a:Area}{j:Nat}(h:j<l.length):dA l a (j+1)=l.take j++l[j]::a::l.drop (j+1)∧dA l a j=l.take j++a::l[j]::l.drop (j+1):=by
 refine⟨?_,?_⟩
 ·rw[dA,List.take_succ_eq_append_getElem h];simp only[List.append_assoc,List.cons_append,List.nil_append]
 ·rw[dA,List.drop_eq_getElem_cons h]
theorem x8{l:List Area}{a:Area}{j:Nat}(h:j<l.length):((dA l a (j+1)).set (j+1) l[j]).set j a=dA l a j:=by
 have hj:(l.take j).length=j:=by rw[List.length_take];omega
 rw[(qN h).1,(qN h).2,List.set_append,hj,if_neg (by omega),show j+1-j=1 by omega,List.set_append,hj,if_neg (by omega),Nat.sub_self];rfl
theorem t6{l:List Area}{a:Area}:dA l a l.length=l++[a]:=by simp[dA]
set_option maxHeartbeats 2000000 in
theorem rX(l:List Area)(a:Area)(hl:aT l=true)(ha:az a=true):eD Try.prog 187 [.one (.sl 0 0 (l.length+1)),.one (dI 0),.one (dI ((l.length+1:Nat):Int)),.one (.fn 159 [])] [(0,.arr 4 ((dA l a l.length).map rA) [])] 1
  fun x H'=>x= .tup []∧H'=[(0,.arr 4 ((kl l a).map rA) [])]:=by
 refine aN hmix Try.func187 ok187 ?_;have h6:l.length≤6:=by simp only[aT,Bool.and_eq_true,decide_eq_true_eq]at hl;exact hl.2
 have hb:=bz.1 ha;conv=>whnf
 refine ak (fun i:Nat=>[(0,.v (.one (.sl 0 0 (l.length+1)))),(1,.v (.one (dI 0))),(2,.v (.one (dI ((l.length+1:Nat):Int)))),(3,.v (.one (.fn 159 []))),(8,.v (.one (dI i)))]) (fun i=>[(0,.arr 4 ((srt l a i).map rA) [])]) (fun _=>1)
  (fun i=>1≤i∧i≤l.length+1) (fun i=>l.length+1-i) 1 ⟨by omega,by omega⟩ rfl ?_ rfl fun i hi=>?_
 ·unfold srt;split
  ·rfl
  ·have:l=[]:=List.length_eq_zero_iff.1 (by omega);subst this;rfl
 conv=>whnf
 refine CondP.mk (fun h=>?_) (fun h=>?_)<;>conv=>whnf
 ·have hin:i≤l.length:=by
                 have:(i:Int)< ((l.length+1:Nat):Int):=by simpa using h
                 omega
  have hsrt:srt l a i=dA l a l.length:=by rw[srt,if_pos hin]
  rw[hsrt];have next:IntKind.wrap .i64 ((i:Int)+1)=((i+1:Nat):Int):=wrap64 (by omega) (by omega)
  by_cases c:i<l.length
  ·refine ak (fun _:Unit=>[(0,.v (.one (.sl 0 0 (l.length+1)))),(1,.v (.one (dI 0))),(2,.v (.one (dI ((l.length+1:Nat):Int)))),(3,.v (.one (.fn 159 []))),(8,.v (.one (dI i))),(9,.v (.one (dI i)))]) (fun _=>[(0,.arr 4 ((dA l a l.length).map rA) [])]) (fun _=>1) (fun _=>True) (fun _=>0) () trivial rfl rfl rfl fun _ _=>?_
   conv=>whnf
   refine CondP.mk (fun h1=>?_) (fun h1=>?_)
   ·rw[h1];have hi1:i-1<l.length:=by omega
    have e1:=lg (a:=a) (Nat.le_refl l.length) c;have e2:=lg (a:=a) (Nat.le_refl l.length) hi1;have hu:=l7 hl (i:=i-1) (j:=i) (by omega) c;have o1:=bz.1 (cx hl _ (List.getElem_mem c));have o2:=bz.1 (cx hl _ (List.getElem_mem hi1))
    (conv=>whnf)<;>repeat' first|(refine aD ?_;conv=>whnf)|(refine aC ?_;conv=>whnf)
    refine eW (k:=i) rfl rfl rfl (by omega) ?_
    (conv=>whnf)<;>repeat' first|(refine aD ?_;conv=>whnf)|(refine aC ?_;conv=>whnf)
    refine gQ (row:=rA l[i]) rfl rfl rfl (by rw[Nat.zero_add];exact ay (by rw[List.getElem?_eq_getElem (by rw[bh];omega),e1])) (fX _) rfl rfl ?_
    (conv=>whnf)<;>repeat' first|(refine aD ?_;conv=>whnf)|(refine aC ?_;conv=>whnf)
    refine eW (k:=i-1) rfl rfl (ix c (by omega) (by omega)) (by omega) ?_
    (conv=>whnf)<;>repeat' first|(refine aD ?_;conv=>whnf)|(refine aC ?_;conv=>whnf)
    refine gQ (row:=rA l[i-1]) rfl rfl rfl (by rw[Nat.zero_add];exact ay (by rw[List.getElem?_eq_getElem (by rw[bh];omega),e2])) (fX _) rfl rfl ?_
    (conv=>whnf)<;>repeat' first|(refine aD ?_;conv=>whnf)|(refine aC ?_;conv=>whnf)
    refine nA [.pass,.pass] [] rfl rfl rfl rfl rfl (vt l[i] l[i-1]) fun res H3 hp=>?_
    obtain⟨rfl,rfl⟩:=hp;refine⟨rfl,rfl,_,rfl,?_⟩
    (conv=>whnf)<;>repeat' first|(refine aD ?_;conv=>whnf)|(refine aC ?_;conv=>whnf)
    rw[wrap64 (x:=l[i].fr-l[i-1].fr) (by omega) (by omega)];refine CondP.mk (fun h2=>?_) (fun h2=>?_)<;>conv=>whnf
    ·have:l[i].fr-l[i-1].fr<0:=by simpa using h2
     omega
    ·refine⟨i+1,by omega,⟨by omega,by omega⟩,?_,?_,rfl⟩
     ·rw[next];rfl
     ·rw[srt,if_pos (by omega)]
   ·have:¬0< (i:Int):=by simpa using h1
    omega
  ·have hin:i=l.length:=by omega
   subst hin;refine ak (fun j:Nat=>[(0,.v (.one (.sl 0 0 (l.length+1)))),(1,.v (.one (dI 0))),(2,.v (.one (dI ((l.length+1:Nat):Int)))),(3,.v (.one (.fn 159 []))),(8,.v (.one (dI l.length))),(9,.v (.one (dI j)))]) (fun j=>[(0,.arr 4 ((dA l a j).map rA) [])]) (fun _=>1) (fun j=>j≤l.length∧fe l a l.length=fe l a j) (fun j=>j) l.length ⟨Nat.le_refl _,rfl⟩ rfl rfl rfl fun j hj=>?_
   obtain⟨hj1,hj2⟩:=hj;conv=>whnf
   have fin:fe l a j=j→[(0,DB.arr 4 ((dA l a j).map rA) [])]=[(0,DB.arr 4 ((srt l a (l.length+1)).map rA) [])]:=fun e=>by rw[srt,if_neg (by omega),kl,hj2,e]
   refine CondP.mk (fun h1=>?_) (fun h1=>?_)<;>rw[h1]<;>(conv=>whnf)<;>repeat' first|(refine aD ?_;conv=>whnf)|(refine aC ?_;conv=>whnf)
   ·have hj0:0< (j:Int):=by simpa using h1
    obtain⟨k,rfl⟩:∃k,j=k+1:=⟨j-1,by omega⟩;have hk:k<l.length:=by omega
    have e1:=n8 (a:=a) hj1;have e2:=lg (a:=a) hj1 (show k<k+1 by omega);have o2:=bz.1 (cx hl _ (List.getElem_mem hk));have ek:IntKind.wrap .i64 (((k+1:Nat):Int)-1)=(k:Int):=by rw[wrap64 (by omega) (by omega)];omega
    refine eW (k:=k+1) rfl rfl rfl (by omega) ?_
    (conv=>whnf)<;>repeat' first|(refine aD ?_;conv=>whnf)|(refine aC ?_;conv=>whnf)
    refine gQ (row:=rA a) rfl rfl rfl (by rw[Nat.zero_add];exact ay (by rw[List.getElem?_eq_getElem (by rw[bh];omega),e1])) (fX _) rfl rfl ?_
    (conv=>whnf)<;>repeat' first|(refine aD ?_;conv=>whnf)|(refine aC ?_;conv=>whnf)
    refine eW (k:=k) rfl rfl (by show some _=some _;rw[ek]) (by omega) ?_
    (conv=>whnf)<;>repeat' first|(refine aD ?_;conv=>whnf)|(refine aC ?_;conv=>whnf)
    refine gQ (row:=rA l[k]) rfl rfl rfl (by rw[Nat.zero_add];exact ay (by rw[List.getElem?_eq_getElem (by rw[bh];omega),e2])) (fX _) rfl rfl ?_
    (conv=>whnf)<;>repeat' first|(refine aD ?_;conv=>whnf)|(refine aC ?_;conv=>whnf)
    refine nA [.pass,.pass] [] rfl rfl rfl rfl rfl (vt a l[k]) fun res H3 hp=>?_
    obtain⟨rfl,rfl⟩:=hp;refine⟨rfl,rfl,_,rfl,?_⟩
    (conv=>whnf)<;>repeat' first|(refine aD ?_;conv=>whnf)|(refine aC ?_;conv=>whnf)
    rw[wrap64 (x:=a.fr-l[k].fr) (by omega) (by omega)];have hget:l[k]?.getD aAF=l[k]:=by simp[hk]
    refine CondP.mk (fun h2=>?_) (fun h2=>?_)<;>conv=>whnf
    ·have h2:a.fr-l[k].fr<0:=by simpa using h2
     refine eW (k:=k) rfl rfl (by show some _=some _;rw[ek]) (by omega) ?_;conv=>whnf
     refine gQ (row:=rA l[k]) rfl rfl rfl (by rw[Nat.zero_add];exact ay (by rw[List.getElem?_eq_getElem (by rw[bh];omega),e2])) (fX _) rfl rfl ?_;conv=>whnf
     refine eW (k:=k+1) rfl rfl rfl (by omega) ?_;conv=>whnf
     refine gQ (row:=rA a) rfl rfl rfl (by rw[Nat.zero_add];exact ay (by rw[List.getElem?_eq_getElem (by rw[bh];omega),e1])) (fX _) rfl rfl ?_;conv=>whnf
     refine eW (k:=k+1) rfl rfl rfl (by omega) ?_;conv=>whnf
     refine bg (row':=rA l[k]) rfl rfl rfl (by simp[bh];omega) (d8 (fun _=>rfl)) (fX _) rfl rfl rfl ?_;conv=>whnf
     refine eW (k:=k) rfl rfl (by show some _=some _;rw[ek]) (by omega) ?_;conv=>whnf
     refine bg (row':=rA a) rfl rfl rfl (by simp[bh];omega) (by rw[Nat.zero_add,map_set];exact d8 (fun _=>rfl)) (fX _) rfl rfl rfl ?_;conv=>whnf
     refine⟨k,by omega,⟨by omega,?_⟩,?_,?_,rfl⟩
     ·rw[hj2,fe,hget,if_pos (by omega)]
     ·rw[ek];rfl
     ·rw[Nat.zero_add,Nat.zero_add,map_set,map_set,x8 hk]
    ·have h2:¬a.fr-l[k].fr<0:=by simpa using h2
     refine⟨l.length+1,by omega,⟨by omega,by omega⟩,?_,?_,rfl⟩
     ·rw[next];rfl
     ·exact fin (by rw[fe,hget,if_neg (by omega)])
   ·have:j=0:=by
              have:¬0< (j:Int):=by simpa using h1
              omega
    subst this;refine⟨l.length+1,by omega,⟨by omega,by omega⟩,?_,?_,rfl⟩
    ·rw[next];rfl
    ·exact fin rfl
 ·have:i=l.length+1:=by
                 have:¬(i:Int)< ((l.length+1:Nat):Int):=by simpa using h
                 omega
  subst this;refine⟨rfl,?_⟩;rw[srt,if_neg (by omega)]
def aBw(n:Nat):Int:=if n=0 then 0 else if n=1 then 1 else if n≤3 then 2 else 3
theorem aAj(n:Nat)(hn:n≤7):bA Try.prog 196 [.one (.sc (.int .u64 n))] (.v (.one (dI (aBw n)))):=by
 have:n=0∨n=1∨n=2∨n=3∨n=4∨n=5∨n=6∨n=7:=by omega
 rcases this with rfl|rfl|rfl|rfl|rfl|rfl|rfl|rfl
 all_goals
  refine aN hmix Try.func196 ok196 ?_
  (conv=>whnf)<;>repeat' first|(refine aD ?_;conv=>whnf)|(refine aC ?_;conv=>whnf)
  refine f0 rfl ?_;conv=>whnf
  exact⟨rfl,rfl⟩
theorem aCj(n:Nat)(hn:n≤7):bA Try.prog 180 [.one (.sc (.int .u64 n))] (.v (.one (dI (aBw n)))):=by
 refine aN hmix Try.func180 ok180 ?_
 (conv=>whnf)<;>repeat' first|(refine aD ?_;conv=>whnf)|(refine aC ?_;conv=>whnf)
 refine aB [.pass] rfl rfl rfl (aAj n hn) rfl ?_;conv=>whnf
 exact⟨rfl,rfl⟩
theorem aC4(l:List Area)(a:Area)(lim:Int)(hl:aT l=true)(ha:az a=true):eD Try.prog 179 [.one (.sl 0 0 (l.length+1)),.one (dI 0),.one (dI ((l.length+1:Nat):Int)),.one (dI lim),.one (.fn 159 [])] [(0,.arr 4 ((dA l a l.length).map rA) [])] 1
  fun x H'=>x= .tup []∧H'=[(0,.arr 4 ((kl l a).map rA) [])]:=by
 refine aN hmix Try.func179 ok179 ?_;have h6:l.length≤6:=by simp only[aT,Bool.and_eq_true,decide_eq_true_eq]at hl;exact hl.2
 conv=>whnf
 refine ak (fun _:Unit=>[(0,.v (.one (.sl 0 0 (l.length+1)))),(1,.v (.one (dI 0))),(2,.v (.one (dI ((l.length+1:Nat):Int)))),(3,.v (.one (dI lim))),(4,.v (.one (.fn 159 []))),(10,.v (.one (dB true))),(11,.v (.one (dB true)))]) (fun _=>[(0,.arr 4 ((dA l a l.length).map rA) [])]) (fun _=>1) (fun _=>True) (fun _=>0) () trivial rfl rfl rfl fun _ _=>?_
 conv=>whnf
 rw[wrap64 (x:=((l.length+1:Nat):Int)-0) (by omega) (by omega)];refine CondP.mk (fun h1=>?_) (fun h1=>?_)<;>conv=>whnf
 ·refine iW [.pass,.pass,.pass,.pass] [0] rfl rfl rfl rfl (rX l a hl ha) (fun res H3 hp=>?_);obtain⟨rfl,rfl⟩:=hp;refine⟨rfl,rfl,_,(b7 rfl rfl (by simp[kl,bh])).trans rfl,?_⟩;conv=>whnf
  exact⟨rfl,rfl⟩
 ·have:¬((l.length+1:Nat):Int)-0≤12:=by simpa using h1
  omega
theorem zb(l:List Area)(a:Area)(hl:aT l=true)(ha:az a=true):eD Try.prog 158 [.one (.sl 0 0 (l.length+1)),.one (.fn 159 [])] [(0,.arr 4 ((dA l a l.length).map rA) [])] 1
  fun x H'=>x= .tup []∧H'=[(0,.arr 4 ((kl l a).map rA) [])]:=by
 refine aN hmix Try.func158 ok158 ?_;have h6:l.length≤6:=by simp only[aT,Bool.and_eq_true,decide_eq_true_eq]at hl;exact hl.2
 conv=>whnf
 refine aB [.pass] rfl rfl rfl (by
  have:=aCj (l.length+1) (by omega);have e:IntKind.wrap .u64 ((l.length+1:Nat):Int)=((l.length+1:Nat):Int):=by simp only[IntKind.wrap,IntKind.bits,IntKind.signed];simp;omega
  rw[←e]at this;exact this) rfl ?_
 conv=>whnf
 refine iW [.pass,.pass,.pass,.pass,.pass] [0] rfl rfl rfl rfl (aC4 l a _ hl ha) (fun res H3 hp=>?_);obtain⟨rfl,rfl⟩:=hp;refine⟨rfl,rfl,_,(b7 rfl rfl (by simp[kl,bh])).trans rfl,?_⟩;conv=>whnf
 exact⟨rfl,rfl⟩
end Go.Qm
namespace Go.Qm
open Go.Cq Go.Cq.D Go.RowKit Go.Proofs
set_option maxRecDepth 10000
theorem aCo{P:Prg}{op:COp}{ts ts':DTs}{H H':DH}{n:Nat}{K:DT→DTs→DH→Nat→List Nat→Prop}(e1:ts=ts')(e2:H=H')(h:OpP P op ts' H' n K):OpP P op ts H n K:=by subst e1;subst e2;exact h
set_option maxHeartbeats 1000000 in
theorem tL(b:Bool)(l:List Area)(a:Area)(hl:l.length≤1048576):bA Try.prog 118 [.one (.ro b 4 (l.map rA)),.agg (aA a)] (.tup [.one (.own 4 (((eo l a).getD []).map rA)),.one (dB (eo l a).isSome)]):=by
 refine aN hmix Try.func118 ok118 ?_;conv=>whnf
 refine aB [.pass] rfl rfl rfl (jD b l (by omega)) rfl ?_;conv=>whnf
 refine CondP.mk (fun h1=>?_) (fun h1=>?_)<;>rw[h1]<;>(conv=>whnf)<;>repeat' first|(refine aD ?_;conv=>whnf)|(refine aC ?_;conv=>whnf)
 ·refine⟨?_,rfl⟩;rw[eo,show aT l=false by simpa using h1];simp[dB]
 have h1:aT l=true:=by simpa using h1
 have h6:l.length≤6:=by simp only[aT,Bool.and_eq_true,decide_eq_true_eq]at h1;exact h1.2
 refine aB [.pass] rfl rfl rfl (ql a) rfl ?_
 (conv=>whnf)<;>repeat' first|(refine aD ?_;conv=>whnf)|(refine aC ?_;conv=>whnf)
 refine CondP.mk (fun h2=>?_) (fun h2=>?_)<;>conv=>whnf
 ·refine⟨?_,rfl⟩;rw[eo,show az a=false by simpa using h2];simp[dB]
 have h2:az a=true:=by simpa using h2
 refine aB [.pass] rfl rfl rfl (qE b l (by omega)) rfl ?_;conv=>whnf
 refine bX rfl rfl rfl ?_;conv=>whnf
 refine dP [] [] 1 (sz:=4) rfl rfl rfl rfl rfl rfl rfl rfl (by rw[List.length_map];omega) (by rw[List.length_map];omega) ?_;conv=>whnf
 refine aCo (ts':=[(20,.v (.one (.sl 0 0 (l.length+1)))),(6,.v (.one (.sl 0 0 (l.length+1)))),(6,.v (.one (.own 4 ((dA l a l.length).map rA))))]) (H':=[(0,.arr 4 ((dA l a l.length).map rA) [])]) ?_ ?_ ?_
 ·rw[t6];simp[rA,eI,eB,List.replicate,List.take_of_length_le]
 ·rw[t6];simp[rA,eI,eB,List.replicate,List.take_of_length_le]
 refine iW [.pass,.pass] [0] rfl rfl rfl rfl (zb l a h1 h2) (fun res H3 hp=>?_);obtain⟨rfl,rfl⟩:=hp;refine⟨rfl,rfl,_,(b7 rfl rfl (by simp[kl,bh])).trans rfl,?_⟩;conv=>whnf
 have hn:(kl l a).length=l.length+1:=bh;obtain⟨i1,i2⟩:=aBt h1 h2;refine aB [.lend] rfl (by show some [DV.one (DC.ro true 4 (List.take _ (List.drop 0 _)))]=_;rw[List.drop_zero,List.drop_zero,List.take_of_length_le (by simp[hn]),List.take_of_length_le (by simp[hn])]) rfl (jD true (kl l a) (by omega)) rfl ?_;conv=>whnf
 refine CondP.mk (fun h3=>?_) (fun h3=>?_)<;>conv=>whnf
 ·refine⟨?_,rfl⟩;rw[eo,h1,h2,show aT (iS l a)=false by rw[←i1];simpa using h3];simp[dB]
 ·have h4:aT (iS l a)=true:=by rw[←i1];simpa using h3
  refine⟨?_,rfl⟩;have hn2:(iS l a).length=l.length+1:=bh;rw[eo,h1,h2,h4,i2 h4];simp[dB,hn2,List.take_of_length_le]
set_option maxHeartbeats 1000000 in
theorem yK(hc:rO)(b1 b2 b3 b4 b5:Bool)(m:Mem)(who:Int)(a:Area)(h:m.fits 1048576):bA Try.prog 52 [aM b1 b2 b3 b4 b5 m,.one (dI who),.agg (aA a)] (.tup [oM (eR m who a).1,.one (dI (eR m who a).2)]):=by
 refine aN hmix Try.func52 ok52 ?_;conv=>whnf
 refine aB [.pass] rfl rfl rfl (hc b1 b2 b3 b4 b5 m h) rfl ?_;conv=>whnf
 refine CondP.mk (fun h1=>?_) (fun h1=>?_)<;>rw[h1]<;>(conv=>whnf)<;>repeat' first|(refine aD ?_;conv=>whnf)|(refine aC ?_;conv=>whnf)
 ·refine⟨?_,rfl⟩;have h1:b9 m=false:=by simpa using h1
  simp[eR,h1,oM,hO,dI]
 have h1:b9 m=true:=by simpa using h1
 refine aB [.pass,.pass] rfl rfl rfl (wL b1 b2 b3 b4 b5 m who (by have:=h.sp;omega)) rfl ?_
 (conv=>whnf)<;>repeat' first|(refine aD ?_;conv=>whnf)|(refine aC ?_;conv=>whnf)
 refine CondP.mk (fun h2=>?_) (fun h2=>?_)<;>rw[h2]<;>conv=>whnf
 ·refine⟨?_,rfl⟩;have h2:dn m.sp who=false:=by simpa using h2
  simp[eR,h2,oM,hO,dI]
 have h2:dn m.sp who=true:=by simpa using h2
 obtain⟨i,rfl,hi,hlv⟩:=fh h2;have hal:=(h.ss _ (List.getElem_mem hi)).1;have har:eY m i=m.sp[i].ar:=by simp[eY,hi]
 refine aB [.pass] rfl rfl rfl (tE b1 b2 b3 b4 b5 m h) rfl ?_;conv=>whnf
 refine aI (k:=i) rfl rfl (by simpa using hi) ?_;conv=>whnf
 refine aF rfl (r:=.one (.ro b5 4 (m.sp[i].ar.map rA))) (by simp[ah,rP,hi]) ?_;conv=>whnf
 refine aB [.pass,.pass] rfl rfl rfl (tL b5 m.sp[i].ar a hal) rfl ?_;conv=>whnf
 simp only[List.drop_zero,List.take_length];cases hcu:eo m.sp[i].ar a with
 |none=>
  refine CondP.mk (fun c1=>?_) (fun c1=>?_)<;>conv=>whnf
  ·refine⟨?_,rfl⟩;simp[eR,h1,h2,har,hcu,mapM,oM,dI]
  ·simp at c1
 |some l=>
  refine CondP.mk (fun c1=>?_) (fun c1=>?_)<;>conv=>whnf
  ·simp at c1
  ·refine aE (k:=i) rfl rfl rfl (by simpa using hi) ?_;conv=>whnf
   simp only[Option.getD_some];refine dj rfl rfl rfl rfl rfl (by simp[wrN,wr1,DV.cells,hi];rfl) ?_;conv=>whnf
   refine aX (i:=i) (k:=1) (g':=5) (lo:=0) (len:=l.length) (es2:=(bH m i l).sp.map rP) (ov2:=[]) rfl (ai (by simp[hi];rfl) (by simp[rP]) (by simp only[aa,if_true];rfl)) rfl rfl (by rw[List.drop_zero,aV];exact jJ hi) (by simp only[aY,if_true];rfl) ?_;conv=>whnf
   refine⟨?_,rfl⟩;simp[eR,h1,h2,har,hcu,mapM,oM,dI,bH,List.take_of_length_le]
theorem rR{m:Mem}{who:Int}{a:Area}:(eR m who a).1.fits 16:=by
 unfold eR;split
 ·rename_i h;simp only[Bool.and_eq_true]at h;obtain⟨h1,h2⟩:=h;have hs:=tG h1;cases hc:eo (eY m who.toNat) a with
  |none=>exact hs
  |some l=>
   simp only[mapM];have h4:=(kU hc).2;have hl6:l.length≤6:=by simp only[aT,Bool.and_eq_true,decide_eq_true_eq]at h4;exact h4.2
   refine⟨hs.rt,hs.rr,hs.st,hs.sr,by simpa [bH]using hs.sp,fun s hs'=>?_⟩;obtain⟨q,hq,rfl⟩:=List.getElem_of_mem hs';simp only[bH,List.length_modify]at hq;have:=hs.ss _ (List.getElem_mem hq);simp only[bH,List.getElem_modify];split
   ·exact⟨by simp only;omega,this.2⟩
   ·exact this
 ·exact⟨by simp[hO],by simp[hO],by simp[hO],by simp[hO],by simp[hO],fun s hs=>by simp[hO]at hs⟩
end Go.Qm
namespace Go.Qm
open Go.Cq Go.Cq.D Go.RowKit Go.Proofs
set_option maxRecDepth 10000
theorem tZ{m:Mem}{w:Int}{a:Area}(h:(eR m w a).2=0):∃i:Nat,w=i∧b9 m=true∧∃hi:i<m.sp.length,m.sp[i].lv=true∧∃l,eo m.sp[i].ar a=some l∧(eR m w a).1=bH m i l:=by
 unfold eR at h ⊢;split at h
 ·rename_i c;rw[if_pos c];simp only[Bool.and_eq_true]at c;obtain⟨i,rfl,hi,hlv⟩:=fh c.2;rw[Int.toNat_natCast]at h ⊢;refine⟨i,rfl,c.1,hi,hlv,?_⟩;rw[show eY m i=m.sp[i].ar by simp[eY,hi]]at h ⊢;cases e:eo m.sp[i].ar a with
  |none=>rw[e]at h;simp[mapM]at h
  |some l=>exact⟨l,rfl,rfl⟩
 ·simp at h
theorem zk{m:Mem}{i p:Nat}{l:List Area}{a:Area}(h:b9 m=true)(hi:i<m.sp.length)(hlv:m.sp[i].lv=true)(he:eo m.sp[i].ar a=some l)(h1:a.fr*4≤p)(h2:p< (a.fr+a.mn)*4):ku (bH m i l) i p=(0,true):=by
 have hb:=bz.1 (kU he).1;have h16:=(th h hi hlv).2.2;have hc:cov ((p / 4:Nat):Int) a=true:=ki.2 (by omega);obtain⟨z1,z2⟩:=add_zero h hi hlv he hc (by omega);have hi':i< (bH m i l).sp.length:=by simpa [bH]using hi
 have e1:eY (bH m i l) i=l:=by simp[eY,bH,hi]
 have hj:p / 4<m.sp[i].sl.length:=by omega
 have e2:aJ (bH m i l) i (p / 4)=cr:=by simp[aJ,bH,hi,hj,z2]
 have hL:(bH m i l).sp.length=5:=by rw[show(bH m i l).sp.length=m.sp.length by simp[bH]];exact(nz h).sp
 have e3:dn (bH m i l).sp i=true:=by have h5:m.sp.length=5:=(nz h).sp;simp only[dn,inB,Bool.and_eq_true,decide_eq_true_eq,hL];exact⟨by omega,by simp[bH,hi,hlv]⟩
 rw[ku,Int.toNat_natCast,Int.toNat_natCast,pr h hi hlv he,e3,e1,e2,decide_eq_true z1,show inB (p:Int) 0 63=true by simp only[inB,Bool.and_eq_true,decide_eq_true_eq];omega];have:p % 4<4:=Nat.mod_lt _ (by decide);have:byteOf jo (p % 4)=0:=by rcases(by omega:p % 4=0∨p % 4=1∨p % 4=2∨p % 4=3)with e|e|e|e<;>rw[e]<;>rfl
 simp[jI,cr,this]
set_option maxHeartbeats 8000000 in
theorem v9(b:Bool)(bs:List UInt8)(hl:bs.length≤1048576):eD Try.prog 53 [.one (.ro b 1 (bs.map dO))] [] 0 fun x H'=>∃(m:Mem)(w:Int)(a:Area),m.fits 1048576∧m.sp.length≤5∧x= .tup [oM m,.one (dI w),.agg (aA a)]∧H'=[]:=by
 refine yY fun c hc=>?_
 have r:=za hc;have ho:=yH c (bs.map dO) hc (by rw[List.length_map];omega);rw[←List.map_take]at ho ⊢;generalize mY c=c' at r ho ⊢;generalize bs.take 2000=bs' at r ho ⊢;refine fm hmix Try.func53 ok53 (fun g p h=>by simp at h) ?_;rcases hc with⟨-,z,rfl⟩| ⟨id,base,lim,rfl⟩<;>rcases r.c with⟨-,z',rfl⟩| ⟨id',base',lim',rfl⟩<;>conv=>whnf
 all_goals
  refine aAV [.pass] (jR _ (bs'.map dO)) [_,.int .i64 0] rfl rfl rfl rfl ho ?_;conv=>whnf
  refine gi [] [.pass] [2] (jR _ (bs'.map dO)) rfl rfl rfl rfl rfl (aCm _ bs' 0 r (by omega)) (fun t p h=>by simp[jR]at h) (hv:=.inr rfl) ?_;rintro res H3 ⟨m,q,j1,j5,j2,j3,rfl,rfl⟩;refine⟨rfl,_,rfl,?_⟩;conv=>whnf
  simp only[List.drop_zero,List.take_length];refine gi [] [.pass,.lend] [2] (jR _ (bs'.map dO)) (cas:=[.one (.ptr 0 0 0),aM true true true true true m]) rfl rfl (by show some [_,DV.agg [DC.ro true 1 (List.take _ (List.drop 0 _)),DC.ro true 1 (List.take _ (List.drop 0 _)),DC.ro true 1 (List.take _ (List.drop 0 _)),DC.ro true 1 (List.take _ (List.drop 0 _)),DC.ro true 3 (List.take _ (List.drop 0 _)),_]]=_;simp only[List.drop_zero,List.take_length];rfl) rfl rfl (aC6 _ bs' q true true true true true m r (by omega) j5) (fun t p h=>by simp[jR]at h) (hv:=.inr rfl) ?_;rintro res H3 ⟨w,q2,w1,w2,w3,w4,rfl,rfl⟩;refine⟨rfl,_,rfl,?_⟩;conv=>whnf
  refine gi [] [.pass] [2] (jR _ (bs'.map dO)) rfl rfl rfl rfl rfl (wJ _ bs' q2 r (by omega)) (fun t p h=>by simp[jR]at h) (hv:=.inr rfl) ?_;rintro res H3 ⟨a,q3,a1,a2,a3,a4,a5,a6,rfl,rfl⟩;refine⟨rfl,_,rfl,?_⟩;conv=>whnf
  exact⟨m,w,a,j1,j5,by simp[oM,dI,dB,aA],rfl⟩
end Go.Qm
namespace Go.Qm
open Go.Cq Go.Cq.D Go.RowKit Go.Proofs
set_option maxRecDepth 10000
set_option maxHeartbeats 8000000 in
theorem xN(hc:rO)(b:Bool)(bs:List UInt8):bA Try.prog 20 [.one (.ro b 1 (bs.map dO))] (.v (.one (dB true))):=by
 refine aN hmix Try.func20 ok20 ?_;conv=>whnf
 refine CondP.mk (fun h=>?_) (fun h=>?_)<;>conv=>whnf
 ·exact⟨rfl,rfl⟩
 have hl:bs.length≤1048576:=by simp at h;omega
 refine iW [.pass] [] rfl rfl rfl rfl (v9 b bs hl) ?_;rintro res H3 ⟨m,w,⟨fr,mn,wr,sh⟩,hf,h5,rfl,rfl⟩;refine⟨rfl,rfl,_,rfl,?_⟩;conv=>whnf
 simp only[List.drop_zero,List.take_length];have g1:=yK hc true true true true true m w ⟨fr,mn,wr,sh⟩ hf;have g2:=sv true true true true true m w ⟨fr,mn,wr,sh⟩ hf;have hsm:=rR (m:=m) (who:=w) (a:=⟨fr,mn,wr,sh⟩);have hfn:=tZ (m:=m) (w:=w) (a:=⟨fr,mn,wr,sh⟩);generalize eR m w ⟨fr,mn,wr,sh⟩=x at g1 g2 hsm hfn;have hq:bA Try.prog 32 [aM true true true true true x.1,aM true true true true true x.1] (.v (.one (dB true))):=aAT true true true true true true true true true true x.1 (hsm.mono (by decide));refine aB (cas:=[aM true true true true true m,.one (dI w),.agg (aA ⟨fr,mn,wr,sh⟩)]) [.lend,.pass,.pass] rfl (by show some [DV.agg [DC.ro true 1 (List.take _ (List.drop 0 _)),DC.ro true 1 (List.take _ (List.drop 0 _)),DC.ro true 1 (List.take _ (List.drop 0 _)),DC.ro true 1 (List.take _ (List.drop 0 _)),DC.ro true 3 (List.take _ (List.drop 0 _)),_],_,_]=_;simp only[List.drop_zero,List.take_length];rfl) rfl g1 rfl ?_;conv=>whnf
 simp only[List.drop_zero,List.take_length];refine aB (cas:=[aM true true true true true m,.one (dI w),.agg (aA ⟨fr,mn,wr,sh⟩)]) [.lend,.pass,.pass] rfl (by show some [DV.agg [DC.ro true 1 (List.take _ (List.drop 0 _)),DC.ro true 1 (List.take _ (List.drop 0 _)),DC.ro true 1 (List.take _ (List.drop 0 _)),DC.ro true 1 (List.take _ (List.drop 0 _)),DC.ro true 3 (List.take _ (List.drop 0 _)),_],_,_]=_;simp only[List.drop_zero,List.take_length];rfl) rfl g2 rfl ?_;conv=>whnf
 simp only[List.drop_zero,List.take_length];refine aB (cas:=[aM true true true true true x.1,aM true true true true true x.1]) [.lend,.lend] rfl (by show some [DV.agg [DC.ro true 1 (List.take _ (List.drop 0 _)),DC.ro true 1 (List.take _ (List.drop 0 _)),DC.ro true 1 (List.take _ (List.drop 0 _)),DC.ro true 1 (List.take _ (List.drop 0 _)),DC.ro true 3 (List.take _ (List.drop 0 _)),_],DV.agg [DC.ro true 1 (List.take _ (List.drop 0 _)),DC.ro true 1 (List.take _ (List.drop 0 _)),DC.ro true 1 (List.take _ (List.drop 0 _)),DC.ro true 1 (List.take _ (List.drop 0 _)),DC.ro true 3 (List.take _ (List.drop 0 _)),_]]=_;simp only[List.drop_zero,List.take_length];rfl) rfl hq rfl ?_
 (conv=>whnf)<;>repeat' first|(refine aD ?_;conv=>whnf)|(refine aC ?_;conv=>whnf)
 refine CondP.mk (fun h=>by simp at h) (fun h=>?_);rw[h]
 (conv=>whnf)<;>repeat' first|(refine aD ?_;conv=>whnf)|(refine aC ?_;conv=>whnf)
 refine CondP.mk (fun h1=>?_) (fun h1=>?_)<;>conv=>whnf
 ·exact⟨by simp[dB],rfl⟩
 have h0:x.2=0:=by simpa using h1
 obtain⟨i,rfl,hok,hi,hlv,l,ha,hx⟩:=hfn h0;have ab:=bz.1 (kU ha).1;have mok:=pr hok hi hlv ha;simp only at ab;obtain⟨f,rfl⟩:=Int.eq_ofNat_of_zero_le ab.1;obtain⟨g,rfl⟩:=Int.eq_ofNat_of_zero_le (show 0≤mn by omega);have e1:IntKind.wrap .i64 ((f:Int)*4)=((f*4:Nat):Int):=by rw[wrap64 (by omega) (by omega)];omega
 have e2:IntKind.wrap .i64 (IntKind.wrap .i64 ((f:Int)+g)*4)=(((f+g)*4:Nat):Int):=by rw[wrap64 (x:=(f:Int)+g) (by omega) (by omega),wrap64 (by omega) (by omega)];omega
 rw[e1];refine ak (fun p:Nat=>[(3,.v (.one (.ptr 5 0 0))),(4,.v (.one (dI i))),(5,.v (.one (.ptr 6 0 0))),(6,.v (.one (.ptr 17 0 0))),(11,.v (.one (dI p)))]) (fun _=>[(17,bO x.1),(6,.box (aA ⟨f,g,wr,sh⟩)),(5,bO m)]) (fun _=>18) (fun p=>f*4≤p∧p≤(f+g)*4) (fun p=>(f+g)*4-p) (f*4) ⟨by omega,by omega⟩ rfl (by simp[bO,dI,dB,aA]) rfl fun p hp=>?_
 conv=>whnf
 rw[e2];refine CondP.mk (fun c1=>?_) (fun c1=>?_)<;>conv=>whnf
 ·have c1:p< (f+g)*4:=by have:=of_decide_eq_true c1;omega
  have pk:=vR hc true true true true true x.1 i p (hsm.mono (by decide));rw[show ku x.1 i p=(0,true) by rw[hx];exact zk hok hi hlv ha (by simp only;omega) (by simp only;omega)]at pk;simp only;refine aB (cas:=[aM true true true true true x.1,.one (dI i),.one (dI p)]) [.lend,.pass,.pass] rfl (by show some [DV.agg [DC.ro true 1 (List.take _ (List.drop 0 _)),DC.ro true 1 (List.take _ (List.drop 0 _)),DC.ro true 1 (List.take _ (List.drop 0 _)),DC.ro true 1 (List.take _ (List.drop 0 _)),DC.ro true 3 (List.take _ (List.drop 0 _)),_],_,_]=_;simp only[List.drop_zero,List.take_length];rfl) rfl pk rfl ?_
  (conv=>whnf)<;>repeat' first|(refine aD ?_;conv=>whnf)|(refine aC ?_;conv=>whnf)
  refine⟨p+1,by omega,⟨by omega,by omega⟩,?_,by simp[bO,dI,dB,aA],rfl⟩;rw[wrap64 (by omega) (by omega)];rfl
 have hr1:x.1.ram=m.ram:=by rw[hx];rfl
 have hr2:x.1.swp=m.swp:=by rw[hx];rfl
 simp only;refine aB (cas:=[aM true true true true true x.1]) [.lend] rfl (by show some [DV.agg [DC.ro true 1 (List.take _ (List.drop 0 _)),DC.ro true 1 (List.take _ (List.drop 0 _)),DC.ro true 1 (List.take _ (List.drop 0 _)),DC.ro true 1 (List.take _ (List.drop 0 _)),DC.ro true 3 (List.take _ (List.drop 0 _)),_]]=_;simp only[List.drop_zero,List.take_length];rfl) rfl (hc true true true true true x.1 (hsm.mono (by decide))) rfl ?_;rw[hx,mok,←hx]
 (conv=>whnf)<;>repeat' first|(refine aD ?_;conv=>whnf)|(refine aC ?_;conv=>whnf)
 refine aB (cas:=[.agg [.ro true 1 (x.1.ram.tx.map rS),.ro true 1 (x.1.ram.rf.map rI)],.agg [.ro true 1 (m.ram.tx.map rS),.ro true 1 (m.ram.rf.map rI)]]) [.lend,.lend] rfl (by show some [DV.agg [DC.ro true 1 (List.take _ (List.drop 0 _)),DC.ro true 1 (List.take _ (List.drop 0 _))],DV.agg [DC.ro true 1 (List.take _ (List.drop 0 _)),DC.ro true 1 (List.take _ (List.drop 0 _))]]=_;simp only[List.drop_zero,List.take_length]) rfl (by rw[hr1];exact jG true true true true m.ram (by have:=hf.rt;omega) (by have:=hf.rr;omega)) rfl ?_
 (conv=>whnf)<;>repeat' first|(refine aD ?_;conv=>whnf)|(refine aC ?_;conv=>whnf)
 refine aB (cas:=[.agg [.ro true 1 (x.1.swp.tx.map rS),.ro true 1 (x.1.swp.rf.map rI)],.agg [.ro true 1 (m.swp.tx.map rS),.ro true 1 (m.swp.rf.map rI)]]) [.lend,.lend] rfl (by show some [DV.agg [DC.ro true 1 (List.take _ (List.drop 0 _)),DC.ro true 1 (List.take _ (List.drop 0 _))],DV.agg [DC.ro true 1 (List.take _ (List.drop 0 _)),DC.ro true 1 (List.take _ (List.drop 0 _))]]=_;simp only[List.drop_zero,List.take_length]) rfl (by rw[hr2];exact jG true true true true m.swp (by have:=hf.st;omega) (by have:=hf.sr;omega)) rfl ?_
 (conv=>whnf)<;>repeat' first|(refine aD ?_;conv=>whnf)|(refine aC ?_;conv=>whnf)
 exact⟨rfl,rfl⟩
end Go.Qm

