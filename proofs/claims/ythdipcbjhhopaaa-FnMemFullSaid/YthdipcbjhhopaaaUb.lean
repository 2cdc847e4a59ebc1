import Derived.Test.YthdipcbjhhopaaaUa
namespace Go.Qm
open Go.Cq Go.Cq.D Go.RowKit Go.Proofs
set_option maxRecDepth 10000
theorem qi:SpI sK:=⟨fun e=>by simp[sK]at e,fun _=>⟨rfl,rfl⟩,fun x hx=>by simp[sK]at hx⟩
theorem wu:Inv kK:=by
 have hp:∀kd:Int,Pl nG fun k=>cnt kd k kK.sp:=fun kd=>by
  have h0:∀k:Nat,cnt kd k kK.sp=0:=fun k=>by simp[kK,List.replicate,cnt,eR]
  refine⟨rfl,rfl,fun k hk=>?_,fun k hk h=>absurd (h0 k) h⟩;rw[h0,nG];simp only[List.getElem?_replicate,hk,if_true];rfl
 exact⟨hp 1,hp 2,rfl,by decide,fun s hs=>by rw[kK]at hs;obtain rfl:=List.eq_of_mem_replicate hs;exact qi⟩
theorem Inv.make{m:Mem}(h:Inv m)(hz:bz m.sp<m.sp.length):Inv (et m):=by
 have hd:=(h.ss _ (List.getElem_mem hz)).dd (kq hz);refine h.put hz ⟨fun _=>⟨by decide,rfl⟩,fun e=>by simp[v9]at e,fun x hx=>?_⟩ fun kd pl hk=>?_
 ·obtain rfl:=List.eq_of_mem_replicate hx;exact .inl rfl
 ·rw[hd.2];exact rD hk fun x hx=>by obtain rfl:=List.eq_of_mem_replicate hx;rfl
theorem vE{m:Mem}{i j k:Nat}(hi:i<m.sp.length)(hj:j<m.sp[i].sl.length):aK (ik m i j) i k=if k=j then dQ else aK m i k:=by
 have e:(m.sp[i]?.bind fun s=>s.sl[j]?)=some m.sp[i].sl[j]:=by simp[hi,hj]
 simp only[ik,e];by_cases c:k=j
 ·subst c;rw[if_pos rfl];simp[aK,aF,hi,hj]
 ·rw[if_neg c,pS c]
theorem qS{m:Mem}(h:Inv m){i:Nat}(hi:i<m.sp.length)(hlv:m.sp[i].lv=true):∀{t k:Nat},t≤16→k<t→aK (cm m i 0 t) i k=dQ:=by
 intro t;induction t with
 |zero=>intro k _ hk;omega
 |succ t ih=>
  intro k ht hk;obtain⟨h1,s1⟩:=h.cm (fr:=0) hi hlv (t:=t) (by omega);have hi1:i< (cm m i 0 t).sp.length:=by rw[s1.1];exact hi
  have h16:=((h.ss _ (List.getElem_mem hi)).lv hlv).2;have hl:=(s1.2 i hi hi1).2.2;rw[cm,vE hi1 (by omega)];split
  ·rfl
  ·exact ih (by omega) (by omega)
theorem Inv.drop{m:Mem}(h:Inv m){i:Nat}(hi:i<m.sp.length)(hlv:m.sp[i].lv=true):Inv (xD m i):=by
 obtain⟨h1,s1⟩:=h.cm (fr:=0) hi hlv (t:=16) (by omega);have hz:=fun k(hk:k<16)=>qS h hi hlv (t:=16) (k:=k) (Nat.le_refl _) hk
 have h16:=((h.ss _ (List.getElem_mem hi)).lv hlv).2;have hi1:i< (Go.Qm.cm m i 0 16).sp.length:=by rw[s1.1];exact hi
 have hl:=(s1.2 i hi hi1).2.2;rw[xD];generalize Go.Qm.cm m i 0 16=w at h1 s1 hz hi1 hl;refine h1.put hi1 qi fun kd pl hk=>?_
 rw[rD hk (l:=w.sp[i].sl) fun x hx=>?_]
 ·rfl
 ·obtain⟨k,hk2,rfl⟩:=List.getElem_of_mem hx;rw[←bV hi1 hk2,hz k (by omega)];rfl
theorem Inv.map{m:Mem}(h:Inv m){i:Nat}(hi:i<m.sp.length)(hlv:m.sp[i].lv=true)(a:Area):Inv (mapM (mD (gb m i) a) m i).1:=by
 cases e:mD (gb m i) a with
 |none=>exact h
 |some l=>exact h.c9 hi hlv (x7 e).2
theorem Inv.get{m:Mem}(h:Inv m){i a:Nat}(hi:i<m.sp.length)(hlv:m.sp[i].lv=true)(ha:a≤63):Inv (getM m i a).1:=by
 have h16:=((h.ss _ (List.getElem_mem hi)).lv hlv).2;unfold getM;split
 ·exact h
 ·split
  ·exact h
  ·rename_i m' hm;exact h.jk hi (by omega) hm
theorem Inv.mA{m:Mem}(h:Inv m){i a:Nat}{b:Int}(hi:i<m.sp.length)(hlv:m.sp[i].lv=true)(ha:a≤63):Inv (cE m i a b).1:=by
 have h16:=((h.ss _ (List.getElem_mem hi)).lv hlv).2;unfold cE;split
 ·exact h
 ·split
  ·exact h
  ·split
   ·exact h
   ·rename_i m2 hm;rw[Option.bind_eq_some_iff]at hm;obtain⟨m1,h1,h2⟩:=hm;have i1:=h.jk hi (by omega) h1;obtain⟨hi1,hj1,hk⟩:=fy h.wf hi (by omega) h1;have i2:=i1.own hi1 hj1 (by rw[bV hi1 hj1];exact hk) h2;exact i2.text (by simp[Go.Qm.mA])
theorem Inv.cut{m:Mem}(h:Inv m){i:Nat}(hi:i<m.sp.length)(hlv:m.sp[i].lv=true){fr mn:Int}:Inv (aBI (jL (gb m i) fr mn) m i fr mn).1:=by
 cases e:jL (gb m i) fr mn with
 |none=>exact h
 |some l=>
  obtain⟨h2,h4⟩:=qD e;have hb:=gB.1 h2;simp only at hb;have h1:=h.c9 hi hlv h4;have hi1:i< (Go.Qm.c9 m i l).sp.length:=by simpa [Go.Qm.c9]using hi
  have hlv1:(Go.Qm.c9 m i l).sp[i].lv=true:=by simp[Go.Qm.c9,hlv]
  exact(h1.cm (fr:=fr.toNat) (t:=mn.toNat) hi1 hlv1 (by omega)).1
theorem lW{l:List Area}(h:ay l=true):l.length≤6:=by simp only[ay,Bool.and_eq_true,decide_eq_true_eq]at h;exact h.2
theorem Inv.ar{m:Mem}(h:Inv m){i:Nat}(hi:i<m.sp.length)(hlv:m.sp[i].lv=true):(∀x,x∈m.sp[i].ar→bL x=true)∧m.sp[i].ar.length≤6∧m.sp[i].sl.length=16:=⟨fW ((h.ss _ (List.getElem_mem hi)).lv hlv).1,lW ((h.ss _ (List.getElem_mem hi)).lv hlv).1,((h.ss _ (List.getElem_mem hi)).lv hlv).2⟩
theorem Inv.fits{m:Mem}(h:Inv m):m.fits 1048576:=by
 refine⟨by rw[h.ram.tx];decide,by rw[h.ram.rf];decide,by rw[h.swp.tx];decide,by rw[h.swp.rf];decide,by rw[h.sp];decide,fun s hs=>⟨?_,?_⟩⟩
 ·have i1:=h.ss s hs;cases e:s.lv with
  |true=>have:=lW (i1.lv e).1;omega
  |false=>rw[(i1.dd e).1];simp
 ·have:=(h.ss s hs).l16;omega
end Go.Qm
namespace Go.Qm
open Go.Cq Go.Cq.D Go.RowKit Go.Proofs
set_option maxRecDepth 10000
def jR(c:CV)(es:List (List PV)):JN:=⟨fun _=>none,some (c,es)⟩
theorem xi(c:CV)(es:List (List PV))(hc:uE es c)(hl:es.length≤9223372036854775807):eh Try.prog (jR (nZ c) (es.take 2000)) 73 [.one (.sc c)] [] 0 fun res H'=>∃t,res= .v (.one (.ptr t 0 0))∧aG H' t=some (.box ([nZ c,.int .i64 0].map .sc)):=by
 refine dj hmix Try.func73 ok73 (fun g p h=>by simp[jR]at h) ?_;rcases hc with⟨rfl,z,rfl⟩| ⟨id,base,lim,rfl⟩
 ·conv=>whnf
  refine xL rfl ?_;conv=>whnf
  refine CondP.mk (fun h=>by simp at h) (fun _=>?_);conv=>whnf
  exact⟨0,rfl,rfl⟩
 ·conv=>whnf
  refine ki rfl ?_;conv=>whnf
  refine CondP.mk (fun h=>?_) (fun h=>?_)<;>conv=>whnf
  ·have h:2000<es.length:=by simp at h;omega
   refine aC3 (m:=2000) (b':=base+0) (l':=2000-0) (lim':=lim.map (· -0)) (es:=es.take 2000) rfl rfl (by simp only[jR,nZ,if_pos h]) (by omega) ?_;conv=>whnf
   exact⟨0,rfl,by simp only[nZ,if_pos h];rfl⟩
  ·have h:¬2000<es.length:=by simp at h;omega
   exact⟨0,rfl,by simp only[nZ,if_neg h];rfl⟩
theorem aDY{a b:Int}(h1:0≤a)(h2:a<4611686018427387904)(h3:0≤b)(h4:b<4611686018427387904):0≤IntKind.wrap .i64 ((BitVec.ofInt IntKind.i64.bits a ^^^ BitVec.ofInt IntKind.i64.bits b).toNat:Int):=by
 have e:∀{a:Int},0≤a→a<4611686018427387904→(BitVec.ofInt 64 a).toNat<2 ^ 62:=fun{a} h1 h2=>by rw[BitVec.toNat_ofInt];omega
 have:=Nat.xor_lt_two_pow (e h1 h2) (e h3 h4);have hx:(BitVec.ofInt IntKind.i64.bits a ^^^ BitVec.ofInt IntKind.i64.bits b).toNat<2 ^ 62:=by rw[BitVec.toNat_xor];exact this
 rw[wrap64 (by omega) (by omega)];omega
theorem aBy(c:CV)(bs:List UInt8)(p:Nat)(n:Int)(hc:uE (bs.map dE) c)(hl:bs.length≤2000)(hp:p≤1000000)(hn:1≤n∧n≤1000):eh Try.prog (jR c (bs.map dE)) 91 [.one (.ptr 0 0 0),.one (dI n)] [(0,.box [.sc c,dI p])] 1
  fun x H'=>∃v:Int,0≤v∧v<n∧x= .v (.one (dI v))∧H'=[(0,.box [.sc c,dI ((p+1:Nat):Int)])]:=by
 refine dj hmix Try.func91 ok91 (fun g p h=>by simp[jR]at h) ?_;have hn0:decide (n<1)=false:=by simp;omega
 have hw:IntKind.wrap .i64 ((p:Int)+1)=((p+1:Nat):Int):=by rw[wrap64 (by omega) (by omega)];omega
 rcases hc with⟨he,z,rfl⟩| ⟨id,base,lim,rfl⟩
 ·have he:bs=[]:=by simpa using he
  conv=>whnf
  rw[hn0,hw];refine aD ?_;conv=>whnf
  refine aD ?_;conv=>whnf
  refine aD ?_;conv=>whnf
  refine aD ?_;conv=>whnf
  refine aD ?_;conv=>whnf
  refine xL rfl ?_;conv=>whnf
  refine aD ?_;conv=>whnf
  refine aE ?_;conv=>whnf
  exact⟨0,by omega,by omega,rfl,rfl⟩
 ·rw[List.length_map];conv=>whnf
  rw[hn0,hw];refine aD ?_;conv=>whnf
  refine aD ?_;conv=>whnf
  refine aD ?_;conv=>whnf
  refine aD ?_;conv=>whnf
  refine aD ?_;conv=>whnf
  refine ki rfl ?_;conv=>whnf
  refine aD ?_;conv=>whnf
  have hw2:IntKind.wrap .i64 (((p+1:Nat):Int)-1)=(p:Int):=by rw[wrap64 (by omega) (by omega)];omega
  refine CondP.mk (fun h=>?_) (fun h=>?_)<;>conv=>whnf
  ·exact⟨0,by omega,by omega,rfl,rfl⟩
  have hb:0<bs.length:=by simp only[decide_eq_false_iff_not]at h;omega
  rw[hw2];refine ki rfl ?_;conv=>whnf
  refine CondP.mk (fun h2=>?_) (fun h2=>?_)<;>conv=>whnf
  ·have h2:p<bs.length:=by simp at h2;omega
   refine sd (k:=p) rfl rfl rfl (by simpa using h2) ?_;conv=>whnf
   refine aH (r:=.one (.sc (.int .u8 bs[p].toNat))) rfl (by simp[ak,dE,h2]) ?_;conv=>whnf
   rw[show IntKind.wrap .i64 (bs[p].toNat:Int)=bs[p].toNat from wrap64 (by omega) (by have:=bs[p].toNat_lt;omega)];refine tI rfl rfl (by omega) ?_;conv=>whnf
   refine⟨_,?_,?_,rfl,rfl⟩
   ·exact Int.tmod_nonneg _ (by omega)
   ·exact Int.tmod_lt_of_pos _ (by omega)
  ·have h2:bs.length≤p:=by simp at h2;omega
   refine ki rfl ?_;conv=>whnf
   refine tI rfl rfl (by omega) ?_;conv=>whnf
   have hL:(0:Int)<bs.length:=by omega
   have q1:p % bs.length<bs.length:=Nat.mod_lt _ hb;have q2:(p*7+3) % bs.length<bs.length:=Nat.mod_lt _ hb;have d1:=bs[p % bs.length].toNat_lt;have d2:=bs[(p*7+3) % bs.length].toNat_lt;have w1:IntKind.wrap .i64 ((p:Int)*7)=(p:Int)*7:=wrap64 (by omega) (by omega);have w2:IntKind.wrap .i64 ((p:Int)*7+3)=(p:Int)*7+3:=wrap64 (by omega) (by omega);have e1:((p:Int)).tmod bs.length=((p % bs.length:Nat):Int):=by rw[Int.tmod_eq_emod_of_nonneg (by omega)];omega
   have e2:((p:Int)*7+3).tmod bs.length=(((p*7+3) % bs.length:Nat):Int):=by rw[Int.tmod_eq_emod_of_nonneg (by omega)];simp
   rw[e1];refine sd (k:=p % bs.length) rfl rfl rfl (by simpa using q1) ?_;conv=>whnf
   refine aH (r:=.one (.sc (.int .u8 bs[p % bs.length].toNat))) rfl (by simp[ak,dE,q1]) ?_;conv=>whnf
   refine ki rfl ?_;conv=>whnf
   rw[w1,w2];refine tI rfl rfl (by omega) ?_;conv=>whnf
   rw[e2];refine sd (k:=(p*7+3) % bs.length) rfl rfl rfl (by simpa using q2) ?_;conv=>whnf
   refine aH (r:=.one (.sc (.int .u8 bs[(p*7+3) % bs.length].toNat))) rfl (by simp[ak,dE,q2]) ?_;conv=>whnf
   refine ki rfl ?_;conv=>whnf
   refine aAd rfl rfl (by omega) ?_;conv=>whnf
   obtain⟨X,hX,x0,x1⟩:∃X:Int,IntKind.wrap .i64 (IntKind.wrap .i64 (IntKind.wrap .i64 (IntKind.wrap .i64 (IntKind.wrap .i64 (bs[p % bs.length].toNat:Int)*131)+IntKind.wrap .i64 (IntKind.wrap .i64 (bs[(p*7+3) % bs.length].toNat:Int)*1117))+IntKind.wrap .i64 ((p:Int)*29))+IntKind.wrap .i64 (IntKind.wrap .i64 ((p:Int).tdiv bs.length)*53))=X∧0≤X∧X<4611686018427387904:=by
    generalize bs[p % bs.length].toNat=B1 at d1;generalize bs[(p*7+3) % bs.length].toNat=B2 at d2;have hQ:(p:Int).tdiv bs.length=((p / bs.length:Nat):Int):=by rw[Int.tdiv_eq_ediv_of_nonneg (by omega)];simp
    have hQ2:p / bs.length≤p:=Nat.div_le_self _ _;rw[hQ];generalize p / bs.length=Q at hQ2;have d1:B1<256:=d1;have d2:B2<256:=d2;have a1:IntKind.wrap .i64 (B1:Int)=B1:=wrap64 (by omega) (by omega);have a2:IntKind.wrap .i64 ((B1:Int)*131)=B1*131:=wrap64 (by omega) (by omega);have a3:IntKind.wrap .i64 (B2:Int)=B2:=wrap64 (by omega) (by omega);have a4:IntKind.wrap .i64 ((B2:Int)*1117)=B2*1117:=wrap64 (by omega) (by omega);have a5:IntKind.wrap .i64 ((B1:Int)*131+B2*1117)=B1*131+B2*1117:=wrap64 (by omega) (by omega);have a6:IntKind.wrap .i64 ((p:Int)*29)=p*29:=wrap64 (by omega) (by omega);have a7:IntKind.wrap .i64 ((B1:Int)*131+B2*1117+p*29)=B1*131+B2*1117+p*29:=wrap64 (by omega) (by omega);have a8:IntKind.wrap .i64 (Q:Int)=Q:=wrap64 (by omega) (by omega);have a9:IntKind.wrap .i64 ((Q:Int)*53)=Q*53:=wrap64 (by omega) (by omega);have a10:IntKind.wrap .i64 ((B1:Int)*131+B2*1117+p*29+Q*53)=B1*131+B2*1117+p*29+Q*53:=wrap64 (by omega) (by omega);rw[a1,a2,a3,a4,a5,a6,a7,a8,a9,a10];exact⟨_,rfl,by omega,by omega⟩
   rw[hX];refine aAd rfl rfl (by decide) ?_;have hY:IntKind.wrap .i64 (X.tdiv 64)=X / 64:=by rw[Int.tdiv_eq_ediv_of_nonneg x0];exact wrap64 (by omega) (by omega)
   rw[hY];conv=>whnf
   refine tI rfl rfl (by omega) ?_;conv=>whnf
   refine⟨_,?_,?_,rfl,rfl⟩
   ·exact Int.tmod_nonneg _ (aDY x0 x1 (by omega) (by omega))
   ·exact Int.tmod_lt_of_pos _ (by omega)
end Go.Qm
namespace Go.Qm
open Go.Cq Go.Cq.D Go.RowKit Go.Proofs
set_option maxRecDepth 10000
def rB(c:CV)(p:Nat):DB:=.box [.sc c,dI p]
structure RdOk(c:CV)(bs:List UInt8):Prop where
 c:uE (bs.map dE) c
 l:bs.length≤2000
section
variable{c:CV}{bs:List UInt8}{ts:DTs}{H:DH}{m:Nat}{K:DT→DTs→DH→Nat→List Nat→Prop}
theorem aq{x y:Opd}{g p:Nat}{n:Int}(r:RdOk c bs)(hx:cC ts x=some (.ptr g 0 0))(hy:evD ts y=some (.one (dI n)))(hg:aG H g=some (rB c p))(hp:p≤1000000)(hn:1≤n∧n≤1000)(h:∀v:Int,0≤v→v<n→fTs ts fun ts1=>fDH (cj g (rB c (p+1)) H) fun H'=>K (.v (.one (dI v))) ts1 H' m [g]):OpP ⟨Try.prog,jR c (bs.map dE)⟩ (.call 91 [x,y]) ts H m K:=by
 have hxd:evD ts x=some (.one (.ptr g 0 0)):=by
  unfold cC at hx;split at hx
  ·rename_i e;cases hx;exact e
  ·simp at hx
 have hr:fO [g] g 0=some 0:=by simp[fO]
 refine gq [] [.pass,.pass] [g] (jR c (bs.map dE)) (das:=[.one (.ptr g 0 0),.one (dI n)]) (cas:=[.one (.ptr 0 0 0),.one (dI n)]) (Hc:=[(0,rB c p)]) rfl (by simp only[dP,hxd,hy]) (by simp only[fQ,ru,rv,hr,Option.map_some,dI]) (by simp only[du,hg,Option.bind_some];rfl) (by simp[nodup,given,dR,b9]) (aBy c bs p n r.c r.l hp hn) (fun t p h=>by simp[jR]at h) ?_;rintro res H3 ⟨v,h1,h2,rfl,rfl⟩;have h:=h v h1 h2;simp only[kT,kI]at h;refine⟨rfl,cj g (rB c (p+1)) H,?_,h⟩;simp only[given,fR,bD,aG,Nat.beq_refl,cond_true,hg,rB,List.length_cons,List.length_nil,if_true];rfl
end
theorem aC0(c:CV)(bs:List UInt8)(p:Nat)(r:RdOk c bs)(hp:p≤999990):eh Try.prog (jR c (bs.map dE)) 76 [.one (.ptr 0 0 0)] [(0,rB c p)] 1
  fun x H'=>∃(a:Int)(q:Nat), -1≤a∧a≤64∧p≤q∧q≤p+2∧x= .v (.one (dI a))∧H'=[(0,rB c q)]:=by
 refine dj hmix Try.func76 ok76 (fun g p h=>by simp[jR]at h) ?_;rcases r.c with⟨-,z,rfl⟩| ⟨id,base,lim,rfl⟩<;>conv=>whnf
 all_goals
  refine aq r rfl rfl rfl (by omega) (by omega) fun v h1 h2=>?_
  conv=>whnf
  refine CondP.mk (fun h=>?_) (fun h=>?_)<;>conv=>whnf
  ·refine bY (db:=.arr 1 [rI (-1),rI 63,rI 64] []) rfl rfl rfl ?_;conv=>whnf
   refine aq r rfl rfl rfl (by omega) (by omega) fun w h3 h4=>?_
   conv=>whnf
   have hw:w=0∨w=1∨w=2:=by omega
   rcases hw with rfl|rfl|rfl
   all_goals
    conv=>whnf
    refine aB (k:=_) rfl rfl rfl (by decide) ?_;conv=>whnf
    refine bR rfl rfl rfl rfl rfl ?_;conv=>whnf
    exact⟨_,p+2,by decide,by decide,by omega,by omega,rfl,rfl⟩
  ·refine aq r rfl rfl rfl (by omega) (by omega) fun w h3 h4=>?_
   conv=>whnf
   exact⟨w,p+2,by omega,by omega,by omega,by omega,rfl,rfl⟩
theorem aBr(c:CV)(bs:List UInt8)(p:Nat)(r:RdOk c bs)(hp:p≤999990):eh Try.prog (jR c (bs.map dE)) 119 [.one (.ptr 0 0 0)] [(0,rB c p)] 1
  fun x H'=>∃(a:Area)(q:Nat),0≤a.fr∧a.fr≤15∧ -1≤a.mn∧a.mn≤17∧p≤q∧q≤p+6∧x= .v (.agg (aA a))∧H'=[(0,rB c q)]:=by
 refine dj hmix Try.func119 ok119 (fun g p h=>by simp[jR]at h) ?_;rcases r.c with⟨-,z,rfl⟩| ⟨id,base,lim,rfl⟩<;>conv=>whnf
 all_goals
  refine aq r rfl rfl rfl (by omega) (by omega) fun f f1 f2=>?_
  conv=>whnf
  refine aq r rfl rfl rfl (by omega) (by omega) fun k k1 k2=>?_
  conv=>whnf
  have ew:IntKind.wrap .i64 (1+k)=1+k:=wrap64 (by omega) (by omega);rw[ew];refine aq r rfl rfl rfl (by omega) (by omega) fun w w1 w2=>?_
  conv=>whnf
  refine aq r rfl rfl rfl (by omega) (by omega) fun s s1 s2=>?_
  conv=>whnf
  refine aq r rfl rfl rfl (by omega) (by omega) fun u u1 u2=>?_
  conv=>whnf
  refine CondP.mk (fun h=>?_) (fun h=>?_)<;>conv=>whnf
  ·refine bY (db:=.arr 1 [rI 0,rI (-1),rI 16,rI 17] []) rfl rfl rfl ?_;conv=>whnf
   refine aq r rfl rfl rfl (by omega) (by omega) fun x x1 x2=>?_
   conv=>whnf
   have hx:x=0∨x=1∨x=2∨x=3:=by omega
   rcases hx with rfl|rfl|rfl|rfl
   all_goals
    conv=>whnf
    refine aB (k:=_) rfl rfl rfl (by decide) ?_;conv=>whnf
    refine bR rfl rfl rfl rfl rfl ?_;conv=>whnf
    exact⟨⟨f,_,_,_⟩,p+6,f1,by simp only;omega,by simp,by simp,by omega,by omega,rfl,rfl⟩
  ·exact⟨⟨f,1+k,_,_⟩,p+5,f1,by simp only;omega,by simp only;omega,by simp only;omega,by omega,by omega,rfl,rfl⟩
end Go.Qm
namespace Go.Qm
open Go.Cq Go.Cq.D Go.RowKit Go.Proofs
set_option maxRecDepth 10000
theorem aDd(c:CV)(bs:List UInt8)(p:Nat)(b1 b2 b3 b4 b5:Bool)(m:Mem)(r:RdOk c bs)(hp:p≤999900)(hl:m.sp.length≤5):eh Try.prog (jR c (bs.map dE)) 75 [.one (.ptr 0 0 0),aM b1 b2 b3 b4 b5 m] [(0,rB c p)] 1
  fun x H'=>∃(w:Int)(q:Nat), -1≤w∧w≤5∧p≤q∧q≤p+11∧x= .v (.one (dI w))∧H'=[(0,rB c q)]:=by
 refine dj hmix Try.func75 ok75 (fun g p h=>by simp[jR]at h) ?_;rcases r.c with⟨-,z,rfl⟩| ⟨id,base,lim,rfl⟩<;>conv=>whnf
 all_goals
  refine ao (fun s:Nat×Nat=>[(0,.v (.one (.ptr 0 0 0))),(3,.v (.one (.ptr 1 0 0))),(5,.v (.one (dI s.1)))]) (fun s=>[(1,.box [.ro b1 1 (m.ram.tx.map rS),.ro b2 1 (m.ram.rf.map rI),.ro b3 1 (m.swp.tx.map rS),.ro b4 1 (m.swp.rf.map rI),.ro b5 3 (m.sp.map rP),dI m.hd]),(0,rB _ s.2)]) (fun _=>2)
   (fun s=>s.1≤m.sp.length∧p≤s.2∧s.2≤p+2*s.1) (fun s=>m.sp.length-s.1) (0,p) ⟨by omega,by omega,by omega⟩ rfl rfl rfl fun s hs=>?_
  obtain⟨i,q⟩:=s;obtain⟨hi,hq1,hq2⟩:=hs;simp only at hi hq1 hq2;conv=>whnf
  refine CondP.mk (fun h=>?_) (fun h=>?_)<;>rw[h]<;>(conv=>whnf)<;>repeat' first|(refine aE ?_;conv=>whnf)|(refine aD ?_;conv=>whnf)
  case' _=>
   have hlt:i<m.sp.length:=by simpa using h
   refine aq r rfl rfl rfl (by omega) (by omega) fun v v1 v2=>?_
   conv=>whnf
   refine aE ?_;conv=>whnf
   refine CondP.mk (fun h1=>?_) (fun h1=>?_)<;>conv=>whnf
   case' _=>
    refine aN (k:=i) rfl rfl (by simpa using hlt) ?_;conv=>whnf
    refine aH rfl (r:=.one (dB m.sp[i].lv)) (by simp[ak,rP,hlt,eB,dB]) ?_;conv=>whnf
    have next:i+1≤m.sp.length∧m.sp.length-(i+1)<m.sp.length-i∧IntKind.wrap .i64 ((i:Int)+1)=((i+1:Nat):Int):=⟨hlt,by omega,up hlt (by omega)⟩
    refine CondP.mk (fun h2=>?_) (fun h2=>?_)<;>rw[h2]<;>(conv=>whnf)<;>repeat' first|(refine aE ?_;conv=>whnf)|(refine aD ?_;conv=>whnf)
    case' _=>
     refine aq r rfl rfl rfl (by omega) (by omega) fun w w1 w2=>?_
     conv=>whnf
     refine aE ?_;conv=>whnf
     refine CondP.mk (fun h3=>?_) (fun h3=>?_)<;>conv=>whnf
     case _=>exact⟨_,_,by omega,by omega,by omega,by omega,rfl,rfl⟩
     case _=>exact⟨(i+1,q+2),next.2.1,⟨next.1,by omega,by omega⟩,by rw[next.2.2];rfl,rfl,rfl⟩
    case _=>exact⟨(i+1,q+1),next.2.1,⟨next.1,by omega,by omega⟩,by rw[next.2.2];rfl,rfl,rfl⟩
  all_goals
   refine bY (db:=.arr 1 [rI 0,rI 0,rI 0,rI 1,rI 2,rI 4,rI (-1),rI 5] []) rfl rfl rfl ?_;conv=>whnf
   refine aq r rfl rfl rfl (by simp only;omega) (by omega) fun w w1 w2=>?_
   conv=>whnf
   have hw:w=0∨w=1∨w=2∨w=3∨w=4∨w=5∨w=6∨w=7:=by omega
   rcases hw with rfl|rfl|rfl|rfl|rfl|rfl|rfl|rfl
   all_goals
    conv=>whnf
    refine aB (k:=_) rfl rfl rfl (by decide) ?_;conv=>whnf
    refine bR rfl rfl rfl rfl rfl ?_;conv=>whnf
    exact⟨_,_,by decide,by decide,by omega,by omega,rfl,rfl⟩
end Go.Qm
namespace Go.Qm
open Go.Cq Go.Cq.D Go.RowKit Go.Proofs
set_option maxRecDepth 10000
theorem LsOk.c9{m:Mem}{i fr:Nat}{l:List Area}(h:LsOk m i fr 0):LsOk (Go.Qm.c9 m i l) i fr 0:=by
 have hl:i< (Go.Qm.c9 m i l).sp.length:=by simpa [Go.Qm.c9]using h.hi
 have hi:=h.hi;have e:(Go.Qm.c9 m i l).sp[i].sl=m.sp[i].sl:=by simp[Go.Qm.c9]
 exact⟨h.ram,h.swp,hl,by rw[e];exact h.sl,fun j hj hf=>by simp only[e];exact h.pl j (by rw[←e];exact hj) hf⟩
set_option maxHeartbeats 8000000 in
theorem aBx(c:CV)(bs:List UInt8)(p:Nat)(m:Mem)(r:RdOk c bs)(hp:p≤999900)(h:Inv m):eh Try.prog (jR c (bs.map dE)) 144 [.one (.ptr 0 0 0),oM m] [(0,rB c p)] 1
  fun x H'=>∃(m':Mem)(q:Nat),Inv m'∧p≤q∧q≤p+8∧x= .v (oM m')∧H'=[(0,rB c q)]:=by
 refine dj hmix Try.func144 ok144 (fun g p h=>by simp[jR]at h) ?_;rcases r.c with⟨-,z,rfl⟩| ⟨id,base,lim,rfl⟩<;>conv=>whnf
 all_goals
  refine aq r rfl rfl rfl (by omega) (by omega) fun v v1 v2=>?_
  conv=>whnf
  simp only[List.drop_zero,List.take_length];refine aC (cas:=[aM true true true true true m,.one (dI v)]) [.lend,.pass] rfl gp rfl (ma true true true true true m v (by rw[h.sp];decide)) rfl ?_;conv=>whnf
  refine CondP.mk (fun h1=>?_) (fun h1=>?_)<;>rw[h1]<;>(conv=>whnf)<;>repeat' first|(refine aE ?_;conv=>whnf)|(refine aD ?_;conv=>whnf)
  case' _=>
   simp only[List.drop_zero,List.take_length];refine aC (cas:=[aM true true true true true m,.one (dI 0)]) [.lend,.pass] rfl gp rfl (ma true true true true true m 0 (by rw[h.sp];decide)) rfl ?_;conv=>whnf
   refine CondP.mk (fun h2=>?_) (fun h2=>?_)<;>rw[h2]<;>(conv=>whnf)<;>repeat' first|(refine aE ?_;conv=>whnf)|(refine aD ?_;conv=>whnf)
   case' _=>
    simp only[List.drop_zero,List.take_length];refine aC (cas:=[aM true true true true true m]) [.lend] rfl gp rfl (oz true true true true true m h.fits) rfl ?_;conv=>whnf
    refine CondP.mk (fun h3=>?_) (fun h3=>?_)<;>conv=>whnf
    case _=>
     have hz:bz m.sp<m.sp.length:=by
      rcases Nat.lt_or_ge (bz m.sp) m.sp.length with c|c
      ·exact c
      ·simp[f8,show¬bz m.sp<m.sp.length by omega]at h3
     have hM:(f8 m).1=et m:=by
      unfold f8 at h3 ⊢;split
      ·rfl
      ·rename_i c;rw[if_neg c]at h3;simp at h3
     refine⟨et m,p+1,h.make hz,by omega,by omega,?_,rfl⟩;rw[hM];simp[oM,dI]
    case _=>refine⟨m,p+1,h,by omega,by omega,?_,rfl⟩;simp[oM,dI]
   case' _=>
    have h2:fe m.sp 0=true:=by simpa using h2
    obtain⟨hi,hlv⟩:∃hi:0<m.sp.length,m.sp[0].lv=true:=by
     obtain⟨i,e,hi,hlv⟩:=gC h2;have:i=0:=by omega
     subst this;exact⟨hi,hlv⟩
  rotate_left
  case' _=>
   have h1:fe m.sp v=true:=by simpa using h1
   obtain⟨i,rfl,hi,hlv⟩:=gC h1;simp only[List.drop_zero,List.take_length];refine aC (cas:=[aM true true true true true m,.one (dI i)]) [.lend,.pass] rfl gp rfl (ma true true true true true m i (by rw[h.sp];decide)) rfl ?_;rw[h1]
   (conv=>whnf)<;>repeat' first|(refine aE ?_;conv=>whnf)|(refine aD ?_;conv=>whnf)
  all_goals
   have ar:=h.ar hi hlv;refine aq r rfl rfl rfl (by omega) (by omega) fun ad a1 a2=>?_
   obtain⟨a,rfl⟩:=Int.eq_ofNat_of_zero_le a1;conv=>whnf
   refine aq r rfl rfl rfl (by omega) (by omega) fun k k1 k2=>?_
   conv=>whnf
   refine CondP.mk (fun c0=>?_) (fun c0=>?_)<;>conv=>whnf
   case' _=>
    simp only[List.drop_zero,List.take_length];refine aC (cas:=[aM true true true true true m]) [.lend] rfl gp rfl (eJ true true true true true m h.fits) rfl ?_;conv=>whnf
    refine aC [.fX,.pass] rfl rfl rfl (by simpa [oM,dI]using xl m _ h.wf hi ar.1 (by omega) ar.2.2 hlv) rfl ?_;conv=>whnf
    refine CondP.mk (fun c1=>?_) (fun c1=>?_)<;>conv=>whnf
    case _=>refine⟨_,p+3,h.lQ hi hlv (by simpa using c1),by omega,by omega,?_,rfl⟩;simp[oM,dI]
    case _=>refine⟨m,p+3,h,by omega,by omega,?_,rfl⟩;simp[oM,dI]
   refine CondP.mk (fun c1=>?_) (fun c1=>?_)<;>conv=>whnf
   case' _=>
    simp only[List.drop_zero,List.take_length];refine aC (cas:=[aM true true true true true m]) [.lend] rfl gp rfl (eJ true true true true true m h.fits) rfl ?_;conv=>whnf
    refine aq r rfl rfl rfl (by omega) (by omega) fun f f1 f2=>?_
    conv=>whnf
    refine aq r rfl rfl rfl (by omega) (by omega) fun n n1 n2=>?_
    conv=>whnf
    refine aC [.fX,.pass,.pass,.pass] rfl rfl rfl (by simpa [oM,dI]using yh m _ f (IntKind.wrap .i64 (1+n)) hi ar.2.1 fun l fr=>LsOk.c9 (h.ls hi hlv fr)) rfl ?_;conv=>whnf
    refine⟨_,p+5,h.cut hi hlv (fr:=f) (mn:=IntKind.wrap .i64 (1+n)),by omega,by omega,?_,rfl⟩;simp[oM,dI]
   refine CondP.mk (fun c2=>?_) (fun c2=>?_)<;>rw[c2]<;>(conv=>whnf)<;>repeat' first|(refine aE ?_;conv=>whnf)|(refine aD ?_;conv=>whnf)
   case' _=>
    simp only[List.drop_zero,List.take_length];refine aC (cas:=[aM true true true true true m]) [.lend] rfl gp rfl (eJ true true true true true m h.fits) rfl ?_;conv=>whnf
    refine aq r rfl rfl rfl (by omega) (by omega) fun f f1 f2=>?_
    conv=>whnf
    refine aq r rfl rfl rfl (by omega) (by omega) fun n n1 n2=>?_
    conv=>whnf
    refine aq r rfl rfl rfl (by omega) (by omega) fun w w1 w2=>?_
    conv=>whnf
    refine aq r rfl rfl rfl (by omega) (by omega) fun s s1 s2=>?_
    conv=>whnf
    refine aC [.fX,.pass,.pass] rfl rfl rfl (by simpa [oM,dI,aA,dB]using mQ m _ ⟨f,IntKind.wrap .i64 (1+n),decide (0<w),decide (s=0)⟩ hi (by omega)) rfl ?_;conv=>whnf
    refine⟨_,p+7,h.map hi hlv ⟨f,IntKind.wrap .i64 (1+n),decide (0<w),decide (s=0)⟩,by omega,by omega,?_,rfl⟩;simp[oM,dI]
   refine CondP.mk (fun c3=>?_) (fun c3=>?_)<;>rw[c3]<;>(conv=>whnf)<;>repeat' first|(refine aE ?_;conv=>whnf)|(refine aD ?_;conv=>whnf)
   case' _=>
    simp only[List.drop_zero,List.take_length];refine aC (cas:=[aM true true true true true m]) [.lend] rfl gp rfl (eJ true true true true true m h.fits) rfl ?_;conv=>whnf
    refine aq r rfl rfl rfl (by omega) (by omega) fun f f1 f2=>?_
    conv=>whnf
    refine aq r rfl rfl rfl (by omega) (by omega) fun n n1 n2=>?_
    conv=>whnf
    refine aq r rfl rfl rfl (by omega) (by omega) fun w w1 w2=>?_
    conv=>whnf
    refine aq r rfl rfl rfl (by omega) (by omega) fun s s1 s2=>?_
    conv=>whnf
    refine aC [.fX,.pass,.pass] rfl rfl rfl (by simpa [oM,dI,aA,dB]using mQ m _ ⟨f,IntKind.wrap .i64 (1+n),decide (0<w),decide (s=0)⟩ hi (by omega)) rfl ?_;conv=>whnf
    refine⟨_,p+7,h.map hi hlv ⟨f,IntKind.wrap .i64 (1+n),decide (0<w),decide (s=0)⟩,by omega,by omega,?_,rfl⟩;simp[oM,dI]
   refine CondP.mk (fun c4=>?_) (fun c4=>?_)<;>conv=>whnf
   case' _=>
    simp only[List.drop_zero,List.take_length];refine aC (cas:=[aM true true true true true m]) [.lend] rfl gp rfl (eJ true true true true true m h.fits) rfl ?_;conv=>whnf
    refine aq r rfl rfl rfl (by omega) (by omega) fun f f1 f2=>?_
    conv=>whnf
    refine aq r rfl rfl rfl (by omega) (by omega) fun n n1 n2=>?_
    conv=>whnf
    refine aq r rfl rfl rfl (by omega) (by omega) fun w w1 w2=>?_
    conv=>whnf
    refine aq r rfl rfl rfl (by omega) (by omega) fun s s1 s2=>?_
    conv=>whnf
    refine aC [.fX,.pass,.pass] rfl rfl rfl (by simpa [oM,dI,aA,dB]using mQ m _ ⟨f,IntKind.wrap .i64 (1+n),decide (0<w),decide (s=0)⟩ hi (by omega)) rfl ?_;conv=>whnf
    refine⟨_,p+7,h.map hi hlv ⟨f,IntKind.wrap .i64 (1+n),decide (0<w),decide (s=0)⟩,by omega,by omega,?_,rfl⟩;simp[oM,dI]
   refine CondP.mk (fun c5=>?_) (fun c5=>?_)<;>conv=>whnf
   case' _=>
    refine aq r rfl rfl rfl (by omega) (by omega) fun f f1 f2=>?_
    conv=>whnf
    refine CondP.mk (fun c6=>?_) (fun c6=>?_)<;>conv=>whnf
    case' _=>
     simp only[List.drop_zero,List.take_length];refine aC (cas:=[aM true true true true true m]) [.lend] rfl gp rfl (eJ true true true true true m h.fits) rfl ?_;conv=>whnf
     refine aC [.fX,.pass] rfl rfl rfl (by simpa [oM,dI]using xb m _ (h.ls hi hlv 0)) rfl ?_;conv=>whnf
     refine⟨_,p+4,h.drop hi hlv,by omega,by omega,?_,rfl⟩;simp[oM,dI]
    refine⟨m,p+4,h,by omega,by omega,?_,rfl⟩;simp[oM,dI]
   refine CondP.mk (fun c6=>?_) (fun c6=>?_)<;>rw[c6]<;>(conv=>whnf)<;>repeat' first|(refine aE ?_;conv=>whnf)|(refine aD ?_;conv=>whnf)
   case' _=>
    simp only[List.drop_zero,List.take_length];refine aC [.fX,.pass,.pass] rfl rfl rfl (by simpa [oM,dI]using ph m _ a h.wf hi ar.1 (by omega) ar.2.2 (by omega) h.fits) rfl ?_;conv=>whnf
    refine⟨_,p+3,h.get hi hlv (a:=a) (by omega),by omega,by omega,?_,rfl⟩;simp[oM,dI]
   refine CondP.mk (fun c7=>?_) (fun c7=>?_)<;>rw[c7]<;>(conv=>whnf)<;>repeat' first|(refine aE ?_;conv=>whnf)|(refine aD ?_;conv=>whnf)
   case' _=>
    simp only[List.drop_zero,List.take_length];refine aC [.fX,.pass,.pass] rfl rfl rfl (by simpa [oM,dI]using ph m _ a h.wf hi ar.1 (by omega) ar.2.2 (by omega) h.fits) rfl ?_;conv=>whnf
    refine⟨_,p+3,h.get hi hlv (a:=a) (by omega),by omega,by omega,?_,rfl⟩;simp[oM,dI]
   refine CondP.mk (fun c8=>?_) (fun c8=>?_)<;>conv=>whnf
   case' _=>
    simp only[List.drop_zero,List.take_length];refine aC [.fX,.pass,.pass] rfl rfl rfl (by simpa [oM,dI]using ph m _ a h.wf hi ar.1 (by omega) ar.2.2 (by omega) h.fits) rfl ?_;conv=>whnf
    refine⟨_,p+3,h.get hi hlv (a:=a) (by omega),by omega,by omega,?_,rfl⟩;simp[oM,dI]
   refine aq r rfl rfl rfl (by omega) (by omega) fun b b1 b2=>?_
   conv=>whnf
   simp only[List.drop_zero,List.take_length];refine aC [.fX,.pass,.pass,.pass] rfl rfl rfl (by simpa [oM,dI]using qF m _ a b h.wf hi ar.1 (by omega) ar.2.2 (by omega) h.fits) rfl ?_;conv=>whnf
   refine⟨_,p+4,h.mA hi hlv (a:=a) (b:=b) (by omega),by omega,by omega,?_,rfl⟩;simp[oM,dI]
end Go.Qm
namespace Go.Qm
open Go.Cq Go.Cq.D Go.RowKit Go.Proofs
set_option maxRecDepth 10000
def L0(m:Mem):Prop:=∃hi:0<m.sp.length,m.sp[0].lv=true
theorem L0.same{a b:Mem}(h:L0 a)(s:cJ a.sp b.sp):L0 b:=by
 obtain⟨hi,hl⟩:=h;have hi':0<b.sp.length:=by rw[s.1];exact hi
 exact⟨hi',(s.2 0 hi hi').1.trans hl⟩
theorem L0.map{m:Mem}(h:L0 m){c:Option (List Area)}{i:Nat}:L0 (mapM c m i).1:=by
 obtain⟨hi,hl⟩:=h;cases c with
 |none=>exact⟨hi,hl⟩
 |some l=>refine⟨by simpa [mapM,c9]using hi,?_⟩;simp only[mapM,c9,List.getElem_modify];split<;>exact hl
theorem yU{m:Mem}(h:Inv m){i a:Nat}{b:Int}(hi:i<m.sp.length)(hlv:m.sp[i].lv=true)(ha:a≤63):cJ m.sp (cE m i a b).1.sp:=by
 have h16:=((h.ss _ (List.getElem_mem hi)).lv hlv).2;unfold cE;split
 ·exact cJ.refl
 ·split
  ·exact cJ.refl
  ·split
   ·exact cJ.refl
   ·rename_i m2 hm;rw[Option.bind_eq_some_iff]at hm;obtain⟨m1,h1,h2⟩:=hm;obtain⟨hi1,hj1,hk⟩:=fy h.wf hi (by omega) h1;have s1:=dt h.wf h1;have s2:=((h.wf.jk hi (by omega) h1).own hi1 hj1 (by rw[bV hi1 hj1];exact hk) h2).2.1;exact s1.trans s2
theorem aDS{l:List Int}{f:Nat}{v:Int}:(l.map rI).modify f (·.set 0 (.sc (.int .i64 v)))=(l.set f v).map rI:=by
 refine List.ext_getElem? fun j=>?_
 rw[List.getElem?_modify,List.getElem?_map,List.getElem?_map,List.getElem?_set];by_cases e:f=j
 ·subst e;by_cases h:f<l.length
  ·simp[h,rI,eI]
  ·simp[h]
 ·simp[e]
theorem aCQ{P:Prg}{ts:DTs}{H:DH}{n:Nat}{K:DT→DTs→DH→Nat→List Nat→Prop}{x:Opd}{g i0 ln sz:Nat}{es:List (List PV)}{ov:List (Nat×Nat×DC)}(hx:cC ts x=some (.sl g i0 ln))(hg:aG H g=some (.arr sz es ov))(h1:1≤ln)(h:K (.v (.one (.sl g (i0+1) (ln-1)))) ts H n []):OpP P (.fl (.sliceL x (some (.k (.int .i64 1))) none sz)) ts H n K:=by
 refine fp (r:=.one (.sl g (i0+1) (ln-1))) ?_ h;have e:cR ts (some (.k (.int .i64 1))) 0 ln=some 1:=by show(if 0≤(1:Int)∧(1:Int)≤ln then some (1:Int).toNat else none)=some 1;rw[if_pos (by omega)];rfl
 simp only[cR]at e;simp only[dfl,hx,hg,if_true,cR,e,if_pos h1]
set_option maxHeartbeats 8000000 in
theorem aD0(c:CV)(bs:List UInt8)(p:Nat)(r:RdOk c bs)(hp:p≤900000):eh Try.prog (jR c (bs.map dE)) 74 [.one (.ptr 0 0 0)] [(0,rB c p)] 1
  fun x H'=>∃(m':Mem)(q:Nat),m'.fits 1048576∧m'.sp.length≤5∧p≤q∧q≤p+1000∧x= .v (oM m')∧H'=[(0,rB c q)]:=by
 refine dj hmix Try.func74 ok74 (fun g p h=>by simp[jR]at h) ?_;rcases r.c with⟨-,z,rfl⟩| ⟨id,base,lim,rfl⟩<;>conv=>whnf
 all_goals
  refine aC [] rfl rfl rfl x6 rfl ?_;conv=>whnf
  refine aC [.lend] rfl rfl rfl (oz true true true true true kK wu.fits) rfl ?_;rw[show f8 kK=(et kK,0,true)from by decide];conv=>whnf
  refine aq r rfl rfl rfl (by omega) (by omega) fun v v1 v2=>?_
  conv=>whnf
  have i0:Inv (et kK):=wu.make (by decide);have l0:L0 (et kK):=⟨by decide,by decide⟩;refine CondP.mk (fun c0=>?_) (fun c0=>?_)<;>conv=>whnf
  case' _=>
   refine aq r rfl rfl rfl (by omega) (by omega) fun n n1 n2=>?_
   conv=>whnf
   refine aq r rfl rfl rfl (by omega) (by omega) fun s s1 s2=>?_
   conv=>whnf
   obtain⟨hi,hlv⟩:=l0;have ar:=i0.ar hi hlv;simp only[List.drop_zero,List.take_length];refine aC [.fX,.pass,.pass] rfl rfl rfl (by simpa [oM,dI,aA,dB]using mQ (et kK) 0 ⟨0,IntKind.wrap .i64 (8+n),true,decide (s=0)⟩ hi (by omega)) rfl ?_;conv=>whnf
   have i1:=i0.map hi hlv ⟨0,IntKind.wrap .i64 (8+n),true,decide (s=0)⟩;have l1:L0 (mapM (mD (gb (et kK) 0) ⟨0,IntKind.wrap .i64 (8+n),true,decide (s=0)⟩) (et kK) 0).1:=L0.map ⟨hi,hlv⟩;generalize (mapM (mD (gb (et kK) 0) ⟨0,IntKind.wrap .i64 (8+n),true,decide (s=0)⟩) (et kK) 0).1=w0 at i1 l1 ⊢;simp only[List.drop_zero,List.take_length];refine aq r rfl rfl rfl (by omega) (by omega) fun pg g1 g2=>?_
   obtain⟨pg,rfl⟩:=Int.eq_ofNat_of_zero_le g1;conv=>whnf
   refine ao (fun s:Mem×Nat=>[(0,.v (.one (.ptr 0 0 0))),(2,.v (.one (.ptr 1 0 0))),(3,.v (.one (.ptr 12 0 0))),(6,.v (.one (dI s.2)))]) (fun s=>[(12,bO s.1),(1,bO fw),(0,rB _ (p+4))]) (fun _=>13)
    (fun s=>Inv s.1∧L0 s.1∧s.2≤15) (fun s=>s.2) (w0,pg) ⟨i1,l1,by omega⟩ rfl rfl rfl fun s hs=>?_
   obtain⟨w,t⟩:=s;obtain⟨iw,lw,ht⟩:=hs;simp only at iw lw ht;conv=>whnf
   refine CondP.mk (fun c1=>?_) (fun c1=>?_)<;>conv=>whnf
   case' _=>
    have c1:0<t:=by simp at c1;omega
    obtain⟨hi,hlv⟩:=lw;have ar:=iw.ar hi hlv;rw[show IntKind.wrap .i64 (IntKind.wrap .i64 (((w,t).2:Int)*4)-1)=((t*4-1:Nat):Int) by rw[wrap64 (x:=((w,t).2:Int)*4) (by simp only;omega) (by simp only;omega),wrap64 (by simp only;omega) (by simp only;omega)];simp only;omega];refine aC [.fX,.pass,.pass,.pass] rfl rfl rfl (by simpa [oM,dI]using qF w 0 (t*4-1) (IntKind.wrap .i64 (1+t)) iw.wf hi ar.1 (by omega) ar.2.2 (by omega) iw.fits) rfl ?_;conv=>whnf
    have i2:=iw.mA (b:=IntKind.wrap .i64 (1+t)) hi hlv (a:=t*4-1) (by omega);have l2:L0 (cE w 0 (t*4-1) (IntKind.wrap .i64 (1+t))).1:=L0.same ⟨hi,hlv⟩ (yU iw hi hlv (by omega));refine⟨(_,t-1),by simp only;omega,⟨i2,l2,by simp only;omega⟩,?_,?_,rfl⟩
    ·rw[wrap64 (by simp only;omega) (by simp only;omega)];simp only[dI];rw[show((t:Int)-1)=((t-1:Nat):Int) by omega]
    ·simp[bO,dI,rB]
  case' _=>have i0:=iw;have l0:=lw;simp only
  rotate_left
  case' _=>generalize et kK=w at i0 l0 ⊢;simp only[List.drop_zero,List.take_length]
  all_goals
   refine aq r rfl rfl rfl (by omega) (by omega) fun k k1 k2=>?_
   obtain⟨k,rfl⟩:=Int.eq_ofNat_of_zero_le k1;conv=>whnf
   refine ao (fun s:Mem×Nat×Nat=>[(0,.v (.one (.ptr 0 0 0))),(2,.v (.one (.ptr 1 0 0))),(3,.v (.one (.ptr 12 0 0))),(7,.v (.one (dI s.2.1)))]) (fun s=>[(12,bO s.1),(1,bO fw),(0,rB _ s.2.2)]) (fun _=>13)
    (fun s=>Inv s.1∧s.2.1≤29∧p≤s.2.2∧s.2.2+8*s.2.1≤p+300) (fun s=>s.2.1) (w,k,_) ⟨i0,by simp only;omega,by simp only;omega,by simp only;omega⟩ rfl rfl rfl fun s hs=>?_
   obtain⟨u,t,q⟩:=s;obtain⟨iu,ht,q1,q2⟩:=hs;simp only at iu ht q1 q2;conv=>whnf
   refine CondP.mk (fun c1=>?_) (fun c1=>?_)<;>conv=>whnf
   case' _=>
    have c1:0<t:=by simp at c1;omega
    refine gq [] [.pass,.fX] [0] (jR _ (bs.map dE)) rfl rfl rfl rfl rfl (by simpa [oM,dI,rB]using aBx _ bs q u r (by omega) iu) (fun t p h=>by simp[jR]at h) (hv:=.inr (by simp[jR])) ?_;rintro res H3 ⟨u',j1,q',j2,j3,rfl,rfl⟩;refine⟨rfl,_,rfl,?_⟩;conv=>whnf
    refine⟨(u',t-1,q'),by simp only;omega,⟨j1,by simp only;omega,by simp only;omega,by simp only;omega⟩,?_,?_,rfl⟩
    ·rw[wrap64 (by simp only;omega) (by simp only;omega)];simp only[dI];rw[show((t:Int)-1)=((t-1:Nat):Int) by omega]
    ·simp[bO,dI,rB]
   have fu:=iu.fits;have u5:=iu.sp;simp only;refine aq r rfl rfl rfl (by first|omega| (simp only;omega)) (by omega) fun y y1 y2=>?_
   conv=>whnf
   refine CondP.mk (fun d0=>?_) (fun d0=>?_)<;>conv=>whnf
   case' _=>
    refine bY (db:=.arr 1 [rI (-1),rI 12,rI 3] []) rfl rfl rfl ?_;conv=>whnf
    refine aq r rfl rfl rfl (by first|omega| (simp only;omega)) (by omega) fun e e1 e2=>?_
    conv=>whnf
    have he:e=0∨e=1∨e=2:=by omega
    rcases he with rfl|rfl|rfl
    ·conv=>whnf
     refine aB (k:=0) rfl rfl rfl (by decide) ?_;conv=>whnf
     refine bR rfl rfl rfl rfl rfl ?_;conv=>whnf
     exact⟨{u with hd:= -1},q+2,⟨fu.rt,fu.rr,fu.st,fu.sr,fu.sp,fu.ss⟩,by first|omega| (simp only;omega),by omega,by omega,by simp[oM,dI],rfl⟩
    ·conv=>whnf
     refine aB (k:=1) rfl rfl rfl (by decide) ?_;conv=>whnf
     refine bR rfl rfl rfl rfl rfl ?_;conv=>whnf
     exact⟨{u with hd:=12},q+2,⟨fu.rt,fu.rr,fu.st,fu.sr,fu.sp,fu.ss⟩,by first|omega| (simp only;omega),by omega,by omega,by simp[oM,dI],rfl⟩
    ·conv=>whnf
     refine aB (k:=2) rfl rfl rfl (by decide) ?_;conv=>whnf
     refine bR rfl rfl rfl rfl rfl ?_;conv=>whnf
     exact⟨{u with hd:=3},q+2,⟨fu.rt,fu.rr,fu.st,fu.sr,fu.sp,fu.ss⟩,by first|omega| (simp only;omega),by omega,by omega,by simp[oM,dI],rfl⟩
   refine CondP.mk (fun d1=>?_) (fun d1=>?_)<;>conv=>whnf
   case' _=>
    refine aq r rfl rfl rfl (by first|omega| (simp only;omega)) (by omega) fun f f1 f2=>?_
    obtain⟨f,rfl⟩:=Int.eq_ofNat_of_zero_le f1;conv=>whnf
    refine aq r rfl rfl rfl (by first|omega| (simp only;omega)) (by omega) fun v v1 v2=>?_
    conv=>whnf
    refine aB (k:=f) rfl rfl rfl (by simp[iu.ram.rf];omega) ?_;conv=>whnf
    refine aI rfl rfl rfl (by simp[iu.ram.rf];omega) (by decide) ?_;conv=>whnf
    exact⟨{u with ram:=⟨u.ram.tx,u.ram.rf.set f v⟩},q+3,⟨fu.rt,by simpa using fu.rr,fu.st,fu.sr,fu.sp,fu.ss⟩,by first|omega| (simp only;omega),by omega,by omega,by simp[oM,dI,aDS,List.take_of_length_le],rfl⟩
   refine CondP.mk (fun d2=>?_) (fun d2=>?_)<;>conv=>whnf
   case' _=>
    have hi:0<u.sp.length:=by omega
    have hg:=ai (f:=rP) (List.getElem?_eq_getElem hi);refine aB (k:=0) rfl rfl rfl (by simpa using hi) ?_;conv=>whnf
    refine bR rfl rfl rfl (aT hg rfl rfl rfl) rfl ?_;conv=>whnf
    refine CondP.mk (fun hlv=>?_) (fun hlv=>?_)<;>conv=>whnf
    case' _=>
     have h16:=(iu.ar hi hlv).2.2;refine aB (k:=0) rfl rfl rfl (by simpa using hi) ?_;conv=>whnf
     refine cK (i:=0) (k:=2) (sz':=4) (es':=u.sp[0].sl.map rL) u.sp[0].sl.length rfl rfl rfl (aT (by rw[List.drop_zero,List.take_length];exact hg) rfl rfl rfl) rfl (by simp) ?_;conv=>whnf
     simp only[List.drop_zero,List.take_length];refine aq r rfl rfl rfl (by first|omega| (simp only;omega)) (by omega) fun s s1 s2=>?_
     obtain⟨s,rfl⟩:=Int.eq_ofNat_of_zero_le s1;conv=>whnf
     refine aq r rfl rfl rfl (by first|omega| (simp only;omega)) (by omega) fun kd k1 k2=>?_
     conv=>whnf
     refine aq r rfl rfl rfl (by first|omega| (simp only;omega)) (by omega) fun pl p1 p2=>?_
     conv=>whnf
     refine aq r rfl rfl rfl (by first|omega| (simp only;omega)) (by omega) fun ow o1 o2=>?_
     conv=>whnf
     refine aq r rfl rfl rfl (by first|omega| (simp only;omega)) (by omega) fun us u1 u2=>?_
     conv=>whnf
     refine aB (k:=s) rfl rfl rfl (by rw[h16];omega) ?_;conv=>whnf
     refine cG (row':=rL ⟨kd,IntKind.wrap .i64 (pl-1),decide (ow=0),decide (us=0)⟩) rfl rfl rfl (by simp[h16];omega) (eH (fun _=>rfl)) (cu _) rfl rfl rfl ?_;conv=>whnf
     refine aR (i:=0) (k:=2) (g':=14) (lo:=0) (len:=u.sp[0].sl.length) (es2:=(aF u.sp 0 s ⟨kd,IntKind.wrap .i64 (pl-1),decide (ow=0),decide (us=0)⟩).map rP) (ov2:=[]) rfl (ah hg (by simp[rP]) (by simp only[ab,if_true];rfl)) rfl rfl (by rw[List.drop_zero,List.take_of_length_le (by simp)];exact bf hi) (by simp only[ag,if_true];rfl) ?_;conv=>whnf
     refine⟨{u with sp:=aF u.sp 0 s ⟨kd,IntKind.wrap .i64 (pl-1),decide (ow=0),decide (us=0)⟩},q+6,⟨fu.rt,fu.rr,fu.st,fu.sr,by simp[aF,u5],fun s' hs'=>?_⟩,by simp[aF,u5],by omega,by omega,by simp[oM,dI,aF,List.take_of_length_le],rfl⟩;simp only[aF]at hs';obtain⟨k,hk,rfl⟩:=List.getElem_of_mem hs';rw[List.length_modify]at hk;have:=fu.ss _ (List.getElem_mem hk);rw[List.getElem_modify];split
     ·simpa using this
     ·exact this
    exact⟨u,q+1,fu,by first|omega| (simp only;omega),by omega,by omega,by simp[oM,dI],rfl⟩
   refine CondP.mk (fun d3=>?_) (fun d3=>?_)<;>conv=>whnf
   case' _=>
    refine aCQ rfl rfl (by simp[u5]) ?_;conv=>whnf
    exact⟨{u with sp:=u.sp.drop 1},q+1,⟨fu.rt,fu.rr,fu.st,fu.sr,by simp[u5],fun s hs=>fu.ss s (List.mem_of_mem_drop hs)⟩,by simp[u5],by omega,by omega,by simp[oM,dI,u5,List.take_of_length_le],rfl⟩
   refine CondP.mk (fun d4=>?_) (fun d4=>?_)<;>conv=>whnf
   case' _=>
    have hi:1<u.sp.length:=by omega
    have hg:=ai (f:=rP) (List.getElem?_eq_getElem hi);refine aB (k:=1) rfl rfl rfl (by simpa using hi) ?_;conv=>whnf
    refine cK (i:=1) (k:=1) (sz':=4) (es':=u.sp[1].ar.map rA) u.sp[1].ar.length rfl rfl rfl (aT hg rfl rfl rfl) rfl (by simp) ?_;conv=>whnf
    refine gq [] [.pass] [0] (jR _ (bs.map dE)) rfl rfl rfl rfl rfl (aBr _ bs (q+1) r (by omega)) (fun t p h=>by simp[jR]at h) (hv:=.inr (by simp[jR])) ?_;rintro res H3 ⟨a,q',a1,a2,a3,a4,a5,a6,rfl,rfl⟩;refine⟨rfl,_,rfl,?_⟩;conv=>whnf
    refine bY (db:=.arr 4 [rA a] []) rfl rfl rfl ?_;conv=>whnf
    have hal:u.sp[1].ar.length≤6:=by
     have i1:=iu.ss _ (List.getElem_mem hi);cases e:u.sp[1].lv with
     |true=>exact lW (i1.lv e).1
     |false=>rw[(i1.dd e).1];simp
    refine dW [] [] 1 (sz:=4) rfl rfl rfl rfl rfl rfl rfl rfl (by omega) (by omega) ?_;conv=>whnf
    refine aB (k:=1) rfl rfl rfl (by simpa using hi) ?_;conv=>whnf
    refine ea rfl rfl rfl rfl rfl (by simp[wrN,wr1,DV.cells,hi];rfl) ?_;conv=>whnf
    refine aR (i:=1) (k:=1) (g':=16) (lo:=0) (len:=u.sp[1].ar.length+1) (es2:=(c9 u 1 (u.sp[1].ar++[a])).sp.map rP) (ov2:=[]) rfl (ah hg (by simp[rP]) (by simp only[ab,if_true];rfl)) rfl rfl (by
     have e:List.take (u.sp[1].ar.length+1) (List.drop 0 (List.take u.sp[1].ar.length (List.drop 0 (u.sp[1].ar.map rA))++List.take 1 (List.drop 0 [rA a])))=(u.sp[1].ar++[a]).map rA:=by simp[List.take_of_length_le]
     rw[e];exact lY hi) (by simp only[ag,if_true];rfl) ?_
    conv=>whnf
    refine⟨c9 u 1 (u.sp[1].ar++[a]),q',⟨fu.rt,fu.rr,fu.st,fu.sr,by simp[c9,u5],fun s' hs'=>?_⟩,by simp[c9,u5],by omega,by omega,by simp[oM,dI,c9,List.take_of_length_le],rfl⟩;simp only[c9]at hs';obtain⟨k,hk,rfl⟩:=List.getElem_of_mem hs';rw[List.length_modify]at hk;have:=fu.ss _ (List.getElem_mem hk);rw[List.getElem_modify];split
    ·exact⟨by simp;omega,this.2⟩
    ·exact this
   exact⟨u,q+1,fu,by first|omega| (simp only;omega),by omega,by omega,by simp[oM,dI],rfl⟩
end Go.Qm
namespace Go.Qm
open Go.Cq Go.Cq.D Go.RowKit Go.Proofs
set_option maxRecDepth 10000
theorem aBN{bs:List UInt8}{c:CV}(h:uE (bs.map dE) c):RdOk (nZ c) (bs.take 2000):=by
 have hl:(bs.take 2000).length≤2000:=by rw[List.length_take];omega
 refine⟨?_,hl⟩;rcases h with⟨he,z,rfl⟩| ⟨id,base,lim,rfl⟩
 ·have he:bs=[]:=by simpa using he
  subst he;exact .inl ⟨rfl,z,rfl⟩
 ·simp only[nZ,List.length_map];split
  ·exact .inr ⟨id,base+0,lim.map (· -0),by rw[List.length_map,List.length_take,Nat.min_eq_left (by omega)]⟩
  ·rw[List.take_of_length_le (by omega)];exact .inr ⟨id,base,lim,by rw[List.length_map]⟩
end Go.Qm
namespace Go.Qm
open Go.Cq Go.Cq.D Go.RowKit Go.Proofs
set_option maxRecDepth 10000
set_option maxHeartbeats 8000000 in
theorem vh(b:Bool)(bs:List UInt8)(hl:bs.length≤1048576):d6 Try.prog 37 [.one (.ro b 1 (bs.map dE))] [] 0 fun x H'=>∃(m:Mem)(w a v:Int),m.fits 1048576∧m.sp.length≤5∧x= .tup [oM m,.one (dI w),.one (dI a),.one (dI v)]∧H'=[]:=by
 refine aB9 fun c hc=>?_
 have r:=aBN hc;have ho:=xi c (bs.map dE) hc (by rw[List.length_map];omega);rw[←List.map_take]at ho ⊢;generalize nZ c=c' at r ho ⊢;generalize bs.take 2000=bs' at r ho ⊢;refine dj hmix Try.func37 ok37 (fun g p h=>by simp at h) ?_;rcases hc with⟨-,z,rfl⟩| ⟨id,base,lim,rfl⟩<;>rcases r.c with⟨-,z',rfl⟩| ⟨id',base',lim',rfl⟩<;>conv=>whnf
 all_goals
  refine aAf [.pass] (jR _ (bs'.map dE)) [_,.int .i64 0] rfl rfl rfl rfl ho ?_;conv=>whnf
  refine gq [] [.pass] [1] (jR _ (bs'.map dE)) rfl rfl rfl rfl rfl (aD0 _ bs' 0 r (by omega)) (fun t p h=>by simp[jR]at h) (hv:=.inr rfl) ?_;rintro res H3 ⟨m,q,j1,j5,j2,j3,rfl,rfl⟩;refine⟨rfl,_,rfl,?_⟩;conv=>whnf
  simp only[List.drop_zero,List.take_length];refine gq [] [.pass,.lend] [1] (jR _ (bs'.map dE)) (cas:=[.one (.ptr 0 0 0),aM true true true true true m]) rfl rfl aDQ rfl rfl (aDd _ bs' q true true true true true m r (by omega) j5) (fun t p h=>by simp[jR]at h) (hv:=.inr rfl) ?_;rintro res H3 ⟨w,q2,w1,w2,w3,w4,rfl,rfl⟩;refine⟨rfl,_,rfl,?_⟩;conv=>whnf
  refine gq [] [.pass] [1] (jR _ (bs'.map dE)) rfl rfl rfl rfl rfl (aC0 _ bs' q2 r (by omega)) (fun t p h=>by simp[jR]at h) (hv:=.inr rfl) ?_;rintro res H3 ⟨a,q3,a1,a2,a3,a4,rfl,rfl⟩;refine⟨rfl,_,rfl,?_⟩;conv=>whnf
  refine aq r rfl rfl rfl (by omega) (by omega) fun v v1 v2=>?_
  conv=>whnf
  refine aq r rfl rfl rfl (by omega) (by omega) fun k k1 k2=>?_
  obtain⟨k,rfl⟩:=Int.eq_ofNat_of_zero_le k1;conv=>whnf
  refine bY (db:=.arr 1 (([0,255,v,256, -1]:List Int).map rI) []) rfl rfl rfl ?_;obtain⟨L,hL,h5⟩:∃L:List Int,[0,255,v,256, -1]=L∧L.length=5:=⟨_,rfl,rfl⟩;rw[hL];conv=>whnf
  refine aB (k:=k) rfl rfl rfl (by omega) ?_;conv=>whnf
  refine bR rfl rfl rfl (aT (row:=rI (L[k]'(by omega))) (by simp[show k<L.length by omega]) rfl rfl rfl) rfl ?_;conv=>whnf
  exact⟨m,w,a,L[k]'(by omega),j1,j5,by simp[oM,dI],rfl⟩
end Go.Qm
namespace Go.Qm
open Go.Cq Go.Cq.D Go.RowKit Go.Proofs
set_option maxRecDepth 10000
def tk(D:Nat×Nat)(j:Nat):List PV:=[.sc (.ptr D.1 ((D.2+j)*4+0))]
def mj(D:Nat×Nat)(kd pl:Int):Nat→List Slot→List (List PV)
 |_,[]=>[]
 |j,x::l=>(if x.kd=kd∧x.pl=pl then [tk D j]else [])++mj D kd pl (j+1) l
theorem uZ{D:Nat×Nat}{kd pl:Int}:∀{l:List Slot}{j:Nat},(mj D kd pl j l).length≤l.length:=by
 intro l;induction l with
 |nil=>intro j;exact Nat.le_refl 0
 |cons x l ih=>intro j;have:=ih (j:=j+1);simp only[mj,List.length_append,List.length_cons];split<;>simp<;>omega
theorem zX{D:Nat×Nat}{kd pl:Int}{x:Slot}:∀{l:List Slot}{j:Nat},mj D kd pl j (l++[x])=mj D kd pl j l++(if x.kd=kd∧x.pl=pl then [tk D (j+l.length)]else []):=by
 intro l;induction l with
 |nil=>intro j;simp[mj]
 |cons y l ih=>intro j;simp only[List.cons_append,mj,ih,List.append_assoc,List.length_cons,show j+1+l.length=j+(l.length+1) by omega]
theorem yr{D:Nat×Nat}{kd pl:Int}{l:List Slot}{k:Nat}(h:k<l.length):mj D kd pl 0 (l.take (k+1))=mj D kd pl 0 (l.take k)++(if l[k].kd=kd∧l[k].pl=pl then [tk D k]else []):=by rw[List.take_succ_eq_append_getElem h,zX,List.length_take,Nat.min_eq_left (by omega),Nat.zero_add]
def J1(D:Nat×Nat):Nm:=fun t=>if t=0 then some (D.1,D.2,4)else none
theorem aEE{D:Nat×Nat}{n:Nat}(hn:0<n):∀g p,J1 D g=some p→g<n:=by
 intro g p h;unfold J1 at h;split at h
 ·omega
 ·simp at h
theorem bh{f:Nat→Option Nat}{H3 H:DH}{g t:Nat}{l:List Nat}{cs cs0:List DC}{db':DB}(h1:aG H3 t=some (.box cs))(h2:aG H g=some (.box cs0))(h3:cs.length=cs0.length)(h4:eu f (.box cs)=some db'):bD f H3 (g::l) t H=bD f H3 l (t+1) (cj g db' H):=vA h1 h2 h3 h4
set_option maxHeartbeats 1000000 in
theorem jA(l:List Slot)(D:Nat×Nat)(kd pl:Int)(acc:List (List PV))(who:Int)(j:Nat)(hj:j<l.length)(ha:acc.length≤1000):eh Try.prog (J1 D) 173 [.one (dI who),.one (dI j),.one (.sc (.ptr D.1 ((D.2+j)*4+0))),.one (.ptr 1 0 0),.one (.ptr 2 0 0),.one (.ptr 3 0 0)] [(0,.arr 4 (l.map rL) []),(1,.box [dI kd]),(2,.box [dI pl]),(3,.box [.own 1 acc])] 4
  fun x H'=>x= .tup []∧H'=[(0,.arr 4 (l.map rL) []),(1,.box [dI kd]),(2,.box [dI pl]),(3,.box [.own 1 (acc++if l[j].kd=kd∧l[j].pl=pl then [tk D j]else [])])]:=by
 refine dj hmix Try.func173 ok173 (aEE (by decide)) ?_;conv=>whnf
 refine gD (g:=0) (i:=j) rfl rfl rfl rfl ?_;conv=>whnf
 refine bR rfl rfl rfl (aT (row:=rL l[j]) (by simp[hj]) rfl rfl rfl) rfl ?_;conv=>whnf
 refine CondP.mk (fun c1=>?_) (fun c1=>?_)<;>rw[c1]<;>(conv=>whnf)<;>repeat' first|(refine aE ?_;conv=>whnf)|(refine aD ?_;conv=>whnf)
 ·have c1:l[j].kd=kd:=by simpa using c1
  refine gD (g:=0) (i:=j) rfl rfl rfl rfl ?_
  (conv=>whnf)<;>repeat' first|(refine aE ?_;conv=>whnf)|(refine aD ?_;conv=>whnf)
  refine bR rfl rfl rfl (aT (row:=rL l[j]) (by simp[hj]) rfl rfl rfl) rfl ?_
  (conv=>whnf)<;>repeat' first|(refine aE ?_;conv=>whnf)|(refine aD ?_;conv=>whnf)
  refine CondP.mk (fun c2=>?_) (fun c2=>?_)<;>conv=>whnf
  ·have c2:l[j].pl=pl:=by simpa using c2
   refine bY rfl rfl rfl ?_;conv=>whnf
   refine dW [] [] 1 (sz:=1) rfl rfl rfl rfl rfl rfl rfl rfl (by omega) (by omega) ?_;conv=>whnf
   refine⟨rfl,?_⟩;rw[if_pos ⟨c1,c2⟩];simp[tk,dI,List.replicate,List.take_of_length_le]
  ·have c2:¬l[j].pl=pl:=by simpa using c2
   refine⟨rfl,?_⟩;rw[if_neg fun c=>c2 c.2];simp[dI]
 ·have c1:¬l[j].kd=kd:=by simpa using c1
  refine⟨rfl,?_⟩;rw[if_neg fun c=>c1 c.1];simp[dI]
end Go.Qm
namespace Go.Qm
open Go.Cq Go.Cq.D Go.RowKit Go.Proofs
set_option maxRecDepth 10000
def ovS(S:Nat→List Slot):List (Nat×Nat×DC):=[(0,2,.sl 2 0 (S 0).length),(1,2,.sl 3 0 (S 1).length),(2,2,.sl 4 0 (S 2).length),(3,2,.sl 5 0 (S 3).length),(4,2,.sl 6 0 (S 4).length)]
def bxO(T:Pages)(W:Pages)(hd:Int):DB:=.box [.own 1 (T.tx.map rS),.own 1 (T.rf.map rI),.own 1 (W.tx.map rS),.own 1 (W.rf.map rI),.sl 1 0 5,dI hd]
def oH(E:List (List PV))(T W:Pages)(hd:Int)(S:Nat→List Slot):DH:=[(0,bxO T W hd),(1,.arr 3 E (ovS S)),(2,.arr 4 ((S 0).map rL) []),(3,.arr 4 ((S 1).map rL) []),(4,.arr 4 ((S 2).map rL) []),(5,.arr 4 ((S 3).map rL) []),(6,.arr 4 ((S 4).map rL) [])]
def pF(Js:Nat→Nat×Nat)(S:Nat→List Slot)(kd pl:Int)(A:List (List PV)):Nat→List (List PV)
 |0=>A
 |i+1=>pF Js S kd pl A i++mj (Js i) kd pl 0 (S i)
structure NJ(J:Nm)(Js:Nat→Nat×Nat)(S:Nat→List Slot):Prop where
 lt:∀g p,J g=some p→g<7
 at5:∀i,i<5→S i≠[]→J (2+i)=some ((Js i).1,(Js i).2,4)
theorem pC{Js:Nat→Nat×Nat}{S:Nat→List Slot}{kd pl:Int}(hS:∀i,(S i).length≤16):∀{i:Nat},(pF Js S kd pl [] i).length≤16*i:=by
 intro i;induction i with
 |zero=>exact Nat.le_refl 0
 |succ i ih=>have h1:=hS i;have h2:=uZ (D:=Js i) (kd:=kd) (pl:=pl) (l:=S i) (j:=0);simp only[pF,List.length_append];omega
theorem tM{D:Nat×Nat}{P:Prg}{ρ:List Nat}{g:Nat}(h0:ρ[0]?=some g)(h:P.J g=some (D.1,D.2,4)):∀t p,J1 D t=some p→∃g,ρ[t]?=some g∧P.J g=some p:=by
 intro t p ht;unfold J1 at ht;split at ht
 ·rename_i e;subst e;cases ht;exact⟨g,h0,h⟩
 ·simp at ht
set_option maxHeartbeats 4000000 in
theorem aBk (E : List (List PV)) (T W : Pages) (hd : Int) (S : Nat → List Slot) (Js : Nat → Nat × Nat) (kd pl : Int) (hE : E.length = 5) (hr : ∀ row, row ∈ E → row.length = 3) (hS : ∀ i, (S i).length ≤ 16) (hk : kd ≠ 0) (J : Nm) (nj : NJ J Js S) :
  eh Try.prog J 172 [.one (.ptr 0 0 0), .one (.fn 173 [(7, 0, 0), (8, 0, 0), (9, 0, 0)])] (oH E T W hd S ++ [(7, .box [dI kd]), (8, .box [dI pl]), (9, .box [.own 1 []])]) 10
  fun x H' => x = .tup [] ∧ H' = oH E T W hd S ++ [(7, .box [dI kd]), (8, .box [dI pl]), (9, .box [.own 1 (pF Js S kd pl [] 5)])] := by
 refine dj hmix Try.func172 ok172 (fun g p h => by have := nj.lt g p h; omega) ?_; have hi3 : ∀ i, i < 5 → ∃ row, E[i]? = some row ∧ 2 < row.length := fun i hi => ⟨E[i]'(by omega), List.getElem?_eq_getElem (by omega), by rw [hr _ (List.getElem_mem _)]; omega⟩
 conv => whnf
 refine ao (fun i : Nat => [(0, .v (.one (.ptr 0 0 0))), (1, .v (.one (.fn 173 [(7, 0, 0), (8, 0, 0), (9, 0, 0)]))), (11, .v (.one (dI 5))), (12, .v (.one (dI i)))]) (fun i => oH E T W hd S ++ [(7, .box [dI kd]), (8, .box [dI pl]), (9, .box [.own 1 (pF Js S kd pl [] i)])]) (fun _ => 10)
  (fun i => i ≤ 5) (fun i => 5 - i) 0 (by omega) rfl rfl rfl fun i hi => ?_
 conv => whnf
 refine CondP.mk (fun h => ?_) (fun h => ?_) <;> conv => whnf
 ·have hi5 : i < 5 := by
              have : (i : Int) < 5 := by simpa using h
              omega
  have ha := pC (Js := Js) (kd := kd) (pl := pl) hS (i := i); have hs := hS i; obtain ⟨I, hI⟩ : ∃ I : Int, (i : Int) = I := ⟨_, rfl⟩; obtain ⟨N, hN⟩ : ∃ N, (S i).length = N := ⟨_, rfl⟩; obtain ⟨D, hD⟩ : ∃ D, Js i = D := ⟨_, rfl⟩; obtain ⟨A1, hA⟩ : ∃ A1, pF Js S kd pl [] i = A1 := ⟨_, rfl⟩; obtain ⟨F, hF⟩ : ∃ F : Nat → List (List PV), ∀ j, F j = A1 ++ mj D kd pl 0 ((S i).take j) := ⟨_, fun _ => rfl⟩; have hF0 : F 0 = A1 := by rw [hF]; simp [mj]
  have hFe : F N = pF Js S kd pl [] (i + 1) := by rw [hF, ← hN, List.take_length, pF, hD, hA]
  have hFs : ∀ j (hj : j < (S i).length), F (j + 1) = F j ++ if (S i)[j].kd = kd ∧ (S i)[j].pl = pl then [tk D j] else [] := fun j hj => by rw [hF, hF, yr hj, List.append_assoc]
  have hFl : ∀ j, (F j).length ≤ 1000 := fun j => by have := uZ (D := D) (kd := kd) (pl := pl) (l := (S i).take j) (j := 0); rw [List.length_take] at this; rw [hF, List.length_append]; rw [hA] at ha; omega
  have hJ : 0 < N → (Prg.mk Try.prog J).J (2 + i) = some (D.1, D.2, 4) := fun h0 => by have := nj.at5 i hi5 (fun e => by rw [e] at hN; simp at hN; omega); rw [hD] at this; exact this
  obtain ⟨row, hrow, hrl⟩ := hi3 i hi5; obtain ⟨i1, hi1⟩ : ∃ i1, i1 = i + 1 := ⟨_, rfl⟩; have next : IntKind.wrap .i64 (I + 1) = (i1 : Int) := by rw [← hI, hi1]; exact wrap64 (by omega) (by omega)
  have hmu : 5 - i1 < 5 - i := by omega
  have hle : i1 ≤ 5 := by omega
  rw [← hi1] at hFe; rw [hI, hA]; have hc : i = 0 ∨ i = 1 ∨ i = 2 ∨ i = 3 ∨ i = 4 := by omega
  clear ha h hD hF hi hA; rcases hc with rfl | rfl | rfl | rfl | rfl
  all_goals
   refine aB rfl rfl (by show some I = _; rw [← hI]) hi5 ?_; conv => whnf
   refine bR rfl rfl rfl (ah hrow hrl rfl) rfl ?_; conv => whnf
   refine ao (fun j : Nat => [(0, .v (.one (.ptr 0 0 0))), (1, .v (.one (.fn 173 [(7, 0, 0), (8, 0, 0), (9, 0, 0)]))), (4, .v (.one (dI I))), (11, .v (.one (dI 5))), (12, .v (.one (dI I))), (23, .v (.one (dI N))), (24, .v (.one (dI j)))]) (fun j => oH E T W hd S ++ [(7, .box [dI kd]), (8, .box [dI pl]), (9, .box [.own 1 (F j)])]) (fun _ => 10)
    (fun j => j ≤ N) (fun j => N - j) 0 (by omega) (by rw [← hN]; rfl) (by rw [hF0]; rfl) rfl fun j hjN => ?_
   conv => whnf
   refine CondP.mk (fun h1 => ?_) (fun h1 => ?_) <;> conv => whnf
   ·have hj : j < N := by
               have : (j : Int) < (N : Int) := by simpa using h1
               omega
    have hJ := hJ (by omega); rw [← hN] at hj; have nextj : IntKind.wrap .i64 ((j : Int) + 1) = ((j + 1 : Nat) : Int) := wrap64 (by omega) (by omega); refine aB rfl rfl (by show some I = _; rw [← hI]) hi5 ?_; conv => whnf
    refine bR rfl rfl rfl (ah hrow hrl rfl) rfl ?_; conv => whnf
    refine aBp (k := j) rfl rfl rfl hj hJ ?_; conv => whnf
    refine gD (i := j) rfl rfl hJ ?_ ?_; rfl; conv => whnf
    refine bR rfl rfl rfl (aT (ai (f := rL) (List.getElem?_eq_getElem hj)) rfl rfl rfl) rfl ?_; conv => whnf
    refine CondP.mk (fun c0 => ?_) (fun c0 => ?_) <;> conv => whnf
    ·first
      | refine gw [.pass, .pass, .pass, .pass, .pass, .pass] [2, 7, 8, 9] (J1 D) rfl rfl rfl rfl rfl rfl (jA _ D kd pl (F j) _ j hj (hFl j)) (tM rfl hJ) rfl ((aO rfl rfl (by rfl)).trans ((bh rfl rfl (by rfl) rfl).trans ((bh rfl rfl (by rfl) rfl).trans ((bh rfl rfl (by rfl) rfl).trans rfl)))) ?_
      | refine gw [.pass, .pass, .pass, .pass, .pass, .pass] [3, 7, 8, 9] (J1 D) rfl rfl rfl rfl rfl rfl (jA _ D kd pl (F j) _ j hj (hFl j)) (tM rfl hJ) rfl ((aO rfl rfl (by rfl)).trans ((bh rfl rfl (by rfl) rfl).trans ((bh rfl rfl (by rfl) rfl).trans ((bh rfl rfl (by rfl) rfl).trans rfl)))) ?_
      | refine gw [.pass, .pass, .pass, .pass, .pass, .pass] [4, 7, 8, 9] (J1 D) rfl rfl rfl rfl rfl rfl (jA _ D kd pl (F j) _ j hj (hFl j)) (tM rfl hJ) rfl ((aO rfl rfl (by rfl)).trans ((bh rfl rfl (by rfl) rfl).trans ((bh rfl rfl (by rfl) rfl).trans ((bh rfl rfl (by rfl) rfl).trans rfl)))) ?_
      | refine gw [.pass, .pass, .pass, .pass, .pass, .pass] [5, 7, 8, 9] (J1 D) rfl rfl rfl rfl rfl rfl (jA _ D kd pl (F j) _ j hj (hFl j)) (tM rfl hJ) rfl ((aO rfl rfl (by rfl)).trans ((bh rfl rfl (by rfl) rfl).trans ((bh rfl rfl (by rfl) rfl).trans ((bh rfl rfl (by rfl) rfl).trans rfl)))) ?_
      | refine gw [.pass, .pass, .pass, .pass, .pass, .pass] [6, 7, 8, 9] (J1 D) rfl rfl rfl rfl rfl rfl (jA _ D kd pl (F j) _ j hj (hFl j)) (tM rfl hJ) rfl ((aO rfl rfl (by rfl)).trans ((bh rfl rfl (by rfl) rfl).trans ((bh rfl rfl (by rfl) rfl).trans ((bh rfl rfl (by rfl) rfl).trans rfl)))) ?_
     conv => whnf
     rw [← hFs j hj]; refine ⟨j + 1, by omega, by omega, ?_, rfl, rfl⟩; rw [nextj]; rfl
    ·have hs1 := hFs j hj; rw [if_neg (fun c => hk (by rw [← c.1]; simpa using c0)), List.append_nil] at hs1; refine ⟨j + 1, by omega, by omega, ?_, by rw [hs1]; rfl, rfl⟩; rw [nextj]; rfl
   ·have : j = N := by
              have : ¬ (j : Int) < (N : Int) := by simpa using h1
              omega
    subst this; refine ⟨i1, hmu, hle, ?_, by rw [hFe]; rfl, rfl⟩; rw [next]; rfl
 ·have : i = 5 := by
            have : ¬ (i : Int) < 5 := by simpa using h
            omega
  subst this; exact ⟨rfl, rfl⟩
end Go.Qm
namespace Go.Qm
open Go.Cq Go.Cq.D Go.RowKit Go.Proofs
set_option maxRecDepth 10000
theorem gu{f:Nat→Option Nat}{H3 H:DH}{g t sz:Nat}{l:List Nat}{es es0:List (List PV)}{ov ov0:List (Nat×Nat×DC)}{db':DB}(h1:aG H3 t=some (.arr sz es ov))(h2:aG H g=some (.arr sz es0 ov0))(h3:es.length=es0.length)(h4:eu f (.arr sz es ov)=some db'):bD f H3 (g::l) t H=bD f H3 l (t+1) (cj g db' H):=vA h1 h2 ⟨rfl,h3⟩ h4
theorem NJ.of{J:Nm}{Js:Nat→Nat×Nat}{S:Nat→List Slot}(nj:NJ J Js S){P:Program}{ρ:List Nat}(h:∀t,t<7→ρ[t]?=some t):∀t p,J t=some p→∃g,ρ[t]?=some g∧(Prg.mk P J).J g=some p:=fun t p ht=>⟨t,h t (nj.lt t p ht),ht⟩
theorem lt7{p:Nat→Prop}(h:p 0∧p 1∧p 2∧p 3∧p 4∧p 5∧p 6):∀t,t<7→p t:=by
 intro t ht;have:t=0∨t=1∨t=2∨t=3∨t=4∨t=5∨t=6:=by omega
 rcases this with rfl|rfl|rfl|rfl|rfl|rfl|rfl
 ·exact h.1
 ·exact h.2.1
 ·exact h.2.2.1
 ·exact h.2.2.2.1
 ·exact h.2.2.2.2.1
 ·exact h.2.2.2.2.2.1
 ·exact h.2.2.2.2.2.2
set_option maxHeartbeats 2000000 in
theorem aCq(E:List (List PV))(T W:Pages)(hd:Int)(S:Nat→List Slot)(Js:Nat→Nat×Nat)(kd pl:Int)(hE:E.length=5)(hr:∀row,row∈E→row.length=3)(hS:∀i,(S i).length≤16)(hk:kd≠0)(J:Nm)(nj:NJ J Js S):
  eh Try.prog J 145 [.one (.ptr 0 0 0),.one (dI kd),.one (dI pl)] (oH E T W hd S) 7
  fun x H'=>x= .v (.one (.own 1 (pF Js S kd pl [] 5)))∧H'=oH E T W hd S:=by
 refine dj hmix Try.func145 ok145 nj.lt ?_;conv=>whnf
 refine bY rfl rfl rfl ?_;conv=>whnf
 refine z5 rfl rfl ?_;conv=>whnf
 refine jI [] [.pass,.pass] [0,1,2,3,4,5,6,7,8,10] J rfl rfl rfl rfl rfl (aBk E T W hd S Js kd pl hE hr hS hk J nj) (nj.of (lt7 ⟨rfl,rfl,rfl,rfl,rfl,rfl,rfl⟩)) rfl
  ((bh rfl rfl (by rfl) rfl).trans ((gu rfl rfl (by rfl) rfl).trans ((aO rfl rfl (by rfl)).trans ((aO rfl rfl (by rfl)).trans ((aO rfl rfl (by rfl)).trans ((aO rfl rfl (by rfl)).trans ((aO rfl rfl (by rfl)).trans ((bh rfl rfl (by rfl) rfl).trans ((bh rfl rfl (by rfl) rfl).trans ((bh rfl rfl (by rfl) rfl).trans rfl)))))))))) ?_
 conv=>whnf
 refine⟨?_,rfl⟩;simp
end Go.Qm
namespace Go.Qm
open Go.Cq Go.Cq.D Go.RowKit Go.Proofs
set_option maxRecDepth 10000
def lM(kd pl:Int):Nat→List Slot→List Nat
 |_,[]=>[]
 |j,x::l=>(if x.kd=kd∧x.pl=pl then [j]else [])++lM kd pl (j+1) l
theorem aBt{D:Nat×Nat}{kd pl:Int}:∀{l:List Slot}{j:Nat},mj D kd pl j l=(lM kd pl j l).map (tk D):=by
 intro l;induction l with
 |nil=>intro j;rfl
 |cons x l ih=>intro j;simp only[mj,lM,List.map_append,ih];split<;>rfl
theorem xe{kd pl:Int}{k:Nat}:∀{l:List Slot}{j:Nat},k∈lM kd pl j l↔j≤k∧∃x,l[k-j]?=some x∧x.kd=kd∧x.pl=pl:=by
 intro l;induction l with
 |nil=>intro j;simp[lM]
 |cons x l ih=>
  intro j;simp only[lM,List.mem_append,ih];constructor
  ·rintro(h| ⟨h1,y,h2,h3⟩)
   ·split at h
    ·rename_i c;simp only[List.mem_singleton]at h;subst h;exact⟨Nat.le_refl _,x,by simp,c⟩
    ·simp at h
   ·refine⟨by omega,y,?_,h3⟩;rw[show k-j=(k-(j+1))+1 by omega,List.getElem?_cons_succ];exact h2
  ·rintro⟨h1,y,h2,h3⟩;by_cases c:k=j
   ·subst c;simp only[Nat.sub_self,List.getElem?_cons_zero,Option.some.injEq]at h2;subst h2;rw[if_pos h3];exact .inl (by simp)
   ·rw[show k-j=(k-(j+1))+1 by omega,List.getElem?_cons_succ]at h2;exact .inr ⟨by omega,y,h2,h3⟩
def jv(S:Nat→List Slot)(kd pl:Int):Nat→List (Nat×Nat)
 |0=>[]
 |i+1=>jv S kd pl i++(lM kd pl 0 (S i)).map fun j=>(i,j)
def tkP(Js:Nat→Nat×Nat)(p:Nat×Nat):List PV:=tk (Js p.1) p.2
theorem oU{Js:Nat→Nat×Nat}{S:Nat→List Slot}{kd pl:Int}:∀{n:Nat},pF Js S kd pl [] n=(jv S kd pl n).map (tkP Js):=by
 intro n;induction n with
 |zero=>rfl
 |succ n ih=>simp only[pF,jv,ih,aBt,List.map_append,List.map_map];rfl
theorem mr{S:Nat→List Slot}{kd pl:Int}{i j:Nat}:∀{n:Nat},(i,j)∈jv S kd pl n↔i<n∧∃x,(S i)[j]?=some x∧x.kd=kd∧x.pl=pl:=by
 intro n;induction n with
 |zero=>simp[jv]
 |succ n ih=>
  simp only[jv,List.mem_append,ih,List.mem_map,Prod.mk.injEq,xe];constructor
  ·rintro(⟨h1,h2⟩| ⟨k,⟨-,h2⟩,h3,h4⟩)
   ·exact⟨by omega,h2⟩
   ·subst h3 h4;exact⟨by omega,h2⟩
  ·rintro⟨h1,h2⟩;by_cases c:i=n
   ·subst c;exact .inr ⟨j,⟨Nat.zero_le _,h2⟩,rfl,rfl⟩
   ·exact .inl ⟨by omega,h2⟩
def ep(f:Slot→Slot)(S:Nat→List Slot)(L:List (Nat×Nat)):Nat→List Slot:=fun t=>(S t).mapIdx fun j x=>if(t,j)∈L then f x else x
def tC(S:Nat→List Slot)(i j:Nat)(y:Slot):Nat→List Slot:=fun t=>if t=i then(S t).set j y else S t
theorem py{f:Slot→Slot}{S:Nat→List Slot}:ep f S []=S:=by
 funext t;refine List.ext_getElem? fun k=>?_
 simp only[ep,List.getElem?_mapIdx,List.not_mem_nil,if_false];cases (S t)[k]?<;>rfl
theorem iy{f:Slot→Slot}{S:Nat→List Slot}{L:List (Nat×Nat)}{i j:Nat}{x:Slot}(h:(S i)[j]?=some x):(ep f S L i)[j]?=some (if(i,j)∈L then f x else x):=by simp only[ep,List.getElem?_mapIdx,h,Option.map_some]
theorem uT{f:Slot→Slot}{S:Nat→List Slot}{L:List (Nat×Nat)}{t:Nat}:(ep f S L t).length=(S t).length:=by simp[ep]
theorem nP{f:Slot→Slot}{S:Nat→List Slot}{L:List (Nat×Nat)}{q i j:Nat}{x:Slot}(hq:q<L.length)(he:L[q]=(i,j))(hx:(S i)[j]?=some x):ep f S (L.take (q+1))=tC (ep f S (L.take q)) i j (f x):=by
 funext t;rw[List.take_succ_eq_append_getElem hq,he];refine List.ext_getElem? fun k=>?_
 simp only[ep,tC,List.mem_append,List.mem_singleton,Prod.mk.injEq,List.getElem?_mapIdx];by_cases c:t=i
 ·subst c;rw[if_pos rfl,List.getElem?_set];by_cases c2:j=k
  ·subst c2;obtain⟨hj,hx'⟩:=List.getElem?_eq_some_iff.1 hx;simp[hj,hx']
  ·have c3:¬k=j:=fun e=>c2 e.symm
   simp[c2,c3,List.getElem?_mapIdx]
 ·simp[c,List.getElem?_mapIdx]
theorem z7{f:Slot→Slot}{S:Nat→List Slot}{kd pl:Int}(h0:∀t,5≤t→S t=[]):ep f S (jv S kd pl 5)=fun t=>(S t).map fun x=>if x.kd=kd∧x.pl=pl then f x else x:=by
 funext t;refine List.ext_getElem? fun k=>?_
 simp only[ep,List.getElem?_mapIdx,List.getElem?_map,mr];cases e:(S t)[k]? with
 |none=>rfl
 |some x=>
  have ht:t<5:=by
   rcases Nat.lt_or_ge t 5 with c|c
   ·exact c
   ·rw[h0 t c]at e;simp at e
  simp only[Option.map_some,Option.some.injEq];by_cases c:x.kd=kd∧x.pl=pl
  ·rw[if_pos ⟨ht,x,rfl,c⟩,if_pos c]
  ·rw[if_neg c,if_neg (by rintro⟨-,y,h2,h3⟩;rw[Option.some.injEq]at h2;subst h2;exact c h3)]
def qf(S:Nat→List Slot)(L:List (Nat×Nat)):Bool:=L.any fun p=>((S p.1)[p.2]?.map (·.us)).getD false
theorem vl{S:Nat→List Slot}{L:List (Nat×Nat)}{q i j:Nat}{x:Slot}(hq:q<L.length)(he:L[q]=(i,j))(hx:(S i)[j]?=some x):qf S (L.take (q+1))=(qf S (L.take q)||(if(i,j)∈L.take q then dp x else x).us):=by
 rw[List.take_succ_eq_append_getElem hq,he];simp only[qf,List.any_append,List.any_cons,List.any_nil,Bool.or_false,hx,Option.map_some,Option.getD_some];by_cases c:(i,j)∈L.take q
 ·rw[if_pos c];show _=(_||false);rw[Bool.or_false];cases hu:x.us with
  |false=>rw[Bool.or_false]
  |true=>have:(L.take q).any (fun p=>((S p.1)[p.2]?.map (·.us)).getD false)=true:=List.any_eq_true.2 ⟨(i,j),c,by simp[hx,hu]⟩;rw[this];rfl
 ·rw[if_neg c]
def spS(sp:List Space):Nat→List Slot:=fun t=>(sp[t]?.map (·.sl)).getD []
theorem ic{sp:List Space}{i:Nat}(h:i<sp.length):spS sp i=sp[i].sl:=by simp[spS,h]
theorem ob{sp:List Space}{i:Nat}(h:sp.length≤i):spS sp i=[]:=by simp[spS,h]
theorem sg{kd pl:Int}{f:Slot→Slot}{sp:List Space}:spS (aZ kd pl f sp)=fun t=>(spS sp t).map fun x=>if x.kd=kd∧x.pl=pl then f x else x:=by funext t;simp only[spS,aZ,List.getElem?_map];cases sp[t]?<;>rfl
theorem o8{kd pl:Int}{f:Slot→Slot}{sp:List Space}(h:sp.length=5):ep f (spS sp) (jv (spS sp) kd pl 5)=spS (aZ kd pl f sp):=by rw[sg,z7 fun t ht=>ob (by omega)]
theorem aBM{kd pl:Int}{sp:List Space}(h:sp.length=5):qf (spS sp) (jv (spS sp) kd pl 5)=dT kd pl sp:=by
 rw[Bool.eq_iff_iff];simp only[qf,dT,List.any_eq_true,Bool.and_eq_true,decide_eq_true_eq];constructor
 ·rintro⟨⟨i,j⟩,h1,h2⟩;obtain⟨hi,x,hx,hk⟩:=mr.1 h1;have hi':i<sp.length:=by omega
  simp only[hx,Option.map_some,Option.getD_some]at h2;rw[ic hi']at hx;exact⟨sp[i],List.getElem_mem hi',x,List.mem_of_getElem? hx,hk,h2⟩
 ·rintro⟨s,hs,x,hx,hk,hu⟩;obtain⟨i,hi,rfl⟩:=List.getElem_of_mem hs;obtain⟨j,hj,rfl⟩:=List.getElem_of_mem hx;have e:(spS sp i)[j]?=some sp[i].sl[j]:=by rw[ic hi,List.getElem?_eq_getElem hj]
  exact⟨(i,j),mr.2 ⟨by omega,_,e,hk⟩,by simp only[e,Option.map_some,Option.getD_some];exact hu⟩
theorem xF{sp:List Space}{i j:Nat}{y:Slot}:spS (aF sp i j y)=tC (spS sp) i j y:=by
 funext t;simp only[spS,aF,tC,List.getElem?_modify];by_cases c:t=i
 ·subst c;simp only[if_true];cases sp[t]?<;>rfl
 ·have c':¬i=t:=fun e=>c e.symm
  simp only[c,c',if_false];cases sp[t]?<;>rfl
theorem aCf{S:Nat→List Slot}{i j:Nat}{y:Slot}:ovS (tC S i j y)=ovS S:=by
 have:∀t,(tC S i j y t).length=(S t).length:=fun t=>by unfold tC;split<;>simp
 simp only[ovS,this]
theorem oa{E:List (List PV)}{T W:Pages}{hd:Int}{S:Nat→List Slot}{i j:Nat}{y:Slot}(hi:i<5):cj (2+i) (.arr 4 (((S i).set j y).map rL) []) (oH E T W hd S)=oH E T W hd (tC S i j y):=by
 have hc:i=0∨i=1∨i=2∨i=3∨i=4:=by omega
 unfold oH;rw[aCf];rcases hc with rfl|rfl|rfl|rfl|rfl<;>rfl
end Go.Qm
namespace Go.Qm
open Go.Cq Go.Cq.D Go.RowKit Go.Proofs
set_option maxRecDepth 10000
def kD(l:List Int):Int:=if aJ l<l.length then(aJ l:Int)else-1
theorem tD(b1 b2:Bool)(p:Pages)(hl:p.rf.length≤1048576):bC Try.prog 150 [.agg [.ro b1 1 (p.tx.map rS),.ro b2 1 (p.rf.map rI)]] (.v (.one (dI (kD p.rf)))):=by
 refine aS hmix Try.func150 ok150 ?_;conv=>whnf
 refine ao (fun i:Nat=>[(6,.v (.one (.ro b2 1 (p.rf.map rI)))),(7,.v (.one (dI p.rf.length))),(8,.v (.one (dI i)))]) (fun _=>[]) (fun _=>0)
  (fun i=>i≤p.rf.length∧i≤aJ p.rf) (fun i=>p.rf.length-i) 0 (by omega) (by simp[dI]) rfl rfl fun i hi=>?_
 conv=>whnf
 refine CondP.mk (fun h=>?_) (fun h=>?_)<;>conv=>whnf
 ·have hlt:i<p.rf.length:=by simpa using h
  refine aN (k:=i) rfl rfl (by simpa using hlt) ?_;conv=>whnf
  refine aH rfl (r:=.one (dI p.rf[i])) (by simp[ak,rI,hlt,eI,dI]) ?_;conv=>whnf
  refine CondP.mk (fun h1=>?_) (fun h1=>?_)<;>conv=>whnf
  ·have h1:p.rf[i]=0:=by simpa using h1
   have e:aJ p.rf=i:=by have:=kY hlt h1;omega
   refine⟨?_,rfl⟩;rw[kD,e,if_pos hlt];rfl
  ·have h1:¬p.rf[i]=0:=by simpa using h1
   refine⟨i+1,by omega,⟨by omega,?_⟩,?_,rfl,rfl⟩
   ·rcases Nat.lt_or_ge i (aJ p.rf)with c|c
    ·omega
    ·have e:aJ p.rf=i:=by omega
     have:=me (l:=p.rf) (by omega);simp only[e]at this;exact absurd this h1
   ·rw[up hlt (by omega)];rfl
 ·have:¬i<p.rf.length:=by simpa using h
  refine⟨?_,rfl⟩;rw[kD,if_neg (by omega)];rfl
end Go.Qm
namespace Go.Qm
open Go.Cq Go.Cq.D Go.RowKit Go.Proofs
set_option maxRecDepth 10000
theorem NJ.same{J:Nm}{Js:Nat→Nat×Nat}{S S':Nat→List Slot}(h:NJ J Js S)(hl:∀t,(S' t).length=(S t).length):NJ J Js S':=⟨h.lt,fun i hi hne=>h.at5 i hi fun e=>hne (List.eq_nil_of_length_eq_zero (by rw[hl,e];rfl))⟩
def oHm(E:List (List PV))(m:Mem):DH:=oH E m.ram m.swp m.hd (spS m.sp)
theorem aDH{J:Nm}{E:List (List PV)}{m:Mem}(h1:∀g p,J g=some p→g<7)(h2:∀g sz es ov,aG (oHm E m) g=some (.arr sz es ov)→es≠[]→∃id base,J g=some (id,base,sz)):∃Js,NJ J Js (spS m.sp):=by
 have:∀i,∃D:Nat×Nat,i<5→spS m.sp i≠[]→J (2+i)=some (D.1,D.2,4):=fun i=>by
  by_cases c:i<5∧spS m.sp i≠[]
  ·have hg:aG (oHm E m) (2+i)=some (.arr 4 ((spS m.sp i).map rL) []):=by
    have hc:i=0∨i=1∨i=2∨i=3∨i=4:=by omega
    rcases hc with rfl|rfl|rfl|rfl|rfl<;>rfl
   obtain⟨id,base,e⟩:=h2 _ _ _ _ hg (by simpa using c.2);exact⟨(id,base),fun _ _=>e⟩
  ·exact⟨(0,0),fun a b=>absurd ⟨a,b⟩ c⟩
 obtain⟨Js,hJ⟩:=Classical.axiomOfChoice this;exact⟨Js,h1,hJ⟩
theorem zQ{kd pl:Int}{g:Slot→Slot}(hg:∀x,(g x).kd=x.kd∧(g x).pl=x.pl):∀{l:List Slot}{j:Nat},lM kd pl j (l.map g)=lM kd pl j l:=by
 intro l;induction l with
 |nil=>intro j;rfl
 |cons x l ih=>intro j;simp only[List.map_cons,lM,ih,(hg x).1,(hg x).2]
theorem aBB{S:Nat→List Slot}{kd pl:Int}{g:Slot→Slot}(hg:∀x,(g x).kd=x.kd∧(g x).pl=x.pl):∀{n:Nat},jv (fun t=>(S t).map g) kd pl n=jv S kd pl n:=by
 intro n;induction n with
 |zero=>rfl
 |succ n ih=>simp only[jv,ih,zQ hg]
theorem yw{m:Mem}{kd pl p:Int}{n:Nat}:jv (spS (dS m p).sp) kd pl n=jv (spS m.sp) kd pl n:=by simp only[dS,sg];exact aBB fun x=>by split<;>exact⟨rfl,rfl⟩
theorem aAc{J:Nm}{Js:Nat→Nat×Nat}{S:Nat→List Slot}{L:List (Nat×Nat)}{kd pl:Int}{P:Program}(nj:NJ J Js S)(hL:jv S kd pl 5=L)(q:Nat)(hq:q<L.length):∃i j x,L[q]=(i,j)∧i<5∧(S i)[j]?=some x∧(Prg.mk P J).J (2+i)=some ((Js i).1,(Js i).2,4):=by
 have hm:=List.getElem_mem hq;cases hp:L[q]with
 |mk i j=>rw[hp,←hL,mr]at hm;obtain⟨h1,x,h2, -⟩:=hm;exact⟨i,j,x,rfl,h1,h2,nj.at5 i h1 fun e=>by rw[e]at h2;simp at h2⟩
theorem eQ{α β:Type}{f:α→β}{l:List α}(h:l.length=12):(l.map f).take 12=l.map f:=List.take_of_length_le (by simp[h])
def iE(m:Mem)(but:Int):Int:=match bF m but with
 |some m'=>aJ m'.ram.rf
 |none=> -1
set_option maxHeartbeats 4000000 in
theorem sM(E:List (List PV))(m:Mem)(but:Int)(w:Wf m)(hE:E.length=5)(hr:∀row,row∈E→row.length=3):
  d6 Try.prog 92 [.one (.ptr 0 0 0),.one (dI but)] (oHm E m) 7
  fun x H'=>x= .tup [.one (dI (iE m but)),.one (dB (bF m but).isSome)]∧H'=oHm E ((bF m but).getD m):=by
 refine qz hmix Try.func92 ok92 fun J hJ1 hJ2=>?_
 obtain⟨Js,nj⟩:=aDH hJ1 hJ2;clear hJ1 hJ2;have l:=w.L;conv=>whnf
 refine aC (cas:=[.agg [.ro true 1 (m.ram.tx.map rS),.ro true 1 (m.ram.rf.map rI)]]) [.lend] rfl uy rfl (tD true true m.ram (by rw[l.rr];omega)) rfl ?_;conv=>whnf
 have hfi:∀p:Pages,decide (0≤kD p.rf)=decide (aJ p.rf<p.rf.length):=fun p=>by
  unfold kD;split
  ·rename_i c;rw[decide_eq_true c,decide_eq_true (by omega)]
  ·rename_i c;rw[decide_eq_false c,decide_eq_false (by omega)]
 simp only[List.drop_zero,List.take_length];refine CondP.mk (fun h=>?_) (fun h=>?_)<;>conv=>whnf
 ·have h:aJ m.ram.rf<m.ram.rf.length:=by rw[hfi]at h;simpa using h
  have e:bF m but=some m:=by rw[bF,if_pos h]
  rw[iE,e,kD,if_pos h];exact⟨rfl,rfl⟩
 have h:¬aJ m.ram.rf<m.ram.rf.length:=by rw[hfi]at h;simpa using h
 refine aC (cas:=[.agg [.ro true 1 (m.swp.tx.map rS),.ro true 1 (m.swp.rf.map rI)]]) [.lend] rfl uy rfl (tD true true m.swp (by rw[l.sr];omega)) rfl ?_;conv=>whnf
 have hfl:∀p:Pages,decide (kD p.rf<0)= !decide (aJ p.rf<p.rf.length):=fun p=>by
  unfold kD;split
  ·rename_i c;rw[decide_eq_true c,decide_eq_false (by omega)];rfl
  ·rename_i c;rw[decide_eq_false c,decide_eq_true (by omega)];rfl
 simp only[List.drop_zero,List.take_length];refine CondP.mk (fun h2=>?_) (fun h2=>?_)<;>conv=>whnf
 ·have h2:¬aJ m.swp.rf<m.swp.rf.length:=by rw[hfl]at h2;simpa using h2
  have e:bF m but=none:=by rw[bF,if_neg h,if_neg h2]
  rw[iE,e];exact⟨rfl,rfl⟩
 have h2:aJ m.swp.rf<m.swp.rf.length:=by rw[hfl]at h2;simpa using h2
 have e:bF m but=some (dY m but):=by rw[bF,if_neg h,if_pos h2]
 rw[iE,e,kD,if_pos h2];simp only[Option.getD_some,Option.isSome_some];rw[w.swp.rf]at h2;obtain⟨F,hF⟩:∃F,aJ m.swp.rf=F:=⟨_,rfl⟩;rw[hF]at h2 ⊢;refine ao (fun s:Mem×DTs=>(0,.v (.one (.ptr 0 0 0)))::(1,.v (.one (dI but)))::(7,.v (.one (dI F)))::s.2) (fun s=>oHm E s.1) (fun _=>7)
  (fun s=>Wf s.1∧aJ s.1.swp.rf=F∧dY s.1 but=dY m but∧∀t,(spS s.1.sp t).length=(spS m.sp t).length) (fun s=>mu s.1 but) (m,_) ⟨w,hF,rfl,fun _=>rfl⟩ rfl rfl rfl fun s hs=>?_
 clear l w h e hF;obtain⟨s,rest⟩:=s;obtain⟨ws,hf,hr2,hlS⟩:=hs;simp only at ws hf hr2 hlS;obtain⟨a,ha⟩:=Int.eq_ofNat_of_zero_le ws.hd.1;have ha12:a<12:=by have:=ws.hd;omega
 conv=>whnf
 refine fp rfl ?_;conv=>whnf
 simp only[rR ws.hd];refine CondP.mk (fun h3=>?_) (fun h3=>?_)<;>conv=>whnf
 ·have h3:s.hd=but:=by simpa using h3
  have hc:clk s but= .inl (dD s):=by rw[clk,if_pos h3]
  exact⟨(dD s,_),i6 hc,⟨ws.hand,hf,by rw[←hr2,gf hc],hlS⟩,rfl,rfl,rfl⟩
 have h3:¬s.hd=but:=by simpa using h3
 have nj1:=nj.same hlS;have hS16:∀i,(spS s.sp i).length≤16:=fun i=>by
  rcases Nat.lt_or_ge i s.sp.length with c|c
  ·rw[ic c];exact ws.sl _ (List.getElem_mem c)
  ·rw[ob c];exact Nat.zero_le _
 refine jI [] [.pass,.pass,.pass] [0,1,2,3,4,5,6] J rfl rfl rfl rfl rfl (aCq E s.ram s.swp ((s.hd+1) % 12) (spS s.sp) Js 1 s.hd hE hr hS16 (by decide) J nj1) (nj1.of (lt7 ⟨rfl,rfl,rfl,rfl,rfl,rfl,rfl⟩)) rfl
  ((bh rfl rfl (by rfl) rfl).trans ((gu rfl rfl (by rfl) rfl).trans ((aO rfl rfl (by rfl)).trans ((aO rfl rfl (by rfl)).trans ((aO rfl rfl (by rfl)).trans ((aO rfl rfl (by rfl)).trans ((aO rfl rfl (by rfl)).trans rfl))))))) ?_
 conv=>whnf
 simp only[List.drop_zero,List.take_length,oU];obtain⟨S,hSe⟩:∃S,spS s.sp=S:=⟨_,rfl⟩;rw[hSe]at nj1 hS16;simp only[hSe];obtain⟨L,hL⟩:∃L,jv S 1 s.hd 5=L:=⟨_,rfl⟩;simp only[hL,List.length_map];obtain⟨N,hN⟩:∃N,L.length=N:=⟨_,rfl⟩;simp only[hN];have hN80:N≤1000:=by have:=pC (Js:=Js) (kd:=1) (pl:=s.hd) hS16 (i:=5);rw[oU,hL,List.length_map,hN]at this;omega
 refine ao (fun z:Nat×Bool=>[(0,.v (.one (.ptr 0 0 0))),(1,.v (.one (dI but))),(7,.v (.one (dI F))),(8,.v (.one (dI s.hd))),(9,.v (.one (.sl 7 0 N))),(10,.v (.one (dB z.2))),(49,.v (.one (.sl 7 0 N))),(50,.v (.one (dI N))),(51,.v (.one (dI z.1)))])
  (fun z=>(7,.arr 1 (L.map (tkP Js)) [])::oH E s.ram s.swp ((s.hd+1) % 12) (ep dp S (L.take z.1))) (fun _=>8)
  (fun z=>z.1≤N∧z.2=qf S (L.take z.1)) (fun z=>N-z.1) (0,false) ⟨Nat.zero_le _,rfl⟩ rfl (by rw[List.take_zero,py];rfl) rfl fun z hz=>?_
 obtain⟨q,u⟩:=z;obtain⟨hqN,hu⟩:=hz;simp only at hqN hu;conv=>whnf
 refine CondP.mk (fun h4=>?_) (fun h4=>?_)<;>conv=>whnf
 ·have hq:q<L.length:=by
                 have:(q:Int)< (N:Int):=by simpa using h4
                 omega
  obtain⟨i,j,x,he,hi5,hx,hJ⟩:=aAc (P:=Try.prog) nj1 hL q hq;have hrow:(L.map (tkP Js))[q]?=some (tk (Js i) j):=by simp[hq,he,tkP]
  have hst:cj (2+i) (.arr 4 (((ep dp S (L.take q) i).map rL).modify j (fun row=>row.set 3 (.sc (.bool false)))) []) (oH E s.ram s.swp ((s.hd+1) % 12) (ep dp S (L.take q)))=oH E s.ram s.swp ((s.hd+1) % 12) (ep dp S (L.take (q+1))):=by rw[nP hq he hx,←oa hi5,af (ai (f:=rL) (iy hx)),←map_set];split<;>rfl
  have hx':=iy (f:=dp) (L:=L.take q) hx;have hu':=vl hq he hx;rw[←hu]at hu';obtain⟨S',hS'⟩:∃S',ep dp S (L.take q)=S':=⟨_,rfl⟩;obtain⟨x',hxe⟩:∃x',(if(i,j)∈L.take q then dp x else x)=x':=⟨_,rfl⟩;rw[hS']at hst hx';rw[hxe]at hx' hu';simp only[hS'];obtain⟨D,hD⟩:∃D,Js i=D:=⟨_,rfl⟩;rw[hD]at hrow hJ;have hjl:j< (S' i).length:=(List.getElem?_eq_some_iff.1 hx').1;have nextq:IntKind.wrap .i64 ((q:Int)+1)=((q+1:Nat):Int):=wrap64 (by omega) (by omega);refine aB (k:=q) rfl rfl rfl (by omega) ?_;conv=>whnf
  refine bR rfl rfl rfl (aT hrow rfl rfl rfl) rfl ?_;conv=>whnf
  have hc:i=0∨i=1∨i=2∨i=3∨i=4:=by omega
  clear hx hD he hxe hS' hi5;cases u
  ·(conv=>whnf)<;>repeat' first|(refine aE ?_;conv=>whnf)|(refine aD ?_;conv=>whnf)
   rcases hc with rfl|rfl|rfl|rfl|rfl
   all_goals
    refine gD (i:=j) rfl rfl hJ rfl ?_
    (conv=>whnf)<;>repeat' first|(refine aE ?_;conv=>whnf)|(refine aD ?_;conv=>whnf)
    refine bR rfl rfl rfl (aT (ai (f:=rL) hx') rfl rfl rfl) rfl ?_;conv=>whnf
    refine gD (i:=j) rfl rfl hJ rfl ?_;conv=>whnf
    refine aI rfl rfl rfl (by simpa using hjl) (by decide) ?_;conv=>whnf
    refine⟨(q+1,x'.us),by show N-(q+1)<N-q;omega,⟨by show q+1≤N;omega,by rw[hu'];rfl⟩,?_,by rw[←hst];rfl,rfl⟩;rw[nextq];rfl
  ·(conv=>whnf)<;>repeat' first|(refine aE ?_;conv=>whnf)|(refine aD ?_;conv=>whnf)
   rcases hc with rfl|rfl|rfl|rfl|rfl
   all_goals
    refine gD (i:=j) rfl rfl hJ rfl ?_;conv=>whnf
    refine aI rfl rfl rfl (by simpa using hjl) (by decide) ?_;conv=>whnf
    refine⟨(q+1,true),by show N-(q+1)<N-q;omega,⟨by show q+1≤N;omega,by rw[hu'];rfl⟩,?_,by rw[←hst];rfl,rfl⟩;rw[nextq];rfl
 have hqe:q=N:=by
             have:¬(q:Int)< (N:Int):=by simpa using h4
             omega
 subst hqe;have w2:=ws.hand.calm s.hd;have l2:=w2.L;have hSc:ep dp S (L.take q)=spS (dS (dD s) s.hd).sp:=by rw[List.take_of_length_le (by omega),←hL,←hSe];exact o8 ws.sp
 have huc:u=dT 1 s.hd s.sp:=by rw[hu,List.take_of_length_le (by omega),←hL,←hSe];exact aBM ws.sp
 simp only[hSc];refine CondP.mk (fun h5=>?_) (fun h5=>?_)<;>conv=>whnf
 ·have hc:clk s but= .inl (dS (dD s) s.hd):=by rw[clk,if_neg h3,if_pos (huc.symm.trans h5)]
  refine⟨(dS (dD s) s.hd,_),i6 hc,⟨w2,hf,by rw[←hr2,gf hc],fun t=>?_⟩,rfl,rfl,rfl⟩;show(spS (dS (dD s) s.hd).sp t).length=_;rw[←hSc,uT,←hlS,hSe]
 have hc:clk s but= .inr (dk (dS (dD s) s.hd) s.hd.toNat):=by rw[clk,if_neg h3,if_neg (by rw[←huc];exact fun c=>by rw[h5]at c;exact absurd c (by decide))]
 rw[←hr2,jP hc];have wev:=(w2.wi ha12 (by show aJ s.swp.rf<12;omega));have hto:s.hd.toNat=a:=by omega
 rw[hto];have e1:s.ram=(dS (dD s) s.hd).ram:=rfl;have e2:s.swp=(dS (dD s) s.hd).swp:=rfl;have e3:(s.hd+1) % 12=(dS (dD s) s.hd).hd:=rfl;have hlS2:∀t,(spS (dS (dD s) s.hd).sp t).length=(spS m.sp t).length:=fun t=>by rw[←hSc,uT,←hlS,hSe]
 rw[e2]at hf;have hL2:jv (spS (dS (dD s) s.hd).sp) 1 a 5=L:=by rw[yw,←ha,←hL,←hSe];rfl
 simp only[e1,e2,ha];rw[←ha];generalize hs2:dS (dD s) s.hd=s2 at*;have hq:(List.take q (List.drop 0 (List.map (tkP Js) L)))=L.map (tkP Js):=by rw[List.drop_zero,List.take_of_length_le (by simp;omega)]
 simp only[hq,ha,List.length_map,l2.rt,l2.st,l2.sr];refine aB (k:=a) rfl rfl rfl ha12 ?_;conv=>whnf
 obtain⟨tx,htx⟩:∃tx,s2.ram.tx[a]?=some tx:=⟨_,List.getElem?_eq_getElem (by rw[l2.rt];exact ha12)⟩;obtain⟨rf,hrf⟩:∃rf,s2.ram.rf[a]?=some rf:=⟨_,List.getElem?_eq_getElem (by rw[l2.rr];exact ha12)⟩;refine bR rfl rfl rfl (aT (ai (f:=rS) htx) rfl rfl rfl) rfl ?_;conv=>whnf
 simp only[List.length_map,l2.rr];refine aB (k:=a) rfl rfl rfl ha12 ?_;conv=>whnf
 refine bR rfl rfl rfl (aT (ai (f:=rI) hrf) rfl rfl rfl) rfl ?_;conv=>whnf
 refine aB (k:=F) rfl rfl rfl h2 ?_;conv=>whnf
 refine aI rfl rfl rfl (by simpa [l2.st]using h2) (by decide) ?_;conv=>whnf
 refine aB (k:=F) rfl rfl rfl h2 ?_;conv=>whnf
 refine aI rfl rfl rfl (by simpa [l2.sr]using h2) (by decide) ?_;conv=>whnf
 have hhd:((a:Int)+1) % 12=s2.hd:=by rw[←ha];exact e3
 rw[gR (by rw[l2.st];exact h2),iD (by rw[l2.sr];exact h2),hhd];simp only[List.drop_zero,eQ l2.rt,eQ l2.rr,eQ (show(s2.swp.tx.set F tx).length=12 by simp[l2.st]),eQ (show(s2.swp.rf.set F rf).length=12 by simp[l2.sr]),List.length_map,l2.rt,l2.rr];refine aB (k:=a) rfl rfl rfl ha12 ?_;conv=>whnf
 refine aI rfl rfl rfl (by simpa [l2.rt]using ha12) (by decide) ?_;conv=>whnf
 refine aB (k:=a) rfl rfl rfl ha12 ?_;conv=>whnf
 refine aI rfl rfl rfl (by simpa [l2.rr]using ha12) (by decide) ?_;conv=>whnf
 rw[gR (by rw[l2.rt];exact ha12),iD (by rw[l2.rr];exact ha12)];simp only[List.drop_zero,eQ (show(s2.ram.tx.set a []).length=12 by simp[l2.rt]),eQ (show(s2.ram.rf.set a 0).length=12 by simp[l2.rr]),List.length_map];rw[List.take_of_length_le (l:=List.map (tkP Js) L) (by simp)];have hN80:L.length≤1000:=by omega
 obtain⟨N,hN⟩:∃N,L.length=N:=⟨_,rfl⟩;rw[hN]at hN80;simp only[hN];have nj2:=nj.same hlS2;obtain⟨S2,hS2⟩:∃S2,spS s2.sp=S2:=⟨_,rfl⟩;rw[hS2]at hL2 nj2;simp only[hS2];refine ao (fun q:Nat=>[(0,.v (.one (.ptr 0 0 0))),(7,.v (.one (dI F))),(111,.v (.one (.own 1 (L.map (tkP Js))))),(112,.v (.one (dI N))),(113,.v (.one (dI q)))])
  (fun q=>oH E (aY s2.ram a [] 0) (aY s2.swp F tx rf) s2.hd (ep (bU 2 F) S2 (L.take q))) (fun _=>7)
  (fun q=>q≤N) (fun q=>N-q) 0 (Nat.zero_le _) rfl (by rw[List.take_zero,py];rfl) rfl fun q hqN=>?_
 conv=>whnf
 refine CondP.mk (fun h6=>?_) (fun h6=>?_)<;>conv=>whnf
 ·have hq:q<L.length:=by
                 have:(q:Int)< (N:Int):=by simpa using h6
                 omega
  obtain⟨i,j,x,he,hi5,hx,hJ⟩:=aAc (P:=Try.prog) nj2 hL2 q hq;have hrow:(L.map (tkP Js))[q]?=some (tk (Js i) j):=by simp[hq,he,tkP]
  have hst:cj (2+i) (.arr 4 ((((ep (bU 2 F) S2 (L.take q) i).map rL).modify j (fun row=>row.set 0 (.sc (.int .i64 2)))).modify j (fun row=>row.set 1 (.sc (.int .i64 F)))) []) (oH E (aY s2.ram a [] 0) (aY s2.swp F tx rf) s2.hd (ep (bU 2 F) S2 (L.take q)))=oH E (aY s2.ram a [] 0) (aY s2.swp F tx rf) s2.hd (ep (bU 2 F) S2 (L.take (q+1))):=by have hx':=iy (f:=bU 2 F) (L:=L.take q) hx;have hjl:=(List.getElem?_eq_some_iff.1 hx').1;rw[nP hq he hx,←oa hi5,af (ai (f:=rL) hx'),af (List.getElem?_set_self (by simpa using hjl)),List.set_set,←map_set];split<;>rfl
  have hjl:j< (ep (bU 2 F) S2 (L.take q) i).length:=(List.getElem?_eq_some_iff.1 (iy (f:=bU 2 F) (L:=L.take q) hx)).1;obtain⟨S',hS'⟩:∃S',ep (bU 2 F) S2 (L.take q)=S':=⟨_,rfl⟩;rw[hS']at hst hjl;simp only[hS'];obtain⟨D,hD⟩:∃D,Js i=D:=⟨_,rfl⟩;rw[hD]at hrow hJ;have nextq:IntKind.wrap .i64 ((q:Int)+1)=((q+1:Nat):Int):=wrap64 (by omega) (by omega);simp only[List.length_map,hN];refine aB (k:=q) rfl rfl rfl (by omega) ?_;conv=>whnf
  refine bR rfl rfl rfl (aT hrow rfl rfl rfl) rfl ?_;conv=>whnf
  have hc:i=0∨i=1∨i=2∨i=3∨i=4:=by omega
  clear hx hD he hS' hi5;rcases hc with rfl|rfl|rfl|rfl|rfl
  all_goals
   refine gD (i:=j) rfl rfl hJ rfl ?_;conv=>whnf
   refine aI rfl rfl rfl (by simpa using hjl) (by decide) ?_;conv=>whnf
   refine gD (i:=j) rfl rfl hJ rfl ?_;conv=>whnf
   refine aI rfl rfl rfl (by simpa using hjl) (by decide) ?_;conv=>whnf
   refine⟨q+1,by omega,by omega,?_,by rw[←hst];rfl,rfl⟩;rw[nextq,List.take_of_length_le (by simp;omega)];rfl
 have hqe:q=N:=by
             have:¬(q:Int)< (N:Int):=by simpa using h6
             omega
 subst hqe;have hSt:ep (bU 2 F) S2 (L.take q)=spS (dk s2 a).sp:=by rw[List.take_of_length_le (by omega),←hL2,←hS2,←hf];exact o8 w2.sp
 simp only[hSt];have hrl:(aY s2.ram a [] 0).rf.length=12:=by simp[aY,l2.rr]
 refine aC (cas:=[.agg [.ro true 1 ((aY s2.ram a [] 0).tx.map rS),.ro true 1 ((aY s2.ram a [] 0).rf.map rI)]]) [.lend] rfl uy rfl (tD true true (aY s2.ram a [] 0) (by omega)) rfl ?_;conv=>whnf
 simp only[List.drop_zero,List.take_length];have hfr:kD (aY s2.ram a [] 0).rf=(aJ (dk s2 a).ram.rf:Int):=by rw[kD,if_pos (by rw[hrl];exact wev.2)];rfl
 have heq:dk s2 a=⟨aY s2.ram a [] 0,aY s2.swp F tx rf,(dk s2 a).sp,s2.hd⟩:=by simp only[dk,hf,htx,hrf,Option.getD_some]
 rw[hfr];refine⟨rfl,?_⟩;rw[heq];rfl
end Go.Qm
namespace Go.Qm
open Go.Cq Go.Cq.D Go.RowKit Go.Proofs
set_option maxRecDepth 10000
theorem aD8{E:List (List PV)}{T W:Pages}{hd:Int}{S:Nat→List Slot}{i j:Nat}{x y:Slot}{f:List PV→List PV}(hi:i<5)(hx:(S i)[j]?=some x)(hf:f (rL x)=rL y):cj (2+i) (.arr 4 (((S i).map rL).modify j f) []) (oH E T W hd S)=oH E T W hd (tC S i j y):=by rw[←oa hi,af (ai (f:=rL) hx),hf,map_set]
theorem aCy{E:List (List PV)}{T W:Pages}{hd:Int}{sp:List Space}{i j:Nat}{x:Slot}(hi:i<5)(hx:(spS sp i)[j]?=some x):cj (2+i) (.arr 4 (((spS sp i).map rL).modify j (fun row=>row.set 3 (.sc (.bool true)))) []) (oH E T W hd (spS sp))=oH E T W hd (spS (aF sp i j {x with us:=true})):=by rw[xF];exact aD8 hi hx rfl
theorem aD5{E:List (List PV)}{T W:Pages}{hd:Int}{sp:List Space}{i j:Nat}{x:Slot}{kd pl:Int}{ow:Bool}(hi:i<5)(hx:(spS sp i)[j]?=some x):cj (2+i) (.arr 4 ((((spS sp i).map rL).set j (rL ⟨kd,pl,ow,false⟩)).modify j (fun row=>row.set 3 (.sc (.bool true)))) []) (oH E T W hd (spS sp))=oH E T W hd (spS (aF sp i j ⟨kd,pl,ow,true⟩)):=by have hj:=(List.getElem?_eq_some_iff.1 hx).1;rw[xF,←oa hi,af (List.getElem?_set_self (by simpa using hj)),List.set_set,←map_set];rfl
theorem wm{but:Int}{sp sp':List Space}(h:alike but sp sp')(t:Nat):(spS sp' t).length=(spS sp t).length:=by
 obtain⟨h1,h2⟩:=h;rcases Nat.lt_or_ge t sp.length with c|c
 ·have c':t<sp'.length:=by omega
  rw[ic c,ic c'];exact(h2 t c c').2.2.1
 ·rw[ob c,ob (by omega)]
theorem pr{E:List (List PV)}{m m1:Mem}(hl:∀t,(spS m1.sp t).length=(spS m.sp t).length):bD (fun t=>([0,1,2,3,4,5,6]:List Nat)[t]?) (oHm E m1) [0,1,2,3,4,5,6] 0 (oHm E m)=some (oHm E m1):=(bh rfl rfl (by rfl) rfl).trans ((gu rfl rfl (by rfl) rfl).trans ((aO rfl rfl (by simp[hl])).trans ((aO rfl rfl (by simp[hl])).trans ((aO rfl rfl (by simp[hl])).trans ((aO rfl rfl (by simp[hl])).trans ((aO rfl rfl (by simp[hl])).trans rfl))))))
set_option maxHeartbeats 8000000 in
theorem aAt(E:List (List PV))(m:Mem)(i j:Nat)(w:Wf m)(hE:E.length=5)(hr:∀row,row∈E→row.length=3)(hi:i<m.sp.length)(hj:j<m.sp[i].sl.length):
  d6 Try.prog 78 [.one (.ptr 0 0 0),.one (dI i),.one (dI j)] (oHm E m) 7
  fun x H'=>x= .v (.one (dB (bE m i j).isSome))∧H'=oHm E ((bE m i j).getD m):=by
 refine qz hmix Try.func78 ok78 fun J hJ1 hJ2=>?_
 obtain⟨Js,nj⟩:=aDH hJ1 hJ2;clear hJ1 hJ2;have l:=w.L;have hi5:i<5:=by rw[←l.sp];exact hi
 have hx:=bV hi hj;have hxS:(spS m.sp i)[j]?=some (aK m i j):=by rw[ic hi,hx];exact List.getElem?_eq_getElem hj
 have hjS:j< (spS m.sp i).length:=by rw[ic hi];exact hj
 obtain⟨row,hrow,hrl⟩:∃row,E[i]?=some row∧2<row.length:=⟨E[i]'(by omega),List.getElem?_eq_getElem (by omega),by rw[hr _ (List.getElem_mem _)];omega⟩;obtain⟨I,hI⟩:∃I:Int,(i:Int)=I:=⟨_,rfl⟩;obtain⟨s1,s2⟩:=w.slot hi hj;have skd:(aK m i j).kd=0∨(aK m i j).kd=1∨(aK m i j).kd=2:=by rw[hx];exact w.kd _ (List.getElem_mem hi) _ (List.getElem_mem hj)
 rw[hI];conv=>whnf
 refine aB (k:=i) rfl rfl (by show some I=_;rw[←hI]) hi5 ?_;conv=>whnf
 have hc:i=0∨i=1∨i=2∨i=3∨i=4:=by omega
 obtain⟨x,hxe⟩:∃x,aK m i j=x:=⟨_,rfl⟩;rw[hxe]at hx hxS s1 s2 skd;have hnone:¬x.kd=1→bF m (-1)=none→bE m i j=none:=fun c1 hrm=>by rw[bE,hxe,if_neg c1,hrm];rfl
 have hsome:¬x.kd=1→∀m1,bF m (-1)=some m1→(spS m1.sp i)[j]?=some x∧j< (spS m1.sp i).length:=fun c1 m1 hrm=>by
  obtain⟨hi1,hj1,ex, -⟩:=eU (bq w hrm) hi hj (.inl (by rw[hxe];exact c1));have:(spS m1.sp i)[j]?=some x:=by rw[ic hi1,List.getElem?_eq_getElem hj1,ex,hxe]
  exact⟨this,(List.getElem?_eq_some_iff.1 this).1⟩
 have hb0:x.kd=0→∀m1,bF m (-1)=some m1→bE m i j=some {m1 with ram:=aY m1.ram (aJ m1.ram.rf) jg 1,sp:=aF m1.sp i j ⟨1,aJ m1.ram.rf,true,true⟩}:=fun c0 m1 hrm=>by rw[bE,hxe,if_neg (by omega),hrm,Option.map_some,if_pos c0]
 have hb1:x.kd=1→bE m i j=some {m with sp:=aF m.sp i j {x with us:=true}}:=fun c1=>by rw[bE,hxe,if_pos c1]
 have hb2:x.kd=2→∀m1,bF m (-1)=some m1→∃f:Nat,x.pl=f∧f<12∧(spS (aZ 2 f (bU 1 (aJ m1.ram.rf)) m1.sp) i)[j]?=some (bU 1 (aJ m1.ram.rf) x)∧bE m i j=some ⟨aY m1.ram (aJ m1.ram.rf) (m1.swp.tx[f]?.getD []) (m1.swp.rf[f]?.getD 0),aY m1.swp f [] 0,aF (aZ 2 f (bU 1 (aJ m1.ram.rf)) m1.sp) i j ⟨1,aJ m1.ram.rf,x.ow,true⟩,m1.hd⟩:=fun c2 m1 hrm=>by
  obtain⟨f,e1,hf12, -⟩:=(w.bF hrm).1.we (bq w hrm) hi hj (by rw[hxe];exact c2);rw[hxe]at e1;refine⟨f,e1,hf12,?_,?_⟩
  ·rw[sg];simp only[List.getElem?_map,(hsome (by omega) m1 hrm).1,Option.map_some];rw[if_pos ⟨c2,e1⟩]
  ·rw[bE,hxe,if_neg (by omega),hrm,Option.map_some,if_neg (by omega),e1,Int.toNat_natCast]
 rcases hc with rfl|rfl|rfl|rfl|rfl
 all_goals
  refine bR rfl rfl rfl (ah hrow hrl rfl) rfl ?_;conv=>whnf
  refine aB (k:=j) rfl rfl rfl hjS ?_;conv=>whnf
  refine bR rfl rfl rfl (aT (ai (f:=rL) hxS) rfl rfl rfl) rfl ?_;conv=>whnf
  refine CondP.mk (fun c0=>?_) (fun c0=>?_)<;>conv=>whnf
  ·have c0:x.kd=0:=by simpa using c0
   have c1:¬x.kd=1:=by omega
   have hcall:=sM E m (-1) w hE hr;cases hrm:bF m (-1)with
   |none=>
    rw[iE,hrm]at hcall;have hb:=hnone c1 hrm;refine b8 (r:=.tup [.one (dI (-1)),.one (dB false)]) (Hr:=oHm E m) [.pass,.pass] [0,1,2,3,4,5,6] rfl rfl rfl rfl hcall rfl (pr (E:=E) (m:=m) (m1:=m) fun _=>rfl) ?_
    (conv=>whnf)<;>repeat' first|(refine aE ?_;conv=>whnf)|(refine aD ?_;conv=>whnf)
    rw[hb];exact⟨rfl,rfl⟩
   |some m1=>
    rw[iE,hrm]at hcall;obtain⟨w1,hf⟩:=w.bF hrm;have l1:=w1.L;have ha:=bq w hrm;have hlS:=wm ha;obtain⟨hxS1,hjS1⟩:=hsome c1 m1 hrm;refine b8 (r:=.tup [.one (dI (aJ m1.ram.rf)),.one (dB true)]) (Hr:=oHm E m1) [.pass,.pass] [0,1,2,3,4,5,6] rfl rfl rfl rfl hcall rfl (pr (E:=E) (m:=m) (m1:=m1) hlS) ?_
    (conv=>whnf)<;>repeat' first|(refine aE ?_;conv=>whnf)|(refine aD ?_;conv=>whnf)
    refine rN rfl rfl (m:=4) (c:=4) rfl rfl (by decide) (by decide) (by decide) ?_;conv=>whnf
    refine mw rfl rfl (bs:=jg) rfl ?_;conv=>whnf
    simp only[List.length_map,l1.rt,l1.rr];refine aB (k:=aJ m1.ram.rf) rfl rfl rfl hf ?_;conv=>whnf
    refine aI rfl rfl rfl (by simpa [l1.rt]using hf) (by decide) ?_;conv=>whnf
    refine aB (k:=aJ m1.ram.rf) rfl rfl rfl hf ?_;conv=>whnf
    refine aI rfl rfl rfl (by simpa [l1.rr]using hf) (by decide) ?_;conv=>whnf
    refine cG (row':=rL ⟨1,aJ m1.ram.rf,true,false⟩) rfl rfl rfl (by simpa using hjS1) (eH (fun _=>rfl)) (cu _) rfl rfl rfl ?_;conv=>whnf
    refine aI rfl rfl rfl (by simpa using hjS1) (by decide) ?_;conv=>whnf
    rw[hb0 c0 m1 hrm,gR (by rw[l1.rt];exact hf),iD (by rw[l1.rr];exact hf)];simp only[List.drop_zero,eQ (show(m1.ram.tx.set (aJ m1.ram.rf) jg).length=12 by simp[l1.rt]),eQ (show(m1.ram.rf.set (aJ m1.ram.rf) 1).length=12 by simp[l1.rr])];refine⟨rfl,?_⟩;show _=oH E (aY m1.ram (aJ m1.ram.rf) jg 1) m1.swp m1.hd (spS (aF m1.sp _ j _));rw[←aD5 hi5 hxS1];rfl
  ·have c0:¬x.kd=0:=by simpa using c0
   refine CondP.mk (fun c2=>?_) (fun c2=>?_)<;>conv=>whnf
   ·have c2:x.kd=2:=by simpa using c2
    have c1:¬x.kd=1:=by omega
    have hcall:=sM E m (-1) w hE hr;cases hrm:bF m (-1)with
    |none=>
     rw[iE,hrm]at hcall;have hb:=hnone c1 hrm;refine b8 (r:=.tup [.one (dI (-1)),.one (dB false)]) (Hr:=oHm E m) [.pass,.pass] [0,1,2,3,4,5,6] rfl rfl rfl rfl hcall rfl (pr (E:=E) (m:=m) (m1:=m) fun _=>rfl) ?_
     (conv=>whnf)<;>repeat' first|(refine aE ?_;conv=>whnf)|(refine aD ?_;conv=>whnf)
     rw[hb];exact⟨rfl,rfl⟩
    |some m1=>
     rw[iE,hrm]at hcall;obtain⟨w1,hf⟩:=w.bF hrm;have l1:=w1.L;have ha:=bq w hrm;have hlS:=wm ha;obtain⟨hxS1,hjS1⟩:=hsome c1 m1 hrm;refine b8 (r:=.tup [.one (dI (aJ m1.ram.rf)),.one (dB true)]) (Hr:=oHm E m1) [.pass,.pass] [0,1,2,3,4,5,6] rfl rfl rfl rfl hcall rfl (pr (E:=E) (m:=m) (m1:=m1) hlS) ?_
     (conv=>whnf)<;>repeat' first|(refine aE ?_;conv=>whnf)|(refine aD ?_;conv=>whnf)
     obtain⟨f,e1,hf12,hx2,hb⟩:=hb2 c2 m1 hrm;obtain⟨tx,htx⟩:∃tx,m1.swp.tx[f]?=some tx:=⟨_,List.getElem?_eq_getElem (by rw[l1.st];exact hf12)⟩;obtain⟨rf,hrf⟩:∃rf,m1.swp.rf[f]?=some rf:=⟨_,List.getElem?_eq_getElem (by rw[l1.sr];exact hf12)⟩;rw[htx,hrf]at hb;simp only[Option.getD_some]at hb;rw[hb];generalize aJ m1.ram.rf=F at*;refine bR rfl rfl rfl (aT (ai (f:=rL) hxS1) rfl rfl rfl) rfl ?_;conv=>whnf
     simp only[e1,List.length_map,l1.rt,l1.rr,l1.st];refine aB (k:=f) rfl rfl rfl hf12 ?_;conv=>whnf
     refine bR rfl rfl rfl (aT (ai (f:=rS) htx) rfl rfl rfl) rfl ?_;conv=>whnf
     simp only[List.length_map,l1.sr];refine aB (k:=f) rfl rfl rfl hf12 ?_;conv=>whnf
     refine bR rfl rfl rfl (aT (ai (f:=rI) hrf) rfl rfl rfl) rfl ?_;conv=>whnf
     refine aB (k:=F) rfl rfl rfl hf ?_;conv=>whnf
     refine aI rfl rfl rfl (by simpa [l1.rt]using hf) (by decide) ?_;conv=>whnf
     refine aB (k:=F) rfl rfl rfl hf ?_;conv=>whnf
     refine aI rfl rfl rfl (by simpa [l1.rr]using hf) (by decide) ?_;conv=>whnf
     rw[gR (by rw[l1.rt];exact hf),iD (by rw[l1.rr];exact hf)];simp only[List.drop_zero,eQ l1.st,eQ l1.sr,eQ (show(m1.ram.tx.set F tx).length=12 by simp[l1.rt]),eQ (show(m1.ram.rf.set F rf).length=12 by simp[l1.rr]),List.length_map,l1.st,l1.sr];refine aB (k:=f) rfl rfl rfl hf12 ?_;conv=>whnf
     refine aI rfl rfl rfl (by simpa [l1.st]using hf12) (by decide) ?_;conv=>whnf
     refine aB (k:=f) rfl rfl rfl hf12 ?_;conv=>whnf
     refine aI rfl rfl rfl (by simpa [l1.sr]using hf12) (by decide) ?_;conv=>whnf
     rw[gR (by rw[l1.st];exact hf12),iD (by rw[l1.sr];exact hf12)];simp only[List.drop_zero,eQ (show(m1.swp.tx.set f []).length=12 by simp[l1.st]),eQ (show(m1.swp.rf.set f 0).length=12 by simp[l1.sr])];have nj1:=nj.same hlS;have hS16:∀i,(spS m1.sp i).length≤16:=fun i=>by
      rcases Nat.lt_or_ge i m1.sp.length with c|c
      ·rw[ic c];exact w1.sl _ (List.getElem_mem c)
      ·rw[ob c];exact Nat.zero_le _
     refine jI [] [.pass,.pass,.pass] [0,1,2,3,4,5,6] J rfl rfl rfl rfl rfl (aCq E (aY m1.ram F tx rf) (aY m1.swp f [] 0) m1.hd (spS m1.sp) Js 2 f hE hr hS16 (by decide) J nj1) (nj1.of (lt7 ⟨rfl,rfl,rfl,rfl,rfl,rfl,rfl⟩)) rfl
      ((bh rfl rfl (by rfl) rfl).trans ((gu rfl rfl (by rfl) rfl).trans ((aO rfl rfl (by rfl)).trans ((aO rfl rfl (by rfl)).trans ((aO rfl rfl (by rfl)).trans ((aO rfl rfl (by rfl)).trans ((aO rfl rfl (by rfl)).trans rfl))))))) ?_
     conv=>whnf
     simp only[List.drop_zero,List.take_length,oU];obtain⟨S,hSe⟩:∃S,spS m1.sp=S:=⟨_,rfl⟩;rw[hSe]at nj1 hS16;simp only[hSe];obtain⟨L,hL⟩:∃L,jv S 2 f 5=L:=⟨_,rfl⟩;simp only[hL,List.length_map];obtain⟨N,hN⟩:∃N,L.length=N:=⟨_,rfl⟩;have hN80:N≤1000:=by have:=pC (Js:=Js) (kd:=2) (pl:=f) hS16 (i:=5);rw[oU,hL,List.length_map,hN]at this;omega
     simp only[hN];refine ao (fun q:Nat=>[(7,.v (.one (.ptr _ j 0))),(10,.v (.one (dI F))),(117,.v (.one (.own 1 (L.map (tkP Js))))),(118,.v (.one (dI N))),(119,.v (.one (dI q)))])
      (fun q=>oH E (aY m1.ram F tx rf) (aY m1.swp f [] 0) m1.hd (ep (bU 1 F) S (L.take q))) (fun _=>7)
      (fun q=>q≤N) (fun q=>N-q) 0 (Nat.zero_le _) rfl (by rw[List.take_zero,py];rfl) rfl fun q hqN=>?_
     conv=>whnf
     refine CondP.mk (fun h6=>?_) (fun h6=>?_)<;>conv=>whnf
     ·have hq:q<L.length:=by
                     have:(q:Int)< (N:Int):=by simpa using h6
                     omega
      obtain⟨i',j',y,he,hi5',hy,hJ⟩:=aAc (P:=Try.prog) nj1 hL q hq;have hrow':(L.map (tkP Js))[q]?=some (tk (Js i') j'):=by simp[hq,he,tkP]
      have hst:cj (2+i') (.arr 4 ((((ep (bU 1 F) S (L.take q) i').map rL).modify j' (fun row=>row.set 0 (.sc (.int .i64 1)))).modify j' (fun row=>row.set 1 (.sc (.int .i64 F)))) []) (oH E (aY m1.ram F tx rf) (aY m1.swp f [] 0) m1.hd (ep (bU 1 F) S (L.take q)))=oH E (aY m1.ram F tx rf) (aY m1.swp f [] 0) m1.hd (ep (bU 1 F) S (L.take (q+1))):=by have hx':=iy (f:=bU 1 F) (L:=L.take q) hy;have hjl:=(List.getElem?_eq_some_iff.1 hx').1;rw[nP hq he hy,←oa hi5',af (ai (f:=rL) hx'),af (List.getElem?_set_self (by simpa using hjl)),List.set_set,←map_set];split<;>rfl
      have hjl:j'< (ep (bU 1 F) S (L.take q) i').length:=(List.getElem?_eq_some_iff.1 (iy (f:=bU 1 F) (L:=L.take q) hy)).1;obtain⟨S',hS'⟩:∃S',ep (bU 1 F) S (L.take q)=S':=⟨_,rfl⟩;rw[hS']at hst hjl;simp only[hS'];obtain⟨D,hD⟩:∃D,Js i'=D:=⟨_,rfl⟩;rw[hD]at hrow' hJ;have nextq:IntKind.wrap .i64 ((q:Int)+1)=((q+1:Nat):Int):=wrap64 (by omega) (by omega);simp only[List.length_map,hN];refine aB (k:=q) rfl rfl rfl (by omega) ?_;conv=>whnf
      refine bR rfl rfl rfl (aT hrow' rfl rfl rfl) rfl ?_;conv=>whnf
      have hc':i'=0∨i'=1∨i'=2∨i'=3∨i'=4:=by omega
      clear hy hD he hS' hi5';rcases hc' with rfl|rfl|rfl|rfl|rfl
      all_goals
       refine gD (i:=j') rfl rfl hJ rfl ?_;conv=>whnf
       refine aI rfl rfl rfl (by simpa using hjl) (by decide) ?_;conv=>whnf
       refine gD (i:=j') rfl rfl hJ rfl ?_;conv=>whnf
       refine aI rfl rfl rfl (by simpa using hjl) (by decide) ?_;conv=>whnf
       refine⟨q+1,by omega,by omega,?_,by rw[←hst];rfl,rfl⟩;rw[nextq,List.take_of_length_le (by simp;omega)];rfl
     ·have hqe:q=N:=by
                  have:¬(q:Int)< (N:Int):=by simpa using h6
                  omega
      subst hqe;have hSt:ep (bU 1 F) S (L.take q)=spS (aZ 2 f (bU 1 F) m1.sp):=by rw[List.take_of_length_le (by omega),←hL,←hSe];exact o8 w1.sp
      simp only[hSt];refine aI rfl rfl rfl (by simpa using(List.getElem?_eq_some_iff.1 hx2).1) (by decide) ?_;conv=>whnf
      refine⟨rfl,?_⟩;show _=oH E (aY m1.ram F tx rf) (aY m1.swp f [] 0) m1.hd (spS (aF (aZ 2 f (bU 1 F) m1.sp) _ j {bU 1 F x with us:=true}));rw[←aCy hi5 hx2];rfl
   ·have c2:¬x.kd=2:=by simpa using c2
    have c1:x.kd=1:=by omega
    refine aI rfl rfl rfl (by simpa using hjS) (by decide) ?_;conv=>whnf
    rw[hb1 c1];refine⟨rfl,?_⟩;show _=oH E m.ram m.swp m.hd (spS (aF m.sp _ j _));rw[←aCy hi5 hxS];rfl
end Go.Qm
namespace Go.Qm
open Go.Cq Go.Cq.D Go.RowKit Go.Proofs
set_option maxRecDepth 10000
theorem zf{α:Type}{l:List α}(h:l.length=5):∃a b c d e,l=[a,b,c,d,e]:=
 match l,h with
 | [a,b,c,d,e],_=>⟨a,b,c,d,e,rfl⟩
theorem jB{P:Prg}{ts:DTs}{H:DH}{n:Nat}{K:DT→DTs→DH→Nat→List Nat→Prop}(es:List Go.Cq.D.Loc)(ms:List M)(ρ:List Nat)(J:Nm){f:FuncId}{args:List Opd}{Hr:DH}{r:DT}(hJ:∀t p,J t=some p→∃g,ρ[t]?=some g∧P.J g=some p)(h5:iI ρ.length Hr=true)(h:yj es ts H n fun ts1 H1 n1=>∃das cas Hc H',dP ts1 args=some das∧fQ H1 ρ ms das=some cas∧du (fun g=>fO ρ g 0) H1 ρ 0=some Hc∧(nodup ρ&&(nodup (given ms das)&&(b9 (given ms das) ρ&&(b9 (dR ms das) (given ms das)&&b9 (dR ms das) ρ))))=true∧(eh P.prog J f cas Hc ρ.length fun x H'=>x=r∧H'=Hr)∧
   bD (fun t=>ρ[t]?) Hr ρ 0 (fR (given ms das) H1)=some H'∧fDT (g7 (fun t=>ρ[t]?) r) fun x=>fTs ts1 fun ts1=>fDH H' fun H'=>K x ts1 H' n1 (given ms das++ρ)):OpP P (.call f args) ts H n K:=by
 rw[sD]at h;obtain⟨das,cas,Hc,H',h1,h2,h3,h4,hc,h6,h⟩:=h;exact jI es ms ρ J rfl h1 h2 h3 h4 hc hJ h5 h6 h
theorem bN{es:List (List PV)}{i:Nat}{s t:Space}(h:es[i]?=some (rP s))(h1:t.lv=s.lv)(h2:t.ar=s.ar):es.modify i (fun row=>row.set 2 (.sl 4 (((t.sl.map rL).drop 0).take t.sl.length)))=es.set i (rP t):=by rw[af h,List.drop_zero,ae];simp only[rP,h1,h2];rfl
theorem t8{ram swp:Pages}{s0 s1 s2 s3 s4:Space}{hd:Int}{i j:Nat}(w:Wf ⟨ram,swp,[s0,s1,s2,s3,s4],hd⟩):∃(ram' swp':Pages)(t0 t1 t2 t3 t4:Space)(hd':Int),(bE ⟨ram,swp,[s0,s1,s2,s3,s4],hd⟩ i j).getD ⟨ram,swp,[s0,s1,s2,s3,s4],hd⟩=⟨ram',swp',[t0,t1,t2,t3,t4],hd'⟩∧(t0.lv=s0.lv∧t0.ar=s0.ar∧t0.sl.length=s0.sl.length)∧(t1.lv=s1.lv∧t1.ar=s1.ar∧t1.sl.length=s1.sl.length)∧(t2.lv=s2.lv∧t2.ar=s2.ar∧t2.sl.length=s2.sl.length)∧(t3.lv=s3.lv∧t3.ar=s3.ar∧t3.sl.length=s3.sl.length)∧(t4.lv=s4.lv∧t4.ar=s4.ar∧t4.sl.length=s4.sl.length):=by
 cases hb:bE ⟨ram,swp,[s0,s1,s2,s3,s4],hd⟩ i j with
 |none=>exact⟨_,_,_,_,_,_,_,_,rfl,⟨rfl,rfl,rfl⟩,⟨rfl,rfl,rfl⟩,⟨rfl,rfl,rfl⟩,⟨rfl,rfl,rfl⟩,⟨rfl,rfl,rfl⟩⟩
 |some m'=>obtain⟨h1,h2⟩:=dt w hb;obtain⟨ram',swp',sp',hd'⟩:=m';obtain⟨t0,t1,t2,t3,t4,rfl⟩:=zf (h1.trans rfl);exact⟨_,_,_,_,_,_,_,_,rfl,h2 0 (by simp) (by simp),h2 1 (by simp) (by simp),h2 2 (by simp) (by simp),h2 3 (by simp) (by simp),h2 4 (by simp) (by simp)⟩
theorem nJ{P:Prg}{ρ:List Nat}:∀t p,noJ t=some p→∃g,ρ[t]?=some g∧P.J g=some p:=fun t p e=>by simp[noJ]at e
end Go.Qm
namespace Go.Qm
open Go.Cq Go.Cq.D Go.RowKit Go.Proofs
set_option maxRecDepth 10000
theorem va{ram swp:Pages}{s0 s1 s2 s3 s4:Space}{hd but:Int}(w:Wf ⟨ram,swp,[s0,s1,s2,s3,s4],hd⟩):∃(ram' swp':Pages)(t0 t1 t2 t3 t4:Space)(hd':Int),(bF ⟨ram,swp,[s0,s1,s2,s3,s4],hd⟩ but).getD ⟨ram,swp,[s0,s1,s2,s3,s4],hd⟩=⟨ram',swp',[t0,t1,t2,t3,t4],hd'⟩∧(t0.lv=s0.lv∧t0.ar=s0.ar∧t0.sl.length=s0.sl.length)∧(t1.lv=s1.lv∧t1.ar=s1.ar∧t1.sl.length=s1.sl.length)∧(t2.lv=s2.lv∧t2.ar=s2.ar∧t2.sl.length=s2.sl.length)∧(t3.lv=s3.lv∧t3.ar=s3.ar∧t3.sl.length=s3.sl.length)∧(t4.lv=s4.lv∧t4.ar=s4.ar∧t4.sl.length=s4.sl.length):=by
 cases hb:bF ⟨ram,swp,[s0,s1,s2,s3,s4],hd⟩ but with
 |none=>exact⟨_,_,_,_,_,_,_,_,rfl,⟨rfl,rfl,rfl⟩,⟨rfl,rfl,rfl⟩,⟨rfl,rfl,rfl⟩,⟨rfl,rfl,rfl⟩,⟨rfl,rfl,rfl⟩⟩
 |some m'=>obtain⟨h1,h2⟩:=(bq w hb).same;obtain⟨ram',swp',sp',hd'⟩:=m';obtain⟨t0,t1,t2,t3,t4,rfl⟩:=zf (h1.trans rfl);exact⟨_,_,_,_,_,_,_,_,rfl,h2 0 (by simp) (by simp),h2 1 (by simp) (by simp),h2 2 (by simp) (by simp),h2 3 (by simp) (by simp),h2 4 (by simp) (by simp)⟩
theorem xp{m:Mem}{i j:Nat}{x:Slot}(hx:aK m i j=x)(hc:x.ow=false∧1<m.ram.rf[x.pl.toNat]?.getD 0)(hr:bF m x.pl=none):fB m i j=none:=by rw[fB,hx,if_pos hc,hr];rfl
theorem qj{m m1:Mem}{i j:Nat}{x:Slot}(hx:aK m i j=x)(hc:x.ow=false∧1<m.ram.rf[x.pl.toNat]?.getD 0)(hr:bF m x.pl=some m1):fB m i j=some {m1 with ram:=cI (aY m1.ram (aJ m1.ram.rf) (m1.ram.tx[x.pl.toNat]?.getD []) 1) x.pl.toNat,sp:=aF m1.sp i j {x with pl:=aJ m1.ram.rf,ow:=true}}:=by rw[fB,hx,if_pos hc,hr];rfl
theorem zZ{m m1:Mem}(w:Wf m){i j f:Nat}{x y:Slot}{p:Pages}(hi:i<m.sp.length)(hj:j<m.sp[i].sl.length)(hx:aK m i j=x)(hk:x.kd=1)(e1:x.pl=f)(hc:x.ow=false∧1<m.ram.rf[x.pl.toNat]?.getD 0)(hr:bF m x.pl=some m1)(hy:(⟨x.kd,(aJ m1.ram.rf:Int),true,x.us⟩:Slot)=y)(hf:f<m1.ram.tx.length)(hp:aY m1.ram (aJ m1.ram.rf) m1.ram.tx[f] 1=p):
  fB m i j=some ⟨cI p f,m1.swp,aF m1.sp i j y,m1.hd⟩∧Lw ⟨cI p f,m1.swp,aF m1.sp i j y,m1.hd⟩∧aK ⟨cI p f,m1.swp,aF m1.sp i j y,m1.hd⟩ i j=y∧((cI p f).tx[aJ m1.ram.rf]?.getD []).length=4:=by
 have ho:fB m i j=some ⟨cI p f,m1.swp,aF m1.sp i j y,m1.hd⟩:=by rw[qj hx hc hr,←hp,←hy];simp[e1,hf]
 obtain⟨w3,s3,hk3⟩:=w.own hi hj (by rw[hx];exact hk) ho;have ha:=(bq w hr).same;have hi1:i<m1.sp.length:=by rw[ha.1];exact hi
 have hj1:j<m1.sp[i].sl.length:=by rw[(ha.2 i hi hi1).2.2];exact hj
 have hi3:i< (aF m1.sp i j y).length:=by simpa [aF]using hi1
 obtain⟨a1,a2,a3⟩:=pq (x:=y) hi1 hj1;have hs:aK ⟨cI p f,m1.swp,aF m1.sp i j y,m1.hd⟩ i j=y:=by rw[bV a1 a2];exact a3
 obtain⟨k,r1, -, -,r4⟩:=(w3.slot a1 a2).1 hk3;rw[hs,←hy]at r1;have:k=aJ m1.ram.rf:=by simp only at r1;omega
 subst this;exact⟨ho,w3.L,hs,r4⟩
theorem kc{b0:DB}{E:List (List PV)}{ov ov':List (Nat×Nat×DC)}{H:DH}(h:∀i k,ab ov' i k=ab ov i k:=by
  intro i k;cases h:Nat.beq 2 k<;>simp only[ovS,ab,h,cond_true,cond_false]
  match i with
  |0=>rfl
  |1=>rfl
  |2=>rfl
  |3=>rfl
  |4=>rfl
  |n+5=>simp):iN ((0,b0)::(1,.arr 3 E ov)::H) ((0,b0)::(1,.arr 3 E ov')::H):=fun g=>by
 have hr:∀o:Option DB,qy o o:=fun o=>by cases o<;>simp only[qy];exact iY.refl _
 simp only[aW];split
 ·exact hr _
 ·split
  ·exact⟨rfl,rfl,h⟩
  ·exact hr _
set_option maxHeartbeats 8000000 in
theorem yZ(hc:vV)(b1 b2 b3 b4 b5:Bool)(m:Mem)(who a b:Int)(h:m.fits 1048576):bC Try.prog 38 [aM b1 b2 b3 b4 b5 m,.one (dI who),.one (dI a),.one (dI b)] (.tup [oM (dm m who a b).1,.one (dI (dm m who a b).2)]):=by
 refine aS hmix Try.func38 ok38 ?_;conv=>whnf
 refine aC [.pass] rfl rfl rfl (hc b1 b2 b3 b4 b5 m h) rfl ?_;conv=>whnf
 cases h1:cY m with
 |false=>
  (conv=>whnf)<;>repeat' first|(refine aE ?_;conv=>whnf)|(refine aD ?_;conv=>whnf)
  refine⟨?_,rfl⟩;simp[dm,h1,oM,fw,dI]
 |true=>
 (conv=>whnf)<;>repeat' first|(refine aE ?_;conv=>whnf)|(refine aD ?_;conv=>whnf)
 refine aC [.pass,.pass] rfl rfl rfl (aCV b1 b2 b3 b4 b5 m who (by have:=h.sp;omega)) rfl ?_
 (conv=>whnf)<;>repeat' first|(refine aE ?_;conv=>whnf)|(refine aD ?_;conv=>whnf)
 cases h2:fe m.sp who with
 |false=>
  (conv=>whnf)<;>repeat' first|(refine aE ?_;conv=>whnf)|(refine aD ?_;conv=>whnf)
  refine⟨?_,rfl⟩;simp[dm,h2,oM,fw,dI]
 |true=>
 (conv=>whnf)<;>repeat' first|(refine aE ?_;conv=>whnf)|(refine aD ?_;conv=>whnf)
 refine aC [.pass,.pass,.pass] rfl rfl rfl (je a 0 63) rfl ?_
 (conv=>whnf)<;>repeat' first|(refine aE ?_;conv=>whnf)|(refine aD ?_;conv=>whnf)
 cases h3:inB a 0 63 with
 |false=>
  (conv=>whnf)<;>repeat' first|(refine aE ?_;conv=>whnf)|(refine aD ?_;conv=>whnf)
  refine⟨?_,rfl⟩;simp[dm,h3,oM,fw,dI]
 |true=>
 (conv=>whnf)<;>repeat' first|(refine aE ?_;conv=>whnf)|(refine aD ?_;conv=>whnf)
 refine aC [.pass,.pass,.pass] rfl rfl rfl (je b 0 255) rfl ?_
 (conv=>whnf)<;>repeat' first|(refine aE ?_;conv=>whnf)|(refine aD ?_;conv=>whnf)
 cases h5:inB b 0 255 with
 |false=>
  (conv=>whnf)<;>repeat' first|(refine aE ?_;conv=>whnf)|(refine aD ?_;conv=>whnf)
  refine⟨?_,rfl⟩;simp[dm,h5,oM,fw,dI]
 |true=>
 have h4:=h3;simp only[inB,Bool.and_eq_true,decide_eq_true_eq]at h4;obtain⟨c,rfl⟩:=Int.eq_ofNat_of_zero_le h4.1;obtain⟨i,rfl,hi,hlv⟩:=gC h2;obtain⟨ha,hal,hsl⟩:=mf h1 hi hlv;have hae:gb m i=m.sp[i].ar:=by simp[gb,hi]
 have hget:dm m i c b=cE m i c b:=by simp[dm,h1,h2,h3,h5]
 have hat:dZ m.sp[i].ar ((c / 4:Nat):Int)=bA m.sp[i].ar ((c / 4:Nat):Int):=by rw[dZ,if_pos ha]
 obtain⟨at_,hate⟩:∃at_,bA m.sp[i].ar ((c / 4:Nat):Int)=at_:=⟨_,rfl⟩;rw[hate]at hat;rw[hget]
 (conv=>whnf)<;>repeat' first|(refine aE ?_;conv=>whnf)|(refine aD ?_;conv=>whnf)
 refine aC [.pass] rfl rfl rfl (kP b1 b2 b3 b4 b5 m h) rfl ?_;conv=>whnf
 refine fp rfl ?_;conv=>whnf
 simp only[aDU (show c≤1000 by omega)];refine aN (k:=i) rfl rfl (by simpa using hi) ?_;conv=>whnf
 refine aH rfl (r:=.one (.ro b5 4 (m.sp[i].ar.map rA))) (by simp[ak,rP,hi]) ?_;conv=>whnf
 refine aC [.pass,.pass] rfl rfl rfl (lq b5 m.sp[i].ar ((c / 4:Nat):Int) (by omega)) rfl ?_;conv=>whnf
 rw[hat];refine CondP.mk (fun c1=>?_) (fun c1=>?_)<;>conv=>whnf
 ·have c1:at_<0:=by simpa using c1
  refine⟨?_,rfl⟩;rw[cE,hae,hate,if_pos c1];simp[oM,dI]
 have c1:¬at_<0:=by simpa using c1
 have hlt:at_.toNat<m.sp[i].ar.length:=by rw[←hate];exact iv (by omega)
 refine aN (k:=i) rfl rfl (by simpa using hi) ?_;conv=>whnf
 refine aH rfl (r:=.one (.ro b5 4 (m.sp[i].ar.map rA))) (by simp[ak,rP,hi]) ?_;conv=>whnf
 refine aN (k:=at_.toNat) rfl (by show some at_=_;congr 1;omega) (by simpa using hlt) ?_;conv=>whnf
 refine aH rfl (r:=.one (dB m.sp[i].ar[at_.toNat].wr)) (by simp[ak,rA,hlt,eB,dB]) ?_;conv=>whnf
 have hwr:aBA m.sp[i].ar at_=m.sp[i].ar[at_.toNat].wr:=by simp[aBA,hlt]
 refine CondP.mk (fun c2=>?_) (fun c2=>?_)<;>conv=>whnf
 ·have c2:m.sp[i].ar[at_.toNat].wr=false:=by simpa using c2
  refine⟨?_,rfl⟩;rw[cE,hae,hate,if_neg c1,hwr,if_pos c2];simp[oM,dI]
 have c2:¬m.sp[i].ar[at_.toNat].wr=false:=by simpa using c2
 have hset:cE m i c b=match(bE m i (c / 4)).bind fun m1=>fB m1 i (c / 4)with
  |none=>(m,4)
  |some m2=>(i9 m2 (aK m2 i (c / 4)).pl.toNat (c % 4) b,0):=by rw[cE,hae,hate,if_neg c1,hwr,if_neg c2]<;>rfl
 have w:=m0 h1;have hj:c / 4<m.sp[i].sl.length:=by omega
 simp only[List.drop_zero,List.take_length];have hfits:=h;obtain⟨ram,swp,sp,hd⟩:=m;obtain⟨s0,s1,s2,s3,s4,rfl⟩:=zf w.sp;have hcall:=aAt ([s0,s1,s2,s3,s4].map rP) ⟨ram,swp,[s0,s1,s2,s3,s4],hd⟩ i (c / 4) w rfl (by simp[rP]) hi hj;obtain⟨ram',swp',t0,t1,t2,t3,t4,hd',hm',p0,p1,p2,p3,p4⟩:=t8 (i:=i) (j:=c / 4) w;rw[hm']at hcall;refine jB (Hr:=oHm ([s0,s1,s2,s3,s4].map rP) ⟨ram',swp',[t0,t1,t2,t3,t4],hd'⟩) (r:=.v (.one (dB (bE ⟨ram,swp,[s0,s1,s2,s3,s4],hd⟩ i (c / 4)).isSome))) [.h 2 0 4,.h 3 4 2,.h 3 3 2,.h 3 2 2,.h 3 1 2,.h 3 0 2] [.pass,.pass,.pass] [2,3,8,7,6,5,4] noJ nJ rfl ?_;conv=>whnf
 simp only[List.length_map];refine⟨_,_,_,_,rfl,rfl,rfl,rfl,hcall.toJ,(bh rfl rfl (by rfl) rfl).trans ((gu rfl rfl (by rfl) rfl).trans ((aO rfl rfl (by simp[spS,p0.2.2])).trans ((aO rfl rfl (by simp[spS,p1.2.2])).trans ((aO rfl rfl (by simp[spS,p2.2.2])).trans ((aO rfl rfl (by simp[spS,p3.2.2])).trans ((aO rfl rfl (by simp[spS,p4.2.2])).trans rfl)))))),?_⟩;conv=>whnf
 refine aR (lo:=0) (len:=t0.sl.length) rfl rfl rfl rfl (bN (t:=t0) rfl p0.1 p0.2.1) rfl ?_;conv=>whnf
 refine aR (lo:=0) (len:=t1.sl.length) rfl rfl rfl rfl (bN (t:=t1) rfl p1.1 p1.2.1) rfl ?_;conv=>whnf
 refine aR (lo:=0) (len:=t2.sl.length) rfl rfl rfl rfl (bN (t:=t2) rfl p2.1 p2.2.1) rfl ?_;conv=>whnf
 refine aR (lo:=0) (len:=t3.sl.length) rfl rfl rfl rfl (bN (t:=t3) rfl p3.1 p3.2.1) rfl ?_;conv=>whnf
 refine aR (lo:=0) (len:=t4.sl.length) (es2:=[t0,t1,t2,t3,t4].map rP) rfl rfl rfl rfl ((bN (t:=t4) rfl p4.1 p4.2.1).trans rfl) rfl ?_;conv=>whnf
 cases hb:bE ⟨ram,swp,[s0,s1,s2,s3,s4],hd⟩ i (c / 4)with
 |none=>
  rw[hb]at hset
  (conv=>whnf)<;>repeat' first|(refine aE ?_;conv=>whnf)|(refine aD ?_;conv=>whnf)
  refine aC [.pass] rfl rfl rfl (kP b1 b2 b3 b4 b5 ⟨ram,swp,[s0,s1,s2,s3,s4],hd⟩ hfits) rfl ?_;conv=>whnf
  refine⟨?_,rfl⟩;rw[hset];simp[oM,dI]
 |some m1=>
  rw[hb,Option.getD_some]at hm';rw[hb,Option.bind_some]at hset;obtain⟨hi1,hj1,hk1⟩:=fy w hi hj hb;have w1:=w.jk hi hj hb;have l1:=w1.L
  (conv=>whnf)<;>repeat' first|(refine aE ?_;conv=>whnf)|(refine aD ?_;conv=>whnf)
  subst hm';have ht5:List.take 5 (List.map rP [t0,t1,t2,t3,t4])=List.map rP [t0,t1,t2,t3,t4]:=rfl;dsimp only;simp only[List.drop_zero,ht5];clear p0 p1 p2 p3 p4 hcall ht5;generalize hT:[t0,t1,t2,t3,t4]=T at*;have hx1:=bV (m:=⟨ram',swp',T,hd'⟩) hi1 hj1;dsimp only at hi1 hj1 hk1 hx1;have hg1:=ai (f:=rP) (List.getElem?_eq_getElem hi1);obtain⟨x,hx⟩:∃x,T[i].sl[c / 4]=x:=⟨_,rfl⟩;rw[hx]at hx1 hk1;have hxg:(T[i].sl.map rL)[c / 4]?=some (rL x):=by simp[hj1,hx]
  obtain⟨f,e1,f12, -,e4⟩:=(w1.slot hi1 hj1).1 (by rw[hx1];exact hk1);rw[hx1]at e1;dsimp only at e4;have hft:f<ram'.tx.length:=by rw[l1.rt];exact f12
  have hfr:f<ram'.rf.length:=by rw[l1.rr];exact f12
  have hrf:ram'.rf[f]?.getD 0=ram'.rf[f]:=by simp[hfr]
  refine aB (k:=i) rfl rfl rfl (by simpa using hi1) ?_;conv=>whnf
  refine cK (i:=i) (k:=2) (sz':=4) (es':=T[i].sl.map rL) T[i].sl.length rfl rfl rfl (aT hg1 rfl rfl rfl) rfl (by simp) ?_;conv=>whnf
  refine aB (k:=c / 4) rfl rfl rfl hj1 ?_;conv=>whnf
  refine bR rfl rfl rfl (aT hxg rfl rfl rfl) rfl ?_;conv=>whnf
  obtain⟨y,hy⟩:∃y,(⟨x.kd,x.pl,true,x.us⟩:Slot)=y:=⟨_,rfl⟩;have hyp:y.pl=f:=by rw[←hy];exact e1
  have hyg:((T[i].sl.set (c / 4) y).map rL)[c / 4]?=some (rL y):=by rw[List.getElem?_map,List.getElem?_set_self hj1];rfl
  have hLy:(T[i].sl.map rL).modify (c / 4) (fun row=>row.set 2 (.sc (.bool true)))=(T[i].sl.set (c / 4) y).map rL:=by rw[af hxg,←map_set,←hy];rfl
  have hTy:(T.map rP).modify i (fun row=>row.set 2 (.sl 4 ((((T[i].sl.set (c / 4) y).map rL).drop 0).take T[i].sl.length)))=(aF T i (c / 4) y).map rP:=by rw[List.drop_zero,List.take_of_length_le (by simp),←map_set];exact bf hi1
  have hslot:(aK ⟨ram',swp',aF T i (c / 4) y,hd'⟩ i (c / 4)).pl=f:=by rw[show aK ⟨ram',swp',aF T i (c / 4) y,hd'⟩ i (c / 4)=y by simp[aK,aF,hi1,hj1]];exact hyp
  have gt:ram'.tx[f]?.getD []=ram'.tx[f]:=by simp[hft]
  rw[gt]at e4;refine CondP.mk (fun c3=>?ca) (fun c3=>?cb)<;>rw[c3]<;>(conv=>whnf)<;>repeat' first|(refine aE ?_;conv=>whnf)|(refine aD ?_;conv=>whnf)
  case' ca=>
   have c3:x.ow=false:=by simpa using c3
   refine bR rfl rfl rfl (aT hxg rfl rfl rfl) rfl ?_
   (conv=>whnf)<;>repeat' first|(refine aE ?_;conv=>whnf)|(refine aD ?_;conv=>whnf)
   refine aB (k:=f) rfl rfl (by show some _=some _;rw[e1]) (by simpa using hfr) ?_
   (conv=>whnf)<;>repeat' first|(refine aE ?_;conv=>whnf)|(refine aD ?_;conv=>whnf)
   refine bR rfl rfl rfl (aT (row:=rI ram'.rf[f]) (by simp[hfr]) rfl rfl rfl) rfl ?_
   (conv=>whnf)<;>repeat' first|(refine aE ?_;conv=>whnf)|(refine aD ?_;conv=>whnf)
   refine CondP.mk (fun c4=>?cr) (fun c4=>?cc)<;>conv=>whnf
   case' cc=>
    have c4:¬1<ram'.rf[f]:=by simpa using c4
    have ho:fB ⟨ram',swp',T,hd'⟩ i (c / 4)=some ⟨ram',swp',aF T i (c / 4) y,hd'⟩:=by rw[fB,hx1,if_neg (fun c=>c4 (by have:=c.2;rw[e1,Int.toNat_natCast,hrf]at this;exact this)),←hy]
    simp only[List.drop_zero,List.take_length]
  case' cb=>
   have c3:x.ow=true:=by simpa using c3
   have ho:fB ⟨ram',swp',T,hd'⟩ i (c / 4)=some ⟨ram',swp',aF T i (c / 4) y,hd'⟩:=by rw[fB,hx1,if_neg (fun c=>by rw[c3]at c;exact absurd c.1 (by decide)),←hy]
  case cr=>
   have c3:x.ow=false:=by simpa using c3
   have c4:1<ram'.rf[f]:=by simpa using c4
   have hcond:x.ow=false∧1<ram'.rf[x.pl.toNat]?.getD 0:=⟨c3,by rw[e1,Int.toNat_natCast,hrf];exact c4⟩;refine bR rfl rfl rfl (aT hxg rfl rfl rfl) rfl ?_;conv=>whnf
   simp only[List.drop_zero,List.take_length];clear hyg hLy hTy hslot;have hroom:=sM (T.map rP) ⟨ram',swp',T,hd'⟩ x.pl w1 (by simp[l1.sp]) (by simp[rP]);subst hT;obtain⟨ram2,swp2,u0,u1,u2,u3,u4,hd2,hm2,p0,p1,p2,p3,p4⟩:=va (but:=x.pl) w1;rw[hm2]at hroom;have hi5:i<5:=by simpa using hi1
   obtain⟨W,hW⟩:∃W,([u0,u1,u2,u3,u4].map rP).set i (rP ([t0,t1,t2,t3,t4][i]))=W:=⟨_,rfl⟩;have hsame:cJ [t0,t1,t2,t3,t4] [u0,u1,u2,u3,u4]:=⟨rfl,fun q h h'=>by
    have hc:q=0∨q=1∨q=2∨q=3∨q=4:=by simp at h;omega
    rcases hc with rfl|rfl|rfl|rfl|rfl
    ·exact p0
    ·exact p1
    ·exact p2
    ·exact p3
    ·exact p4⟩
   have hiU:i< [u0,u1,u2,u3,u4].length:=by simpa using hi5
   obtain⟨y2,hy2⟩:∃y2,(⟨x.kd,(aJ ram2.rf:Int),true,x.us⟩:Slot)=y2:=⟨_,rfl⟩;obtain⟨S,hS⟩:∃S,spS [u0,u1,u2,u3,u4] i=S:=⟨_,rfl⟩;have hSU:[u0,u1,u2,u3,u4][i].sl=S:=by rw[←hS,ic hiU]
   have hWg:W[i]?=some (rP ([t0,t1,t2,t3,t4][i])):=by rw[←hW];exact List.getElem?_set_self (by simpa using hi5)
   have hW2:W.modify i (fun row=>row.set 2 (.sl 4 ((((S.set (c / 4) y2).map rL).drop 0).take S.length)))=(aF [u0,u1,u2,u3,u4] i (c / 4) y2).map rP:=by rw[←hSU];obtain⟨q1,q2, -⟩:=hsame.2 i hi1 hiU;rw[af hWg,←hW,List.set_set,List.drop_zero,List.take_of_length_le (by simp),←bf hiU,af (ai (f:=rP) (List.getElem?_eq_getElem hiU)),←map_set];simp only[rP,q1,q2];rfl
   have hc:i=0∨i=1∨i=2∨i=3∨i=4:=by omega
   rcases hc with rfl|rfl|rfl|rfl|rfl
   case' inl=>
    refine jB (Hr:=oHm ([t0,t1,t2,t3,t4].map rP) ⟨ram2,swp2,[u0,u1,u2,u3,u4],hd2⟩) (r:=.tup [.one (dI (iE ⟨ram',swp',[t0,t1,t2,t3,t4],hd'⟩ x.pl)),.one (dB (bF ⟨ram',swp',[t0,t1,t2,t3,t4],hd'⟩ x.pl).isSome)]) [.h 3 4 2,.h 3 3 2,.h 3 2 2,.h 3 1 2] [.pass,.pass] [2,3,4,8,7,6,5] noJ nJ rfl ?_;conv=>whnf
    simp only[List.length_map];refine⟨_,_,_,_,rfl,rfl,rfl,rfl,(hroom.perm kc).toJ,(bh rfl rfl (by rfl) rfl).trans ((gu rfl rfl (by rfl) rfl).trans ((aO rfl rfl (by simp[spS,p0.2.2])).trans ((aO rfl rfl (by simp[spS,p1.2.2])).trans ((aO rfl rfl (by simp[spS,p2.2.2])).trans ((aO rfl rfl (by simp[spS,p3.2.2])).trans ((aO rfl rfl (by simp[spS,p4.2.2])).trans rfl)))))),?_⟩;conv=>whnf
    refine aR (lo:=0) (len:=u1.sl.length) rfl rfl rfl rfl (bN (t:=u1) rfl p1.1 p1.2.1) rfl ?_;conv=>whnf
    refine aR (lo:=0) (len:=u2.sl.length) rfl rfl rfl rfl (bN (t:=u2) rfl p2.1 p2.2.1) rfl ?_;conv=>whnf
    refine aR (lo:=0) (len:=u3.sl.length) rfl rfl rfl rfl (bN (t:=u3) rfl p3.1 p3.2.1) rfl ?_;conv=>whnf
    refine aR (lo:=0) (len:=u4.sl.length) (es2:=W) rfl rfl rfl rfl ((bN (t:=u4) rfl p4.1 p4.2.1).trans hW) rfl ?_;conv=>whnf
   case' inr.inl=>
    refine jB (Hr:=oHm ([t0,t1,t2,t3,t4].map rP) ⟨ram2,swp2,[u0,u1,u2,u3,u4],hd2⟩) (r:=.tup [.one (dI (iE ⟨ram',swp',[t0,t1,t2,t3,t4],hd'⟩ x.pl)),.one (dB (bF ⟨ram',swp',[t0,t1,t2,t3,t4],hd'⟩ x.pl).isSome)]) [.h 3 4 2,.h 3 3 2,.h 3 2 2,.h 3 0 2] [.pass,.pass] [2,3,8,4,7,6,5] noJ nJ rfl ?_;conv=>whnf
    simp only[List.length_map];refine⟨_,_,_,_,rfl,rfl,rfl,rfl,(hroom.perm kc).toJ,(bh rfl rfl (by rfl) rfl).trans ((gu rfl rfl (by rfl) rfl).trans ((aO rfl rfl (by simp[spS,p0.2.2])).trans ((aO rfl rfl (by simp[spS,p1.2.2])).trans ((aO rfl rfl (by simp[spS,p2.2.2])).trans ((aO rfl rfl (by simp[spS,p3.2.2])).trans ((aO rfl rfl (by simp[spS,p4.2.2])).trans rfl)))))),?_⟩;conv=>whnf
    refine aR (lo:=0) (len:=u0.sl.length) rfl rfl rfl rfl (bN (t:=u0) rfl p0.1 p0.2.1) rfl ?_;conv=>whnf
    refine aR (lo:=0) (len:=u2.sl.length) rfl rfl rfl rfl (bN (t:=u2) rfl p2.1 p2.2.1) rfl ?_;conv=>whnf
    refine aR (lo:=0) (len:=u3.sl.length) rfl rfl rfl rfl (bN (t:=u3) rfl p3.1 p3.2.1) rfl ?_;conv=>whnf
    refine aR (lo:=0) (len:=u4.sl.length) (es2:=W) rfl rfl rfl rfl ((bN (t:=u4) rfl p4.1 p4.2.1).trans hW) rfl ?_;conv=>whnf
   case' inr.inr.inl=>
    refine jB (Hr:=oHm ([t0,t1,t2,t3,t4].map rP) ⟨ram2,swp2,[u0,u1,u2,u3,u4],hd2⟩) (r:=.tup [.one (dI (iE ⟨ram',swp',[t0,t1,t2,t3,t4],hd'⟩ x.pl)),.one (dB (bF ⟨ram',swp',[t0,t1,t2,t3,t4],hd'⟩ x.pl).isSome)]) [.h 3 4 2,.h 3 3 2,.h 3 1 2,.h 3 0 2] [.pass,.pass] [2,3,8,7,4,6,5] noJ nJ rfl ?_;conv=>whnf
    simp only[List.length_map];refine⟨_,_,_,_,rfl,rfl,rfl,rfl,(hroom.perm kc).toJ,(bh rfl rfl (by rfl) rfl).trans ((gu rfl rfl (by rfl) rfl).trans ((aO rfl rfl (by simp[spS,p0.2.2])).trans ((aO rfl rfl (by simp[spS,p1.2.2])).trans ((aO rfl rfl (by simp[spS,p2.2.2])).trans ((aO rfl rfl (by simp[spS,p3.2.2])).trans ((aO rfl rfl (by simp[spS,p4.2.2])).trans rfl)))))),?_⟩;conv=>whnf
    refine aR (lo:=0) (len:=u0.sl.length) rfl rfl rfl rfl (bN (t:=u0) rfl p0.1 p0.2.1) rfl ?_;conv=>whnf
    refine aR (lo:=0) (len:=u1.sl.length) rfl rfl rfl rfl (bN (t:=u1) rfl p1.1 p1.2.1) rfl ?_;conv=>whnf
    refine aR (lo:=0) (len:=u3.sl.length) rfl rfl rfl rfl (bN (t:=u3) rfl p3.1 p3.2.1) rfl ?_;conv=>whnf
    refine aR (lo:=0) (len:=u4.sl.length) (es2:=W) rfl rfl rfl rfl ((bN (t:=u4) rfl p4.1 p4.2.1).trans hW) rfl ?_;conv=>whnf
   case' inr.inr.inr.inl=>
    refine jB (Hr:=oHm ([t0,t1,t2,t3,t4].map rP) ⟨ram2,swp2,[u0,u1,u2,u3,u4],hd2⟩) (r:=.tup [.one (dI (iE ⟨ram',swp',[t0,t1,t2,t3,t4],hd'⟩ x.pl)),.one (dB (bF ⟨ram',swp',[t0,t1,t2,t3,t4],hd'⟩ x.pl).isSome)]) [.h 3 4 2,.h 3 2 2,.h 3 1 2,.h 3 0 2] [.pass,.pass] [2,3,8,7,6,4,5] noJ nJ rfl ?_;conv=>whnf
    simp only[List.length_map];refine⟨_,_,_,_,rfl,rfl,rfl,rfl,(hroom.perm kc).toJ,(bh rfl rfl (by rfl) rfl).trans ((gu rfl rfl (by rfl) rfl).trans ((aO rfl rfl (by simp[spS,p0.2.2])).trans ((aO rfl rfl (by simp[spS,p1.2.2])).trans ((aO rfl rfl (by simp[spS,p2.2.2])).trans ((aO rfl rfl (by simp[spS,p3.2.2])).trans ((aO rfl rfl (by simp[spS,p4.2.2])).trans rfl)))))),?_⟩;conv=>whnf
    refine aR (lo:=0) (len:=u0.sl.length) rfl rfl rfl rfl (bN (t:=u0) rfl p0.1 p0.2.1) rfl ?_;conv=>whnf
    refine aR (lo:=0) (len:=u1.sl.length) rfl rfl rfl rfl (bN (t:=u1) rfl p1.1 p1.2.1) rfl ?_;conv=>whnf
    refine aR (lo:=0) (len:=u2.sl.length) rfl rfl rfl rfl (bN (t:=u2) rfl p2.1 p2.2.1) rfl ?_;conv=>whnf
    refine aR (lo:=0) (len:=u4.sl.length) (es2:=W) rfl rfl rfl rfl ((bN (t:=u4) rfl p4.1 p4.2.1).trans hW) rfl ?_;conv=>whnf
   case' inr.inr.inr.inr=>
    refine jB (Hr:=oHm ([t0,t1,t2,t3,t4].map rP) ⟨ram2,swp2,[u0,u1,u2,u3,u4],hd2⟩) (r:=.tup [.one (dI (iE ⟨ram',swp',[t0,t1,t2,t3,t4],hd'⟩ x.pl)),.one (dB (bF ⟨ram',swp',[t0,t1,t2,t3,t4],hd'⟩ x.pl).isSome)]) [.h 3 3 2,.h 3 2 2,.h 3 1 2,.h 3 0 2] [.pass,.pass] [2,3,8,7,6,5,4] noJ nJ rfl ?_;conv=>whnf
    simp only[List.length_map];refine⟨_,_,_,_,rfl,rfl,rfl,rfl,(hroom.perm kc).toJ,(bh rfl rfl (by rfl) rfl).trans ((gu rfl rfl (by rfl) rfl).trans ((aO rfl rfl (by simp[spS,p0.2.2])).trans ((aO rfl rfl (by simp[spS,p1.2.2])).trans ((aO rfl rfl (by simp[spS,p2.2.2])).trans ((aO rfl rfl (by simp[spS,p3.2.2])).trans ((aO rfl rfl (by simp[spS,p4.2.2])).trans rfl)))))),?_⟩;conv=>whnf
    refine aR (lo:=0) (len:=u0.sl.length) rfl rfl rfl rfl (bN (t:=u0) rfl p0.1 p0.2.1) rfl ?_;conv=>whnf
    refine aR (lo:=0) (len:=u1.sl.length) rfl rfl rfl rfl (bN (t:=u1) rfl p1.1 p1.2.1) rfl ?_;conv=>whnf
    refine aR (lo:=0) (len:=u2.sl.length) rfl rfl rfl rfl (bN (t:=u2) rfl p2.1 p2.2.1) rfl ?_;conv=>whnf
    refine aR (lo:=0) (len:=u3.sl.length) (es2:=W) rfl rfl rfl rfl ((bN (t:=u3) rfl p3.1 p3.2.1).trans hW) rfl ?_;conv=>whnf
   all_goals
    cases hr:bF ⟨ram',swp',[t0,t1,t2,t3,t4],hd'⟩ x.pl with
    |none=>
     have ho:=xp hx1 hcond hr;rw[ho]at hset
     (conv=>whnf)<;>repeat' first|(refine aE ?_;conv=>whnf)|(refine aD ?_;conv=>whnf)
     refine aC [.pass] rfl rfl rfl (kP b1 b2 b3 b4 b5 ⟨ram,swp,[s0,s1,s2,s3,s4],hd⟩ hfits) rfl ?_;conv=>whnf
     refine aR (lo:=0) rfl (ah hWg (by simp[rP]) (by simp only[ab,if_true];rfl)) rfl rfl rfl (by simp only[ag,if_true];rfl) ?_;conv=>whnf
     refine⟨?_,rfl⟩;rw[hset];simp[oM,dI]
    |some m2=>
     rw[hr,Option.getD_some]at hm2;subst hm2;obtain⟨w2,hf⟩:=w1.bF hr;have l2:=w2.L;dsimp only at hf;have ho:=qj hx1 hcond hr;rw[ho]at hset;obtain⟨hi2,hj2,ex2, -⟩:=eU (bq w1 hr) hi1 hj1 (.inr (by rw[hx1]));rw[hx1]at ex2;have hj2:c / 4<S.length:=by rw[←hSU];exact hj2
     have hxg2:(S.map rL)[c / 4]?=some (rL x):=by rw[←ex2];simp only[←hSU];exact ai (f:=rL) (List.getElem?_eq_getElem _)
     have hL2:((S.map rL).modify (c / 4) (fun row=>row.set 1 (.sc (.int .i64 (aJ ram2.rf:Int))))).modify (c / 4) (fun row=>row.set 2 (.sc (.bool true)))=(S.set (c / 4) y2).map rL:=by rw[af hxg2,af (List.getElem?_set_self (by simpa using hj2)),List.set_set,←map_set,←hy2];rfl
     have hyg2:((S.set (c / 4) y2).map rL)[c / 4]?=some (rL y2):=by rw[List.getElem?_map,List.getElem?_set_self hj2];rfl
     dsimp only;rw[hS];have hF:iE ⟨ram',swp',[t0,t1,t2,t3,t4],hd'⟩ x.pl=(aJ ram2.rf:Int):=by rw[iE,hr]
     have hft2:f<ram2.tx.length:=by rw[l2.rt];exact f12
     have hFt:aJ ram2.rf<ram2.tx.length:=by rw[l2.rt];exact hf
     have hFr:aJ ram2.rf<ram2.rf.length:=by rw[l2.rr];exact hf
     (conv=>whnf)<;>repeat' first|(refine aE ?_;conv=>whnf)|(refine aD ?_;conv=>whnf)
     refine bR rfl rfl rfl (aT hxg2 rfl rfl rfl) rfl ?_;conv=>whnf
     refine aB (k:=f) rfl rfl (by show some _=some _;rw[e1]) (by simpa using hft2) ?_;conv=>whnf
     refine bR rfl rfl rfl (aT (row:=rS ram2.tx[f]) (by simp[hft2]) rfl rfl rfl) rfl ?_;conv=>whnf
     refine aB (k:=aJ ram2.rf) rfl rfl (by show some _=some _;rw[hF]) (by simpa using hFt) ?_;conv=>whnf
     refine aI rfl rfl rfl (by simpa using hFt) (by decide) ?_;conv=>whnf
     refine aB (k:=aJ ram2.rf) rfl rfl (by show some _=some _;rw[hF]) (by simpa using hFr) ?_;conv=>whnf
     refine aI rfl rfl rfl (by simpa using hFr) (by decide) ?_;conv=>whnf
     have hne:aJ ram2.rf≠f:=fun e=>by have:=u6 (f:=f) w1 (by rw[←e1];exact hr);have h0:=eV hFr;rw[e,this]at h0;dsimp only at h0;omega
     obtain⟨q,hq⟩:∃q,aY ram2 (aJ ram2.rf) ram2.tx[f] 1=q:=⟨_,rfl⟩;have hqt:ram2.tx.set (aJ ram2.rf) ram2.tx[f]=q.tx:=by rw[←hq];rfl
     have hqr:ram2.rf.set (aJ ram2.rf) 1=q.rf:=by rw[←hq];rfl
     have hql:q.tx.length=ram2.tx.length:=by rw[←hqt,List.length_set]
     have hqm:q.rf.length=ram2.rf.length:=by rw[←hqr,List.length_set]
     dsimp only;rw[gR hFt,iD hFr,hqt,hqr,hF];simp only[List.drop_zero,List.length_map,fY hql,fY hqm];have hq1:f<q.tx.length:=by omega
     have hq2:f<q.rf.length:=by rw[hqm,l2.rr];exact f12
     have hqb:0≤q.rf[f]?.getD 0∧q.rf[f]?.getD 0≤1000:=by rw[←hq];exact(w2.ram.take (t:=ram2.tx[f]) (n:=1) (k:=aJ ram2.rf) (by decide)).get
     rw[show q.rf[f]?.getD 0=q.rf[f] by simp[hq2]]at hqb;refine bR rfl rfl rfl (aT hxg2 rfl rfl rfl) rfl ?_;conv=>whnf
     have hgv:=fun i jw es2=>aBe ⟨q,swp2,[],hd2⟩ f 5 i jw W es2 hq1 hq2 (by show-1000≤q.rf[f]∧q.rf[f]≤1000;omega)
     rw[←e1]at hgv;refine b8 [.pass,.pass] [2,3,4] rfl rfl rfl rfl (hgv _ _ _) rfl ((bh rfl rfl (by rfl) rfl).trans ((gu rfl rfl (by rfl) rfl).trans ((aO rfl rfl (by rfl)).trans rfl))) ?_;conv=>whnf
     refine aI rfl rfl rfl (by simpa using hj2) (by decide) ?_;conv=>whnf
     refine aI rfl rfl rfl (by simpa using hj2) (by decide) ?_;conv=>whnf
     rw[hL2];obtain⟨ho',l3,hy3,r4⟩:=zZ w1 hi1 hj1 hx1 hk1 e1 hcond hr hy2 hft2 hq;rw[ho']at ho;rw[←Option.some.inj ho]at hset;have h3t:=l3.rt;have h3r:=l3.rr;have h3s:=l3.sp;dsimp only at h3t h3r h3s r4 hy3;obtain⟨g,hg⟩:∃g,cI q f=g:=⟨_,rfl⟩;rw[hg]at h3t h3r hy3 r4 hset;dsimp only;rw[hg];have hFg:aJ ram2.rf<g.tx.length:=by rw[h3t];exact hf
     have gtF:g.tx[aJ ram2.rf]?.getD []=g.tx[aJ ram2.rf]:=by simp[hFg]
     rw[gtF]at r4;refine bR rfl rfl rfl (aT hyg2 rfl rfl rfl) rfl ?_;conv=>whnf
     refine bR rfl rfl rfl (aT hyg2 rfl rfl rfl) rfl ?_;conv=>whnf
     refine aB (k:=aJ ram2.rf) rfl rfl (by show some _=some _;rw[←hy2]) (by simpa using hFg) ?_;conv=>whnf
     refine bR rfl rfl rfl (aT (row:=rS g.tx[aJ ram2.rf]) (by simp[hFg]) rfl rfl rfl) rfl ?_;conv=>whnf
     refine fp rfl ?_;conv=>whnf
     simp only[aBv];refine aC [.pass,.pass,.pass] rfl rfl rfl (xC g.tx[aJ ram2.rf] (c % 4) b (by omega)) rfl ?_;conv=>whnf
     refine aB (k:=aJ ram2.rf) rfl rfl (by show some _=some _;rw[←hy2]) (by simpa using hFg) ?_;conv=>whnf
     refine aI rfl rfl rfl (by simpa using hFg) (by decide) ?_;conv=>whnf
     refine aR (lo:=0) (len:=S.length) rfl (ah hWg (by simp[rP]) (by simp only[ab,if_true];rfl)) rfl rfl hW2 (by simp only[ag,if_true];rfl) ?_;conv=>whnf
     rw[gR hFg,hset];refine⟨?_,rfl⟩;have hyp2:y2.pl=(aJ ram2.rf:Int):=by rw[←hy2]
     simp only[hy3,hyp2,Int.toNat_natCast,i9,gtF];obtain⟨X,hX⟩:∃X,g.tx.set (aJ ram2.rf) (mA g.tx[aJ ram2.rf] (c % 4) b)=X:=⟨_,rfl⟩;have hXl:X.length=g.tx.length:=by rw[←hX,List.length_set]
     rw[hX];simp[oM,dI,hXl,fY hXl,h3s,fY h3s]
  all_goals
   rw[ho]at hset;refine aI rfl rfl rfl (by simpa using hj1) (by decide) ?_;conv=>whnf
   rw[hLy];refine bR rfl rfl rfl (aT hyg rfl rfl rfl) rfl ?_;conv=>whnf
   refine bR rfl rfl rfl (aT hyg rfl rfl rfl) rfl ?_;conv=>whnf
   refine aB (k:=f) rfl rfl (by show some _=some _;rw[hyp]) (by simpa using hft) ?_;conv=>whnf
   refine bR rfl rfl rfl (aT (row:=rS ram'.tx[f]) (by simp[hft]) rfl rfl rfl) rfl ?_;conv=>whnf
   refine fp rfl ?_;conv=>whnf
   simp only[aBv];refine aC [.pass,.pass,.pass] rfl rfl rfl (xC ram'.tx[f] (c % 4) b (by omega)) rfl ?_;conv=>whnf
   refine aB (k:=f) rfl rfl (by show some _=some _;rw[hyp]) (by simpa using hft) ?_;conv=>whnf
   refine aI rfl rfl rfl (by simpa using hft) (by decide) ?_;conv=>whnf
   refine aR (i:=i) (k:=2) (g':=4) (lo:=0) (len:=T[i].sl.length) (es2:=(aF T i (c / 4) y).map rP) (ov2:=[]) rfl (ah hg1 (by simp[rP]) (by simp only[ab,if_true];rfl)) rfl rfl hTy (by simp only[ag,if_true];rfl) ?_;conv=>whnf
   rw[gR hft,hset];refine⟨?_,rfl⟩;simp only[hslot,Int.toNat_natCast,i9,gt];obtain⟨X,hX⟩:∃X,ram'.tx.set f (mA ram'.tx[f] (c % 4) b)=X:=⟨_,rfl⟩;have hXl:X.length=ram'.tx.length:=by rw[←hX,List.length_set]
   have hSl:=np (sp:=T) (i:=i) (j:=c / 4) (x:=y);rw[hX];simp[oM,dI,hXl,fY hXl,hSl,fY hSl]
end Go.Qm
namespace Go.Qm
open Go.Cq Go.Cq.D Go.RowKit Go.Proofs
set_option maxRecDepth 10000
theorem Wf.small{m m':Mem}(w:Wf m')(hs:cJ m.sp m'.sp)(h:m.fits 16):m'.fits 16:=by
 refine⟨by rw[w.ram.tx];omega,by rw[w.ram.rf];omega,by rw[w.swp.tx];omega,by rw[w.swp.rf];omega,by rw[w.sp];omega,fun s hs'=>?_⟩;obtain⟨q,hq,rfl⟩:=List.getElem_of_mem hs';have hq':q<m.sp.length:=by rw[←hs.1];exact hq
 obtain⟨-,e2,e3⟩:=hs.2 q hq' hq;rw[e2,e3];exact h.ss _ (List.getElem_mem hq')
theorem vN:fw.fits 16:=⟨by simp[fw],by simp[fw],by simp[fw],by simp[fw],by simp[fw],fun s hs=>by simp[fw]at hs⟩
end Go.Qm
namespace Go.Qm
open Go.Cq Go.Cq.D Go.RowKit Go.Proofs
set_option maxRecDepth 10000
theorem sO{m:Mem}{who a b:Int}:(dm m who a b).1.fits 16:=by
 unfold dm;split
 ·rename_i h;simp only[Bool.and_eq_true]at h;have w:=m0 h.1;have hs:=uD h.1;obtain⟨i,rfl,hi,hlv⟩:=gC h.2.1;have hsl:=(mf h.1 hi hlv).2.2;have h4:=h.2.2.1;simp only[inB,Bool.and_eq_true,decide_eq_true_eq]at h4;rw[Int.toNat_natCast];unfold cE;split
  ·exact hs
  ·split
   ·exact hs
   ·split
    ·exact hs
    ·rename_i m2 hb;simp only[Option.bind_eq_some_iff]at hb;obtain⟨m1,hb,ho⟩:=hb;have hj:a.toNat / 4<m.sp[i].sl.length:=by omega
     have w1:=w.jk hi hj hb;obtain⟨hi1,hj1,hk1⟩:=fy w hi hj hb;obtain⟨w2,s2, -⟩:=w1.own hi1 hj1 (by rw[bV hi1 hj1];exact hk1) ho;have hf:=w2.small ((dt w hb).trans s2) hs;exact⟨by simpa [i9]using hf.rt,hf.rr,hf.st,hf.sr,hf.sp,hf.ss⟩
 ·exact vN
end Go.Qm
namespace Go.Qm
open Go.Cq Go.Cq.D Go.RowKit Go.Proofs
set_option maxRecDepth 10000
theorem tW{m:Mem}{w a v:Int}(h:(dm m w a v).2=4):cY m=true∧fD m.ram.rf=0∧fD m.swp.rf=0:=by
 unfold dm at h;split at h
 ·rename_i c;simp only[Bool.and_eq_true]at c;obtain⟨c1,c2,c3, -⟩:=c;obtain⟨i,rfl,hi,hlv⟩:=gC c2;simp only[inB,Bool.and_eq_true,decide_eq_true_eq]at c3;obtain⟨k,rfl⟩:=Int.eq_ofNat_of_zero_le c3.1;simp only[Int.toNat_natCast]at h;have h16:=(mf c1 hi hlv).2.2;refine⟨c1,?_⟩;unfold cE at h;split at h
  ·simp at h
  ·split at h
   ·simp at h
   ·split at h
    ·rename_i hb;cases e:bE m i (k / 4)with
     |none=>exact w7 e
     |some m1=>rw[e]at hb;exact ze (m0 c1) hi (by omega) e hb
    ·simp at h
 ·simp at h
set_option maxHeartbeats 8000000 in
theorem v5(hc:vV)(b:Bool)(bs:List UInt8):bC Try.prog 6 [.one (.ro b 1 (bs.map dE))] (.v (.one (dB true))):=by
 refine aS hmix Try.func6 ok6 ?_;conv=>whnf
 refine CondP.mk (fun h=>?_) (fun h=>?_)<;>conv=>whnf
 ·exact⟨rfl,rfl⟩
 have hl:bs.length≤1048576:=by simp at h;omega
 refine pw [.pass] [] rfl rfl rfl rfl (vh b bs hl) ?_;rintro res H3 ⟨m,w,a,v,hf,h5,rfl,rfl⟩;refine⟨rfl,rfl,_,rfl,?_⟩;conv=>whnf
 simp only[List.drop_zero,List.take_length];have g1:=yZ hc true true true true true m w a v hf;have g2:=t7 true true true true true m w a v hf;have hsm:=sO (m:=m) (who:=w) (a:=a) (b:=v);have hfl:=tW (m:=m) (w:=w) (a:=a) (v:=v);generalize dm m w a v=x at g1 g2 hsm hfl;have hq:bC Try.prog 32 [aM true true true true true x.1,aM true true true true true x.1] (.v (.one (dB true))):=aBH true true true true true true true true true true x.1 (hsm.mono (by decide));refine aC (cas:=[aM true true true true true m,.one (dI w),.one (dI a),.one (dI v)]) [.lend,.pass,.pass,.pass] rfl gp rfl g1 rfl ?_;conv=>whnf
 simp only[List.drop_zero,List.take_length];refine aC (cas:=[aM true true true true true m,.one (dI w),.one (dI a),.one (dI v)]) [.lend,.pass,.pass,.pass] rfl gp rfl g2 rfl ?_;conv=>whnf
 simp only[List.drop_zero,List.take_length];refine CondP.mk (fun h=>by simp at h) (fun h=>?_);rw[h]
 (conv=>whnf)<;>repeat' first|(refine aE ?_;conv=>whnf)|(refine aD ?_;conv=>whnf)
 refine aC (cas:=[aM true true true true true x.1,aM true true true true true x.1]) [.lend,.lend] rfl aBh rfl hq rfl ?_
 (conv=>whnf)<;>repeat' first|(refine aE ?_;conv=>whnf)|(refine aD ?_;conv=>whnf)
 refine CondP.mk (fun h=>?_) (fun h=>?_)<;>conv=>whnf
 ·refine CondP.mk (fun h1=>?_) (fun h1=>by simp at h1);rw[h1]
  (conv=>whnf)<;>repeat' first|(refine aE ?_;conv=>whnf)|(refine aD ?_;conv=>whnf)
  simp only[List.drop_zero,List.take_length];refine aC (cas:=[aM true true true true true x.1,aM true true true true true x.1]) [.lend,.lend] rfl aBh rfl hq rfl ?_
  (conv=>whnf)<;>repeat' first|(refine aE ?_;conv=>whnf)|(refine aD ?_;conv=>whnf)
  exact⟨rfl,rfl⟩
 have h0:x.2=4:=by simpa using h
 obtain⟨hok,z1,z2⟩:=hfl h0;have mo:=aBG hok;simp only[List.drop_zero,List.take_length];refine aC (cas:=[.agg [.ro true 1 (m.ram.tx.map rS),.ro true 1 (m.ram.rf.map rI)]]) [.lend] rfl uy rfl (qp true true m.ram mo.ram.aCx) rfl ?_;rw[z1]
 (conv=>whnf)<;>repeat' first|(refine aE ?_;conv=>whnf)|(refine aD ?_;conv=>whnf)
 refine aC (cas:=[.agg [.ro true 1 (m.swp.tx.map rS),.ro true 1 (m.swp.rf.map rI)]]) [.lend] rfl uy rfl (qp true true m.swp mo.swp.aCx) rfl ?_;rw[z2]
 (conv=>whnf)<;>repeat' first|(refine aE ?_;conv=>whnf)|(refine aD ?_;conv=>whnf)
 exact⟨rfl,rfl⟩
end Go.Qm

