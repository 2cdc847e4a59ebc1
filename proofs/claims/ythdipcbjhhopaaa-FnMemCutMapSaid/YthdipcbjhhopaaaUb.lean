import Derived.Test.YthdipcbjhhopaaaUa
namespace Go.Qm
open Go.Cq Go.Cq.D Go.RowKit Go.Proofs
set_option maxRecDepth 10000
theorem aCA(p:Pages)(k:Nat)(h1:p.tx.length=12)(h2:p.rf.length=12)(hk:k<12)(hb: -1000≤p.rf[k]?.getD 0∧p.rf[k]?.getD 0≤1000):di Try.prog 164 [.agg [.sl 0 0 12,.sl 1 0 12],.one (dI k)] (hP p) 2 fun x H'=>x= .v (.agg [.sl 0 0 12,.sl 1 0 12])∧H'=hP (cS p k):=by
 refine aK hmix Try.func164 ok164 ?_;have hr:k<p.rf.length:=by omega
 have ht:k<p.tx.length:=by omega
 have hr0:p.rf[k]?.getD 0=p.rf[k]:=by simp[hr]
 rw[hr0]at hb;conv=>whnf
 refine aE (k:=k) rfl rfl rfl hk ?_;conv=>whnf
 refine cz rfl rfl rfl (aW (row:=rI p.rf[k]) (by simp[hr]) rfl rfl rfl) rfl ?_;conv=>whnf
 have ew:IntKind.wrap .i64 (p.rf[k]-1)=p.rf[k]-1:=wrap64 (by omega) (by omega);simp only[ew];refine aE (k:=k) rfl rfl rfl hk ?_;conv=>whnf
 refine af rfl rfl rfl (by simpa using hr) (by decide) ?_;conv=>whnf
 rw[pP hr];refine aE (k:=k) rfl rfl rfl hk ?_;conv=>whnf
 refine cz rfl rfl rfl (aW (row:=rI (p.rf[k]-1)) (by simp[hr]) rfl rfl rfl) rfl ?_;conv=>whnf
 refine CondP.mk (fun h=>?_) (fun h=>?_)<;>conv=>whnf
 ·have h:p.rf[k]=1:=by simp at h;omega
  refine aE (k:=k) rfl rfl rfl hk ?_;conv=>whnf
  refine af rfl rfl rfl (by simpa using ht) (by decide) ?_;conv=>whnf
  refine⟨rfl,?_⟩;rw[sV ht];simp only[cS,hr0,if_pos h];rfl
 ·have h:¬p.rf[k]=1:=by simp at h;omega
  refine⟨rfl,?_⟩;simp only[cS,hr0,if_neg h];rfl
set_option maxHeartbeats 4000000 in
theorem aBD(m:Mem)(i j:Nat)(w:Wf m)(hi:i<m.sp.length)(hj:j<m.sp[i].sl.length)(hk1:(aJ m i j).kd=1):di Try.prog 151 [.agg (cW m.hd),.one (dI i),.one (dI j)] (hM m) 5
  fun x H'=>x= .tup [.agg (cW ((jk m i j).getD m).hd),.one (dB (jk m i j).isSome)]∧H'=hM ((jk m i j).getD m):=by
 refine aK hmix Try.func151 ok151 ?_;have l:=w.L;have hi5:i<5:=by rw[←l.sp];exact hi
 have hg:=av (f:=rP) (List.getElem?_eq_getElem hi);have hx:=bp hi hj;obtain⟨f,e1,f12,e3,e4⟩:=(w.slot hi hj).1 hk1;have hft:f<m.ram.tx.length:=by rw[l.rt];exact f12
 have hfr:f<m.ram.rf.length:=by rw[l.rr];exact f12
 conv=>whnf
 refine aE (k:=i) rfl rfl rfl hi5 ?_;conv=>whnf
 refine cE (i:=i) (k:=2) (sz':=4) (es':=m.sp[i].sl.map rL) m.sp[i].sl.length rfl rfl rfl (aW hg rfl rfl rfl) rfl (by simp) ?_;conv=>whnf
 refine aE (k:=j) rfl rfl rfl hj ?_;conv=>whnf
 refine gU (row:=rL (aJ m i j)) rfl rfl rfl (by rw[hx];simp[hj]) (cV _) rfl rfl ?_;conv=>whnf
 refine aX (i:=i) (k:=2) (g':=7) (lo:=0) (len:=m.sp[i].sl.length) (es2:=m.sp.map rP) (ov2:=[]) rfl (ai hg (by simp[rP]) (by simp only[aa,if_true];rfl)) rfl rfl (by rw[List.drop_zero,aU];exact dJ hi) (by simp only[aZ,if_true];rfl) ?_;conv=>whnf
 obtain⟨x,hxx⟩:∃x,aJ m i j=x:=⟨_,rfl⟩;rw[hxx]at e1 hk1;simp only[hxx];have hrf:m.ram.rf[f]?.getD 0=m.ram.rf[f]:=by simp[hfr]
 refine CondP.mk (fun c1=>?_) (fun c1=>?_)<;>rw[c1]<;>(conv=>whnf)<;>repeat' first|(refine aD ?_;conv=>whnf)|(refine aC ?_;conv=>whnf)
 ·have c1:x.ow=false:=by simpa using c1
  refine aE (k:=f) rfl rfl (by show some _=some _;rw[e1]) f12 ?_
  (conv=>whnf)<;>repeat' first|(refine aD ?_;conv=>whnf)|(refine aC ?_;conv=>whnf)
  refine cz rfl rfl rfl (aW (row:=rI m.ram.rf[f]) (by simp[hfr]) rfl rfl rfl) rfl ?_
  (conv=>whnf)<;>repeat' first|(refine aD ?_;conv=>whnf)|(refine aC ?_;conv=>whnf)
  refine CondP.mk (fun c2=>?_) (fun c2=>?_)<;>conv=>whnf
  ·have c2:1<m.ram.rf[f]:=by simpa using c2
   have hcond:x.ow=false∧1<m.ram.rf[x.pl.toNat]?.getD 0:=⟨c1,by rw[e1,Int.toNat_natCast,hrf];exact c2⟩;have hcall:=rN m x.pl w;cases hr:dP m x.pl with
   |none=>
    have hb:jk m i j=none:=by rw[jk,hxx,if_pos hcond,hr];rfl
    rw[hr]at hcall;refine cJ (r:=.tup [.agg (cW m.hd),.one (dB false)]) (Hr:=hM m) [.pass,.pass] [0,1,2,3,4] rfl rfl rfl rfl hcall rfl (uj l l rfl) ?_
    (conv=>whnf)<;>repeat' first|(refine aD ?_;conv=>whnf)|(refine aC ?_;conv=>whnf)
    rw[hb];exact⟨rfl,rfl⟩
   |some m1=>
    obtain⟨w1,hf⟩:=w.dP hr;have l1:=w1.L;have ha:=eP w hr;obtain⟨hi1,hj1,ex, -⟩:=gA ha hi hj (.inr (by rw[hxx]));rw[hxx]at ex;have hg1:=av (f:=rP) (List.getElem?_eq_getElem hi1);obtain⟨f',q1,q12,q3,q4⟩:=w1.at1 _ (List.getElem_mem hi1) _ (List.getElem_mem hj1) (by rw[ex];exact hk1);obtain rfl:f'=f:=by rw[ex,e1]at q1;omega
    have hft1:f'<m1.ram.tx.length:=by rw[l1.rt];exact f12
    have gt:m1.ram.tx[f']?.getD []=m1.ram.tx[f']:=by simp[hft1]
    rw[hr]at hcall;refine cJ (r:=.tup [.agg (cW m1.hd),.one (dB true)]) (Hr:=hM m1) [.pass,.pass] [0,1,2,3,4] rfl rfl rfl rfl hcall rfl (uj l l1 rfl) ?_
    (conv=>whnf)<;>repeat' first|(refine aD ?_;conv=>whnf)|(refine aC ?_;conv=>whnf)
    refine aE (k:=f') rfl rfl (by show some _=some _;rw[e1]) f12 ?_;conv=>whnf
    refine cz rfl rfl rfl (aW (row:=rS m1.ram.tx[f']) (by simp[hft1]) rfl rfl rfl) rfl ?_;conv=>whnf
    obtain⟨p,hp⟩:∃p,ax m1.ram (aR m1.ram.rf) m1.ram.tx[f'] 1=p:=⟨_,rfl⟩;have hpt:p.tx.length=12:=by rw[←hp];simp[ax,l1.rt]
    have hpr:p.rf.length=12:=by rw[←hp];simp[ax,l1.rr]
    have hpb:0≤p.rf[f']?.getD 0∧p.rf[f']?.getD 0≤1000:=by rw[←hp];exact(w1.ram.take (t:=m1.ram.tx[f']) (n:=1) (k:=aR m1.ram.rf) (by decide)).get
    have ht:=nz m1.ram m1.ram.tx[f'] l1.rt l1.rr hf;rw[hp]at ht;refine cJ [.pass,.pass] [0,1] rfl rfl rfl rfl ht rfl ((bh (sz:=1) (es:=p.tx.map rS) (es0:=m1.ram.tx.map rS) (ov0:=[]) rfl rfl (by simp[hpt,l1.rt])).trans ((bh (sz:=1) (es:=p.rf.map rI) (es0:=m1.ram.rf.map rI) (ov0:=[]) rfl rfl (by simp[hpr,l1.rr])).trans rfl)) ?_;conv=>whnf
    have hgv:=aCA p f' hpt hpr f12 (by omega);have hqt:(cS p f').tx.length=12:=by simp[cS];split<;>simp[hpt]
    have hqr:(cS p f').rf.length=12:=by simp[cS,hpr]
    rw[←e1]at hgv;refine cJ [.pass,.pass] [0,1] rfl rfl rfl rfl hgv rfl ((bh (sz:=1) (es:=(cS p f').tx.map rS) (es0:=p.tx.map rS) (ov0:=[]) rfl rfl (by simp[hpt,hqt])).trans ((bh (sz:=1) (es:=(cS p f').rf.map rI) (es0:=p.rf.map rI) (ov0:=[]) rfl rfl (by simp[hpr,hqr])).trans rfl)) ?_;conv=>whnf
    have hb:jk m i j=some {m1 with ram:=cS p f',sp:=aH m1.sp i j ⟨x.kd,aR m1.ram.rf,true,x.us⟩}:=by rw[jk,hxx,if_pos hcond,hr,Option.map_some,e1,Int.toNat_natCast,gt,hp]
    refine aE (k:=i) rfl rfl rfl hi5 ?_;conv=>whnf
    refine cE (i:=i) (k:=2) (sz':=4) (es':=m1.sp[i].sl.map rL) m1.sp[i].sl.length rfl rfl rfl (aW hg1 rfl rfl rfl) rfl (by simp) ?_;conv=>whnf
    refine aE (k:=j) rfl rfl rfl hj1 ?_;conv=>whnf
    refine bU (row':=rL ⟨x.kd,aR m1.ram.rf,true,x.us⟩) rfl rfl rfl (by simpa using hj1) (dD (fun _=>rfl)) (cV _) rfl rfl rfl ?_;conv=>whnf
    refine aX (i:=i) (k:=2) (g':=9) (lo:=0) (len:=m1.sp[i].sl.length) (es2:=(aH m1.sp i j ⟨x.kd,aR m1.ram.rf,true,x.us⟩).map rP) (ov2:=[]) rfl (ai hg1 (by simp[rP]) (by simp only[aa,if_true];rfl)) rfl rfl (by rw[List.drop_zero,List.take_of_length_le (by simp)];exact bo hi1) (by simp only[aZ,if_true];rfl) ?_;conv=>whnf
    rw[hb];exact⟨rfl,rfl⟩
  ·have c2:¬1<m.ram.rf[f]:=by simpa using c2
   have hb:jk m i j=some {m with sp:=aH m.sp i j {x with ow:=true}}:=by rw[jk,hxx,if_neg (fun c=>c2 (by have:=c.2;rw[e1,Int.toNat_natCast,hrf]at this;exact this))]
   refine aE (k:=i) rfl rfl rfl hi5 ?_;conv=>whnf
   refine cE (i:=i) (k:=2) (sz':=4) (es':=m.sp[i].sl.map rL) m.sp[i].sl.length rfl rfl rfl (aW hg rfl rfl rfl) rfl (by simp) ?_;conv=>whnf
   refine aE (k:=j) rfl rfl rfl hj ?_;conv=>whnf
   refine bU (row':=rL ⟨x.kd,x.pl,true,x.us⟩) rfl rfl rfl (by simpa using hj) (dD (fun _=>rfl)) (cV _) rfl rfl rfl ?_;conv=>whnf
   refine aX (i:=i) (k:=2) (g':=9) (lo:=0) (len:=m.sp[i].sl.length) (es2:=(aH m.sp i j ⟨x.kd,x.pl,true,x.us⟩).map rP) (ov2:=[]) rfl (ai hg (by simp[rP]) (by simp only[aa,if_true];rfl)) rfl rfl (by rw[List.drop_zero,List.take_of_length_le (by simp)];exact bo hi) (by simp only[aZ,if_true];rfl) ?_;conv=>whnf
   rw[hb];exact⟨rfl,rfl⟩
 ·have c1:x.ow=true:=by simpa using c1
  have hb:jk m i j=some {m with sp:=aH m.sp i j {x with ow:=true}}:=by rw[jk,hxx,if_neg (fun c=>by rw[c1]at c;exact absurd c.1 (by decide))]
  refine aE (k:=i) rfl rfl rfl hi5 ?_;conv=>whnf
  refine cE (i:=i) (k:=2) (sz':=4) (es':=m.sp[i].sl.map rL) m.sp[i].sl.length rfl rfl rfl (aW hg rfl rfl rfl) rfl (by simp) ?_;conv=>whnf
  refine aE (k:=j) rfl rfl rfl hj ?_;conv=>whnf
  refine bU (row':=rL ⟨x.kd,x.pl,true,x.us⟩) rfl rfl rfl (by simpa using hj) (dD (fun _=>rfl)) (cV _) rfl rfl rfl ?_;conv=>whnf
  refine aX (i:=i) (k:=2) (g':=9) (lo:=0) (len:=m.sp[i].sl.length) (es2:=(aH m.sp i j ⟨x.kd,x.pl,true,x.us⟩).map rP) (ov2:=[]) rfl (ai hg (by simp[rP]) (by simp only[aa,if_true];rfl)) rfl rfl (by rw[List.drop_zero,List.take_of_length_le (by simp)];exact bo hi) (by simp only[aZ,if_true];rfl) ?_;conv=>whnf
  rw[hb];exact⟨rfl,rfl⟩
end Go.Qm
namespace Go.Qm
open Go.Cq Go.Cq.D Go.RowKit Go.Proofs
set_option maxRecDepth 10000
def aCy(l:List Area)(k:Int):Bool:=(l[k.toNat]?.map (·.wr)).getD false
def kD(m:Mem)(k o:Nat)(b:Int):Mem:={m with ram:=⟨m.ram.tx.set k (ui (m.ram.tx[k]?.getD []) o b),m.ram.rf⟩}
def ck(m:Mem)(i a:Nat)(b:Int):Mem×Int:=
 if ah (dq m i) (a / 4:Nat)<0 then(m,2)else if aCy (dq m i) (ah (dq m i) (a / 4:Nat))=false then(m,3)else match(cm m i (a / 4)).bind fun m1=>jk m1 i (a / 4)with
  |none=>(m,4)
  |some m2=>(kD m2 (aJ m2 i (a / 4)).pl.toNat (a % 4) b,0)
set_option maxHeartbeats 4000000 in
theorem uo(m:Mem)(i a:Nat)(b:Int)(w:Wf m)(hi:i<m.sp.length)(har:∀x,x∈m.sp[i].ar→an x=true)(hal:m.sp[i].ar.length≤1048576)(hsl:m.sp[i].sl.length=16)(ha:a≤63)(h:m.fits 1048576):
  bC Try.prog 95 [oM m,.one (dI i),.one (dI a),.one (dI b)] (.tup [oM (ck m i a b).1,.one (dI (ck m i a b).2)]):=by
 refine aK hmix Try.func95 ok95 ?_;have hae:dq m i=m.sp[i].ar:=by simp[dq,hi]
 have hj:a / 4<m.sp[i].sl.length:=by omega
 conv=>whnf
 refine fo rfl ?_;conv=>whnf
 simp only[aB7 (show a≤1000 by omega),List.drop_zero,List.take_length];have hg:=av (f:=rP) (List.getElem?_eq_getElem hi);have hback:(m.sp.map rP).modify i (fun row=>row.set 1 (.sl 4 (m.sp[i].ar.map rA)))=m.sp.map rP:=mM hi;refine aE (k:=i) rfl rfl rfl (by simpa using hi) ?_;conv=>whnf
 refine cE (i:=i) (k:=1) (sz':=4) (es':=m.sp[i].ar.map rA) m.sp[i].ar.length rfl rfl rfl (aW hg rfl rfl rfl) rfl (by simp) ?_;conv=>whnf
 refine aB [.lend,.pass] rfl (by show some [DV.one (DC.ro true 4 (List.take _ (List.drop 0 _))),_]=_;rw[List.drop_zero,aU];rfl) rfl (oC true m.sp[i].ar ((a / 4:Nat):Int) (by omega) har) rfl ?_;conv=>whnf
 obtain⟨at_,hat⟩:∃at_,ah m.sp[i].ar ((a / 4:Nat):Int)=at_:=⟨_,rfl⟩;rw[hat];refine aX (i:=i) (k:=1) (g':=8) (lo:=0) (len:=m.sp[i].ar.length) (es2:=m.sp.map rP) (ov2:=[]) rfl (ai hg (by simp[rP]) (by simp only[aa,if_true];rfl)) rfl rfl (by rw[List.drop_zero,aU];exact hback) (by simp only[aZ,if_true];rfl) ?_;conv=>whnf
 simp only[List.drop_zero,List.take_length];refine CondP.mk (fun c1=>?_) (fun c1=>?_)<;>conv=>whnf
 ·have c1:at_<0:=by simpa using c1
  refine⟨?_,rfl⟩;rw[ck,hae,hat,if_pos c1];simp[oM,dI]
 have c1:¬at_<0:=by simpa using c1
 have hlt:at_.toNat<m.sp[i].ar.length:=by rw[←hat];exact ku (by omega)
 simp only;refine aE (k:=i) rfl rfl rfl (by simpa using hi) ?_;conv=>whnf
 refine cE (i:=i) (k:=1) (sz':=4) (es':=m.sp[i].ar.map rA) m.sp[i].ar.length rfl rfl rfl (aW hg rfl rfl rfl) rfl (by simp) ?_;conv=>whnf
 refine aE (k:=at_.toNat) rfl rfl (by show some at_=_;congr 1;omega) hlt ?_;conv=>whnf
 refine cz rfl rfl rfl (aW (row:=rA m.sp[i].ar[at_.toNat]) (by simp[hlt]) rfl rfl rfl) rfl ?_;conv=>whnf
 refine aX (i:=i) (k:=1) (g':=8) (lo:=0) (len:=m.sp[i].ar.length) (es2:=m.sp.map rP) (ov2:=[]) rfl (ai hg (by simp[rP]) (by simp only[aa,if_true];rfl)) rfl rfl (by rw[List.drop_zero,aU];exact hback) (by simp only[aZ,if_true];rfl) ?_;conv=>whnf
 have hwr:aCy m.sp[i].ar at_=m.sp[i].ar[at_.toNat].wr:=by simp[aCy,hlt]
 simp only[List.drop_zero,List.take_length];refine CondP.mk (fun c2=>?_) (fun c2=>?_)<;>conv=>whnf
 ·have c2:m.sp[i].ar[at_.toNat].wr=false:=by simpa using c2
  refine⟨?_,rfl⟩;rw[ck,hae,hat,if_neg c1,hwr,if_pos c2];simp[oM,dI]
 have c2:¬m.sp[i].ar[at_.toNat].wr=false:=by simpa using c2
 have hset:ck m i a b=match(cm m i (a / 4)).bind fun m1=>jk m1 i (a / 4)with
  |none=>(m,4)
  |some m2=>(kD m2 (aJ m2 i (a / 4)).pl.toNat (a % 4) b,0):=by rw[ck,hae,hat,if_neg c1,hwr,if_neg c2]
 simp only;refine aB (cas:=[aM true true true true true m]) [.lend] rfl (by show some [DV.agg [DC.ro true 1 (List.take _ (List.drop 0 _)),DC.ro true 1 (List.take _ (List.drop 0 _)),DC.ro true 1 (List.take _ (List.drop 0 _)),DC.ro true 1 (List.take _ (List.drop 0 _)),DC.ro true 3 (List.take _ (List.drop 0 _)),_]]=_;simp only[List.drop_zero,List.take_length];rfl) rfl (eF true true true true true m h) rfl ?_;conv=>whnf
 have l:=w.L;have hcall:=lr m i (a / 4) w hi hj;have hcas:some [DV.agg [DC.sl 0 0 (m.ram.tx.map rS).length,.sl 1 0 (m.ram.rf.map rI).length,.sl 2 0 (m.swp.tx.map rS).length,.sl 3 0 (m.swp.rf.map rI).length,.sl 4 0 (m.sp.map rP).length,dI m.hd],.one (dI i),.one (dI ((a / 4:Nat):Int))]=some [.agg (cW m.hd),.one (dI i),.one (dI ((a / 4:Nat):Int))]:=by simp only[List.length_map,l.rt,l.rr,l.st,l.sr,l.sp];rfl
 cases hb:cm m i (a / 4)with
 |none=>
  rw[hb]at hcall hset;refine cJ (r:=.tup [.agg (cW m.hd),.one (dB false)]) (Hr:=hM m) [.pass,.pass,.pass] [12,13,14,15,16] rfl hcas rfl rfl hcall rfl (t9 l l rfl rfl rfl rfl rfl rfl) ?_
  (conv=>whnf)<;>repeat' first|(refine aD ?_;conv=>whnf)|(refine aC ?_;conv=>whnf)
  rw[hset];refine⟨?_,rfl⟩;simp[oM,dI]
 |some m1=>
  have w1:=w.mX hi hj hb;have l1:=w1.L;obtain⟨hi1,hj1,hk1⟩:=jP w hi hj hb;have hx1:=bp hi1 hj1;rw[hb]at hcall;refine cJ (r:=.tup [.agg (cW m1.hd),.one (dB true)]) (Hr:=hM m1) [.pass,.pass,.pass] [12,13,14,15,16] rfl hcas rfl rfl hcall rfl (t9 l l1 rfl rfl rfl rfl rfl rfl) ?_
  (conv=>whnf)<;>repeat' first|(refine aD ?_;conv=>whnf)|(refine aC ?_;conv=>whnf)
  have hown:=aBD m1 i (a / 4) w1 hi1 hj1 (by rw[hx1];exact hk1);simp only[List.drop_zero,gf l1.rt,gf l1.rr,gf l1.st,gf l1.sr,gf l1.sp];have hcas1:some [DV.agg [DC.sl 0 0 (m1.ram.tx.map rS).length,.sl 1 0 (m1.ram.rf.map rI).length,.sl 2 0 (m1.swp.tx.map rS).length,.sl 3 0 (m1.swp.rf.map rI).length,.sl 4 0 (m1.sp.map rP).length,dI m1.hd],.one (dI i),.one (dI ((a / 4:Nat):Int))]=some [.agg (cW m1.hd),.one (dI i),.one (dI ((a / 4:Nat):Int))]:=by simp only[List.length_map,l1.rt,l1.rr,l1.st,l1.sr,l1.sp];rfl
  rw[hb,Option.bind_some]at hset;cases ho:jk m1 i (a / 4)with
  |none=>
   rw[ho]at hown hset;refine cJ (r:=.tup [.agg (cW m1.hd),.one (dB false)]) (Hr:=hM m1) [.pass,.pass,.pass] [18,19,20,21,22] rfl hcas1 rfl rfl hown rfl (t9 l1 l1 rfl rfl rfl rfl rfl rfl) ?_
   (conv=>whnf)<;>repeat' first|(refine aD ?_;conv=>whnf)|(refine aC ?_;conv=>whnf)
   rw[hset];refine⟨?_,rfl⟩;simp[oM,dI]
  |some m2=>
   obtain⟨w2,s2,hk2⟩:=w1.own hi1 hj1 (by rw[hx1];exact hk1) ho;have l2:=w2.L;have hi2:i<m2.sp.length:=by rw[s2.1];exact hi1
   have hj2:a / 4<m2.sp[i].sl.length:=by rw[(s2.2 i hi1 hi2).2.2];exact hj1
   have hx2:=bp hi2 hj2;have hg2:=av (f:=rP) (List.getElem?_eq_getElem hi2);obtain⟨k,e1,k12, -,e4⟩:=(w2.slot hi2 hj2).1 hk2;have hkt:k<m2.ram.tx.length:=by rw[l2.rt];exact k12
   have gt:m2.ram.tx[k]?.getD []=m2.ram.tx[k]:=by simp[hkt]
   rw[gt]at e4;rw[ho]at hown hset;refine cJ (r:=.tup [.agg (cW m2.hd),.one (dB true)]) (Hr:=hM m2) [.pass,.pass,.pass] [18,19,20,21,22] rfl hcas1 rfl rfl hown rfl (t9 l1 l2 rfl rfl rfl rfl rfl rfl) ?_
   (conv=>whnf)<;>repeat' first|(refine aD ?_;conv=>whnf)|(refine aC ?_;conv=>whnf)
   simp only[List.drop_zero,gf l2.rt,gf l2.rr,gf l2.st,gf l2.sr,gf l2.sp];refine aE (k:=i) rfl rfl rfl (by simpa using hi2) ?_;conv=>whnf
   refine cE (i:=i) (k:=2) (sz':=4) (es':=m2.sp[i].sl.map rL) m2.sp[i].sl.length rfl rfl rfl (aW hg2 rfl rfl rfl) rfl (by simp) ?_;conv=>whnf
   refine aE (k:=a / 4) rfl rfl rfl hj2 ?_;conv=>whnf
   refine cz rfl rfl rfl (aW (row:=rL (aJ m2 i (a / 4))) (by rw[hx2];simp[hj2]) rfl rfl rfl) rfl ?_;conv=>whnf
   refine aX (i:=i) (k:=2) (g':=19) (lo:=0) (len:=m2.sp[i].sl.length) (es2:=m2.sp.map rP) (ov2:=[]) rfl (ai hg2 (by simp[rP]) (by simp only[aa,if_true];rfl)) rfl rfl (by rw[List.drop_zero,aU];exact dJ hi2) (by simp only[aZ,if_true];rfl) ?_;conv=>whnf
   simp only[List.drop_zero,List.take_length];refine aE (k:=k) rfl rfl (by show some _=some _;rw[e1]) (by simpa using hkt) ?_;conv=>whnf
   refine cz rfl rfl rfl (aW (row:=rS m2.ram.tx[k]) (by simp[hkt]) rfl rfl rfl) rfl ?_;conv=>whnf
   refine fo rfl ?_;conv=>whnf
   simp only[aCn];refine aB [.pass,.pass,.pass] rfl rfl rfl (aA6 m2.ram.tx[k] (a % 4) b (by omega) (by omega)) rfl ?_;conv=>whnf
   refine aE (k:=k) rfl rfl (by show some _=some _;rw[e1]) (by simpa using hkt) ?_;conv=>whnf
   refine af rfl rfl rfl (by simpa using hkt) (by decide) ?_;conv=>whnf
   rw[hset];refine⟨?_,rfl⟩;simp only[e1,Int.toNat_natCast,kD,gt];rw[sV hkt];obtain⟨T,hT⟩:∃T,m2.ram.tx.set k (ui m2.ram.tx[k] (a % 4) b)=T:=⟨_,rfl⟩;have hTl:T.length=m2.ram.tx.length:=by rw[←hT,List.length_set]
   rw[hT];simp[oM,dI,hTl,gf hTl]
end Go.Qm
namespace Go.Qm
open Go.Cq Go.Cq.D Go.RowKit Go.Proofs
set_option maxRecDepth 10000
end Go.Qm
namespace Go.Qm
open Go.Cq Go.Cq.D Go.RowKit Go.Proofs
set_option maxRecDepth 10000
set_option maxHeartbeats 4000000 in
theorem tH(b1 b2 b3 b4 b5:Bool)(m:Mem)(who fr mn:Int)(h:m.fits 1048576):bC Try.prog 23 [aM b1 b2 b3 b4 b5 m,.one (dI who),.one (dI fr),.one (dI mn)] (.tup [oM (fV eA m who fr mn).1,.one (dI (fV eA m who fr mn).2)]):=by
 refine aK hmix Try.func23 ok23 ?_;conv=>whnf
 refine aB [.pass] rfl rfl rfl (rC b1 b2 b3 b4 b5 m (h.mono (by decide))) rfl ?_;conv=>whnf
 refine CondP.mk (fun h1=>?_) (fun h1=>?_)<;>rw[h1]<;>(conv=>whnf)<;>repeat' first|(refine aD ?_;conv=>whnf)|(refine aC ?_;conv=>whnf)
 ·refine⟨?_,rfl⟩;have h1:b7 m=false:=by simpa using h1
  simp[fV,h1,oM,eh,dI]
 have h1:b7 m=true:=by simpa using h1
 refine aB [.pass,.pass] rfl rfl rfl (mA b1 b2 b3 b4 b5 m who (by have:=h.sp;omega)) rfl ?_
 (conv=>whnf)<;>repeat' first|(refine aD ?_;conv=>whnf)|(refine aC ?_;conv=>whnf)
 refine CondP.mk (fun h2=>?_) (fun h2=>?_)<;>rw[h2]<;>conv=>whnf
 ·refine⟨?_,rfl⟩;have h2:dR m.sp who=false:=by simpa using h2
  simp[fV,h2,oM,eh,dI]
 have h2:dR m.sp who=true:=by simpa using h2
 obtain⟨i,rfl,hi,hlv⟩:=eQ h2;refine aB [.pass] rfl rfl rfl (eF b1 b2 b3 b4 b5 m h) rfl ?_;conv=>whnf
 refine aB [.fS,.pass,.pass,.pass] rfl rfl rfl (by simpa [oM,dI]using yw m i fr mn h1 hi hlv) rfl ?_;conv=>whnf
 refine⟨?_,rfl⟩;simp[fV,h1,h2,oM,dI]
end Go.Qm
namespace Go.Qm
open Go.Cq Go.Cq.D Go.RowKit Go.Proofs
set_option maxRecDepth 10000
def nB:Pages:=⟨List.replicate 12 [],List.replicate 12 0⟩
def kU:Mem:=⟨nB,nB,List.replicate 5 ⟨false,[],[]⟩,0⟩
theorem nW:bC Try.prog 170 [.one (dI 12)] (.tup [.agg [.own 1 (nB.tx.map rS),.own 1 (nB.rf.map rI)],.one (dB true)]):=by
 refine aK hmix Try.func170 ok170 ?_;conv=>whnf
 refine aB [.pass,.pass,.pass] rfl rfl rfl (i9 _ _ _) rfl ?_;conv=>whnf
 refine CondP.mk (fun h=>by simp[inB]at h) (fun _=>?_);conv=>whnf
 refine qf rfl rfl (m:=12) (c:=12) rfl rfl (by decide) (by decide) (by decide) ?_;conv=>whnf
 refine qf rfl rfl (m:=12) (c:=12) rfl rfl (by decide) (by decide) (by decide) ?_;conv=>whnf
 exact⟨rfl,rfl⟩
theorem xr:bC Try.prog 143 [] (.v (oM kU)):=by
 refine aK hmix Try.func143 ok143 ?_;conv=>whnf
 refine aB [.pass] rfl rfl rfl nW rfl ?_;conv=>whnf
 refine aB [.pass] rfl rfl rfl nW rfl ?_;conv=>whnf
 refine qf rfl rfl (m:=5) (c:=5) rfl rfl (by decide) (by decide) (by decide) ?_;conv=>whnf
 exact⟨rfl,rfl⟩
end Go.Qm
namespace Go.Qm
open Go.Cq Go.Cq.D Go.RowKit Go.Proofs
set_option maxRecDepth 10000
def ur:Space:=⟨true,[],List.replicate 16 cQ⟩
def eg(m:Mem):Mem:={m with sp:=m.sp.set (bu m.sp) ur}
def fU(m:Mem):Mem×Int×Bool:=if b7 m&&decide (bu m.sp<m.sp.length)then(eg m,gv m.sp,true)else(eh, -1,false)
theorem oe(b1 b2 b3 b4 b5:Bool)(m:Mem)(h:m.fits 1048576):bC Try.prog 142 [aM b1 b2 b3 b4 b5 m] (.tup [oM (fU m).1,.one (dI (fU m).2.1),.one (dB (fU m).2.2)]):=by
 refine aK hmix Try.func142 ok142 ?_;conv=>whnf
 refine aB [.pass] rfl rfl rfl (rC b1 b2 b3 b4 b5 m (h.mono (by decide))) rfl ?_;conv=>whnf
 refine CondP.mk (fun h1=>?_) (fun h1=>?_)<;>rw[h1]<;>(conv=>whnf)<;>repeat' first|(refine aD ?_;conv=>whnf)|(refine aC ?_;conv=>whnf)
 ·refine⟨?_,rfl⟩;have h1:b7 m=false:=by simpa using h1
  simp[fU,h1,oM,eh,dI,dB]
 have h1:b7 m=true:=by simpa using h1
 refine aB [.pass] rfl rfl rfl (my b1 b2 b3 b4 b5 m (by have:=h.sp;omega)) rfl ?_
 (conv=>whnf)<;>repeat' first|(refine aD ?_;conv=>whnf)|(refine aC ?_;conv=>whnf)
 refine CondP.mk (fun h2=>?_) (fun h2=>?_)<;>conv=>whnf
 ·have c1:¬bu m.sp<m.sp.length:=fun c=>by rw[gv,if_pos c]at h2;simp at h2;omega
  refine⟨?_,rfl⟩;simp[fU,c1,oM,eh,dI,dB]
 have c1:bu m.sp<m.sp.length:=by
  rcases Nat.lt_or_ge (bu m.sp) m.sp.length with c|c
  ·exact c
  ·rw[gv,if_neg (by omega)]at h2;simp at h2
 refine aB [.pass] rfl rfl rfl (eF b1 b2 b3 b4 b5 m h) rfl ?_;conv=>whnf
 refine aB [.pass] rfl rfl rfl (my b1 b2 b3 b4 b5 m (by have:=h.sp;omega)) rfl ?_;conv=>whnf
 obtain⟨Z,hZ⟩:∃Z,bu m.sp=Z:=⟨_,rfl⟩;rw[hZ]at c1;have hS:gv m.sp=(Z:Int):=by simp[gv,c1,hZ]
 have hM:fU m=(eg m,(Z:Int),true):=by simp[fU,h1,c1,hS,hZ]
 rw[hM,hS];simp only[List.drop_zero,List.take_length];refine bR rfl rfl rfl ?_;conv=>whnf
 refine qf rfl rfl (m:=16) (c:=16) rfl rfl (by decide) (by decide) (by decide) ?_;conv=>whnf
 refine aE (k:=Z) rfl rfl rfl (by simpa using c1) ?_;conv=>whnf
 refine dV rfl rfl rfl rfl rfl (aC2 (by simpa using c1) rfl) ?_;conv=>whnf
 have hgZ:=av (f:=rP) (List.getElem?_eq_getElem c1);have hm4:(eg m).sp=m.sp.set Z ur:=by rw[eg,hZ]
 have e4:(eg m).sp.length=m.sp.length:=by rw[hm4,List.length_set]
 refine aX (i:=Z) (k:=2) (g':=5) (lo:=0) (len:=16) (ov2:=[(Z,1,.sl 4 0 0)]) rfl (ai (gh hgZ) (by simp[rP]) (by simp only[aa,if_true];rfl)) rfl rfl rfl (by simp only[aZ,if_true];rfl) ?_;conv=>whnf
 refine aX (i:=Z) (k:=1) (g':=4) (lo:=0) (len:=0) (es2:=(eg m).sp.map rP) (ov2:=[]) rfl (ai (gh (gh hgZ)) (by simp[rP]) (by simp only[aa,if_true];rfl)) rfl rfl (by rw[z7 c1,hm4,←map_set];simp[rP];rfl) (by simp only[aZ,if_true];rfl) ?_;conv=>whnf
 refine⟨?_,rfl⟩;simp[oM,dI,dB,e4,gf e4,show(eg m).ram=m.ram from rfl,show(eg m).swp=m.swp from rfl,show(eg m).hd=m.hd from rfl]
end Go.Qm
namespace Go.Qm
open Go.Cq Go.Cq.D Go.RowKit Go.Proofs
set_option maxRecDepth 10000
def sU:Space:=⟨false,[],[]⟩
def jT(m:Mem)(i:Nat):Mem:={m with sp:=m.sp.set i sU}
def wW(m:Mem)(i:Nat):Mem:=jT (bG m i 0 16) i
theorem yU(m:Mem)(i:Nat)(hL:LsOk m i 0 0):bC Try.prog 171 [oM m,.one (dI i)] (.v (oM (wW m i))):=by
 refine aK hmix Try.func171 ok171 ?_;have hi:=hL.hi;conv=>whnf
 refine aq (fun t:Nat=>[(1,.v (.one (dI i))),(2,.v (.one (.ptr 5 0 0))),(4,.v (.one (.ptr 6 0 0))),(5,.v (.one (dI t)))]) (fun t=>[(6,bO eh),(5,bO (bG m i 0 t))]) (fun _=>7)
  (fun t=>t≤16) (fun t=>16-t) 0 (by omega) rfl (by simp only[List.drop_zero,List.take_length];rfl) rfl fun t ht=>?_
 have hlt:=kp hL (t:=t) (by omega);conv=>whnf
 refine CondP.mk (fun c2=>?_) (fun c2=>?_)<;>conv=>whnf
 ·have c2:t<16:=by
              have:(t:Int)<16:=by simpa using c2
              omega
  have hj:0+t< ((bG m i 0 t).sp[i]'hlt.hi).sl.length:=by rw[hlt.sl];omega
  have hok:=hlt.ok (by omega) (Nat.le_refl _) hlt.hi hj;refine aB [.fS,.pass,.pass] rfl rfl rfl (by simpa [oM,dI]using qK (bG m i 0 t) i (0+t) hlt.hi hj hok.1 hok.2) rfl ?_;conv=>whnf
  refine⟨t+1,by omega,by omega,?_,?_,rfl⟩
  ·rw[wrap64 (by omega) (by omega)];rfl
  ·simp[bO,bG,dI]
 ·have c2:t=16:=by
              have:¬(t:Int)<16:=by simpa using c2
              omega
  subst c2;have hz:i< (bG m i 0 16).sp.length:=hlt.hi;have hD:wW m i=jT (bG m i 0 16) i:=rfl;rw[hD];clear hD hlt;generalize bG m i 0 16=w at hz ⊢;refine aE (k:=i) rfl rfl rfl (by simpa using hz) ?_;conv=>whnf
  refine dV rfl rfl rfl rfl rfl (by simp[wrN,wr1,DV.cells,hz];rfl) ?_;conv=>whnf
  have hg:=av (f:=rP) (List.getElem?_eq_getElem hz);have e4:(jT w i).sp.length=w.sp.length:=by simp[jT]
  refine aX (i:=i) (k:=2) (g':=9) (lo:=0) (len:=0) (ov2:=[(i,1,.sl 8 0 0)]) rfl (ai (gh hg) (by simp[rP]) (by simp only[aa,if_true];rfl)) rfl rfl rfl (by simp only[aZ,if_true];rfl) ?_;conv=>whnf
  refine aX (i:=i) (k:=1) (g':=8) (lo:=0) (len:=0) (es2:=(jT w i).sp.map rP) (ov2:=[]) rfl (ai (gh (gh hg)) (by simp[rP]) (by simp only[aa,if_true];rfl)) rfl rfl (by rw[List.modify_modify_eq,List.modify_modify_eq,iW hg,jT,←map_set];rfl) (by simp only[aZ,if_true];rfl) ?_;conv=>whnf
  refine⟨?_,rfl⟩;simp[oM,dI,e4,gf e4,show(jT w i).ram=w.ram from rfl,show(jT w i).swp=w.swp from rfl,show(jT w i).hd=w.hd from rfl]
end Go.Qm
namespace Go.Qm
open Go.Cq Go.Cq.D Go.RowKit Go.Proofs
set_option maxRecDepth 10000
theorem qp:SpI sU:=⟨fun e=>by simp[sU]at e,fun _=>⟨rfl,rfl⟩,fun x hx=>by simp[sU]at hx⟩
theorem wP:Inv kU:=by
 have hp:∀kd:Int,Pl nB fun k=>cnt kd k kU.sp:=fun kd=>by
  have h0:∀k:Nat,cnt kd k kU.sp=0:=fun k=>by simp[kU,List.replicate,cnt,eO]
  refine⟨rfl,rfl,fun k hk=>?_,fun k hk h=>absurd (h0 k) h⟩;rw[h0,nB];simp only[List.getElem?_replicate,hk,if_true];rfl
 exact⟨hp 1,hp 2,rfl,by decide,fun s hs=>by rw[kU]at hs;obtain rfl:=List.eq_of_mem_replicate hs;exact qp⟩
theorem Inv.make{m:Mem}(h:Inv m)(hz:bu m.sp<m.sp.length):Inv (eg m):=by
 have hd:=(h.ss _ (List.getElem_mem hz)).dd (kj hz);refine h.put hz ⟨fun _=>⟨by decide,rfl⟩,fun e=>by simp[ur]at e,fun x hx=>?_⟩ fun kd pl hk=>?_
 ·obtain rfl:=List.eq_of_mem_replicate hx;exact .inl rfl
 ·rw[hd.2];exact rE hk fun x hx=>by obtain rfl:=List.eq_of_mem_replicate hx;rfl
theorem tZ{m:Mem}{i j k:Nat}(hi:i<m.sp.length)(hj:j<m.sp[i].sl.length):aJ (gD m i j) i k=if k=j then cQ else aJ m i k:=by
 have e:(m.sp[i]?.bind fun s=>s.sl[j]?)=some m.sp[i].sl[j]:=by simp[hi,hj]
 simp only[gD,e];by_cases c:k=j
 ·subst c;rw[if_pos rfl];simp[aJ,aH,hi,hj]
 ·rw[if_neg c,oZ c]
theorem qG{m:Mem}(h:Inv m){i:Nat}(hi:i<m.sp.length)(hlv:m.sp[i].lv=true):∀{t k:Nat},t≤16→k<t→aJ (bG m i 0 t) i k=cQ:=by
 intro t;induction t with
 |zero=>intro k _ hk;omega
 |succ t ih=>
  intro k ht hk;obtain⟨h1,s1⟩:=h.bG (fr:=0) hi hlv (t:=t) (by omega);have hi1:i< (bG m i 0 t).sp.length:=by rw[s1.1];exact hi
  have h16:=((h.ss _ (List.getElem_mem hi)).lv hlv).2;have hl:=(s1.2 i hi hi1).2.2;rw[bG,tZ hi1 (by omega)];split
  ·rfl
  ·exact ih (by omega) (by omega)
theorem Inv.drop{m:Mem}(h:Inv m){i:Nat}(hi:i<m.sp.length)(hlv:m.sp[i].lv=true):Inv (wW m i):=by
 obtain⟨h1,s1⟩:=h.bG (fr:=0) hi hlv (t:=16) (by omega);have hz:=fun k(hk:k<16)=>qG h hi hlv (t:=16) (k:=k) (Nat.le_refl _) hk
 have h16:=((h.ss _ (List.getElem_mem hi)).lv hlv).2;have hi1:i< (Go.Qm.bG m i 0 16).sp.length:=by rw[s1.1];exact hi
 have hl:=(s1.2 i hi hi1).2.2;rw[wW];generalize Go.Qm.bG m i 0 16=w at h1 s1 hz hi1 hl;refine h1.put hi1 qp fun kd pl hk=>?_
 rw[rE hk (l:=w.sp[i].sl) fun x hx=>?_]
 ·rfl
 ·obtain⟨k,hk2,rfl⟩:=List.getElem_of_mem hx;rw[←bp hi1 hk2,hz k (by omega)];rfl
theorem Inv.map{m:Mem}(h:Inv m){i:Nat}(hi:i<m.sp.length)(hlv:m.sp[i].lv=true)(a:Area):Inv (mapM (fD (dq m i) a) m i).1:=by
 cases e:fD (dq m i) a with
 |none=>exact h
 |some l=>exact h.ag hi hlv (kc e).2
theorem Inv.get{m:Mem}(h:Inv m){i a:Nat}(hi:i<m.sp.length)(hlv:m.sp[i].lv=true)(ha:a≤63):Inv (getM m i a).1:=by
 have h16:=((h.ss _ (List.getElem_mem hi)).lv hlv).2;unfold getM;split
 ·exact h
 ·split
  ·exact h
  ·rename_i m' hm;exact h.mX hi (by omega) hm
theorem Inv.ui{m:Mem}(h:Inv m){i a:Nat}{b:Int}(hi:i<m.sp.length)(hlv:m.sp[i].lv=true)(ha:a≤63):Inv (ck m i a b).1:=by
 have h16:=((h.ss _ (List.getElem_mem hi)).lv hlv).2;unfold ck;split
 ·exact h
 ·split
  ·exact h
  ·split
   ·exact h
   ·rename_i m2 hm;rw[Option.bind_eq_some_iff]at hm;obtain⟨m1,h1,h2⟩:=hm;have i1:=h.mX hi (by omega) h1;obtain⟨hi1,hj1,hk⟩:=jP h.wf hi (by omega) h1;have i2:=i1.own hi1 hj1 (by rw[bp hi1 hj1];exact hk) h2;exact i2.text (by simp[Go.Qm.ui])
theorem Inv.cut{m:Mem}(h:Inv m){i:Nat}(hi:i<m.sp.length)(hlv:m.sp[i].lv=true){fr mn:Int}:Inv (oi (eA (dq m i) fr mn) m i fr mn).1:=by
 cases e:eA (dq m i) fr mn with
 |none=>exact h
 |some l=>
  obtain⟨h2,h4⟩:=jX e;have hb:=au.1 h2;simp only at hb;have h1:=h.ag hi hlv h4;have hi1:i< (Go.Qm.ag m i l).sp.length:=by simpa [Go.Qm.ag]using hi
  have hlv1:(Go.Qm.ag m i l).sp[i].lv=true:=by simp[Go.Qm.ag,hlv]
  exact(h1.bG (fr:=fr.toNat) (t:=mn.toNat) hi1 hlv1 (by omega)).1
theorem lh{l:List Area}(h:aO l=true):l.length≤6:=by simp only[aO,Bool.and_eq_true,decide_eq_true_eq]at h;exact h.2
theorem Inv.ar{m:Mem}(h:Inv m){i:Nat}(hi:i<m.sp.length)(hlv:m.sp[i].lv=true):(∀x,x∈m.sp[i].ar→an x=true)∧m.sp[i].ar.length≤6∧m.sp[i].sl.length=16:=⟨cr ((h.ss _ (List.getElem_mem hi)).lv hlv).1,lh ((h.ss _ (List.getElem_mem hi)).lv hlv).1,((h.ss _ (List.getElem_mem hi)).lv hlv).2⟩
theorem Inv.fits{m:Mem}(h:Inv m):m.fits 1048576:=by
 refine⟨by rw[h.ram.tx];decide,by rw[h.ram.rf];decide,by rw[h.swp.tx];decide,by rw[h.swp.rf];decide,by rw[h.sp];decide,fun s hs=>⟨?_,?_⟩⟩
 ·have i1:=h.ss s hs;cases e:s.lv with
  |true=>have:=lh (i1.lv e).1;omega
  |false=>rw[(i1.dd e).1];simp
 ·have:=(h.ss s hs).l16;omega
end Go.Qm
namespace Go.Qm
open Go.Cq Go.Cq.D Go.RowKit Go.Proofs
set_option maxRecDepth 10000
def jR(c:CV)(es:List (List PV)):JN:=⟨fun _=>none,some (c,es)⟩
theorem xu(c:CV)(es:List (List PV))(hc:uQ es c)(hl:es.length≤9223372036854775807):gq Try.prog (jR (mq c) (es.take 2000)) 73 [.one (.sc c)] [] 0 fun res H'=>∃t,res= .v (.one (.ptr t 0 0))∧aG H' t=some (.box ([mq c,.int .i64 0].map .sc)):=by
 refine ft hmix Try.func73 ok73 (fun g p h=>by simp[jR]at h) ?_;rcases hc with⟨rfl,z,rfl⟩| ⟨id,base,lim,rfl⟩
 ·conv=>whnf
  refine wx rfl ?_;conv=>whnf
  refine CondP.mk (fun h=>by simp at h) (fun _=>?_);conv=>whnf
  exact⟨0,rfl,rfl⟩
 ·conv=>whnf
  refine kh rfl ?_;conv=>whnf
  refine CondP.mk (fun h=>?_) (fun h=>?_)<;>conv=>whnf
  ·have h:2000<es.length:=by simp at h;omega
   refine aBP (m:=2000) (b':=base+0) (l':=2000-0) (lim':=lim.map (· -0)) (es:=es.take 2000) rfl rfl (by simp only[jR,mq,if_pos h]) (by omega) ?_;conv=>whnf
   exact⟨0,rfl,by simp only[mq,if_pos h];rfl⟩
  ·have h:¬2000<es.length:=by simp at h;omega
   exact⟨0,rfl,by simp only[mq,if_neg h];rfl⟩
theorem aCr{a b:Int}(h1:0≤a)(h2:a<4611686018427387904)(h3:0≤b)(h4:b<4611686018427387904):0≤IntKind.wrap .i64 ((BitVec.ofInt IntKind.i64.bits a ^^^ BitVec.ofInt IntKind.i64.bits b).toNat:Int):=by
 have e:∀{a:Int},0≤a→a<4611686018427387904→(BitVec.ofInt 64 a).toNat<2 ^ 62:=fun{a} h1 h2=>by rw[BitVec.toNat_ofInt];omega
 have:=Nat.xor_lt_two_pow (e h1 h2) (e h3 h4);have hx:(BitVec.ofInt IntKind.i64.bits a ^^^ BitVec.ofInt IntKind.i64.bits b).toNat<2 ^ 62:=by rw[BitVec.toNat_xor];exact this
 rw[wrap64 (by omega) (by omega)];omega
theorem aBm(c:CV)(bs:List UInt8)(p:Nat)(n:Int)(hc:uQ (bs.map dU) c)(hl:bs.length≤2000)(hp:p≤1000000)(hn:1≤n∧n≤1000):gq Try.prog (jR c (bs.map dU)) 91 [.one (.ptr 0 0 0),.one (dI n)] [(0,.box [.sc c,dI p])] 1
  fun x H'=>∃v:Int,0≤v∧v<n∧x= .v (.one (dI v))∧H'=[(0,.box [.sc c,dI ((p+1:Nat):Int)])]:=by
 refine ft hmix Try.func91 ok91 (fun g p h=>by simp[jR]at h) ?_;have hn0:decide (n<1)=false:=by simp;omega
 have hw:IntKind.wrap .i64 ((p:Int)+1)=((p+1:Nat):Int):=by rw[wrap64 (by omega) (by omega)];omega
 rcases hc with⟨he,z,rfl⟩| ⟨id,base,lim,rfl⟩
 ·have he:bs=[]:=by simpa using he
  conv=>whnf
  rw[hn0,hw];refine aC ?_;conv=>whnf
  refine aC ?_;conv=>whnf
  refine aC ?_;conv=>whnf
  refine aC ?_;conv=>whnf
  refine aC ?_;conv=>whnf
  refine wx rfl ?_;conv=>whnf
  refine aC ?_;conv=>whnf
  refine aD ?_;conv=>whnf
  exact⟨0,by omega,by omega,rfl,rfl⟩
 ·rw[List.length_map];conv=>whnf
  rw[hn0,hw];refine aC ?_;conv=>whnf
  refine aC ?_;conv=>whnf
  refine aC ?_;conv=>whnf
  refine aC ?_;conv=>whnf
  refine aC ?_;conv=>whnf
  refine kh rfl ?_;conv=>whnf
  refine aC ?_;conv=>whnf
  have hw2:IntKind.wrap .i64 (((p+1:Nat):Int)-1)=(p:Int):=by rw[wrap64 (by omega) (by omega)];omega
  refine CondP.mk (fun h=>?_) (fun h=>?_)<;>conv=>whnf
  ·exact⟨0,by omega,by omega,rfl,rfl⟩
  have hb:0<bs.length:=by simp only[decide_eq_false_iff_not]at h;omega
  rw[hw2];refine kh rfl ?_;conv=>whnf
  refine CondP.mk (fun h2=>?_) (fun h2=>?_)<;>conv=>whnf
  ·have h2:p<bs.length:=by simp at h2;omega
   refine ri (k:=p) rfl rfl rfl (by simpa using h2) ?_;conv=>whnf
   refine aF (r:=.one (.sc (.int .u8 bs[p].toNat))) rfl (by simp[ak,dU,h2]) ?_;conv=>whnf
   rw[show IntKind.wrap .i64 (bs[p].toNat:Int)=bs[p].toNat from wrap64 (by omega) (by have:=bs[p].toNat_lt;omega)];refine sM rfl rfl (by omega) ?_;conv=>whnf
   refine⟨_,?_,?_,rfl,rfl⟩
   ·exact Int.tmod_nonneg _ (by omega)
   ·exact Int.tmod_lt_of_pos _ (by omega)
  ·have h2:bs.length≤p:=by simp at h2;omega
   refine kh rfl ?_;conv=>whnf
   refine sM rfl rfl (by omega) ?_;conv=>whnf
   have hL:(0:Int)<bs.length:=by omega
   have q1:p % bs.length<bs.length:=Nat.mod_lt _ hb;have q2:(p*7+3) % bs.length<bs.length:=Nat.mod_lt _ hb;have d1:=bs[p % bs.length].toNat_lt;have d2:=bs[(p*7+3) % bs.length].toNat_lt;have w1:IntKind.wrap .i64 ((p:Int)*7)=(p:Int)*7:=wrap64 (by omega) (by omega);have w2:IntKind.wrap .i64 ((p:Int)*7+3)=(p:Int)*7+3:=wrap64 (by omega) (by omega);have e1:((p:Int)).tmod bs.length=((p % bs.length:Nat):Int):=by rw[Int.tmod_eq_emod_of_nonneg (by omega)];omega
   have e2:((p:Int)*7+3).tmod bs.length=(((p*7+3) % bs.length:Nat):Int):=by rw[Int.tmod_eq_emod_of_nonneg (by omega)];simp
   rw[e1];refine ri (k:=p % bs.length) rfl rfl rfl (by simpa using q1) ?_;conv=>whnf
   refine aF (r:=.one (.sc (.int .u8 bs[p % bs.length].toNat))) rfl (by simp[ak,dU,q1]) ?_;conv=>whnf
   refine kh rfl ?_;conv=>whnf
   rw[w1,w2];refine sM rfl rfl (by omega) ?_;conv=>whnf
   rw[e2];refine ri (k:=(p*7+3) % bs.length) rfl rfl rfl (by simpa using q2) ?_;conv=>whnf
   refine aF (r:=.one (.sc (.int .u8 bs[(p*7+3) % bs.length].toNat))) rfl (by simp[ak,dU,q2]) ?_;conv=>whnf
   refine kh rfl ?_;conv=>whnf
   refine aAM rfl rfl (by omega) ?_;conv=>whnf
   obtain⟨X,hX,x0,x1⟩:∃X:Int,IntKind.wrap .i64 (IntKind.wrap .i64 (IntKind.wrap .i64 (IntKind.wrap .i64 (IntKind.wrap .i64 (bs[p % bs.length].toNat:Int)*131)+IntKind.wrap .i64 (IntKind.wrap .i64 (bs[(p*7+3) % bs.length].toNat:Int)*1117))+IntKind.wrap .i64 ((p:Int)*29))+IntKind.wrap .i64 (IntKind.wrap .i64 ((p:Int).tdiv bs.length)*53))=X∧0≤X∧X<4611686018427387904:=by
    generalize bs[p % bs.length].toNat=B1 at d1;generalize bs[(p*7+3) % bs.length].toNat=B2 at d2;have hQ:(p:Int).tdiv bs.length=((p / bs.length:Nat):Int):=by rw[Int.tdiv_eq_ediv_of_nonneg (by omega)];simp
    have hQ2:p / bs.length≤p:=Nat.div_le_self _ _;rw[hQ];generalize p / bs.length=Q at hQ2;have d1:B1<256:=d1;have d2:B2<256:=d2;have a1:IntKind.wrap .i64 (B1:Int)=B1:=wrap64 (by omega) (by omega);have a2:IntKind.wrap .i64 ((B1:Int)*131)=B1*131:=wrap64 (by omega) (by omega);have a3:IntKind.wrap .i64 (B2:Int)=B2:=wrap64 (by omega) (by omega);have a4:IntKind.wrap .i64 ((B2:Int)*1117)=B2*1117:=wrap64 (by omega) (by omega);have a5:IntKind.wrap .i64 ((B1:Int)*131+B2*1117)=B1*131+B2*1117:=wrap64 (by omega) (by omega);have a6:IntKind.wrap .i64 ((p:Int)*29)=p*29:=wrap64 (by omega) (by omega);have a7:IntKind.wrap .i64 ((B1:Int)*131+B2*1117+p*29)=B1*131+B2*1117+p*29:=wrap64 (by omega) (by omega);have a8:IntKind.wrap .i64 (Q:Int)=Q:=wrap64 (by omega) (by omega);have a9:IntKind.wrap .i64 ((Q:Int)*53)=Q*53:=wrap64 (by omega) (by omega);have a10:IntKind.wrap .i64 ((B1:Int)*131+B2*1117+p*29+Q*53)=B1*131+B2*1117+p*29+Q*53:=wrap64 (by omega) (by omega);rw[a1,a2,a3,a4,a5,a6,a7,a8,a9,a10];exact⟨_,rfl,by omega,by omega⟩
   rw[hX];refine aAM rfl rfl (by decide) ?_;have hY:IntKind.wrap .i64 (X.tdiv 64)=X / 64:=by rw[Int.tdiv_eq_ediv_of_nonneg x0];exact wrap64 (by omega) (by omega)
   rw[hY];conv=>whnf
   refine sM rfl rfl (by omega) ?_;conv=>whnf
   refine⟨_,?_,?_,rfl,rfl⟩
   ·exact Int.tmod_nonneg _ (aCr x0 x1 (by omega) (by omega))
   ·exact Int.tmod_lt_of_pos _ (by omega)
end Go.Qm
namespace Go.Qm
open Go.Cq Go.Cq.D Go.RowKit Go.Proofs
set_option maxRecDepth 10000
def rB(c:CV)(p:Nat):DB:=.box [.sc c,dI p]
structure RdOk(c:CV)(bs:List UInt8):Prop where
 c:uQ (bs.map dU) c
 l:bs.length≤2000
section
variable{c:CV}{bs:List UInt8}{ts:DTs}{H:DH}{m:Nat}{K:DT→DTs→DH→Nat→List Nat→Prop}
theorem aw{x y:Opd}{g p:Nat}{n:Int}(r:RdOk c bs)(hx:cK ts x=some (.ptr g 0 0))(hy:evD ts y=some (.one (dI n)))(hg:aG H g=some (rB c p))(hp:p≤1000000)(hn:1≤n∧n≤1000)(h:∀v:Int,0≤v→v<n→fTs ts fun ts1=>fDH (dC g (rB c (p+1)) H) fun H'=>K (.v (.one (dI v))) ts1 H' m [g]):OpP ⟨Try.prog,jR c (bs.map dU)⟩ (.call 91 [x,y]) ts H m K:=by
 have hxd:evD ts x=some (.one (.ptr g 0 0)):=by
  unfold cK at hx;split at hx
  ·rename_i e;cases hx;exact e
  ·simp at hx
 have hr:gE [g] g 0=some 0:=by simp[gE]
 refine il [] [.pass,.pass] [g] (jR c (bs.map dU)) (das:=[.one (.ptr g 0 0),.one (dI n)]) (cas:=[.one (.ptr 0 0 0),.one (dI n)]) (Hc:=[(0,rB c p)]) rfl (by simp only[dn,hxd,hy]) (by simp only[gI,qx,qV,hr,Option.map_some,dI]) (by simp only[et,hg,Option.bind_some];rfl) (by simp[nodup,given,eN,cX]) (aBm c bs p n r.c r.l hp hn) (fun t p h=>by simp[jR]at h) ?_;rintro res H3 ⟨v,h1,h2,rfl,rfl⟩;have h:=h v h1 h2;simp only[l5,lP]at h;refine⟨rfl,dC g (rB c (p+1)) H,?_,h⟩;simp only[given,gR,bS,aG,Nat.beq_refl,cond_true,hg,rB,List.length_cons,List.length_nil,if_true];rfl
end
theorem aBt(c:CV)(bs:List UInt8)(p:Nat)(r:RdOk c bs)(hp:p≤999990):gq Try.prog (jR c (bs.map dU)) 119 [.one (.ptr 0 0 0)] [(0,rB c p)] 1
  fun x H'=>∃(a:Area)(q:Nat),0≤a.fr∧a.fr≤15∧ -1≤a.mn∧a.mn≤17∧p≤q∧q≤p+6∧x= .v (.agg (aA a))∧H'=[(0,rB c q)]:=by
 refine ft hmix Try.func119 ok119 (fun g p h=>by simp[jR]at h) ?_;rcases r.c with⟨-,z,rfl⟩| ⟨id,base,lim,rfl⟩<;>conv=>whnf
 all_goals
  refine aw r rfl rfl rfl (by omega) (by omega) fun f f1 f2=>?_
  conv=>whnf
  refine aw r rfl rfl rfl (by omega) (by omega) fun k k1 k2=>?_
  conv=>whnf
  have ew:IntKind.wrap .i64 (1+k)=1+k:=wrap64 (by omega) (by omega);rw[ew];refine aw r rfl rfl rfl (by omega) (by omega) fun w w1 w2=>?_
  conv=>whnf
  refine aw r rfl rfl rfl (by omega) (by omega) fun s s1 s2=>?_
  conv=>whnf
  refine aw r rfl rfl rfl (by omega) (by omega) fun u u1 u2=>?_
  conv=>whnf
  refine CondP.mk (fun h=>?_) (fun h=>?_)<;>conv=>whnf
  ·refine bR (db:=.arr 1 [rI 0,rI (-1),rI 16,rI 17] []) rfl rfl rfl ?_;conv=>whnf
   refine aw r rfl rfl rfl (by omega) (by omega) fun x x1 x2=>?_
   conv=>whnf
   have hx:x=0∨x=1∨x=2∨x=3:=by omega
   rcases hx with rfl|rfl|rfl|rfl
   all_goals
    conv=>whnf
    refine aE (k:=_) rfl rfl rfl (by decide) ?_;conv=>whnf
    refine cz rfl rfl rfl rfl rfl ?_;conv=>whnf
    exact⟨⟨f,_,_,_⟩,p+6,f1,by simp only;omega,by simp,by simp,by omega,by omega,rfl,rfl⟩
  ·exact⟨⟨f,1+k,_,_⟩,p+5,f1,by simp only;omega,by simp only;omega,by simp only;omega,by omega,by omega,rfl,rfl⟩
end Go.Qm
namespace Go.Qm
open Go.Cq Go.Cq.D Go.RowKit Go.Proofs
set_option maxRecDepth 10000
theorem aCx(c:CV)(bs:List UInt8)(p:Nat)(b1 b2 b3 b4 b5:Bool)(m:Mem)(r:RdOk c bs)(hp:p≤999900)(hl:m.sp.length≤5):gq Try.prog (jR c (bs.map dU)) 75 [.one (.ptr 0 0 0),aM b1 b2 b3 b4 b5 m] [(0,rB c p)] 1
  fun x H'=>∃(w:Int)(q:Nat), -1≤w∧w≤5∧p≤q∧q≤p+11∧x= .v (.one (dI w))∧H'=[(0,rB c q)]:=by
 refine ft hmix Try.func75 ok75 (fun g p h=>by simp[jR]at h) ?_;rcases r.c with⟨-,z,rfl⟩| ⟨id,base,lim,rfl⟩<;>conv=>whnf
 all_goals
  refine aq (fun s:Nat×Nat=>[(0,.v (.one (.ptr 0 0 0))),(3,.v (.one (.ptr 1 0 0))),(5,.v (.one (dI s.1)))]) (fun s=>[(1,.box [.ro b1 1 (m.ram.tx.map rS),.ro b2 1 (m.ram.rf.map rI),.ro b3 1 (m.swp.tx.map rS),.ro b4 1 (m.swp.rf.map rI),.ro b5 3 (m.sp.map rP),dI m.hd]),(0,rB _ s.2)]) (fun _=>2)
   (fun s=>s.1≤m.sp.length∧p≤s.2∧s.2≤p+2*s.1) (fun s=>m.sp.length-s.1) (0,p) ⟨by omega,by omega,by omega⟩ rfl rfl rfl fun s hs=>?_
  obtain⟨i,q⟩:=s;obtain⟨hi,hq1,hq2⟩:=hs;simp only at hi hq1 hq2;conv=>whnf
  refine CondP.mk (fun h=>?_) (fun h=>?_)<;>rw[h]<;>(conv=>whnf)<;>repeat' first|(refine aD ?_;conv=>whnf)|(refine aC ?_;conv=>whnf)
  case' _=>
   have hlt:i<m.sp.length:=by simpa using h
   refine aw r rfl rfl rfl (by omega) (by omega) fun v v1 v2=>?_
   conv=>whnf
   refine aD ?_;conv=>whnf
   refine CondP.mk (fun h1=>?_) (fun h1=>?_)<;>conv=>whnf
   case' _=>
    refine aI (k:=i) rfl rfl (by simpa using hlt) ?_;conv=>whnf
    refine aF rfl (r:=.one (dB m.sp[i].lv)) (by simp[ak,rP,hlt,eB,dB]) ?_;conv=>whnf
    have next:i+1≤m.sp.length∧m.sp.length-(i+1)<m.sp.length-i∧IntKind.wrap .i64 ((i:Int)+1)=((i+1:Nat):Int):=⟨hlt,by omega,up hlt (by omega)⟩
    refine CondP.mk (fun h2=>?_) (fun h2=>?_)<;>rw[h2]<;>(conv=>whnf)<;>repeat' first|(refine aD ?_;conv=>whnf)|(refine aC ?_;conv=>whnf)
    case' _=>
     refine aw r rfl rfl rfl (by omega) (by omega) fun w w1 w2=>?_
     conv=>whnf
     refine aD ?_;conv=>whnf
     refine CondP.mk (fun h3=>?_) (fun h3=>?_)<;>conv=>whnf
     case _=>exact⟨_,_,by omega,by omega,by omega,by omega,rfl,rfl⟩
     case _=>exact⟨(i+1,q+2),next.2.1,⟨next.1,by omega,by omega⟩,by rw[next.2.2];rfl,rfl,rfl⟩
    case _=>exact⟨(i+1,q+1),next.2.1,⟨next.1,by omega,by omega⟩,by rw[next.2.2];rfl,rfl,rfl⟩
  all_goals
   refine bR (db:=.arr 1 [rI 0,rI 0,rI 0,rI 1,rI 2,rI 4,rI (-1),rI 5] []) rfl rfl rfl ?_;conv=>whnf
   refine aw r rfl rfl rfl (by simp only;omega) (by omega) fun w w1 w2=>?_
   conv=>whnf
   have hw:w=0∨w=1∨w=2∨w=3∨w=4∨w=5∨w=6∨w=7:=by omega
   rcases hw with rfl|rfl|rfl|rfl|rfl|rfl|rfl|rfl
   all_goals
    conv=>whnf
    refine aE (k:=_) rfl rfl rfl (by decide) ?_;conv=>whnf
    refine cz rfl rfl rfl rfl rfl ?_;conv=>whnf
    exact⟨_,_,by decide,by decide,by omega,by omega,rfl,rfl⟩
end Go.Qm
namespace Go.Qm
open Go.Cq Go.Cq.D Go.RowKit Go.Proofs
set_option maxRecDepth 10000
theorem LsOk.ag{m:Mem}{i fr:Nat}{l:List Area}(h:LsOk m i fr 0):LsOk (Go.Qm.ag m i l) i fr 0:=by
 have hl:i< (Go.Qm.ag m i l).sp.length:=by simpa [Go.Qm.ag]using h.hi
 have hi:=h.hi;have e:(Go.Qm.ag m i l).sp[i].sl=m.sp[i].sl:=by simp[Go.Qm.ag]
 exact⟨h.ram,h.swp,hl,by rw[e];exact h.sl,fun j hj hf=>by simp only[e];exact h.pl j (by rw[←e];exact hj) hf⟩
set_option maxHeartbeats 8000000 in
theorem aBq(c:CV)(bs:List UInt8)(p:Nat)(m:Mem)(r:RdOk c bs)(hp:p≤999900)(h:Inv m):gq Try.prog (jR c (bs.map dU)) 144 [.one (.ptr 0 0 0),oM m] [(0,rB c p)] 1
  fun x H'=>∃(m':Mem)(q:Nat),Inv m'∧p≤q∧q≤p+8∧x= .v (oM m')∧H'=[(0,rB c q)]:=by
 refine ft hmix Try.func144 ok144 (fun g p h=>by simp[jR]at h) ?_;rcases r.c with⟨-,z,rfl⟩| ⟨id,base,lim,rfl⟩<;>conv=>whnf
 all_goals
  refine aw r rfl rfl rfl (by omega) (by omega) fun v v1 v2=>?_
  conv=>whnf
  simp only[List.drop_zero,List.take_length];refine aB (cas:=[aM true true true true true m,.one (dI v)]) [.lend,.pass] rfl (by show some [DV.agg [DC.ro true 1 (List.take _ (List.drop 0 _)),DC.ro true 1 (List.take _ (List.drop 0 _)),DC.ro true 1 (List.take _ (List.drop 0 _)),DC.ro true 1 (List.take _ (List.drop 0 _)),DC.ro true 3 (List.take _ (List.drop 0 _)),_],_]=_;simp only[List.drop_zero,List.take_length];rfl) rfl (mA true true true true true m v (by rw[h.sp];decide)) rfl ?_;conv=>whnf
  refine CondP.mk (fun h1=>?_) (fun h1=>?_)<;>rw[h1]<;>(conv=>whnf)<;>repeat' first|(refine aD ?_;conv=>whnf)|(refine aC ?_;conv=>whnf)
  case' _=>
   simp only[List.drop_zero,List.take_length];refine aB (cas:=[aM true true true true true m,.one (dI 0)]) [.lend,.pass] rfl (by show some [DV.agg [DC.ro true 1 (List.take _ (List.drop 0 _)),DC.ro true 1 (List.take _ (List.drop 0 _)),DC.ro true 1 (List.take _ (List.drop 0 _)),DC.ro true 1 (List.take _ (List.drop 0 _)),DC.ro true 3 (List.take _ (List.drop 0 _)),_],_]=_;simp only[List.drop_zero,List.take_length];rfl) rfl (mA true true true true true m 0 (by rw[h.sp];decide)) rfl ?_;conv=>whnf
   refine CondP.mk (fun h2=>?_) (fun h2=>?_)<;>rw[h2]<;>(conv=>whnf)<;>repeat' first|(refine aD ?_;conv=>whnf)|(refine aC ?_;conv=>whnf)
   case' _=>
    simp only[List.drop_zero,List.take_length];refine aB (cas:=[aM true true true true true m]) [.lend] rfl (by show some [DV.agg [DC.ro true 1 (List.take _ (List.drop 0 _)),DC.ro true 1 (List.take _ (List.drop 0 _)),DC.ro true 1 (List.take _ (List.drop 0 _)),DC.ro true 1 (List.take _ (List.drop 0 _)),DC.ro true 3 (List.take _ (List.drop 0 _)),_]]=_;simp only[List.drop_zero,List.take_length];rfl) rfl (oe true true true true true m h.fits) rfl ?_;conv=>whnf
    refine CondP.mk (fun h3=>?_) (fun h3=>?_)<;>conv=>whnf
    case _=>
     have hz:bu m.sp<m.sp.length:=by
      rcases Nat.lt_or_ge (bu m.sp) m.sp.length with c|c
      ·exact c
      ·simp[fU,show¬bu m.sp<m.sp.length by omega]at h3
     have hM:(fU m).1=eg m:=by
      unfold fU at h3 ⊢;split
      ·rfl
      ·rename_i c;rw[if_neg c]at h3;simp at h3
     refine⟨eg m,p+1,h.make hz,by omega,by omega,?_,rfl⟩;rw[hM];simp[oM,dI]
    case _=>refine⟨m,p+1,h,by omega,by omega,?_,rfl⟩;simp[oM,dI]
   case' _=>
    have h2:dR m.sp 0=true:=by simpa using h2
    obtain⟨hi,hlv⟩:∃hi:0<m.sp.length,m.sp[0].lv=true:=by
     obtain⟨i,e,hi,hlv⟩:=eQ h2;have:i=0:=by omega
     subst this;exact⟨hi,hlv⟩
  rotate_left
  case' _=>
   have h1:dR m.sp v=true:=by simpa using h1
   obtain⟨i,rfl,hi,hlv⟩:=eQ h1;simp only[List.drop_zero,List.take_length];refine aB (cas:=[aM true true true true true m,.one (dI i)]) [.lend,.pass] rfl (by show some [DV.agg [DC.ro true 1 (List.take _ (List.drop 0 _)),DC.ro true 1 (List.take _ (List.drop 0 _)),DC.ro true 1 (List.take _ (List.drop 0 _)),DC.ro true 1 (List.take _ (List.drop 0 _)),DC.ro true 3 (List.take _ (List.drop 0 _)),_],_]=_;simp only[List.drop_zero,List.take_length];rfl) rfl (mA true true true true true m i (by rw[h.sp];decide)) rfl ?_;rw[h1]
   (conv=>whnf)<;>repeat' first|(refine aD ?_;conv=>whnf)|(refine aC ?_;conv=>whnf)
  all_goals
   have ar:=h.ar hi hlv;refine aw r rfl rfl rfl (by omega) (by omega) fun ad a1 a2=>?_
   obtain⟨a,rfl⟩:=Int.eq_ofNat_of_zero_le a1;conv=>whnf
   refine aw r rfl rfl rfl (by omega) (by omega) fun k k1 k2=>?_
   conv=>whnf
   refine CondP.mk (fun c0=>?_) (fun c0=>?_)<;>conv=>whnf
   case' _=>
    simp only[List.drop_zero,List.take_length];refine aB (cas:=[aM true true true true true m]) [.lend] rfl (by show some [DV.agg [DC.ro true 1 (List.take _ (List.drop 0 _)),DC.ro true 1 (List.take _ (List.drop 0 _)),DC.ro true 1 (List.take _ (List.drop 0 _)),DC.ro true 1 (List.take _ (List.drop 0 _)),DC.ro true 3 (List.take _ (List.drop 0 _)),_]]=_;simp only[List.drop_zero,List.take_length];rfl) rfl (eF true true true true true m h.fits) rfl ?_;conv=>whnf
    refine aB [.fS,.pass] rfl rfl rfl (by simpa [oM,dI]using xX m _ h.wf hi ar.1 (by omega) ar.2.2 hlv) rfl ?_;conv=>whnf
    refine CondP.mk (fun c1=>?_) (fun c1=>?_)<;>conv=>whnf
    case _=>refine⟨_,p+3,h.lG hi hlv (by simpa using c1),by omega,by omega,?_,rfl⟩;simp[oM,dI]
    case _=>refine⟨m,p+3,h,by omega,by omega,?_,rfl⟩;simp[oM,dI]
   refine CondP.mk (fun c1=>?_) (fun c1=>?_)<;>conv=>whnf
   case' _=>
    simp only[List.drop_zero,List.take_length];refine aB (cas:=[aM true true true true true m]) [.lend] rfl (by show some [DV.agg [DC.ro true 1 (List.take _ (List.drop 0 _)),DC.ro true 1 (List.take _ (List.drop 0 _)),DC.ro true 1 (List.take _ (List.drop 0 _)),DC.ro true 1 (List.take _ (List.drop 0 _)),DC.ro true 3 (List.take _ (List.drop 0 _)),_]]=_;simp only[List.drop_zero,List.take_length];rfl) rfl (eF true true true true true m h.fits) rfl ?_;conv=>whnf
    refine aw r rfl rfl rfl (by omega) (by omega) fun f f1 f2=>?_
    conv=>whnf
    refine aw r rfl rfl rfl (by omega) (by omega) fun n n1 n2=>?_
    conv=>whnf
    refine aB [.fS,.pass,.pass,.pass] rfl rfl rfl (by simpa [oM,dI]using qc m _ f (IntKind.wrap .i64 (1+n)) hi ar.2.1 fun l fr=>LsOk.ag (h.ls hi hlv fr)) rfl ?_;conv=>whnf
    refine⟨_,p+5,h.cut hi hlv (fr:=f) (mn:=IntKind.wrap .i64 (1+n)),by omega,by omega,?_,rfl⟩;simp[oM,dI]
   refine CondP.mk (fun c2=>?_) (fun c2=>?_)<;>rw[c2]<;>(conv=>whnf)<;>repeat' first|(refine aD ?_;conv=>whnf)|(refine aC ?_;conv=>whnf)
   case' _=>
    simp only[List.drop_zero,List.take_length];refine aB (cas:=[aM true true true true true m]) [.lend] rfl (by show some [DV.agg [DC.ro true 1 (List.take _ (List.drop 0 _)),DC.ro true 1 (List.take _ (List.drop 0 _)),DC.ro true 1 (List.take _ (List.drop 0 _)),DC.ro true 1 (List.take _ (List.drop 0 _)),DC.ro true 3 (List.take _ (List.drop 0 _)),_]]=_;simp only[List.drop_zero,List.take_length];rfl) rfl (eF true true true true true m h.fits) rfl ?_;conv=>whnf
    refine aw r rfl rfl rfl (by omega) (by omega) fun f f1 f2=>?_
    conv=>whnf
    refine aw r rfl rfl rfl (by omega) (by omega) fun n n1 n2=>?_
    conv=>whnf
    refine aw r rfl rfl rfl (by omega) (by omega) fun w w1 w2=>?_
    conv=>whnf
    refine aw r rfl rfl rfl (by omega) (by omega) fun s s1 s2=>?_
    conv=>whnf
    refine aB [.fS,.pass,.pass] rfl rfl rfl (by simpa [oM,dI,aA,dB]using mW m _ ⟨f,IntKind.wrap .i64 (1+n),decide (0<w),decide (s=0)⟩ hi (by omega)) rfl ?_;conv=>whnf
    refine⟨_,p+7,h.map hi hlv ⟨f,IntKind.wrap .i64 (1+n),decide (0<w),decide (s=0)⟩,by omega,by omega,?_,rfl⟩;simp[oM,dI]
   refine CondP.mk (fun c3=>?_) (fun c3=>?_)<;>rw[c3]<;>(conv=>whnf)<;>repeat' first|(refine aD ?_;conv=>whnf)|(refine aC ?_;conv=>whnf)
   case' _=>
    simp only[List.drop_zero,List.take_length];refine aB (cas:=[aM true true true true true m]) [.lend] rfl (by show some [DV.agg [DC.ro true 1 (List.take _ (List.drop 0 _)),DC.ro true 1 (List.take _ (List.drop 0 _)),DC.ro true 1 (List.take _ (List.drop 0 _)),DC.ro true 1 (List.take _ (List.drop 0 _)),DC.ro true 3 (List.take _ (List.drop 0 _)),_]]=_;simp only[List.drop_zero,List.take_length];rfl) rfl (eF true true true true true m h.fits) rfl ?_;conv=>whnf
    refine aw r rfl rfl rfl (by omega) (by omega) fun f f1 f2=>?_
    conv=>whnf
    refine aw r rfl rfl rfl (by omega) (by omega) fun n n1 n2=>?_
    conv=>whnf
    refine aw r rfl rfl rfl (by omega) (by omega) fun w w1 w2=>?_
    conv=>whnf
    refine aw r rfl rfl rfl (by omega) (by omega) fun s s1 s2=>?_
    conv=>whnf
    refine aB [.fS,.pass,.pass] rfl rfl rfl (by simpa [oM,dI,aA,dB]using mW m _ ⟨f,IntKind.wrap .i64 (1+n),decide (0<w),decide (s=0)⟩ hi (by omega)) rfl ?_;conv=>whnf
    refine⟨_,p+7,h.map hi hlv ⟨f,IntKind.wrap .i64 (1+n),decide (0<w),decide (s=0)⟩,by omega,by omega,?_,rfl⟩;simp[oM,dI]
   refine CondP.mk (fun c4=>?_) (fun c4=>?_)<;>conv=>whnf
   case' _=>
    simp only[List.drop_zero,List.take_length];refine aB (cas:=[aM true true true true true m]) [.lend] rfl (by show some [DV.agg [DC.ro true 1 (List.take _ (List.drop 0 _)),DC.ro true 1 (List.take _ (List.drop 0 _)),DC.ro true 1 (List.take _ (List.drop 0 _)),DC.ro true 1 (List.take _ (List.drop 0 _)),DC.ro true 3 (List.take _ (List.drop 0 _)),_]]=_;simp only[List.drop_zero,List.take_length];rfl) rfl (eF true true true true true m h.fits) rfl ?_;conv=>whnf
    refine aw r rfl rfl rfl (by omega) (by omega) fun f f1 f2=>?_
    conv=>whnf
    refine aw r rfl rfl rfl (by omega) (by omega) fun n n1 n2=>?_
    conv=>whnf
    refine aw r rfl rfl rfl (by omega) (by omega) fun w w1 w2=>?_
    conv=>whnf
    refine aw r rfl rfl rfl (by omega) (by omega) fun s s1 s2=>?_
    conv=>whnf
    refine aB [.fS,.pass,.pass] rfl rfl rfl (by simpa [oM,dI,aA,dB]using mW m _ ⟨f,IntKind.wrap .i64 (1+n),decide (0<w),decide (s=0)⟩ hi (by omega)) rfl ?_;conv=>whnf
    refine⟨_,p+7,h.map hi hlv ⟨f,IntKind.wrap .i64 (1+n),decide (0<w),decide (s=0)⟩,by omega,by omega,?_,rfl⟩;simp[oM,dI]
   refine CondP.mk (fun c5=>?_) (fun c5=>?_)<;>conv=>whnf
   case' _=>
    refine aw r rfl rfl rfl (by omega) (by omega) fun f f1 f2=>?_
    conv=>whnf
    refine CondP.mk (fun c6=>?_) (fun c6=>?_)<;>conv=>whnf
    case' _=>
     simp only[List.drop_zero,List.take_length];refine aB (cas:=[aM true true true true true m]) [.lend] rfl (by show some [DV.agg [DC.ro true 1 (List.take _ (List.drop 0 _)),DC.ro true 1 (List.take _ (List.drop 0 _)),DC.ro true 1 (List.take _ (List.drop 0 _)),DC.ro true 1 (List.take _ (List.drop 0 _)),DC.ro true 3 (List.take _ (List.drop 0 _)),_]]=_;simp only[List.drop_zero,List.take_length];rfl) rfl (eF true true true true true m h.fits) rfl ?_;conv=>whnf
     refine aB [.fS,.pass] rfl rfl rfl (by simpa [oM,dI]using yU m _ (h.ls hi hlv 0)) rfl ?_;conv=>whnf
     refine⟨_,p+4,h.drop hi hlv,by omega,by omega,?_,rfl⟩;simp[oM,dI]
    refine⟨m,p+4,h,by omega,by omega,?_,rfl⟩;simp[oM,dI]
   refine CondP.mk (fun c6=>?_) (fun c6=>?_)<;>rw[c6]<;>(conv=>whnf)<;>repeat' first|(refine aD ?_;conv=>whnf)|(refine aC ?_;conv=>whnf)
   case' _=>
    simp only[List.drop_zero,List.take_length];refine aB [.fS,.pass,.pass] rfl rfl rfl (by simpa [oM,dI]using oT m _ a h.wf hi ar.1 (by omega) ar.2.2 (by omega) h.fits) rfl ?_;conv=>whnf
    refine⟨_,p+3,h.get hi hlv (a:=a) (by omega),by omega,by omega,?_,rfl⟩;simp[oM,dI]
   refine CondP.mk (fun c7=>?_) (fun c7=>?_)<;>rw[c7]<;>(conv=>whnf)<;>repeat' first|(refine aD ?_;conv=>whnf)|(refine aC ?_;conv=>whnf)
   case' _=>
    simp only[List.drop_zero,List.take_length];refine aB [.fS,.pass,.pass] rfl rfl rfl (by simpa [oM,dI]using oT m _ a h.wf hi ar.1 (by omega) ar.2.2 (by omega) h.fits) rfl ?_;conv=>whnf
    refine⟨_,p+3,h.get hi hlv (a:=a) (by omega),by omega,by omega,?_,rfl⟩;simp[oM,dI]
   refine CondP.mk (fun c8=>?_) (fun c8=>?_)<;>conv=>whnf
   case' _=>
    simp only[List.drop_zero,List.take_length];refine aB [.fS,.pass,.pass] rfl rfl rfl (by simpa [oM,dI]using oT m _ a h.wf hi ar.1 (by omega) ar.2.2 (by omega) h.fits) rfl ?_;conv=>whnf
    refine⟨_,p+3,h.get hi hlv (a:=a) (by omega),by omega,by omega,?_,rfl⟩;simp[oM,dI]
   refine aw r rfl rfl rfl (by omega) (by omega) fun b b1 b2=>?_
   conv=>whnf
   simp only[List.drop_zero,List.take_length];refine aB [.fS,.pass,.pass,.pass] rfl rfl rfl (by simpa [oM,dI]using uo m _ a b h.wf hi ar.1 (by omega) ar.2.2 (by omega) h.fits) rfl ?_;conv=>whnf
   refine⟨_,p+4,h.ui hi hlv (a:=a) (b:=b) (by omega),by omega,by omega,?_,rfl⟩;simp[oM,dI]
end Go.Qm
namespace Go.Qm
open Go.Cq Go.Cq.D Go.RowKit Go.Proofs
set_option maxRecDepth 10000
def L0(m:Mem):Prop:=∃hi:0<m.sp.length,m.sp[0].lv=true
theorem L0.same{a b:Mem}(h:L0 a)(s:cY a.sp b.sp):L0 b:=by
 obtain⟨hi,hl⟩:=h;have hi':0<b.sp.length:=by rw[s.1];exact hi
 exact⟨hi',(s.2 0 hi hi').1.trans hl⟩
theorem L0.map{m:Mem}(h:L0 m){c:Option (List Area)}{i:Nat}:L0 (mapM c m i).1:=by
 obtain⟨hi,hl⟩:=h;cases c with
 |none=>exact⟨hi,hl⟩
 |some l=>refine⟨by simpa [mapM,ag]using hi,?_⟩;simp only[mapM,ag,List.getElem_modify];split<;>exact hl
theorem xd{m:Mem}(h:Inv m){i a:Nat}{b:Int}(hi:i<m.sp.length)(hlv:m.sp[i].lv=true)(ha:a≤63):cY m.sp (ck m i a b).1.sp:=by
 have h16:=((h.ss _ (List.getElem_mem hi)).lv hlv).2;unfold ck;split
 ·exact cY.refl
 ·split
  ·exact cY.refl
  ·split
   ·exact cY.refl
   ·rename_i m2 hm;rw[Option.bind_eq_some_iff]at hm;obtain⟨m1,h1,h2⟩:=hm;obtain⟨hi1,hj1,hk⟩:=jP h.wf hi (by omega) h1;have s1:=gb h.wf h1;have s2:=((h.wf.mX hi (by omega) h1).own hi1 hj1 (by rw[bp hi1 hj1];exact hk) h2).2.1;exact s1.trans s2
theorem aD1{l:List Int}{f:Nat}{v:Int}:(l.map rI).modify f (·.set 0 (.sc (.int .i64 v)))=(l.set f v).map rI:=by
 refine List.ext_getElem? fun j=>?_
 rw[List.getElem?_modify,List.getElem?_map,List.getElem?_map,List.getElem?_set];by_cases e:f=j
 ·subst e;by_cases h:f<l.length
  ·simp[h,rI,eI]
  ·simp[h]
 ·simp[e]
theorem aB5{P:Prg}{ts:DTs}{H:DH}{n:Nat}{K:DT→DTs→DH→Nat→List Nat→Prop}{x:Opd}{g i0 ln sz:Nat}{es:List (List PV)}{ov:List (Nat×Nat×DC)}(hx:cK ts x=some (.sl g i0 ln))(hg:aG H g=some (.arr sz es ov))(h1:1≤ln)(h:K (.v (.one (.sl g (i0+1) (ln-1)))) ts H n []):OpP P (.fl (.sliceL x (some (.k (.int .i64 1))) none sz)) ts H n K:=by
 refine fo (r:=.one (.sl g (i0+1) (ln-1))) ?_ h;have e:cU ts (some (.k (.int .i64 1))) 0 ln=some 1:=by show(if 0≤(1:Int)∧(1:Int)≤ln then some (1:Int).toNat else none)=some 1;rw[if_pos (by omega)];rfl
 simp only[cU]at e;simp only[dfl,hx,hg,if_true,cU,e,if_pos h1]
set_option maxHeartbeats 8000000 in
theorem aDK(c:CV)(bs:List UInt8)(p:Nat)(r:RdOk c bs)(hp:p≤900000):gq Try.prog (jR c (bs.map dU)) 74 [.one (.ptr 0 0 0)] [(0,rB c p)] 1
  fun x H'=>∃(m':Mem)(q:Nat),m'.fits 1048576∧m'.sp.length≤5∧p≤q∧q≤p+1000∧x= .v (oM m')∧H'=[(0,rB c q)]:=by
 refine ft hmix Try.func74 ok74 (fun g p h=>by simp[jR]at h) ?_;rcases r.c with⟨-,z,rfl⟩| ⟨id,base,lim,rfl⟩<;>conv=>whnf
 all_goals
  refine aB [] rfl rfl rfl xr rfl ?_;conv=>whnf
  refine aB [.lend] rfl rfl rfl (oe true true true true true kU wP.fits) rfl ?_;rw[show fU kU=(eg kU,0,true)from by decide];conv=>whnf
  refine aw r rfl rfl rfl (by omega) (by omega) fun v v1 v2=>?_
  conv=>whnf
  have i0:Inv (eg kU):=wP.make (by decide);have l0:L0 (eg kU):=⟨by decide,by decide⟩;refine CondP.mk (fun c0=>?_) (fun c0=>?_)<;>conv=>whnf
  case' _=>
   refine aw r rfl rfl rfl (by omega) (by omega) fun n n1 n2=>?_
   conv=>whnf
   refine aw r rfl rfl rfl (by omega) (by omega) fun s s1 s2=>?_
   conv=>whnf
   obtain⟨hi,hlv⟩:=l0;have ar:=i0.ar hi hlv;simp only[List.drop_zero,List.take_length];refine aB [.fS,.pass,.pass] rfl rfl rfl (by simpa [oM,dI,aA,dB]using mW (eg kU) 0 ⟨0,IntKind.wrap .i64 (8+n),true,decide (s=0)⟩ hi (by omega)) rfl ?_;conv=>whnf
   have i1:=i0.map hi hlv ⟨0,IntKind.wrap .i64 (8+n),true,decide (s=0)⟩;have l1:L0 (mapM (fD (dq (eg kU) 0) ⟨0,IntKind.wrap .i64 (8+n),true,decide (s=0)⟩) (eg kU) 0).1:=L0.map ⟨hi,hlv⟩;generalize (mapM (fD (dq (eg kU) 0) ⟨0,IntKind.wrap .i64 (8+n),true,decide (s=0)⟩) (eg kU) 0).1=w0 at i1 l1 ⊢;simp only[List.drop_zero,List.take_length];refine aw r rfl rfl rfl (by omega) (by omega) fun pg g1 g2=>?_
   obtain⟨pg,rfl⟩:=Int.eq_ofNat_of_zero_le g1;conv=>whnf
   refine aq (fun s:Mem×Nat=>[(0,.v (.one (.ptr 0 0 0))),(2,.v (.one (.ptr 1 0 0))),(3,.v (.one (.ptr 12 0 0))),(6,.v (.one (dI s.2)))]) (fun s=>[(12,bO s.1),(1,bO eh),(0,rB _ (p+4))]) (fun _=>13)
    (fun s=>Inv s.1∧L0 s.1∧s.2≤15) (fun s=>s.2) (w0,pg) ⟨i1,l1,by omega⟩ rfl rfl rfl fun s hs=>?_
   obtain⟨w,t⟩:=s;obtain⟨iw,lw,ht⟩:=hs;simp only at iw lw ht;conv=>whnf
   refine CondP.mk (fun c1=>?_) (fun c1=>?_)<;>conv=>whnf
   case' _=>
    have c1:0<t:=by simp at c1;omega
    obtain⟨hi,hlv⟩:=lw;have ar:=iw.ar hi hlv;rw[show IntKind.wrap .i64 (IntKind.wrap .i64 (((w,t).2:Int)*4)-1)=((t*4-1:Nat):Int) by rw[wrap64 (x:=((w,t).2:Int)*4) (by simp only;omega) (by simp only;omega),wrap64 (by simp only;omega) (by simp only;omega)];simp only;omega];refine aB [.fS,.pass,.pass,.pass] rfl rfl rfl (by simpa [oM,dI]using uo w 0 (t*4-1) (IntKind.wrap .i64 (1+t)) iw.wf hi ar.1 (by omega) ar.2.2 (by omega) iw.fits) rfl ?_;conv=>whnf
    have i2:=iw.ui (b:=IntKind.wrap .i64 (1+t)) hi hlv (a:=t*4-1) (by omega);have l2:L0 (ck w 0 (t*4-1) (IntKind.wrap .i64 (1+t))).1:=L0.same ⟨hi,hlv⟩ (xd iw hi hlv (by omega));refine⟨(_,t-1),by simp only;omega,⟨i2,l2,by simp only;omega⟩,?_,?_,rfl⟩
    ·rw[wrap64 (by simp only;omega) (by simp only;omega)];simp only[dI];rw[show((t:Int)-1)=((t-1:Nat):Int) by omega]
    ·simp[bO,dI,rB]
  case' _=>have i0:=iw;have l0:=lw;simp only
  rotate_left
  case' _=>generalize eg kU=w at i0 l0 ⊢;simp only[List.drop_zero,List.take_length]
  all_goals
   refine aw r rfl rfl rfl (by omega) (by omega) fun k k1 k2=>?_
   obtain⟨k,rfl⟩:=Int.eq_ofNat_of_zero_le k1;conv=>whnf
   refine aq (fun s:Mem×Nat×Nat=>[(0,.v (.one (.ptr 0 0 0))),(2,.v (.one (.ptr 1 0 0))),(3,.v (.one (.ptr 12 0 0))),(7,.v (.one (dI s.2.1)))]) (fun s=>[(12,bO s.1),(1,bO eh),(0,rB _ s.2.2)]) (fun _=>13)
    (fun s=>Inv s.1∧s.2.1≤29∧p≤s.2.2∧s.2.2+8*s.2.1≤p+300) (fun s=>s.2.1) (w,k,_) ⟨i0,by simp only;omega,by simp only;omega,by simp only;omega⟩ rfl rfl rfl fun s hs=>?_
   obtain⟨u,t,q⟩:=s;obtain⟨iu,ht,q1,q2⟩:=hs;simp only at iu ht q1 q2;conv=>whnf
   refine CondP.mk (fun c1=>?_) (fun c1=>?_)<;>conv=>whnf
   case' _=>
    have c1:0<t:=by simp at c1;omega
    refine il [] [.pass,.fS] [0] (jR _ (bs.map dU)) rfl rfl rfl rfl rfl (by simpa [oM,dI,rB]using aBq _ bs q u r (by omega) iu) (fun t p h=>by simp[jR]at h) (hv:=.inr (by simp[jR])) ?_;rintro res H3 ⟨u',j1,q',j2,j3,rfl,rfl⟩;refine⟨rfl,_,rfl,?_⟩;conv=>whnf
    refine⟨(u',t-1,q'),by simp only;omega,⟨j1,by simp only;omega,by simp only;omega,by simp only;omega⟩,?_,?_,rfl⟩
    ·rw[wrap64 (by simp only;omega) (by simp only;omega)];simp only[dI];rw[show((t:Int)-1)=((t-1:Nat):Int) by omega]
    ·simp[bO,dI,rB]
   have fu:=iu.fits;have u5:=iu.sp;simp only;refine aw r rfl rfl rfl (by first|omega| (simp only;omega)) (by omega) fun y y1 y2=>?_
   conv=>whnf
   refine CondP.mk (fun d0=>?_) (fun d0=>?_)<;>conv=>whnf
   case' _=>
    refine bR (db:=.arr 1 [rI (-1),rI 12,rI 3] []) rfl rfl rfl ?_;conv=>whnf
    refine aw r rfl rfl rfl (by first|omega| (simp only;omega)) (by omega) fun e e1 e2=>?_
    conv=>whnf
    have he:e=0∨e=1∨e=2:=by omega
    rcases he with rfl|rfl|rfl
    ·conv=>whnf
     refine aE (k:=0) rfl rfl rfl (by decide) ?_;conv=>whnf
     refine cz rfl rfl rfl rfl rfl ?_;conv=>whnf
     exact⟨{u with hd:= -1},q+2,⟨fu.rt,fu.rr,fu.st,fu.sr,fu.sp,fu.ss⟩,by first|omega| (simp only;omega),by omega,by omega,by simp[oM,dI],rfl⟩
    ·conv=>whnf
     refine aE (k:=1) rfl rfl rfl (by decide) ?_;conv=>whnf
     refine cz rfl rfl rfl rfl rfl ?_;conv=>whnf
     exact⟨{u with hd:=12},q+2,⟨fu.rt,fu.rr,fu.st,fu.sr,fu.sp,fu.ss⟩,by first|omega| (simp only;omega),by omega,by omega,by simp[oM,dI],rfl⟩
    ·conv=>whnf
     refine aE (k:=2) rfl rfl rfl (by decide) ?_;conv=>whnf
     refine cz rfl rfl rfl rfl rfl ?_;conv=>whnf
     exact⟨{u with hd:=3},q+2,⟨fu.rt,fu.rr,fu.st,fu.sr,fu.sp,fu.ss⟩,by first|omega| (simp only;omega),by omega,by omega,by simp[oM,dI],rfl⟩
   refine CondP.mk (fun d1=>?_) (fun d1=>?_)<;>conv=>whnf
   case' _=>
    refine aw r rfl rfl rfl (by first|omega| (simp only;omega)) (by omega) fun f f1 f2=>?_
    obtain⟨f,rfl⟩:=Int.eq_ofNat_of_zero_le f1;conv=>whnf
    refine aw r rfl rfl rfl (by first|omega| (simp only;omega)) (by omega) fun v v1 v2=>?_
    conv=>whnf
    refine aE (k:=f) rfl rfl rfl (by simp[iu.ram.rf];omega) ?_;conv=>whnf
    refine af rfl rfl rfl (by simp[iu.ram.rf];omega) (by decide) ?_;conv=>whnf
    exact⟨{u with ram:=⟨u.ram.tx,u.ram.rf.set f v⟩},q+3,⟨fu.rt,by simpa using fu.rr,fu.st,fu.sr,fu.sp,fu.ss⟩,by first|omega| (simp only;omega),by omega,by omega,by simp[oM,dI,aD1,List.take_of_length_le],rfl⟩
   refine CondP.mk (fun d2=>?_) (fun d2=>?_)<;>conv=>whnf
   case' _=>
    have hi:0<u.sp.length:=by omega
    have hg:=av (f:=rP) (List.getElem?_eq_getElem hi);refine aE (k:=0) rfl rfl rfl (by simpa using hi) ?_;conv=>whnf
    refine cz rfl rfl rfl (aW hg rfl rfl rfl) rfl ?_;conv=>whnf
    refine CondP.mk (fun hlv=>?_) (fun hlv=>?_)<;>conv=>whnf
    case' _=>
     have h16:=(iu.ar hi hlv).2.2;refine aE (k:=0) rfl rfl rfl (by simpa using hi) ?_;conv=>whnf
     refine cE (i:=0) (k:=2) (sz':=4) (es':=u.sp[0].sl.map rL) u.sp[0].sl.length rfl rfl rfl (aW (by rw[List.drop_zero,List.take_length];exact hg) rfl rfl rfl) rfl (by simp) ?_;conv=>whnf
     simp only[List.drop_zero,List.take_length];refine aw r rfl rfl rfl (by first|omega| (simp only;omega)) (by omega) fun s s1 s2=>?_
     obtain⟨s,rfl⟩:=Int.eq_ofNat_of_zero_le s1;conv=>whnf
     refine aw r rfl rfl rfl (by first|omega| (simp only;omega)) (by omega) fun kd k1 k2=>?_
     conv=>whnf
     refine aw r rfl rfl rfl (by first|omega| (simp only;omega)) (by omega) fun pl p1 p2=>?_
     conv=>whnf
     refine aw r rfl rfl rfl (by first|omega| (simp only;omega)) (by omega) fun ow o1 o2=>?_
     conv=>whnf
     refine aw r rfl rfl rfl (by first|omega| (simp only;omega)) (by omega) fun us u1 u2=>?_
     conv=>whnf
     refine aE (k:=s) rfl rfl rfl (by rw[h16];omega) ?_;conv=>whnf
     refine bU (row':=rL ⟨kd,IntKind.wrap .i64 (pl-1),decide (ow=0),decide (us=0)⟩) rfl rfl rfl (by simp[h16];omega) (dD (fun _=>rfl)) (cV _) rfl rfl rfl ?_;conv=>whnf
     refine aX (i:=0) (k:=2) (g':=14) (lo:=0) (len:=u.sp[0].sl.length) (es2:=(aH u.sp 0 s ⟨kd,IntKind.wrap .i64 (pl-1),decide (ow=0),decide (us=0)⟩).map rP) (ov2:=[]) rfl (ai hg (by simp[rP]) (by simp only[aa,if_true];rfl)) rfl rfl (by rw[List.drop_zero,List.take_of_length_le (by simp)];exact bo hi) (by simp only[aZ,if_true];rfl) ?_;conv=>whnf
     refine⟨{u with sp:=aH u.sp 0 s ⟨kd,IntKind.wrap .i64 (pl-1),decide (ow=0),decide (us=0)⟩},q+6,⟨fu.rt,fu.rr,fu.st,fu.sr,by simp[aH,u5],fun s' hs'=>?_⟩,by simp[aH,u5],by omega,by omega,by simp[oM,dI,aH,List.take_of_length_le],rfl⟩;simp only[aH]at hs';obtain⟨k,hk,rfl⟩:=List.getElem_of_mem hs';rw[List.length_modify]at hk;have:=fu.ss _ (List.getElem_mem hk);rw[List.getElem_modify];split
     ·simpa using this
     ·exact this
    exact⟨u,q+1,fu,by first|omega| (simp only;omega),by omega,by omega,by simp[oM,dI],rfl⟩
   refine CondP.mk (fun d3=>?_) (fun d3=>?_)<;>conv=>whnf
   case' _=>
    refine aB5 rfl rfl (by simp[u5]) ?_;conv=>whnf
    exact⟨{u with sp:=u.sp.drop 1},q+1,⟨fu.rt,fu.rr,fu.st,fu.sr,by simp[u5],fun s hs=>fu.ss s (List.mem_of_mem_drop hs)⟩,by simp[u5],by omega,by omega,by simp[oM,dI,u5,List.take_of_length_le],rfl⟩
   refine CondP.mk (fun d4=>?_) (fun d4=>?_)<;>conv=>whnf
   case' _=>
    have hi:1<u.sp.length:=by omega
    have hg:=av (f:=rP) (List.getElem?_eq_getElem hi);refine aE (k:=1) rfl rfl rfl (by simpa using hi) ?_;conv=>whnf
    refine cE (i:=1) (k:=1) (sz':=4) (es':=u.sp[1].ar.map rA) u.sp[1].ar.length rfl rfl rfl (aW hg rfl rfl rfl) rfl (by simp) ?_;conv=>whnf
    refine il [] [.pass] [0] (jR _ (bs.map dU)) rfl rfl rfl rfl rfl (aBt _ bs (q+1) r (by omega)) (fun t p h=>by simp[jR]at h) (hv:=.inr (by simp[jR])) ?_;rintro res H3 ⟨a,q',a1,a2,a3,a4,a5,a6,rfl,rfl⟩;refine⟨rfl,_,rfl,?_⟩;conv=>whnf
    refine bR (db:=.arr 4 [rA a] []) rfl rfl rfl ?_;conv=>whnf
    have hal:u.sp[1].ar.length≤6:=by
     have i1:=iu.ss _ (List.getElem_mem hi);cases e:u.sp[1].lv with
     |true=>exact lh (i1.lv e).1
     |false=>rw[(i1.dd e).1];simp
    refine cH [] [] 1 (sz:=4) rfl rfl rfl rfl rfl rfl rfl rfl (by omega) (by omega) ?_;conv=>whnf
    refine aE (k:=1) rfl rfl rfl (by simpa using hi) ?_;conv=>whnf
    refine dV rfl rfl rfl rfl rfl (by simp[wrN,wr1,DV.cells,hi];rfl) ?_;conv=>whnf
    refine aX (i:=1) (k:=1) (g':=16) (lo:=0) (len:=u.sp[1].ar.length+1) (es2:=(ag u 1 (u.sp[1].ar++[a])).sp.map rP) (ov2:=[]) rfl (ai hg (by simp[rP]) (by simp only[aa,if_true];rfl)) rfl rfl (by
     have e:List.take (u.sp[1].ar.length+1) (List.drop 0 (List.take u.sp[1].ar.length (List.drop 0 (u.sp[1].ar.map rA))++List.take 1 (List.drop 0 [rA a])))=(u.sp[1].ar++[a]).map rA:=by simp[List.take_of_length_le]
     rw[e];exact iA hi) (by simp only[aZ,if_true];rfl) ?_
    conv=>whnf
    refine⟨ag u 1 (u.sp[1].ar++[a]),q',⟨fu.rt,fu.rr,fu.st,fu.sr,by simp[ag,u5],fun s' hs'=>?_⟩,by simp[ag,u5],by omega,by omega,by simp[oM,dI,ag,List.take_of_length_le],rfl⟩;simp only[ag]at hs';obtain⟨k,hk,rfl⟩:=List.getElem_of_mem hs';rw[List.length_modify]at hk;have:=fu.ss _ (List.getElem_mem hk);rw[List.getElem_modify];split
    ·exact⟨by simp;omega,this.2⟩
    ·exact this
   exact⟨u,q+1,fu,by first|omega| (simp only;omega),by omega,by omega,by simp[oM,dI],rfl⟩
end Go.Qm
namespace Go.Qm
open Go.Cq Go.Cq.D Go.RowKit Go.Proofs
set_option maxRecDepth 10000
theorem z8{bs:List UInt8}{c:CV}(h:uQ (bs.map dU) c):RdOk (mq c) (bs.take 2000):=by
 have hl:(bs.take 2000).length≤2000:=by rw[List.length_take];omega
 refine⟨?_,hl⟩;rcases h with⟨he,z,rfl⟩| ⟨id,base,lim,rfl⟩
 ·have he:bs=[]:=by simpa using he
  subst he;exact .inl ⟨rfl,z,rfl⟩
 ·simp only[mq,List.length_map];split
  ·exact .inr ⟨id,base+0,lim.map (· -0),by rw[List.length_map,List.length_take,Nat.min_eq_left (by omega)]⟩
  ·rw[List.take_of_length_le (by omega)];exact .inr ⟨id,base,lim,by rw[List.length_map]⟩
end Go.Qm
namespace Go.Qm
open Go.Cq Go.Cq.D Go.RowKit Go.Proofs
set_option maxRecDepth 10000
theorem xB(x y:Area):bC Try.prog 159 [.agg (aA x),.agg (aA y)] (.v (.one (dI (IntKind.wrap .i64 (x.fr-y.fr))))):=by
 refine aK hmix Try.func159 ok159 ?_;conv=>whnf
 exact⟨rfl,rfl⟩
def srt(l:List Area)(a:Area)(i:Nat):List Area:=if i≤l.length then dK l a l.length else kx l a
theorem qW{l:List Area}{a:Area}{j:Nat}(h:j<l.length):dK l a (j+1)=l.take j++l[j]::a::l.drop (j+1)∧dK l a j=l.take j++a::l[j]::l.drop (j+1):=by
 refine⟨?_,?_⟩
 ·rw[dK,List.take_succ_eq_append_getElem h];simp only[List.append_assoc,List.cons_append,List.nil_append]
 ·rw[dK,List.drop_eq_getElem_cons h]
theorem x5{l:List Area}{a:Area}{j:Nat}(h:j<l.length):((dK l a (j+1)).set (j+1) l[j]).set j a=dK l a j:=by
 have hj:(l.take j).length=j:=by rw[List.length_take];omega
 rw[(qW h).1,(qW h).2,List.set_append,hj,if_neg (by omega),show j+1-j=1 by omega,List.set_append,hj,if_neg (by omega),Nat.sub_self];rfl
theorem uH{l:List Area}{a:Area}:dK l a l.length=l++[a]:=by simp[dK]
set_option maxHeartbeats 2000000 in
theorem sL(l:List Area)(a:Area)(hl:aO l=true)(ha:an a=true):di Try.prog 187 [.one (.sl 0 0 (l.length+1)),.one (dI 0),.one (dI ((l.length+1:Nat):Int)),.one (.fn 159 [])] [(0,.arr 4 ((dK l a l.length).map rA) [])] 1
  fun x H'=>x= .tup []∧H'=[(0,.arr 4 ((kx l a).map rA) [])]:=by
 refine aK hmix Try.func187 ok187 ?_;have h6:l.length≤6:=by simp only[aO,Bool.and_eq_true,decide_eq_true_eq]at hl;exact hl.2
 have hb:=au.1 ha;conv=>whnf
 refine aq (fun i:Nat=>[(0,.v (.one (.sl 0 0 (l.length+1)))),(1,.v (.one (dI 0))),(2,.v (.one (dI ((l.length+1:Nat):Int)))),(3,.v (.one (.fn 159 []))),(8,.v (.one (dI i)))]) (fun i=>[(0,.arr 4 ((srt l a i).map rA) [])]) (fun _=>1)
  (fun i=>1≤i∧i≤l.length+1) (fun i=>l.length+1-i) 1 ⟨by omega,by omega⟩ rfl ?_ rfl fun i hi=>?_
 ·unfold srt;split
  ·rfl
  ·have:l=[]:=List.length_eq_zero_iff.1 (by omega);subst this;rfl
 conv=>whnf
 refine CondP.mk (fun h=>?_) (fun h=>?_)<;>conv=>whnf
 ·have hin:i≤l.length:=by
                 have:(i:Int)< ((l.length+1:Nat):Int):=by simpa using h
                 omega
  have hsrt:srt l a i=dK l a l.length:=by rw[srt,if_pos hin]
  rw[hsrt];have next:IntKind.wrap .i64 ((i:Int)+1)=((i+1:Nat):Int):=wrap64 (by omega) (by omega)
  by_cases c:i<l.length
  ·refine aq (fun _:Unit=>[(0,.v (.one (.sl 0 0 (l.length+1)))),(1,.v (.one (dI 0))),(2,.v (.one (dI ((l.length+1:Nat):Int)))),(3,.v (.one (.fn 159 []))),(8,.v (.one (dI i))),(9,.v (.one (dI i)))]) (fun _=>[(0,.arr 4 ((dK l a l.length).map rA) [])]) (fun _=>1) (fun _=>True) (fun _=>0) () trivial rfl rfl rfl fun _ _=>?_
   conv=>whnf
   refine CondP.mk (fun h1=>?_) (fun h1=>?_)
   ·rw[h1];have hi1:i-1<l.length:=by omega
    have e1:=lz (a:=a) (Nat.le_refl l.length) c;have e2:=lz (a:=a) (Nat.le_refl l.length) hi1;have hu:=lV hl (i:=i-1) (j:=i) (by omega) c;have o1:=au.1 (cr hl _ (List.getElem_mem c));have o2:=au.1 (cr hl _ (List.getElem_mem hi1))
    (conv=>whnf)<;>repeat' first|(refine aD ?_;conv=>whnf)|(refine aC ?_;conv=>whnf)
    refine e8 (k:=i) rfl rfl rfl (by omega) ?_
    (conv=>whnf)<;>repeat' first|(refine aD ?_;conv=>whnf)|(refine aC ?_;conv=>whnf)
    refine gU (row:=rA l[i]) rfl rfl rfl (by rw[Nat.zero_add];exact av (by rw[List.getElem?_eq_getElem (by rw[br];omega),e1])) (fW _) rfl rfl ?_
    (conv=>whnf)<;>repeat' first|(refine aD ?_;conv=>whnf)|(refine aC ?_;conv=>whnf)
    refine e8 (k:=i-1) rfl rfl (ix c (by omega) (by omega)) (by omega) ?_
    (conv=>whnf)<;>repeat' first|(refine aD ?_;conv=>whnf)|(refine aC ?_;conv=>whnf)
    refine gU (row:=rA l[i-1]) rfl rfl rfl (by rw[Nat.zero_add];exact av (by rw[List.getElem?_eq_getElem (by rw[br];omega),e2])) (fW _) rfl rfl ?_
    (conv=>whnf)<;>repeat' first|(refine aD ?_;conv=>whnf)|(refine aC ?_;conv=>whnf)
    refine mf [.pass,.pass] [] rfl rfl rfl rfl rfl (xB l[i] l[i-1]) fun res H3 hp=>?_
    obtain⟨rfl,rfl⟩:=hp;refine⟨rfl,rfl,_,rfl,?_⟩
    (conv=>whnf)<;>repeat' first|(refine aD ?_;conv=>whnf)|(refine aC ?_;conv=>whnf)
    rw[wrap64 (x:=l[i].fr-l[i-1].fr) (by omega) (by omega)];refine CondP.mk (fun h2=>?_) (fun h2=>?_)<;>conv=>whnf
    ·have:l[i].fr-l[i-1].fr<0:=by simpa using h2
     omega
    ·refine⟨i+1,by omega,⟨by omega,by omega⟩,?_,?_,rfl⟩
     ·rw[next];rfl
     ·rw[srt,if_pos (by omega)]
   ·have:¬0< (i:Int):=by simpa using h1
    omega
  ·have hin:i=l.length:=by omega
   subst hin;refine aq (fun j:Nat=>[(0,.v (.one (.sl 0 0 (l.length+1)))),(1,.v (.one (dI 0))),(2,.v (.one (dI ((l.length+1:Nat):Int)))),(3,.v (.one (.fn 159 []))),(8,.v (.one (dI l.length))),(9,.v (.one (dI j)))]) (fun j=>[(0,.arr 4 ((dK l a j).map rA) [])]) (fun _=>1) (fun j=>j≤l.length∧fw l a l.length=fw l a j) (fun j=>j) l.length ⟨Nat.le_refl _,rfl⟩ rfl rfl rfl fun j hj=>?_
   obtain⟨hj1,hj2⟩:=hj;conv=>whnf
   have fin:fw l a j=j→[(0,DB.arr 4 ((dK l a j).map rA) [])]=[(0,DB.arr 4 ((srt l a (l.length+1)).map rA) [])]:=fun e=>by rw[srt,if_neg (by omega),kx,hj2,e]
   refine CondP.mk (fun h1=>?_) (fun h1=>?_)<;>rw[h1]<;>(conv=>whnf)<;>repeat' first|(refine aD ?_;conv=>whnf)|(refine aC ?_;conv=>whnf)
   ·have hj0:0< (j:Int):=by simpa using h1
    obtain⟨k,rfl⟩:∃k,j=k+1:=⟨j-1,by omega⟩;have hk:k<l.length:=by omega
    have e1:=ny (a:=a) hj1;have e2:=lz (a:=a) hj1 (show k<k+1 by omega);have o2:=au.1 (cr hl _ (List.getElem_mem hk));have ek:IntKind.wrap .i64 (((k+1:Nat):Int)-1)=(k:Int):=by rw[wrap64 (by omega) (by omega)];omega
    refine e8 (k:=k+1) rfl rfl rfl (by omega) ?_
    (conv=>whnf)<;>repeat' first|(refine aD ?_;conv=>whnf)|(refine aC ?_;conv=>whnf)
    refine gU (row:=rA a) rfl rfl rfl (by rw[Nat.zero_add];exact av (by rw[List.getElem?_eq_getElem (by rw[br];omega),e1])) (fW _) rfl rfl ?_
    (conv=>whnf)<;>repeat' first|(refine aD ?_;conv=>whnf)|(refine aC ?_;conv=>whnf)
    refine e8 (k:=k) rfl rfl (by show some _=some _;rw[ek]) (by omega) ?_
    (conv=>whnf)<;>repeat' first|(refine aD ?_;conv=>whnf)|(refine aC ?_;conv=>whnf)
    refine gU (row:=rA l[k]) rfl rfl rfl (by rw[Nat.zero_add];exact av (by rw[List.getElem?_eq_getElem (by rw[br];omega),e2])) (fW _) rfl rfl ?_
    (conv=>whnf)<;>repeat' first|(refine aD ?_;conv=>whnf)|(refine aC ?_;conv=>whnf)
    refine mf [.pass,.pass] [] rfl rfl rfl rfl rfl (xB a l[k]) fun res H3 hp=>?_
    obtain⟨rfl,rfl⟩:=hp;refine⟨rfl,rfl,_,rfl,?_⟩
    (conv=>whnf)<;>repeat' first|(refine aD ?_;conv=>whnf)|(refine aC ?_;conv=>whnf)
    rw[wrap64 (x:=a.fr-l[k].fr) (by omega) (by omega)];have hget:l[k]?.getD zH=l[k]:=by simp[hk]
    refine CondP.mk (fun h2=>?_) (fun h2=>?_)<;>conv=>whnf
    ·have h2:a.fr-l[k].fr<0:=by simpa using h2
     refine e8 (k:=k) rfl rfl (by show some _=some _;rw[ek]) (by omega) ?_;conv=>whnf
     refine gU (row:=rA l[k]) rfl rfl rfl (by rw[Nat.zero_add];exact av (by rw[List.getElem?_eq_getElem (by rw[br];omega),e2])) (fW _) rfl rfl ?_;conv=>whnf
     refine e8 (k:=k+1) rfl rfl rfl (by omega) ?_;conv=>whnf
     refine gU (row:=rA a) rfl rfl rfl (by rw[Nat.zero_add];exact av (by rw[List.getElem?_eq_getElem (by rw[br];omega),e1])) (fW _) rfl rfl ?_;conv=>whnf
     refine e8 (k:=k+1) rfl rfl rfl (by omega) ?_;conv=>whnf
     refine bU (row':=rA l[k]) rfl rfl rfl (by simp[br];omega) (dD (fun _=>rfl)) (fW _) rfl rfl rfl ?_;conv=>whnf
     refine e8 (k:=k) rfl rfl (by show some _=some _;rw[ek]) (by omega) ?_;conv=>whnf
     refine bU (row':=rA a) rfl rfl rfl (by simp[br];omega) (by rw[Nat.zero_add,map_set];exact dD (fun _=>rfl)) (fW _) rfl rfl rfl ?_;conv=>whnf
     refine⟨k,by omega,⟨by omega,?_⟩,?_,?_,rfl⟩
     ·rw[hj2,fw,hget,if_pos (by omega)]
     ·rw[ek];rfl
     ·rw[Nat.zero_add,Nat.zero_add,map_set,map_set,x5 hk]
    ·have h2:¬a.fr-l[k].fr<0:=by simpa using h2
     refine⟨l.length+1,by omega,⟨by omega,by omega⟩,?_,?_,rfl⟩
     ·rw[next];rfl
     ·exact fin (by rw[fw,hget,if_neg (by omega)])
   ·have:j=0:=by
              have:¬0< (j:Int):=by simpa using h1
              omega
    subst this;refine⟨l.length+1,by omega,⟨by omega,by omega⟩,?_,?_,rfl⟩
    ·rw[next];rfl
    ·exact fin rfl
 ·have:i=l.length+1:=by
                 have:¬(i:Int)< ((l.length+1:Nat):Int):=by simpa using h
                 omega
  subst this;refine⟨rfl,?_⟩;rw[srt,if_neg (by omega)]
def aCa(n:Nat):Int:=if n=0 then 0 else if n=1 then 1 else if n≤3 then 2 else 3
theorem zS(n:Nat)(hn:n≤7):bC Try.prog 196 [.one (.sc (.int .u64 n))] (.v (.one (dI (aCa n)))):=by
 have:n=0∨n=1∨n=2∨n=3∨n=4∨n=5∨n=6∨n=7:=by omega
 rcases this with rfl|rfl|rfl|rfl|rfl|rfl|rfl|rfl
 all_goals
  refine aK hmix Try.func196 ok196 ?_
  (conv=>whnf)<;>repeat' first|(refine aD ?_;conv=>whnf)|(refine aC ?_;conv=>whnf)
  refine fo rfl ?_;conv=>whnf
  exact⟨rfl,rfl⟩
theorem aDF(n:Nat)(hn:n≤7):bC Try.prog 180 [.one (.sc (.int .u64 n))] (.v (.one (dI (aCa n)))):=by
 refine aK hmix Try.func180 ok180 ?_
 (conv=>whnf)<;>repeat' first|(refine aD ?_;conv=>whnf)|(refine aC ?_;conv=>whnf)
 refine aB [.pass] rfl rfl rfl (zS n hn) rfl ?_;conv=>whnf
 exact⟨rfl,rfl⟩
theorem aDQ(l:List Area)(a:Area)(lim:Int)(hl:aO l=true)(ha:an a=true):di Try.prog 179 [.one (.sl 0 0 (l.length+1)),.one (dI 0),.one (dI ((l.length+1:Nat):Int)),.one (dI lim),.one (.fn 159 [])] [(0,.arr 4 ((dK l a l.length).map rA) [])] 1
  fun x H'=>x= .tup []∧H'=[(0,.arr 4 ((kx l a).map rA) [])]:=by
 refine aK hmix Try.func179 ok179 ?_;have h6:l.length≤6:=by simp only[aO,Bool.and_eq_true,decide_eq_true_eq]at hl;exact hl.2
 conv=>whnf
 refine aq (fun _:Unit=>[(0,.v (.one (.sl 0 0 (l.length+1)))),(1,.v (.one (dI 0))),(2,.v (.one (dI ((l.length+1:Nat):Int)))),(3,.v (.one (dI lim))),(4,.v (.one (.fn 159 []))),(10,.v (.one (dB true))),(11,.v (.one (dB true)))]) (fun _=>[(0,.arr 4 ((dK l a l.length).map rA) [])]) (fun _=>1) (fun _=>True) (fun _=>0) () trivial rfl rfl rfl fun _ _=>?_
 conv=>whnf
 rw[wrap64 (x:=((l.length+1:Nat):Int)-0) (by omega) (by omega)];refine CondP.mk (fun h1=>?_) (fun h1=>?_)<;>conv=>whnf
 ·refine fg [.pass,.pass,.pass,.pass] [0] rfl rfl rfl rfl (sL l a hl ha) (fun res H3 hp=>?_);obtain⟨rfl,rfl⟩:=hp;refine⟨rfl,rfl,_,(bh rfl rfl (by simp[kx,br])).trans rfl,?_⟩;conv=>whnf
  exact⟨rfl,rfl⟩
 ·have:¬((l.length+1:Nat):Int)-0≤12:=by simpa using h1
  omega
theorem aA4(l:List Area)(a:Area)(hl:aO l=true)(ha:an a=true):di Try.prog 158 [.one (.sl 0 0 (l.length+1)),.one (.fn 159 [])] [(0,.arr 4 ((dK l a l.length).map rA) [])] 1
  fun x H'=>x= .tup []∧H'=[(0,.arr 4 ((kx l a).map rA) [])]:=by
 refine aK hmix Try.func158 ok158 ?_;have h6:l.length≤6:=by simp only[aO,Bool.and_eq_true,decide_eq_true_eq]at hl;exact hl.2
 conv=>whnf
 refine aB [.pass] rfl rfl rfl (by
  have:=aDF (l.length+1) (by omega);have e:IntKind.wrap .u64 ((l.length+1:Nat):Int)=((l.length+1:Nat):Int):=by simp only[IntKind.wrap,IntKind.bits,IntKind.signed];simp;omega
  rw[←e]at this;exact this) rfl ?_
 conv=>whnf
 refine fg [.pass,.pass,.pass,.pass,.pass] [0] rfl rfl rfl rfl (aDQ l a _ hl ha) (fun res H3 hp=>?_);obtain⟨rfl,rfl⟩:=hp;refine⟨rfl,rfl,_,(bh rfl rfl (by simp[kx,br])).trans rfl,?_⟩;conv=>whnf
 exact⟨rfl,rfl⟩
end Go.Qm
namespace Go.Qm
open Go.Cq Go.Cq.D Go.RowKit Go.Proofs
set_option maxRecDepth 10000
theorem aCz{P:Prg}{op:COp}{ts ts':DTs}{H H':DH}{n:Nat}{K:DT→DTs→DH→Nat→List Nat→Prop}(e1:ts=ts')(e2:H=H')(h:OpP P op ts' H' n K):OpP P op ts H n K:=by subst e1;subst e2;exact h
set_option maxHeartbeats 1000000 in
theorem uC(b:Bool)(l:List Area)(a:Area)(hl:l.length≤1048576):bC Try.prog 118 [.one (.ro b 4 (l.map rA)),.agg (aA a)] (.tup [.one (.own 4 (((fD l a).getD []).map rA)),.one (dB (fD l a).isSome)]):=by
 refine aK hmix Try.func118 ok118 ?_;conv=>whnf
 refine aB [.pass] rfl rfl rfl (iG b l (by omega)) rfl ?_;conv=>whnf
 refine CondP.mk (fun h1=>?_) (fun h1=>?_)<;>rw[h1]<;>(conv=>whnf)<;>repeat' first|(refine aD ?_;conv=>whnf)|(refine aC ?_;conv=>whnf)
 ·refine⟨?_,rfl⟩;rw[fD,show aO l=false by simpa using h1];simp[dB]
 have h1:aO l=true:=by simpa using h1
 have h6:l.length≤6:=by simp only[aO,Bool.and_eq_true,decide_eq_true_eq]at h1;exact h1.2
 refine aB [.pass] rfl rfl rfl (mo a) rfl ?_
 (conv=>whnf)<;>repeat' first|(refine aD ?_;conv=>whnf)|(refine aC ?_;conv=>whnf)
 refine CondP.mk (fun h2=>?_) (fun h2=>?_)<;>conv=>whnf
 ·refine⟨?_,rfl⟩;rw[fD,show an a=false by simpa using h2];simp[dB]
 have h2:an a=true:=by simpa using h2
 refine aB [.pass] rfl rfl rfl (q9 b l (by omega)) rfl ?_;conv=>whnf
 refine bR rfl rfl rfl ?_;conv=>whnf
 refine cH [] [] 1 (sz:=4) rfl rfl rfl rfl rfl rfl rfl rfl (by rw[List.length_map];omega) (by rw[List.length_map];omega) ?_;conv=>whnf
 refine aCz (ts':=[(20,.v (.one (.sl 0 0 (l.length+1)))),(6,.v (.one (.sl 0 0 (l.length+1)))),(6,.v (.one (.own 4 ((dK l a l.length).map rA))))]) (H':=[(0,.arr 4 ((dK l a l.length).map rA) [])]) ?_ ?_ ?_
 ·rw[uH];simp[rA,eI,eB,List.replicate,List.take_of_length_le]
 ·rw[uH];simp[rA,eI,eB,List.replicate,List.take_of_length_le]
 refine fg [.pass,.pass] [0] rfl rfl rfl rfl (aA4 l a h1 h2) (fun res H3 hp=>?_);obtain⟨rfl,rfl⟩:=hp;refine⟨rfl,rfl,_,(bh rfl rfl (by simp[kx,br])).trans rfl,?_⟩;conv=>whnf
 have hn:(kx l a).length=l.length+1:=br;obtain⟨i1,i2⟩:=aBg h1 h2;refine aB [.lend] rfl (by show some [DV.one (DC.ro true 4 (List.take _ (List.drop 0 _)))]=_;rw[List.drop_zero,List.drop_zero,List.take_of_length_le (by simp[hn]),List.take_of_length_le (by simp[hn])]) rfl (iG true (kx l a) (by omega)) rfl ?_;conv=>whnf
 refine CondP.mk (fun h3=>?_) (fun h3=>?_)<;>conv=>whnf
 ·refine⟨?_,rfl⟩;rw[fD,h1,h2,show aO (i6 l a)=false by rw[←i1];simpa using h3];simp[dB]
 ·have h4:aO (i6 l a)=true:=by rw[←i1];simpa using h3
  refine⟨?_,rfl⟩;have hn2:(i6 l a).length=l.length+1:=br;rw[fD,h1,h2,h4,i2 h4];simp[dB,hn2,List.take_of_length_le]
set_option maxHeartbeats 1000000 in
theorem xO(hc:oS)(b1 b2 b3 b4 b5:Bool)(m:Mem)(who:Int)(a:Area)(h:m.fits 1048576):bC Try.prog 52 [aM b1 b2 b3 b4 b5 m,.one (dI who),.agg (aA a)] (.tup [oM (gY m who a).1,.one (dI (gY m who a).2)]):=by
 refine aK hmix Try.func52 ok52 ?_;conv=>whnf
 refine aB [.pass] rfl rfl rfl (hc b1 b2 b3 b4 b5 m h) rfl ?_;conv=>whnf
 refine CondP.mk (fun h1=>?_) (fun h1=>?_)<;>rw[h1]<;>(conv=>whnf)<;>repeat' first|(refine aD ?_;conv=>whnf)|(refine aC ?_;conv=>whnf)
 ·refine⟨?_,rfl⟩;have h1:b7 m=false:=by simpa using h1
  simp[gY,h1,oM,eh,dI]
 have h1:b7 m=true:=by simpa using h1
 refine aB [.pass,.pass] rfl rfl rfl (sd b1 b2 b3 b4 b5 m who (by have:=h.sp;omega)) rfl ?_
 (conv=>whnf)<;>repeat' first|(refine aD ?_;conv=>whnf)|(refine aC ?_;conv=>whnf)
 refine CondP.mk (fun h2=>?_) (fun h2=>?_)<;>rw[h2]<;>conv=>whnf
 ·refine⟨?_,rfl⟩;have h2:dR m.sp who=false:=by simpa using h2
  simp[gY,h2,oM,eh,dI]
 have h2:dR m.sp who=true:=by simpa using h2
 obtain⟨i,rfl,hi,hlv⟩:=eQ h2;have hal:=(h.ss _ (List.getElem_mem hi)).1;have har:dq m i=m.sp[i].ar:=by simp[dq,hi]
 refine aB [.pass] rfl rfl rfl (nR b1 b2 b3 b4 b5 m h) rfl ?_;conv=>whnf
 refine aI (k:=i) rfl rfl (by simpa using hi) ?_;conv=>whnf
 refine aF rfl (r:=.one (.ro b5 4 (m.sp[i].ar.map rA))) (by simp[ak,rP,hi]) ?_;conv=>whnf
 refine aB [.pass,.pass] rfl rfl rfl (uC b5 m.sp[i].ar a hal) rfl ?_;conv=>whnf
 simp only[List.drop_zero,List.take_length];cases hcu:fD m.sp[i].ar a with
 |none=>
  refine CondP.mk (fun c1=>?_) (fun c1=>?_)<;>conv=>whnf
  ·refine⟨?_,rfl⟩;simp[gY,h1,h2,har,hcu,mapM,oM,dI]
  ·simp at c1
 |some l=>
  refine CondP.mk (fun c1=>?_) (fun c1=>?_)<;>conv=>whnf
  ·simp at c1
  ·refine aE (k:=i) rfl rfl rfl (by simpa using hi) ?_;conv=>whnf
   simp only[Option.getD_some];refine dV rfl rfl rfl rfl rfl (by simp[wrN,wr1,DV.cells,hi];rfl) ?_;conv=>whnf
   refine aX (i:=i) (k:=1) (g':=5) (lo:=0) (len:=l.length) (es2:=(ag m i l).sp.map rP) (ov2:=[]) rfl (ai (by simp[hi];rfl) (by simp[rP]) (by simp only[aa,if_true];rfl)) rfl rfl (by rw[List.drop_zero,aU];exact iA hi) (by simp only[aZ,if_true];rfl) ?_;conv=>whnf
   refine⟨?_,rfl⟩;simp[gY,h1,h2,har,hcu,mapM,oM,dI,ag,List.take_of_length_le]
theorem rZ{m:Mem}{who:Int}{a:Area}:(gY m who a).1.fits 16:=by
 unfold gY;split
 ·rename_i h;simp only[Bool.and_eq_true]at h;obtain⟨h1,h2⟩:=h;have hs:=n6 h1;cases hc:fD (dq m who.toNat) a with
  |none=>exact hs
  |some l=>
   simp only[mapM];have h4:=(kc hc).2;have hl6:l.length≤6:=by simp only[aO,Bool.and_eq_true,decide_eq_true_eq]at h4;exact h4.2
   refine⟨hs.rt,hs.rr,hs.st,hs.sr,by simpa [ag]using hs.sp,fun s hs'=>?_⟩;obtain⟨q,hq,rfl⟩:=List.getElem_of_mem hs';simp only[ag,List.length_modify]at hq;have:=hs.ss _ (List.getElem_mem hq);simp only[ag,List.getElem_modify];split
   ·exact⟨by simp only;omega,this.2⟩
   ·exact this
 ·exact⟨by simp[eh],by simp[eh],by simp[eh],by simp[eh],by simp[eh],fun s hs=>by simp[eh]at hs⟩
end Go.Qm
namespace Go.Qm
open Go.Cq Go.Cq.D Go.RowKit Go.Proofs
set_option maxRecDepth 10000
theorem tJ{m:Mem}{w:Int}{a:Area}(h:(gY m w a).2=0):∃i:Nat,w=i∧b7 m=true∧∃hi:i<m.sp.length,m.sp[i].lv=true∧∃l,fD m.sp[i].ar a=some l∧(gY m w a).1=ag m i l:=by
 unfold gY at h ⊢;split at h
 ·rename_i c;rw[if_pos c];simp only[Bool.and_eq_true]at c;obtain⟨i,rfl,hi,hlv⟩:=eQ c.2;rw[Int.toNat_natCast]at h ⊢;refine⟨i,rfl,c.1,hi,hlv,?_⟩;rw[show dq m i=m.sp[i].ar by simp[dq,hi]]at h ⊢;cases e:fD m.sp[i].ar a with
  |none=>rw[e]at h;simp[mapM]at h
  |some l=>exact⟨l,rfl,rfl⟩
 ·simp at h
theorem zp{m:Mem}{i p:Nat}{l:List Area}{a:Area}(h:b7 m=true)(hi:i<m.sp.length)(hlv:m.sp[i].lv=true)(he:fD m.sp[i].ar a=some l)(h1:a.fr*4≤p)(h2:p< (a.fr+a.mn)*4):lK (ag m i l) i p=(0,true):=by
 have hb:=au.1 (kc he).1;have h16:=(mI h hi hlv).2.2;have hc:cov ((p / 4:Nat):Int) a=true:=ka.2 (by omega);obtain⟨z1,z2⟩:=add_zero h hi hlv he hc (by omega);have hi':i< (ag m i l).sp.length:=by simpa [ag]using hi
 have e1:dq (ag m i l) i=l:=by simp[dq,ag,hi]
 have hj:p / 4<m.sp[i].sl.length:=by omega
 have e2:aJ (ag m i l) i (p / 4)=cQ:=by simp[aJ,ag,hi,hj,z2]
 have hL:(ag m i l).sp.length=5:=by rw[show(ag m i l).sp.length=m.sp.length by simp[ag]];exact(pL h).sp
 have e3:dR (ag m i l).sp i=true:=by have h5:m.sp.length=5:=(pL h).sp;simp only[dR,inB,Bool.and_eq_true,decide_eq_true_eq,hL];exact⟨by omega,by simp[ag,hi,hlv]⟩
 rw[lK,Int.toNat_natCast,Int.toNat_natCast,xY h hi hlv he,e3,e1,e2,decide_eq_true z1,show inB (p:Int) 0 63=true by simp only[inB,Bool.and_eq_true,decide_eq_true_eq];omega];have:p % 4<4:=Nat.mod_lt _ (by decide);have:byteOf kE (p % 4)=0:=by rcases(by omega:p % 4=0∨p % 4=1∨p % 4=2∨p % 4=3)with e|e|e|e<;>rw[e]<;>rfl
 simp[jQ,cQ,this]
end Go.Qm
namespace Go.Qm
open Go.Cq Go.Cq.D Go.RowKit Go.Proofs
set_option maxRecDepth 10000
set_option maxHeartbeats 8000000 in
theorem vJ(b:Bool)(bs:List UInt8)(hl:bs.length≤1048576):di Try.prog 55 [.one (.ro b 1 (bs.map dU))] [] 0 fun x H'=>∃(m:Mem)(w f n:Int),m.fits 1048576∧m.sp.length≤5∧x= .tup [oM m,.one (dI w),.one (dI f),.one (dI n)]∧H'=[]:=by
 refine aA2 fun c hc=>?_
 have r:=z8 hc;have ho:=xu c (bs.map dU) hc (by rw[List.length_map];omega);rw[←List.map_take]at ho ⊢;generalize mq c=c' at r ho ⊢;generalize bs.take 2000=bs' at r ho ⊢;refine ft hmix Try.func55 ok55 (fun g p h=>by simp at h) ?_;rcases hc with⟨-,z,rfl⟩| ⟨id,base,lim,rfl⟩<;>rcases r.c with⟨-,z',rfl⟩| ⟨id',base',lim',rfl⟩<;>conv=>whnf
 all_goals
  refine aAF [.pass] (jR _ (bs'.map dU)) [_,.int .i64 0] rfl rfl rfl rfl ho ?_;conv=>whnf
  refine il [] [.pass] [1] (jR _ (bs'.map dU)) rfl rfl rfl rfl rfl (aDK _ bs' 0 r (by omega)) (fun t p h=>by simp[jR]at h) (hv:=.inr rfl) ?_;rintro res H3 ⟨m,q,j1,j5,j2,j3,rfl,rfl⟩;refine⟨rfl,_,rfl,?_⟩;conv=>whnf
  simp only[List.drop_zero,List.take_length];refine il [] [.pass,.lend] [1] (jR _ (bs'.map dU)) (cas:=[.one (.ptr 0 0 0),aM true true true true true m]) rfl rfl (by show some [_,DV.agg [DC.ro true 1 (List.take _ (List.drop 0 _)),DC.ro true 1 (List.take _ (List.drop 0 _)),DC.ro true 1 (List.take _ (List.drop 0 _)),DC.ro true 1 (List.take _ (List.drop 0 _)),DC.ro true 3 (List.take _ (List.drop 0 _)),_]]=_;simp only[List.drop_zero,List.take_length];rfl) rfl rfl (aCx _ bs' q true true true true true m r (by omega) j5) (fun t p h=>by simp[jR]at h) (hv:=.inr rfl) ?_;rintro res H3 ⟨w,q2,w1,w2,w3,w4,rfl,rfl⟩;refine⟨rfl,_,rfl,?_⟩;conv=>whnf
  refine aw r rfl rfl rfl (by omega) (by omega) fun f f1 f2=>?_
  conv=>whnf
  refine aw r rfl rfl rfl (by omega) (by omega) fun n n1 n2=>?_
  conv=>whnf
  exact⟨m,w,IntKind.wrap .i64 (f-1),n,j1,j5,by simp[oM,dI],rfl⟩
set_option maxHeartbeats 8000000 in
theorem sS(hc:oS)(b:Bool)(bs:List UInt8):bC Try.prog 21 [.one (.ro b 1 (bs.map dU))] (.v (.one (dB true))):=by
 refine aK hmix Try.func21 ok21 ?_;conv=>whnf
 refine CondP.mk (fun h=>?_) (fun h=>?_)<;>conv=>whnf
 ·exact⟨rfl,rfl⟩
 have hl:bs.length≤1048576:=by simp at h;omega
 refine fg [.pass] [] rfl rfl rfl rfl (vJ b bs hl) ?_;rintro res H3 ⟨m,w,f,n,hf,h5,rfl,rfl⟩;refine⟨rfl,rfl,_,rfl,?_⟩;conv=>whnf
 simp only[List.drop_zero,List.take_length];have g1:=xi hc true true true true true m w f n hf;have g2:=tH true true true true true m w f n hf;have hsm:=ra (m:=m) (who:=w) (fr:=f) (mn:=n);generalize fV eA m w f n=x at g1 g2 hsm;have hq:bC Try.prog 32 [aM true true true true true x.1,aM true true true true true x.1] (.v (.one (dB true))):=ze true true true true true true true true true true x.1 (hsm.mono (by decide));refine aB (cas:=[aM true true true true true m,.one (dI w),.one (dI f),.one (dI n)]) [.lend,.pass,.pass,.pass] rfl (by show some [DV.agg [DC.ro true 1 (List.take _ (List.drop 0 _)),DC.ro true 1 (List.take _ (List.drop 0 _)),DC.ro true 1 (List.take _ (List.drop 0 _)),DC.ro true 1 (List.take _ (List.drop 0 _)),DC.ro true 3 (List.take _ (List.drop 0 _)),_],_,_,_]=_;simp only[List.drop_zero,List.take_length];rfl) rfl g1 rfl ?_;conv=>whnf
 simp only[List.drop_zero,List.take_length];refine aB (cas:=[aM true true true true true m,.one (dI w),.one (dI f),.one (dI n)]) [.lend,.pass,.pass,.pass] rfl (by show some [DV.agg [DC.ro true 1 (List.take _ (List.drop 0 _)),DC.ro true 1 (List.take _ (List.drop 0 _)),DC.ro true 1 (List.take _ (List.drop 0 _)),DC.ro true 1 (List.take _ (List.drop 0 _)),DC.ro true 3 (List.take _ (List.drop 0 _)),_],_,_,_]=_;simp only[List.drop_zero,List.take_length];rfl) rfl g2 rfl ?_;conv=>whnf
 simp only[List.drop_zero,List.take_length];refine CondP.mk (fun h=>by simp at h) (fun h=>?_);rw[h]
 (conv=>whnf)<;>repeat' first|(refine aD ?_;conv=>whnf)|(refine aC ?_;conv=>whnf)
 refine aB (cas:=[aM true true true true true x.1,aM true true true true true x.1]) [.lend,.lend] rfl (by show some [DV.agg [DC.ro true 1 (List.take _ (List.drop 0 _)),DC.ro true 1 (List.take _ (List.drop 0 _)),DC.ro true 1 (List.take _ (List.drop 0 _)),DC.ro true 1 (List.take _ (List.drop 0 _)),DC.ro true 3 (List.take _ (List.drop 0 _)),_],DV.agg [DC.ro true 1 (List.take _ (List.drop 0 _)),DC.ro true 1 (List.take _ (List.drop 0 _)),DC.ro true 1 (List.take _ (List.drop 0 _)),DC.ro true 1 (List.take _ (List.drop 0 _)),DC.ro true 3 (List.take _ (List.drop 0 _)),_]]=_;simp only[List.drop_zero,List.take_length];rfl) rfl hq rfl ?_
 (conv=>whnf)<;>repeat' first|(refine aD ?_;conv=>whnf)|(refine aC ?_;conv=>whnf)
 refine CondP.mk (fun h=>?_) (fun h=>?_)<;>conv=>whnf
 ·refine CondP.mk (fun h1=>?_) (fun h1=>by simp at h1);rw[h1]
  (conv=>whnf)<;>repeat' first|(refine aD ?_;conv=>whnf)|(refine aC ?_;conv=>whnf)
  simp only[List.drop_zero,List.take_length];refine aB (cas:=[aM true true true true true x.1,aM true true true true true x.1]) [.lend,.lend] rfl (by show some [DV.agg [DC.ro true 1 (List.take _ (List.drop 0 _)),DC.ro true 1 (List.take _ (List.drop 0 _)),DC.ro true 1 (List.take _ (List.drop 0 _)),DC.ro true 1 (List.take _ (List.drop 0 _)),DC.ro true 3 (List.take _ (List.drop 0 _)),_],DV.agg [DC.ro true 1 (List.take _ (List.drop 0 _)),DC.ro true 1 (List.take _ (List.drop 0 _)),DC.ro true 1 (List.take _ (List.drop 0 _)),DC.ro true 1 (List.take _ (List.drop 0 _)),DC.ro true 3 (List.take _ (List.drop 0 _)),_]]=_;simp only[List.drop_zero,List.take_length];rfl) rfl hq rfl ?_
  (conv=>whnf)<;>repeat' first|(refine aD ?_;conv=>whnf)|(refine aC ?_;conv=>whnf)
  exact⟨rfl,rfl⟩
 simp only[List.drop_zero,List.take_length];have g3:=xO hc true true true true true x.1 w ⟨f,n,true,false⟩ (hsm.mono (by decide));have hsm2:=rZ (m:=x.1) (who:=w) (a:=⟨f,n,true,false⟩);have hfn:=tJ (m:=x.1) (w:=w) (a:=⟨f,n,true,false⟩);generalize gY x.1 w ⟨f,n,true,false⟩=y at g3 hsm2 hfn;refine aB (cas:=[aM true true true true true x.1,.one (dI w),.agg (aA ⟨f,n,true,false⟩)]) [.lend,.pass,.pass] rfl (by show some [DV.agg [DC.ro true 1 (List.take _ (List.drop 0 _)),DC.ro true 1 (List.take _ (List.drop 0 _)),DC.ro true 1 (List.take _ (List.drop 0 _)),DC.ro true 1 (List.take _ (List.drop 0 _)),DC.ro true 3 (List.take _ (List.drop 0 _)),_],_,_]=_;simp only[List.drop_zero,List.take_length];rfl) rfl g3 rfl ?_;conv=>whnf
 by_cases h0:y.2=0
 ·obtain⟨i,rfl,hok,hi,hlv,l,ha,hy⟩:=hfn h0;have ab:=au.1 (kc ha).1;simp only at ab;obtain⟨f,rfl⟩:=Int.eq_ofNat_of_zero_le ab.1;obtain⟨g,rfl⟩:=Int.eq_ofNat_of_zero_le (show 0≤n by omega);have e1:IntKind.wrap .i64 ((f:Int)*4)=((f*4:Nat):Int):=by rw[wrap64 (by omega) (by omega)];omega
  have e2:IntKind.wrap .i64 (IntKind.wrap .i64 ((f:Int)+g)*4)=(((f+g)*4:Nat):Int):=by rw[wrap64 (x:=(f:Int)+g) (by omega) (by omega),wrap64 (by omega) (by omega)];omega
  rw[e1,h0];refine aq (fun p:Nat=>[(4,.v (.one (dI i))),(5,.v (.one (dI f))),(6,.v (.one (dI g))),(11,.v (.one (.ptr 38 0 0))),(12,.v (.one (dI 0))),(13,.v (.one (dI p)))]) (fun _=>[(38,bO y.1)]) (fun _=>39) (fun p=>f*4≤p∧p≤(f+g)*4) (fun p=>(f+g)*4-p) (f*4) ⟨by omega,by omega⟩ rfl (by simp[bO,dI]) rfl fun p hp=>?_
  conv=>whnf
  rw[e2];refine CondP.mk (fun c1=>?_) (fun c1=>?_)<;>rw[c1]<;>(conv=>whnf)<;>repeat' first|(refine aD ?_;conv=>whnf)|(refine aC ?_;conv=>whnf)
  ·have c1:p< (f+g)*4:=by have:=of_decide_eq_true c1;omega
   have pk:=vH hc true true true true true y.1 i p (hsm2.mono (by decide));rw[show lK y.1 i p=(0,true) by rw[hy];exact zp hok hi hlv ha (by simp only;omega) (by simp only;omega)]at pk;refine aB (cas:=[aM true true true true true y.1,.one (dI i),.one (dI p)]) [.lend,.pass,.pass] rfl (by show some [DV.agg [DC.ro true 1 (List.take _ (List.drop 0 _)),DC.ro true 1 (List.take _ (List.drop 0 _)),DC.ro true 1 (List.take _ (List.drop 0 _)),DC.ro true 1 (List.take _ (List.drop 0 _)),DC.ro true 3 (List.take _ (List.drop 0 _)),_],_,_]=_;simp only[List.drop_zero,List.take_length];rfl) rfl pk rfl ?_
   (conv=>whnf)<;>repeat' first|(refine aD ?_;conv=>whnf)|(refine aC ?_;conv=>whnf)
   refine⟨p+1,by omega,⟨by omega,by omega⟩,?_,by simp[bO,dI],rfl⟩;rw[wrap64 (by omega) (by omega)];rfl
  exact⟨rfl,rfl⟩
 ·refine aq (fun _:Nat=>[(4,.v (.one (dI w))),(5,.v (.one (dI f))),(6,.v (.one (dI n))),(11,.v (.one (.ptr 38 0 0))),(12,.v (.one (dI y.2))),(13,.v (.one (dI (IntKind.wrap .i64 (f*4)))))]) (fun _=>[(38,bO y.1)]) (fun _=>39) (fun _=>True) (fun _=>0) 0 trivial rfl (by simp[bO,dI]) rfl fun p hp=>?_
  conv=>whnf
  refine CondP.mk (fun c1=>?_) (fun c1=>?_)<;>rw[c1]<;>(conv=>whnf)<;>repeat' first|(refine aD ?_;conv=>whnf)|(refine aC ?_;conv=>whnf)
  ·rw[decide_eq_false h0]
   (conv=>whnf)<;>repeat' first|(refine aD ?_;conv=>whnf)|(refine aC ?_;conv=>whnf)
   exact⟨rfl,rfl⟩
  exact⟨rfl,rfl⟩
end Go.Qm

