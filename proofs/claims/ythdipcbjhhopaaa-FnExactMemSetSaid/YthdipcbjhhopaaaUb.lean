import Derived.Test.YthdipcbjhhopaaaUa
namespace Go.Qm
open Go.Cq Go.Cq.D Go.RowKit Go.Proofs
set_option maxRecDepth 10000
theorem aBS(p:Pages)(k:Nat)(h1:p.tx.length=12)(h2:p.rf.length=12)(hk:k<12)(hb: -1000≤p.rf[k]?.getD 0∧p.rf[k]?.getD 0≤1000):c6 Try.prog 164 [.agg [.sl 0 0 12,.sl 1 0 12],.one (dI k)] (hP p) 2 fun x H'=>x= .v (.agg [.sl 0 0 12,.sl 1 0 12])∧H'=hP (dn p k):=by
 refine aK hmix Try.func164 ok164 ?_;have hr:k<p.rf.length:=by omega
 have ht:k<p.tx.length:=by omega
 have hr0:p.rf[k]?.getD 0=p.rf[k]:=by simp[hr]
 rw[hr0]at hb;conv=>whnf
 refine aC (k:=k) rfl rfl rfl hk ?_;conv=>whnf
 refine bq rfl rfl rfl (aW (row:=rI p.rf[k]) (by simp[hr]) rfl rfl rfl) rfl ?_;conv=>whnf
 have ew:IntKind.wrap .i64 (p.rf[k]-1)=p.rf[k]-1:=wrap64 (by omega) (by omega);simp only[ew];refine aC (k:=k) rfl rfl rfl hk ?_;conv=>whnf
 refine aG rfl rfl rfl (by simpa using hr) (by decide) ?_;conv=>whnf
 rw[jB hr];refine aC (k:=k) rfl rfl rfl hk ?_;conv=>whnf
 refine bq rfl rfl rfl (aW (row:=rI (p.rf[k]-1)) (by simp[hr]) rfl rfl rfl) rfl ?_;conv=>whnf
 refine CondP.mk (fun h=>?_) (fun h=>?_)<;>conv=>whnf
 ·have h:p.rf[k]=1:=by simp at h;omega
  refine aC (k:=k) rfl rfl rfl hk ?_;conv=>whnf
  refine aG rfl rfl rfl (by simpa using ht) (by decide) ?_;conv=>whnf
  refine⟨rfl,?_⟩;rw[gB ht];simp only[dn,hr0,if_pos h];rfl
 ·have h:¬p.rf[k]=1:=by simp at h;omega
  refine⟨rfl,?_⟩;simp only[dn,hr0,if_neg h];rfl
set_option maxHeartbeats 4000000 in
theorem zB(m:Mem)(i j:Nat)(w:Wf m)(hi:i<m.sp.length)(hj:j<m.sp[i].sl.length)(hk1:(ae m i j).kd=1):c6 Try.prog 151 [.agg (cW m.hd),.one (dI i),.one (dI j)] (hM m) 5
  fun x H'=>x= .tup [.agg (cW ((fW m i j).getD m).hd),.one (dB (fW m i j).isSome)]∧H'=hM ((fW m i j).getD m):=by
 refine aK hmix Try.func151 ok151 ?_;have l:=w.L;have hi5:i<5:=by rw[←l.sp];exact hi
 have hg:=aj (f:=rP) (List.getElem?_eq_getElem hi);have hx:=dM hi hj;obtain⟨f,e1,f12,e3,e4⟩:=(w.slot hi hj).1 hk1;have hft:f<m.ram.tx.length:=by rw[l.rt];exact f12
 have hfr:f<m.ram.rf.length:=by rw[l.rr];exact f12
 conv=>whnf
 refine aC (k:=i) rfl rfl rfl hi5 ?_;conv=>whnf
 refine dV (i:=i) (k:=2) (sz':=4) (es':=m.sp[i].sl.map rL) m.sp[i].sl.length rfl rfl rfl (aW hg rfl rfl rfl) rfl (by simp) ?_;conv=>whnf
 refine aC (k:=j) rfl rfl rfl hj ?_;conv=>whnf
 refine ry (row:=rL (ae m i j)) rfl rfl rfl (by rw[hx];simp[hj]) (eV _) rfl rfl ?_;conv=>whnf
 refine aX (i:=i) (k:=2) (g':=7) (lo:=0) (len:=m.sp[i].sl.length) (es2:=m.sp.map rP) (ov2:=[]) rfl (bZ hg (by simp[rP]) (by simp only[ai,if_true];rfl)) rfl rfl (by rw[List.drop_zero,bg];exact f7 hi) (by simp only[bJ,if_true];rfl) ?_;conv=>whnf
 obtain⟨x,hxx⟩:∃x,ae m i j=x:=⟨_,rfl⟩;rw[hxx]at e1 hk1;simp only[hxx];have hrf:m.ram.rf[f]?.getD 0=m.ram.rf[f]:=by simp[hfr]
 refine CondP.mk (fun c1=>?_) (fun c1=>?_)<;>rw[c1]<;>(conv=>whnf)<;>repeat' first|(refine aF ?_;conv=>whnf)|(refine aD ?_;conv=>whnf)
 ·have c1:x.ow=false:=by simpa using c1
  refine aC (k:=f) rfl rfl (by show some _=some _;rw[e1]) f12 ?_
  (conv=>whnf)<;>repeat' first|(refine aF ?_;conv=>whnf)|(refine aD ?_;conv=>whnf)
  refine bq rfl rfl rfl (aW (row:=rI m.ram.rf[f]) (by simp[hfr]) rfl rfl rfl) rfl ?_
  (conv=>whnf)<;>repeat' first|(refine aF ?_;conv=>whnf)|(refine aD ?_;conv=>whnf)
  refine CondP.mk (fun c2=>?_) (fun c2=>?_)<;>conv=>whnf
  ·have c2:1<m.ram.rf[f]:=by simpa using c2
   have hcond:x.ow=false∧1<m.ram.rf[x.pl.toNat]?.getD 0:=⟨c1,by rw[e1,Int.toNat_natCast,hrf];exact c2⟩;have hcall:=qE m x.pl w;cases hr:bR m x.pl with
   |none=>
    have hb:fW m i j=none:=by rw[fW,hxx,if_pos hcond,hr];rfl
    rw[hr]at hcall;refine bp (r:=.tup [.agg (cW m.hd),.one (dB false)]) (Hr:=hM m) [.pass,.pass] [0,1,2,3,4] rfl rfl rfl rfl hcall rfl (sT l l rfl) ?_
    (conv=>whnf)<;>repeat' first|(refine aF ?_;conv=>whnf)|(refine aD ?_;conv=>whnf)
    rw[hb];exact⟨rfl,rfl⟩
   |some m1=>
    obtain⟨w1,hf⟩:=w.bR hr;have l1:=w1.L;have ha:=cN w hr;obtain⟨hi1,hj1,ex, -⟩:=f8 ha hi hj (.inr (by rw[hxx]));rw[hxx]at ex;have hg1:=aj (f:=rP) (List.getElem?_eq_getElem hi1);obtain⟨f',q1,q12,q3,q4⟩:=w1.at1 _ (List.getElem_mem hi1) _ (List.getElem_mem hj1) (by rw[ex];exact hk1);obtain rfl:f'=f:=by rw[ex,e1]at q1;omega
    have hft1:f'<m1.ram.tx.length:=by rw[l1.rt];exact f12
    have gt:m1.ram.tx[f']?.getD []=m1.ram.tx[f']:=by simp[hft1]
    rw[hr]at hcall;refine bp (r:=.tup [.agg (cW m1.hd),.one (dB true)]) (Hr:=hM m1) [.pass,.pass] [0,1,2,3,4] rfl rfl rfl rfl hcall rfl (sT l l1 rfl) ?_
    (conv=>whnf)<;>repeat' first|(refine aF ?_;conv=>whnf)|(refine aD ?_;conv=>whnf)
    refine aC (k:=f') rfl rfl (by show some _=some _;rw[e1]) f12 ?_;conv=>whnf
    refine bq rfl rfl rfl (aW (row:=rS m1.ram.tx[f']) (by simp[hft1]) rfl rfl rfl) rfl ?_;conv=>whnf
    obtain⟨p,hp⟩:∃p,ab m1.ram (aN m1.ram.rf) m1.ram.tx[f'] 1=p:=⟨_,rfl⟩;have hpt:p.tx.length=12:=by rw[←hp];simp[ab,l1.rt]
    have hpr:p.rf.length=12:=by rw[←hp];simp[ab,l1.rr]
    have hpb:0≤p.rf[f']?.getD 0∧p.rf[f']?.getD 0≤1000:=by rw[←hp];exact(w1.ram.take (t:=m1.ram.tx[f']) (n:=1) (k:=aN m1.ram.rf) (by decide)).get
    have ht:=nT m1.ram m1.ram.tx[f'] l1.rt l1.rr hf;rw[hp]at ht;refine bp [.pass,.pass] [0,1] rfl rfl rfl rfl ht rfl ((aI (sz:=1) (es:=p.tx.map rS) (es0:=m1.ram.tx.map rS) (ov0:=[]) rfl rfl (by simp[hpt,l1.rt])).trans ((aI (sz:=1) (es:=p.rf.map rI) (es0:=m1.ram.rf.map rI) (ov0:=[]) rfl rfl (by simp[hpr,l1.rr])).trans rfl)) ?_;conv=>whnf
    have hgv:=aBS p f' hpt hpr f12 (by omega);have hqt:(dn p f').tx.length=12:=by simp[dn,hpt];split<;>simp[hpt]
    have hqr:(dn p f').rf.length=12:=by simp[dn,hpr]
    rw[←e1]at hgv;refine bp [.pass,.pass] [0,1] rfl rfl rfl rfl hgv rfl ((aI (sz:=1) (es:=(dn p f').tx.map rS) (es0:=p.tx.map rS) (ov0:=[]) rfl rfl (by simp[hpt,hqt])).trans ((aI (sz:=1) (es:=(dn p f').rf.map rI) (es0:=p.rf.map rI) (ov0:=[]) rfl rfl (by simp[hpr,hqr])).trans rfl)) ?_;conv=>whnf
    have hb:fW m i j=some {m1 with ram:=dn p f',sp:=aQ m1.sp i j ⟨x.kd,aN m1.ram.rf,true,x.us⟩}:=by rw[fW,hxx,if_pos hcond,hr,Option.map_some,e1,Int.toNat_natCast,gt,hp]
    refine aC (k:=i) rfl rfl rfl hi5 ?_;conv=>whnf
    refine dV (i:=i) (k:=2) (sz':=4) (es':=m1.sp[i].sl.map rL) m1.sp[i].sl.length rfl rfl rfl (aW hg1 rfl rfl rfl) rfl (by simp) ?_;conv=>whnf
    refine aC (k:=j) rfl rfl rfl hj1 ?_;conv=>whnf
    refine dT (row':=rL ⟨x.kd,aN m1.ram.rf,true,x.us⟩) rfl rfl rfl (by simpa using hj1) (iO (fun _=>rfl)) (eV _) rfl rfl rfl ?_;conv=>whnf
    refine aX (i:=i) (k:=2) (g':=9) (lo:=0) (len:=m1.sp[i].sl.length) (es2:=(aQ m1.sp i j ⟨x.kd,aN m1.ram.rf,true,x.us⟩).map rP) (ov2:=[]) rfl (bZ hg1 (by simp[rP]) (by simp only[ai,if_true];rfl)) rfl rfl (by rw[List.drop_zero,List.take_of_length_le (by simp)];exact ck hi1) (by simp only[bJ,if_true];rfl) ?_;conv=>whnf
    rw[hb];exact⟨rfl,rfl⟩
  ·have c2:¬1<m.ram.rf[f]:=by simpa using c2
   have hb:fW m i j=some {m with sp:=aQ m.sp i j {x with ow:=true}}:=by rw[fW,hxx,if_neg (fun c=>c2 (by have:=c.2;rw[e1,Int.toNat_natCast,hrf]at this;exact this))]
   refine aC (k:=i) rfl rfl rfl hi5 ?_;conv=>whnf
   refine dV (i:=i) (k:=2) (sz':=4) (es':=m.sp[i].sl.map rL) m.sp[i].sl.length rfl rfl rfl (aW hg rfl rfl rfl) rfl (by simp) ?_;conv=>whnf
   refine aC (k:=j) rfl rfl rfl hj ?_;conv=>whnf
   refine dT (row':=rL ⟨x.kd,x.pl,true,x.us⟩) rfl rfl rfl (by simpa using hj) (iO (fun _=>rfl)) (eV _) rfl rfl rfl ?_;conv=>whnf
   refine aX (i:=i) (k:=2) (g':=9) (lo:=0) (len:=m.sp[i].sl.length) (es2:=(aQ m.sp i j ⟨x.kd,x.pl,true,x.us⟩).map rP) (ov2:=[]) rfl (bZ hg (by simp[rP]) (by simp only[ai,if_true];rfl)) rfl rfl (by rw[List.drop_zero,List.take_of_length_le (by simp)];exact ck hi) (by simp only[bJ,if_true];rfl) ?_;conv=>whnf
   rw[hb];exact⟨rfl,rfl⟩
 ·have c1:x.ow=true:=by simpa using c1
  have hb:fW m i j=some {m with sp:=aQ m.sp i j {x with ow:=true}}:=by rw[fW,hxx,if_neg (fun c=>by rw[c1]at c;exact absurd c.1 (by decide))]
  refine aC (k:=i) rfl rfl rfl hi5 ?_;conv=>whnf
  refine dV (i:=i) (k:=2) (sz':=4) (es':=m.sp[i].sl.map rL) m.sp[i].sl.length rfl rfl rfl (aW hg rfl rfl rfl) rfl (by simp) ?_;conv=>whnf
  refine aC (k:=j) rfl rfl rfl hj ?_;conv=>whnf
  refine dT (row':=rL ⟨x.kd,x.pl,true,x.us⟩) rfl rfl rfl (by simpa using hj) (iO (fun _=>rfl)) (eV _) rfl rfl rfl ?_;conv=>whnf
  refine aX (i:=i) (k:=2) (g':=9) (lo:=0) (len:=m.sp[i].sl.length) (es2:=(aQ m.sp i j ⟨x.kd,x.pl,true,x.us⟩).map rP) (ov2:=[]) rfl (bZ hg (by simp[rP]) (by simp only[ai,if_true];rfl)) rfl rfl (by rw[List.drop_zero,List.take_of_length_le (by simp)];exact ck hi) (by simp only[bJ,if_true];rfl) ?_;conv=>whnf
  rw[hb];exact⟨rfl,rfl⟩
end Go.Qm
namespace Go.Qm
open Go.Cq Go.Cq.D Go.RowKit Go.Proofs
set_option maxRecDepth 10000
end Go.Qm
namespace Go.Qm
open Go.Cq Go.Cq.D Go.RowKit Go.Proofs
set_option maxRecDepth 10000
theorem jj{α β:Type}{f:α→β}{l:List α}{n:Nat}(h:l.length=n):(l.map f).take n=l.map f:=List.take_of_length_le (by simp[h])
theorem aBw{sp:List Space}{i:Nat}(hi:i<sp.length):(sp.map rP).modify i (fun row=>row.set 1 (.sl 4 (sp[i].ar.map rA)))=sp.map rP:=by have hg:=aj (f:=rP) (List.getElem?_eq_getElem hi);rw[aV hg];exact t5 hg
theorem uN{sp:List Space}{i j:Nat}{x:Slot}:(aQ sp i j x).length=sp.length:=by simp[aQ]
end Go.Qm
namespace Go.Qm
open Go.Cq Go.Cq.D Go.RowKit Go.Proofs
set_option maxRecDepth 10000
def zm(l:List Area)(k:Int):Bool:=(l[k.toNat]?.map (·.wr)).getD false
def iH(m:Mem)(k o:Nat)(b:Int):Mem:={m with ram:=⟨m.ram.tx.set k (oQ (m.ram.tx[k]?.getD []) o b),m.ram.rf⟩}
def cH(m:Mem)(i a:Nat)(b:Int):Mem×Int:=
 if bH (vS m i) (a / 4:Nat)<0 then(m,2)else if zm (vS m i) (bH (vS m i) (a / 4:Nat))=false then(m,3)else match(b7 m i (a / 4)).bind fun m1=>fW m1 i (a / 4)with
  |none=>(m,4)
  |some m2=>(iH m2 (ae m2 i (a / 4)).pl.toNat (a % 4) b,0)
set_option maxHeartbeats 4000000 in
theorem aA6(m:Mem)(i a:Nat)(b:Int)(w:Wf m)(hi:i<m.sp.length)(har:∀x,x∈m.sp[i].ar→br x=true)(hal:m.sp[i].ar.length≤1048576)(hsl:m.sp[i].sl.length=16)(ha:a≤63)(h:m.fits 1048576):
  af Try.prog 95 [oM m,.one (dI i),.one (dI a),.one (dI b)] (.tup [oM (cH m i a b).1,.one (dI (cH m i a b).2)]):=by
 refine aK hmix Try.func95 ok95 ?_;have hae:vS m i=m.sp[i].ar:=by simp[vS,hi]
 have hj:a / 4<m.sp[i].sl.length:=by omega
 conv=>whnf
 refine dm rfl ?_;conv=>whnf
 simp only[aDZ (show a≤1000 by omega),List.drop_zero,List.take_length];have hg:=aj (f:=rP) (List.getElem?_eq_getElem hi);have hback:(m.sp.map rP).modify i (fun row=>row.set 1 (.sl 4 (m.sp[i].ar.map rA)))=m.sp.map rP:=aBw hi;refine aC (k:=i) rfl rfl rfl (by simpa using hi) ?_;conv=>whnf
 refine dV (i:=i) (k:=1) (sz':=4) (es':=m.sp[i].ar.map rA) m.sp[i].ar.length rfl rfl rfl (aW hg rfl rfl rfl) rfl (by simp) ?_;conv=>whnf
 refine aB [.lend,.pass] rfl (by show some [DV.one (DC.ro true 4 (List.take _ (List.drop 0 _))),_]=_;rw[List.drop_zero,bg];rfl) rfl (rC true m.sp[i].ar ((a / 4:Nat):Int) (by omega) har) rfl ?_;conv=>whnf
 obtain⟨at_,hat⟩:∃at_,bH m.sp[i].ar ((a / 4:Nat):Int)=at_:=⟨_,rfl⟩;rw[hat];refine aX (i:=i) (k:=1) (g':=8) (lo:=0) (len:=m.sp[i].ar.length) (es2:=m.sp.map rP) (ov2:=[]) rfl (bZ hg (by simp[rP]) (by simp only[ai,if_true];rfl)) rfl rfl (by rw[List.drop_zero,bg];exact hback) (by simp only[bJ,if_true];rfl) ?_;conv=>whnf
 simp only[List.drop_zero,List.take_length];refine CondP.mk (fun c1=>?_) (fun c1=>?_)<;>conv=>whnf
 ·have c1:at_<0:=by simpa using c1
  refine⟨?_,rfl⟩;rw[cH,hae,hat,if_pos c1];simp[oM,dI]
 have c1:¬at_<0:=by simpa using c1
 have hlt:at_.toNat<m.sp[i].ar.length:=by rw[←hat];exact i5 (by omega)
 simp only[List.drop_zero,List.take_length];refine aC (k:=i) rfl rfl rfl (by simpa using hi) ?_;conv=>whnf
 refine dV (i:=i) (k:=1) (sz':=4) (es':=m.sp[i].ar.map rA) m.sp[i].ar.length rfl rfl rfl (aW hg rfl rfl rfl) rfl (by simp) ?_;conv=>whnf
 refine aC (k:=at_.toNat) rfl rfl (by show some at_=_;congr 1;omega) hlt ?_;conv=>whnf
 refine bq rfl rfl rfl (aW (row:=rA m.sp[i].ar[at_.toNat]) (by simp[hlt]) rfl rfl rfl) rfl ?_;conv=>whnf
 refine aX (i:=i) (k:=1) (g':=8) (lo:=0) (len:=m.sp[i].ar.length) (es2:=m.sp.map rP) (ov2:=[]) rfl (bZ hg (by simp[rP]) (by simp only[ai,if_true];rfl)) rfl rfl (by rw[List.drop_zero,bg];exact hback) (by simp only[bJ,if_true];rfl) ?_;conv=>whnf
 have hwr:zm m.sp[i].ar at_=m.sp[i].ar[at_.toNat].wr:=by simp[zm,hlt]
 simp only[List.drop_zero,List.take_length];refine CondP.mk (fun c2=>?_) (fun c2=>?_)<;>conv=>whnf
 ·have c2:m.sp[i].ar[at_.toNat].wr=false:=by simpa using c2
  refine⟨?_,rfl⟩;rw[cH,hae,hat,if_neg c1,hwr,if_pos c2];simp[oM,dI]
 have c2:¬m.sp[i].ar[at_.toNat].wr=false:=by simpa using c2
 have hset:cH m i a b=match(b7 m i (a / 4)).bind fun m1=>fW m1 i (a / 4)with
  |none=>(m,4)
  |some m2=>(iH m2 (ae m2 i (a / 4)).pl.toNat (a % 4) b,0):=by rw[cH,hae,hat,if_neg c1,hwr,if_neg c2]
 simp only[List.drop_zero,List.take_length];refine aB (cas:=[aM true true true true true m]) [.lend] rfl (by show some [DV.agg [DC.ro true 1 (List.take _ (List.drop 0 _)),DC.ro true 1 (List.take _ (List.drop 0 _)),DC.ro true 1 (List.take _ (List.drop 0 _)),DC.ro true 1 (List.take _ (List.drop 0 _)),DC.ro true 3 (List.take _ (List.drop 0 _)),_]]=_;simp only[List.drop_zero,List.take_length];rfl) rfl (qg true true true true true m h) rfl ?_;conv=>whnf
 have l:=w.L;have hcall:=vh m i (a / 4) w hi hj;have hcas:some [DV.agg [DC.sl 0 0 (m.ram.tx.map rS).length,.sl 1 0 (m.ram.rf.map rI).length,.sl 2 0 (m.swp.tx.map rS).length,.sl 3 0 (m.swp.rf.map rI).length,.sl 4 0 (m.sp.map rP).length,dI m.hd],.one (dI i),.one (dI ((a / 4:Nat):Int))]=some [.agg (cW m.hd),.one (dI i),.one (dI ((a / 4:Nat):Int))]:=by simp only[List.length_map,l.rt,l.rr,l.st,l.sr,l.sp];rfl
 cases hb:b7 m i (a / 4)with
 |none=>
  rw[hb]at hcall hset;refine bp (r:=.tup [.agg (cW m.hd),.one (dB false)]) (Hr:=hM m) [.pass,.pass,.pass] [12,13,14,15,16] rfl hcas rfl rfl hcall rfl (aB6 l l rfl rfl rfl rfl rfl rfl) ?_
  (conv=>whnf)<;>repeat' first|(refine aF ?_;conv=>whnf)|(refine aD ?_;conv=>whnf)
  rw[hset];refine⟨?_,rfl⟩;simp[oM,dI]
 |some m1=>
  have w1:=w.aAr hi hj hb;have l1:=w1.L;obtain⟨hi1,hj1,hk1⟩:=ki w hi hj hb;have hx1:=dM hi1 hj1;rw[hb]at hcall;refine bp (r:=.tup [.agg (cW m1.hd),.one (dB true)]) (Hr:=hM m1) [.pass,.pass,.pass] [12,13,14,15,16] rfl hcas rfl rfl hcall rfl (aB6 l l1 rfl rfl rfl rfl rfl rfl) ?_
  (conv=>whnf)<;>repeat' first|(refine aF ?_;conv=>whnf)|(refine aD ?_;conv=>whnf)
  have hown:=zB m1 i (a / 4) w1 hi1 hj1 (by rw[hx1];exact hk1);simp only[List.drop_zero,jj l1.rt,jj l1.rr,jj l1.st,jj l1.sr,jj l1.sp];have hcas1:some [DV.agg [DC.sl 0 0 (m1.ram.tx.map rS).length,.sl 1 0 (m1.ram.rf.map rI).length,.sl 2 0 (m1.swp.tx.map rS).length,.sl 3 0 (m1.swp.rf.map rI).length,.sl 4 0 (m1.sp.map rP).length,dI m1.hd],.one (dI i),.one (dI ((a / 4:Nat):Int))]=some [.agg (cW m1.hd),.one (dI i),.one (dI ((a / 4:Nat):Int))]:=by simp only[List.length_map,l1.rt,l1.rr,l1.st,l1.sr,l1.sp];rfl
  rw[hb,Option.bind_some]at hset;cases ho:fW m1 i (a / 4)with
  |none=>
   rw[ho]at hown hset;refine bp (r:=.tup [.agg (cW m1.hd),.one (dB false)]) (Hr:=hM m1) [.pass,.pass,.pass] [18,19,20,21,22] rfl hcas1 rfl rfl hown rfl (aB6 l1 l1 rfl rfl rfl rfl rfl rfl) ?_
   (conv=>whnf)<;>repeat' first|(refine aF ?_;conv=>whnf)|(refine aD ?_;conv=>whnf)
   rw[hset];refine⟨?_,rfl⟩;simp[oM,dI]
  |some m2=>
   obtain⟨w2,s2,hk2⟩:=w1.own hi1 hj1 (by rw[hx1];exact hk1) ho;have l2:=w2.L;have hi2:i<m2.sp.length:=by rw[s2.1];exact hi1
   have hj2:a / 4<m2.sp[i].sl.length:=by rw[(s2.2 i hi1 hi2).2.2];exact hj1
   have hx2:=dM hi2 hj2;have hg2:=aj (f:=rP) (List.getElem?_eq_getElem hi2);obtain⟨k,e1,k12, -,e4⟩:=(w2.slot hi2 hj2).1 hk2;have hkt:k<m2.ram.tx.length:=by rw[l2.rt];exact k12
   have gt:m2.ram.tx[k]?.getD []=m2.ram.tx[k]:=by simp[hkt]
   rw[gt]at e4;rw[ho]at hown hset;refine bp (r:=.tup [.agg (cW m2.hd),.one (dB true)]) (Hr:=hM m2) [.pass,.pass,.pass] [18,19,20,21,22] rfl hcas1 rfl rfl hown rfl (aB6 l1 l2 rfl rfl rfl rfl rfl rfl) ?_
   (conv=>whnf)<;>repeat' first|(refine aF ?_;conv=>whnf)|(refine aD ?_;conv=>whnf)
   simp only[List.drop_zero,jj l2.rt,jj l2.rr,jj l2.st,jj l2.sr,jj l2.sp];refine aC (k:=i) rfl rfl rfl (by simpa using hi2) ?_;conv=>whnf
   refine dV (i:=i) (k:=2) (sz':=4) (es':=m2.sp[i].sl.map rL) m2.sp[i].sl.length rfl rfl rfl (aW hg2 rfl rfl rfl) rfl (by simp) ?_;conv=>whnf
   refine aC (k:=a / 4) rfl rfl rfl hj2 ?_;conv=>whnf
   refine bq rfl rfl rfl (aW (row:=rL (ae m2 i (a / 4))) (by rw[hx2];simp[hj2]) rfl rfl rfl) rfl ?_;conv=>whnf
   refine aX (i:=i) (k:=2) (g':=19) (lo:=0) (len:=m2.sp[i].sl.length) (es2:=m2.sp.map rP) (ov2:=[]) rfl (bZ hg2 (by simp[rP]) (by simp only[ai,if_true];rfl)) rfl rfl (by rw[List.drop_zero,bg];exact f7 hi2) (by simp only[bJ,if_true];rfl) ?_;conv=>whnf
   simp only[List.drop_zero,List.take_length];refine aC (k:=k) rfl rfl (by show some _=some _;rw[e1]) (by simpa using hkt) ?_;conv=>whnf
   refine bq rfl rfl rfl (aW (row:=rS m2.ram.tx[k]) (by simp[hkt]) rfl rfl rfl) rfl ?_;conv=>whnf
   refine dm rfl ?_;conv=>whnf
   simp only[aCh];refine aB [.pass,.pass,.pass] rfl rfl rfl (aAI m2.ram.tx[k] (a % 4) b (by omega) (by omega)) rfl ?_;conv=>whnf
   refine aC (k:=k) rfl rfl (by show some _=some _;rw[e1]) (by simpa using hkt) ?_;conv=>whnf
   refine aG rfl rfl rfl (by simpa using hkt) (by decide) ?_;conv=>whnf
   rw[hset];refine⟨?_,rfl⟩;simp only[e1,Int.toNat_natCast,iH,gt];rw[gB hkt];obtain⟨T,hT⟩:∃T,m2.ram.tx.set k (oQ m2.ram.tx[k] (a % 4) b)=T:=⟨_,rfl⟩;have hTl:T.length=m2.ram.tx.length:=by rw[←hT,List.length_set]
   rw[hT];simp[oM,dI,hTl,jj hTl]
end Go.Qm
namespace Go.Qm
open Go.Cq Go.Cq.D Go.RowKit Go.Proofs
set_option maxRecDepth 10000
end Go.Qm
namespace Go.Qm
open Go.Cq Go.Cq.D Go.RowKit Go.Proofs
set_option maxRecDepth 10000
def dt(m:Mem)(who a b:Int):Mem×Int:=if ct m&&(fv m.sp who&&(inB a 0 63&&inB b 0 255))then cH m who.toNat a.toNat b else(jX,1)
set_option maxHeartbeats 1000000 in
theorem vb(m:Mem)(who a b:Int)(h:m.fits 1048576):af Try.prog 39 [oM m,.one (dI who),.one (dI a),.one (dI b)] (.tup [oM (dt m who a b).1,.one (dI (dt m who a b).2)]):=by
 refine aK hmix Try.func39 ok39 ?_;conv=>whnf
 simp only[List.drop_zero,List.take_length];refine aB (cas:=[aM true true true true true m]) [.lend] rfl (by show some [DV.agg [DC.ro true 1 (List.take _ (List.drop 0 _)),DC.ro true 1 (List.take _ (List.drop 0 _)),DC.ro true 1 (List.take _ (List.drop 0 _)),DC.ro true 1 (List.take _ (List.drop 0 _)),DC.ro true 3 (List.take _ (List.drop 0 _)),_]]=_;simp only[List.drop_zero,List.take_length];rfl) rfl (xK true true true true true m (h.mono (by decide))) rfl ?_;conv=>whnf
 refine CondP.mk (fun h1=>?_) (fun h1=>?_)<;>rw[h1]<;>(conv=>whnf)<;>repeat' first|(refine aF ?_;conv=>whnf)|(refine aD ?_;conv=>whnf)
 ·refine⟨?_,rfl⟩;have h1:ct m=false:=by simpa using h1
  simp[dt,h1,oM,jX,dI]
 have h1:ct m=true:=by simpa using h1
 simp only[List.drop_zero,List.take_length];refine aB (cas:=[aM true true true true true m,.one (dI who)]) [.lend,.pass] rfl (by show some [DV.agg [DC.ro true 1 (List.take _ (List.drop 0 _)),DC.ro true 1 (List.take _ (List.drop 0 _)),DC.ro true 1 (List.take _ (List.drop 0 _)),DC.ro true 1 (List.take _ (List.drop 0 _)),DC.ro true 3 (List.take _ (List.drop 0 _)),_],_]=_;simp only[List.drop_zero,List.take_length];rfl) rfl (yw true true true true true m who (by have:=h.sp;omega)) rfl ?_
 (conv=>whnf)<;>repeat' first|(refine aF ?_;conv=>whnf)|(refine aD ?_;conv=>whnf)
 refine CondP.mk (fun h2=>?_) (fun h2=>?_)<;>rw[h2]<;>(conv=>whnf)<;>repeat' first|(refine aF ?_;conv=>whnf)|(refine aD ?_;conv=>whnf)
 ·refine⟨?_,rfl⟩;have h2:fv m.sp who=false:=by simpa using h2
  simp[dt,h2,oM,jX,dI]
 have h2:fv m.sp who=true:=by simpa using h2
 refine aB [.pass] rfl rfl rfl (xD a) rfl ?_
 (conv=>whnf)<;>repeat' first|(refine aF ?_;conv=>whnf)|(refine aD ?_;conv=>whnf)
 refine CondP.mk (fun h3=>?_) (fun h3=>?_)<;>rw[h3]<;>(conv=>whnf)<;>repeat' first|(refine aF ?_;conv=>whnf)|(refine aD ?_;conv=>whnf)
 ·refine⟨?_,rfl⟩;have h3:inB a 0 63=false:=by simpa using h3
  simp[dt,h3,oM,jX,dI]
 have h3:inB a 0 63=true:=by simpa using h3
 refine aB [.pass,.pass,.pass] rfl rfl rfl (gh b 0 255) rfl ?_
 (conv=>whnf)<;>repeat' first|(refine aF ?_;conv=>whnf)|(refine aD ?_;conv=>whnf)
 refine CondP.mk (fun h5=>?_) (fun h5=>?_)<;>conv=>whnf
 ·refine⟨?_,rfl⟩;have h5:inB b 0 255=false:=by simpa using h5
  simp[dt,h5,oM,jX,dI]
 have h5:inB b 0 255=true:=by simpa using h5
 have h4:=h3;simp only[inB,Bool.and_eq_true,decide_eq_true_eq]at h4;obtain⟨c,rfl⟩:=Int.eq_ofNat_of_zero_le h4.1;obtain⟨i,rfl,hi,hlv⟩:=ko h2;obtain⟨ha,hal,hsl⟩:=od h1 hi hlv;simp only[List.drop_zero,List.take_length];refine aB (cas:=[aM true true true true true m]) [.lend] rfl (by show some [DV.agg [DC.ro true 1 (List.take _ (List.drop 0 _)),DC.ro true 1 (List.take _ (List.drop 0 _)),DC.ro true 1 (List.take _ (List.drop 0 _)),DC.ro true 1 (List.take _ (List.drop 0 _)),DC.ro true 3 (List.take _ (List.drop 0 _)),_]]=_;simp only[List.drop_zero,List.take_length];rfl) rfl (qg true true true true true m h) rfl ?_;conv=>whnf
 refine aB [.give,.pass,.pass,.pass] rfl rfl rfl (by simpa [oM,dI]using aA6 m i c b (pT h1) hi (iE ha) (by omega) hsl (by omega) h) rfl ?_;conv=>whnf
 refine⟨?_,rfl⟩;simp[dt,h1,h2,h3,h5,oM,dI]
end Go.Qm
namespace Go.Qm
open Go.Cq Go.Cq.D Go.RowKit Go.Proofs
set_option maxRecDepth 10000
def tk(D:Nat×Nat)(j:Nat):List PV:=[.sc (.ptr D.1 ((D.2+j)*4+0))]
def lj(D:Nat×Nat)(kd pl:Int):Nat→List Slot→List (List PV)
 |_,[]=>[]
 |j,x::l=>(if x.kd=kd∧x.pl=pl then [tk D j]else [])++lj D kd pl (j+1) l
theorem tl{D:Nat×Nat}{kd pl:Int}:∀{l:List Slot}{j:Nat},(lj D kd pl j l).length≤l.length:=by
 intro l;induction l with
 |nil=>intro j;exact Nat.le_refl 0
 |cons x l ih=>intro j;have:=ih (j:=j+1);simp only[lj,List.length_append,List.length_cons];split<;>simp<;>omega
theorem zX{D:Nat×Nat}{kd pl:Int}{x:Slot}:∀{l:List Slot}{j:Nat},lj D kd pl j (l++[x])=lj D kd pl j l++(if x.kd=kd∧x.pl=pl then [tk D (j+l.length)]else []):=by
 intro l;induction l with
 |nil=>intro j;simp[lj]
 |cons y l ih=>intro j;simp only[List.cons_append,lj,ih,List.append_assoc,List.length_cons,show j+1+l.length=j+(l.length+1) by omega]
theorem yU{D:Nat×Nat}{kd pl:Int}{l:List Slot}{k:Nat}(h:k<l.length):lj D kd pl 0 (l.take (k+1))=lj D kd pl 0 (l.take k)++(if l[k].kd=kd∧l[k].pl=pl then [tk D k]else []):=by rw[List.take_succ_eq_append_getElem h,zX,List.length_take,Nat.min_eq_left (by omega),Nat.zero_add]
def J1(D:Nat×Nat):Nm:=fun t=>if t=0 then some (D.1,D.2,4)else none
theorem aDN{D:Nat×Nat}{n:Nat}(hn:0<n):∀g p,J1 D g=some p→g<n:=by
 intro g p h;unfold J1 at h;split at h
 ·omega
 ·simp at h
theorem bV{f:Nat→Option Nat}{H3 H:DH}{g t:Nat}{l:List Nat}{cs cs0:List DC}{db':DB}(h1:aH H3 t=some (.box cs))(h2:aH H g=some (.box cs0))(h3:cs.length=cs0.length)(h4:ee f (.box cs)=some db'):bA f H3 (g::l) t H=bA f H3 l (t+1) (cx g db' H):=tz h1 h2 h3 h4
set_option maxHeartbeats 1000000 in
theorem iQ(l:List Slot)(D:Nat×Nat)(kd pl:Int)(acc:List (List PV))(who:Int)(j:Nat)(hj:j<l.length)(ha:acc.length≤1000):jQ Try.prog (J1 D) 173 [.one (dI who),.one (dI j),.one (.sc (.ptr D.1 ((D.2+j)*4+0))),.one (.ptr 1 0 0),.one (.ptr 2 0 0),.one (.ptr 3 0 0)] [(0,.arr 4 (l.map rL) []),(1,.box [dI kd]),(2,.box [dI pl]),(3,.box [.own 1 acc])] 4
  fun x H'=>x= .tup []∧H'=[(0,.arr 4 (l.map rL) []),(1,.box [dI kd]),(2,.box [dI pl]),(3,.box [.own 1 (acc++if l[j].kd=kd∧l[j].pl=pl then [tk D j]else [])])]:=by
 refine mT hmix Try.func173 ok173 (aDN (by decide)) ?_;conv=>whnf
 refine f9 (g:=0) (i:=j) rfl rfl rfl rfl ?_;conv=>whnf
 refine bq rfl rfl rfl (aW (row:=rL l[j]) (by simp[hj]) rfl rfl rfl) rfl ?_;conv=>whnf
 refine CondP.mk (fun c1=>?_) (fun c1=>?_)<;>rw[c1]<;>(conv=>whnf)<;>repeat' first|(refine aF ?_;conv=>whnf)|(refine aD ?_;conv=>whnf)
 ·have c1:l[j].kd=kd:=by simpa using c1
  refine f9 (g:=0) (i:=j) rfl rfl rfl rfl ?_
  (conv=>whnf)<;>repeat' first|(refine aF ?_;conv=>whnf)|(refine aD ?_;conv=>whnf)
  refine bq rfl rfl rfl (aW (row:=rL l[j]) (by simp[hj]) rfl rfl rfl) rfl ?_
  (conv=>whnf)<;>repeat' first|(refine aF ?_;conv=>whnf)|(refine aD ?_;conv=>whnf)
  refine CondP.mk (fun c2=>?_) (fun c2=>?_)<;>conv=>whnf
  ·have c2:l[j].pl=pl:=by simpa using c2
   refine eZ rfl rfl rfl ?_;conv=>whnf
   refine mD [] [] 1 (sz:=1) rfl rfl rfl rfl rfl rfl rfl rfl (by omega) (by omega) ?_;conv=>whnf
   refine⟨rfl,?_⟩;rw[if_pos ⟨c1,c2⟩];simp[tk,dI,List.replicate,List.take_of_length_le]
  ·have c2:¬l[j].pl=pl:=by simpa using c2
   refine⟨rfl,?_⟩;rw[if_neg fun c=>c2 c.2];simp[dI]
 ·have c1:¬l[j].kd=kd:=by simpa using c1
  refine⟨rfl,?_⟩;rw[if_neg fun c=>c1 c.1];simp[dI]
end Go.Qm
namespace Go.Qm
open Go.Cq Go.Cq.D Go.RowKit Go.Proofs
set_option maxRecDepth 10000
def ovS(S:Nat→List Slot):List (Nat×Nat×DC):=[(0,2,.sl 2 0 (S 0).length),(1,2,.sl 3 0 (S 1).length),(2,2,.sl 4 0 (S 2).length),(3,2,.sl 5 0 (S 3).length),(4,2,.sl 6 0 (S 4).length)]
def bxO(T:Pages)(W:Pages)(hd:Int):DB:=.box [.own 1 (T.tx.map rS),.own 1 (T.rf.map rI),.own 1 (W.tx.map rS),.own 1 (W.rf.map rI),.sl 1 0 5,dI hd]
def oH(E:List (List PV))(T W:Pages)(hd:Int)(S:Nat→List Slot):DH:=[(0,bxO T W hd),(1,.arr 3 E (ovS S)),(2,.arr 4 ((S 0).map rL) []),(3,.arr 4 ((S 1).map rL) []),(4,.arr 4 ((S 2).map rL) []),(5,.arr 4 ((S 3).map rL) []),(6,.arr 4 ((S 4).map rL) [])]
def pV(Js:Nat→Nat×Nat)(S:Nat→List Slot)(kd pl:Int)(A:List (List PV)):Nat→List (List PV)
 |0=>A
 |i+1=>pV Js S kd pl A i++lj (Js i) kd pl 0 (S i)
structure NJ(J:Nm)(Js:Nat→Nat×Nat)(S:Nat→List Slot):Prop where
 lt:∀g p,J g=some p→g<7
 at5:∀i,i<5→S i≠[]→J (2+i)=some ((Js i).1,(Js i).2,4)
theorem na{Js:Nat→Nat×Nat}{S:Nat→List Slot}{kd pl:Int}(hS:∀i,(S i).length≤16):∀{i:Nat},(pV Js S kd pl [] i).length≤16*i:=by
 intro i;induction i with
 |zero=>exact Nat.le_refl 0
 |succ i ih=>have h1:=hS i;have h2:=tl (D:=Js i) (kd:=kd) (pl:=pl) (l:=S i) (j:=0);simp only[pV,List.length_append];omega
theorem uH{D:Nat×Nat}{P:Prg}{ρ:List Nat}{g:Nat}(h0:ρ[0]?=some g)(h:P.J g=some (D.1,D.2,4)):∀t p,J1 D t=some p→∃g,ρ[t]?=some g∧P.J g=some p:=by
 intro t p ht;unfold J1 at ht;split at ht
 ·rename_i e;subst e;cases ht;exact⟨g,h0,h⟩
 ·simp at ht
set_option maxHeartbeats 4000000 in
theorem aB4 (E : List (List PV)) (T W : Pages) (hd : Int) (S : Nat → List Slot) (Js : Nat → Nat × Nat) (kd pl : Int) (hE : E.length = 5) (hr : ∀ row, row ∈ E → row.length = 3) (hS : ∀ i, (S i).length ≤ 16) (hk : kd ≠ 0) (J : Nm) (nj : NJ J Js S) :
  jQ Try.prog J 172 [.one (.ptr 0 0 0), .one (.fn 173 [(7, 0, 0), (8, 0, 0), (9, 0, 0)])] (oH E T W hd S ++ [(7, .box [dI kd]), (8, .box [dI pl]), (9, .box [.own 1 []])]) 10
  fun x H' => x = .tup [] ∧ H' = oH E T W hd S ++ [(7, .box [dI kd]), (8, .box [dI pl]), (9, .box [.own 1 (pV Js S kd pl [] 5)])] := by
 refine mT hmix Try.func172 ok172 (fun g p h => by have := nj.lt g p h; omega) ?_; have hi3 : ∀ i, i < 5 → ∃ row, E[i]? = some row ∧ 2 < row.length := fun i hi => ⟨E[i]'(by omega), List.getElem?_eq_getElem (by omega), by rw [hr _ (List.getElem_mem _)]; omega⟩
 conv => whnf
 refine aa (fun i : Nat => [(0, .v (.one (.ptr 0 0 0))), (1, .v (.one (.fn 173 [(7, 0, 0), (8, 0, 0), (9, 0, 0)]))), (11, .v (.one (dI 5))), (12, .v (.one (dI i)))]) (fun i => oH E T W hd S ++ [(7, .box [dI kd]), (8, .box [dI pl]), (9, .box [.own 1 (pV Js S kd pl [] i)])]) (fun _ => 10)
  (fun i => i ≤ 5) (fun i => 5 - i) 0 (by omega) rfl rfl rfl fun i hi => ?_
 conv => whnf
 refine CondP.mk (fun h => ?_) (fun h => ?_) <;> conv => whnf
 ·have hi5 : i < 5 := by
              have : (i : Int) < 5 := by simpa using h
              omega
  have ha := na (Js := Js) (kd := kd) (pl := pl) hS (i := i); have hs := hS i; obtain ⟨I, hI⟩ : ∃ I : Int, (i : Int) = I := ⟨_, rfl⟩; obtain ⟨N, hN⟩ : ∃ N, (S i).length = N := ⟨_, rfl⟩; obtain ⟨D, hD⟩ : ∃ D, Js i = D := ⟨_, rfl⟩; obtain ⟨A1, hA⟩ : ∃ A1, pV Js S kd pl [] i = A1 := ⟨_, rfl⟩; obtain ⟨F, hF⟩ : ∃ F : Nat → List (List PV), ∀ j, F j = A1 ++ lj D kd pl 0 ((S i).take j) := ⟨_, fun _ => rfl⟩; have hF0 : F 0 = A1 := by rw [hF]; simp [lj]
  have hFe : F N = pV Js S kd pl [] (i + 1) := by rw [hF, ← hN, List.take_length, pV, hD, hA]
  have hFs : ∀ j (hj : j < (S i).length), F (j + 1) = F j ++ if (S i)[j].kd = kd ∧ (S i)[j].pl = pl then [tk D j] else [] := fun j hj => by rw [hF, hF, yU hj, List.append_assoc]
  have hFl : ∀ j, (F j).length ≤ 1000 := fun j => by have := tl (D := D) (kd := kd) (pl := pl) (l := (S i).take j) (j := 0); rw [List.length_take] at this; rw [hF, List.length_append]; rw [hA] at ha; omega
  have hJ : 0 < N → (Prg.mk Try.prog J).J (2 + i) = some (D.1, D.2, 4) := fun h0 => by have := nj.at5 i hi5 (fun e => by rw [e] at hN; simp at hN; omega); rw [hD] at this; exact this
  obtain ⟨row, hrow, hrl⟩ := hi3 i hi5; obtain ⟨i1, hi1⟩ : ∃ i1, i1 = i + 1 := ⟨_, rfl⟩; have next : IntKind.wrap .i64 (I + 1) = (i1 : Int) := by rw [← hI, hi1]; exact wrap64 (by omega) (by omega)
  have hmu : 5 - i1 < 5 - i := by omega
  have hle : i1 ≤ 5 := by omega
  rw [← hi1] at hFe; rw [hI, hA]; have hc : i = 0 ∨ i = 1 ∨ i = 2 ∨ i = 3 ∨ i = 4 := by omega
  clear ha h hD hF hi hA; rcases hc with rfl | rfl | rfl | rfl | rfl
  all_goals
   refine aC rfl rfl (by show some I = _; rw [← hI]) hi5 ?_; conv => whnf
   refine bq rfl rfl rfl (bZ hrow hrl rfl) rfl ?_; conv => whnf
   refine aa (fun j : Nat => [(0, .v (.one (.ptr 0 0 0))), (1, .v (.one (.fn 173 [(7, 0, 0), (8, 0, 0), (9, 0, 0)]))), (4, .v (.one (dI I))), (11, .v (.one (dI 5))), (12, .v (.one (dI I))), (23, .v (.one (dI N))), (24, .v (.one (dI j)))]) (fun j => oH E T W hd S ++ [(7, .box [dI kd]), (8, .box [dI pl]), (9, .box [.own 1 (F j)])]) (fun _ => 10)
    (fun j => j ≤ N) (fun j => N - j) 0 (by omega) (by rw [← hN]; rfl) (by rw [hF0]; rfl) rfl fun j hjN => ?_
   conv => whnf
   refine CondP.mk (fun h1 => ?_) (fun h1 => ?_) <;> conv => whnf
   ·have hj : j < N := by
               have : (j : Int) < (N : Int) := by simpa using h1
               omega
    have hJ := hJ (by omega); rw [← hN] at hj; have nextj : IntKind.wrap .i64 ((j : Int) + 1) = ((j + 1 : Nat) : Int) := wrap64 (by omega) (by omega); refine aC rfl rfl (by show some I = _; rw [← hI]) hi5 ?_; conv => whnf
    refine bq rfl rfl rfl (bZ hrow hrl rfl) rfl ?_; conv => whnf
    refine aAu (k := j) rfl rfl rfl hj hJ ?_; conv => whnf
    refine f9 (i := j) rfl rfl hJ ?_ ?_; rfl; conv => whnf
    refine bq rfl rfl rfl (aW (aj (f := rL) (List.getElem?_eq_getElem hj)) rfl rfl rfl) rfl ?_; conv => whnf
    refine CondP.mk (fun c0 => ?_) (fun c0 => ?_) <;> conv => whnf
    ·first
      | refine gX [.pass, .pass, .pass, .pass, .pass, .pass] [2, 7, 8, 9] (J1 D) rfl rfl rfl rfl rfl rfl (iQ _ D kd pl (F j) _ j hj (hFl j)) (uH rfl hJ) rfl ((aI rfl rfl (by rfl)).trans ((bV rfl rfl (by rfl) rfl).trans ((bV rfl rfl (by rfl) rfl).trans ((bV rfl rfl (by rfl) rfl).trans rfl)))) ?_
      | refine gX [.pass, .pass, .pass, .pass, .pass, .pass] [3, 7, 8, 9] (J1 D) rfl rfl rfl rfl rfl rfl (iQ _ D kd pl (F j) _ j hj (hFl j)) (uH rfl hJ) rfl ((aI rfl rfl (by rfl)).trans ((bV rfl rfl (by rfl) rfl).trans ((bV rfl rfl (by rfl) rfl).trans ((bV rfl rfl (by rfl) rfl).trans rfl)))) ?_
      | refine gX [.pass, .pass, .pass, .pass, .pass, .pass] [4, 7, 8, 9] (J1 D) rfl rfl rfl rfl rfl rfl (iQ _ D kd pl (F j) _ j hj (hFl j)) (uH rfl hJ) rfl ((aI rfl rfl (by rfl)).trans ((bV rfl rfl (by rfl) rfl).trans ((bV rfl rfl (by rfl) rfl).trans ((bV rfl rfl (by rfl) rfl).trans rfl)))) ?_
      | refine gX [.pass, .pass, .pass, .pass, .pass, .pass] [5, 7, 8, 9] (J1 D) rfl rfl rfl rfl rfl rfl (iQ _ D kd pl (F j) _ j hj (hFl j)) (uH rfl hJ) rfl ((aI rfl rfl (by rfl)).trans ((bV rfl rfl (by rfl) rfl).trans ((bV rfl rfl (by rfl) rfl).trans ((bV rfl rfl (by rfl) rfl).trans rfl)))) ?_
      | refine gX [.pass, .pass, .pass, .pass, .pass, .pass] [6, 7, 8, 9] (J1 D) rfl rfl rfl rfl rfl rfl (iQ _ D kd pl (F j) _ j hj (hFl j)) (uH rfl hJ) rfl ((aI rfl rfl (by rfl)).trans ((bV rfl rfl (by rfl) rfl).trans ((bV rfl rfl (by rfl) rfl).trans ((bV rfl rfl (by rfl) rfl).trans rfl)))) ?_
     conv => whnf
     rw [← hFs j hj]; refine ⟨j + 1, by omega, by omega, ?_, rfl, rfl⟩; rw [nextj]; rfl
    ·have hs1 := hFs j hj; rw [if_neg (fun c => hk (by rw [← c.1]; simpa using c0)), List.append_nil] at hs1; refine ⟨j + 1, by omega, by omega, ?_, by rw [hs1]; rfl, rfl⟩; rw [nextj]; rfl
   ·have : j = N := by
              have : ¬ (j : Int) < (N : Int) := by simpa using h1
              omega
    subst this; refine ⟨i1, hmu, hle, ?_, by rw [hFe]; rfl, rfl⟩; rw [next]; rfl
 ·have : i = 5 := by
            have : ¬ (i : Int) < 5 := by simpa using h
            omega
  subst this; exact ⟨rfl, rfl⟩
end Go.Qm
namespace Go.Qm
open Go.Cq Go.Cq.D Go.RowKit Go.Proofs
set_option maxRecDepth 10000
theorem gV{f:Nat→Option Nat}{H3 H:DH}{g t sz:Nat}{l:List Nat}{es es0:List (List PV)}{ov ov0:List (Nat×Nat×DC)}{db':DB}(h1:aH H3 t=some (.arr sz es ov))(h2:aH H g=some (.arr sz es0 ov0))(h3:es.length=es0.length)(h4:ee f (.arr sz es ov)=some db'):bA f H3 (g::l) t H=bA f H3 l (t+1) (cx g db' H):=tz h1 h2 ⟨rfl,h3⟩ h4
theorem NJ.of{J:Nm}{Js:Nat→Nat×Nat}{S:Nat→List Slot}(nj:NJ J Js S){P:Program}{ρ:List Nat}(h:∀t,t<7→ρ[t]?=some t):∀t p,J t=some p→∃g,ρ[t]?=some g∧(Prg.mk P J).J g=some p:=fun t p ht=>⟨t,h t (nj.lt t p ht),ht⟩
theorem lt7{p:Nat→Prop}(h:p 0∧p 1∧p 2∧p 3∧p 4∧p 5∧p 6):∀t,t<7→p t:=by
 intro t ht;have:t=0∨t=1∨t=2∨t=3∨t=4∨t=5∨t=6:=by omega
 rcases this with rfl|rfl|rfl|rfl|rfl|rfl|rfl
 ·exact h.1
 ·exact h.2.1
 ·exact h.2.2.1
 ·exact h.2.2.2.1
 ·exact h.2.2.2.2.1
 ·exact h.2.2.2.2.2.1
 ·exact h.2.2.2.2.2.2
set_option maxHeartbeats 2000000 in
theorem aCM(E:List (List PV))(T W:Pages)(hd:Int)(S:Nat→List Slot)(Js:Nat→Nat×Nat)(kd pl:Int)(hE:E.length=5)(hr:∀row,row∈E→row.length=3)(hS:∀i,(S i).length≤16)(hk:kd≠0)(J:Nm)(nj:NJ J Js S):
  jQ Try.prog J 145 [.one (.ptr 0 0 0),.one (dI kd),.one (dI pl)] (oH E T W hd S) 7
  fun x H'=>x= .v (.one (.own 1 (pV Js S kd pl [] 5)))∧H'=oH E T W hd S:=by
 refine mT hmix Try.func145 ok145 nj.lt ?_;conv=>whnf
 refine eZ rfl rfl rfl ?_;conv=>whnf
 refine aAU rfl rfl ?_;conv=>whnf
 refine iZ [] [.pass,.pass] [0,1,2,3,4,5,6,7,8,10] J rfl rfl rfl rfl rfl (aB4 E T W hd S Js kd pl hE hr hS hk J nj) (nj.of (lt7 ⟨rfl,rfl,rfl,rfl,rfl,rfl,rfl⟩)) rfl
  ((bV rfl rfl (by rfl) rfl).trans ((gV rfl rfl (by rfl) rfl).trans ((aI rfl rfl (by rfl)).trans ((aI rfl rfl (by rfl)).trans ((aI rfl rfl (by rfl)).trans ((aI rfl rfl (by rfl)).trans ((aI rfl rfl (by rfl)).trans ((bV rfl rfl (by rfl) rfl).trans ((bV rfl rfl (by rfl) rfl).trans ((bV rfl rfl (by rfl) rfl).trans rfl)))))))))) ?_
 conv=>whnf
 refine⟨?_,rfl⟩;simp
end Go.Qm
namespace Go.Qm
open Go.Cq Go.Cq.D Go.RowKit Go.Proofs
set_option maxRecDepth 10000
def kY(kd pl:Int):Nat→List Slot→List Nat
 |_,[]=>[]
 |j,x::l=>(if x.kd=kd∧x.pl=pl then [j]else [])++kY kd pl (j+1) l
theorem aB3{D:Nat×Nat}{kd pl:Int}:∀{l:List Slot}{j:Nat},lj D kd pl j l=(kY kd pl j l).map (tk D):=by
 intro l;induction l with
 |nil=>intro j;rfl
 |cons x l ih=>intro j;simp only[lj,kY,List.map_append,ih];split<;>rfl
theorem yI{kd pl:Int}{k:Nat}:∀{l:List Slot}{j:Nat},k∈kY kd pl j l↔j≤k∧∃x,l[k-j]?=some x∧x.kd=kd∧x.pl=pl:=by
 intro l;induction l with
 |nil=>intro j;simp[kY]
 |cons x l ih=>
  intro j;simp only[kY,List.mem_append,ih];constructor
  ·rintro(h| ⟨h1,y,h2,h3⟩)
   ·split at h
    ·rename_i c;simp only[List.mem_singleton]at h;subst h;exact⟨Nat.le_refl _,x,by simp,c⟩
    ·simp at h
   ·refine⟨by omega,y,?_,h3⟩;rw[show k-j=(k-(j+1))+1 by omega,List.getElem?_cons_succ];exact h2
  ·rintro⟨h1,y,h2,h3⟩;by_cases c:k=j
   ·subst c;simp only[Nat.sub_self,List.getElem?_cons_zero,Option.some.injEq]at h2;subst h2;rw[if_pos h3];exact .inl (by simp)
   ·rw[show k-j=(k-(j+1))+1 by omega,List.getElem?_cons_succ]at h2;exact .inr ⟨by omega,y,h2,h3⟩
def jV(S:Nat→List Slot)(kd pl:Int):Nat→List (Nat×Nat)
 |0=>[]
 |i+1=>jV S kd pl i++(kY kd pl 0 (S i)).map fun j=>(i,j)
def tkP(Js:Nat→Nat×Nat)(p:Nat×Nat):List PV:=tk (Js p.1) p.2
theorem nR{Js:Nat→Nat×Nat}{S:Nat→List Slot}{kd pl:Int}:∀{n:Nat},pV Js S kd pl [] n=(jV S kd pl n).map (tkP Js):=by
 intro n;induction n with
 |zero=>rfl
 |succ n ih=>simp only[pV,jV,ih,aB3,List.map_append,List.map_map];rfl
theorem mA{S:Nat→List Slot}{kd pl:Int}{i j:Nat}:∀{n:Nat},(i,j)∈jV S kd pl n↔i<n∧∃x,(S i)[j]?=some x∧x.kd=kd∧x.pl=pl:=by
 intro n;induction n with
 |zero=>simp[jV]
 |succ n ih=>
  simp only[jV,List.mem_append,ih,List.mem_map,Prod.mk.injEq,yI];constructor
  ·rintro(⟨h1,h2⟩| ⟨k,⟨-,h2⟩,h3,h4⟩)
   ·exact⟨by omega,h2⟩
   ·subst h3 h4;exact⟨by omega,h2⟩
  ·rintro⟨h1,h2⟩;by_cases c:i=n
   ·subst c;exact .inr ⟨j,⟨Nat.zero_le _,h2⟩,rfl,rfl⟩
   ·exact .inl ⟨by omega,h2⟩
def ea(f:Slot→Slot)(S:Nat→List Slot)(L:List (Nat×Nat)):Nat→List Slot:=fun t=>(S t).mapIdx fun j x=>if(t,j)∈L then f x else x
def rK(S:Nat→List Slot)(i j:Nat)(y:Slot):Nat→List Slot:=fun t=>if t=i then(S t).set j y else S t
theorem ob{f:Slot→Slot}{S:Nat→List Slot}:ea f S []=S:=by
 funext t;refine List.ext_getElem? fun k=>?_
 simp only[ea,List.getElem?_mapIdx,List.not_mem_nil,if_false];cases (S t)[k]?<;>rfl
theorem ij{f:Slot→Slot}{S:Nat→List Slot}{L:List (Nat×Nat)}{i j:Nat}{x:Slot}(h:(S i)[j]?=some x):(ea f S L i)[j]?=some (if(i,j)∈L then f x else x):=by simp only[ea,List.getElem?_mapIdx,h,Option.map_some]
theorem sL{f:Slot→Slot}{S:Nat→List Slot}{L:List (Nat×Nat)}{t:Nat}:(ea f S L t).length=(S t).length:=by simp[ea]
theorem mZ{f:Slot→Slot}{S:Nat→List Slot}{L:List (Nat×Nat)}{q i j:Nat}{x:Slot}(hq:q<L.length)(he:L[q]=(i,j))(hx:(S i)[j]?=some x):ea f S (L.take (q+1))=rK (ea f S (L.take q)) i j (f x):=by
 funext t;rw[List.take_succ_eq_append_getElem hq,he];refine List.ext_getElem? fun k=>?_
 simp only[ea,rK,List.mem_append,List.mem_singleton,Prod.mk.injEq,List.getElem?_mapIdx];by_cases c:t=i
 ·subst c;rw[if_pos rfl,List.getElem?_set];by_cases c2:j=k
  ·subst c2;obtain⟨hj,hx'⟩:=List.getElem?_eq_some_iff.1 hx;simp[hj,hx']
  ·have c3:¬k=j:=fun e=>c2 e.symm
   simp[c2,c3,List.getElem?_mapIdx]
 ·simp[c,List.getElem?_mapIdx]
theorem aAB{f:Slot→Slot}{S:Nat→List Slot}{kd pl:Int}(h0:∀t,5≤t→S t=[]):ea f S (jV S kd pl 5)=fun t=>(S t).map fun x=>if x.kd=kd∧x.pl=pl then f x else x:=by
 funext t;refine List.ext_getElem? fun k=>?_
 simp only[ea,List.getElem?_mapIdx,List.getElem?_map,mA];cases e:(S t)[k]? with
 |none=>rfl
 |some x=>
  have ht:t<5:=by
   rcases Nat.lt_or_ge t 5 with c|c
   ·exact c
   ·rw[h0 t c]at e;simp at e
  simp only[Option.map_some,Option.some.injEq];by_cases c:x.kd=kd∧x.pl=pl
  ·rw[if_pos ⟨ht,x,rfl,c⟩,if_pos c]
  ·rw[if_neg c,if_neg (by rintro⟨-,y,h2,h3⟩;rw[Option.some.injEq]at h2;subst h2;exact c h3)]
def qY(S:Nat→List Slot)(L:List (Nat×Nat)):Bool:=L.any fun p=>((S p.1)[p.2]?.map (·.us)).getD false
theorem vT{S:Nat→List Slot}{L:List (Nat×Nat)}{q i j:Nat}{x:Slot}(hq:q<L.length)(he:L[q]=(i,j))(hx:(S i)[j]?=some x):qY S (L.take (q+1))=(qY S (L.take q)||(if(i,j)∈L.take q then ed x else x).us):=by
 rw[List.take_succ_eq_append_getElem hq,he];simp only[qY,List.any_append,List.any_cons,List.any_nil,Bool.or_false,hx,Option.map_some,Option.getD_some];by_cases c:(i,j)∈L.take q
 ·rw[if_pos c];show _=(_||false);rw[Bool.or_false];cases hu:x.us with
  |false=>rw[Bool.or_false]
  |true=>have:(L.take q).any (fun p=>((S p.1)[p.2]?.map (·.us)).getD false)=true:=List.any_eq_true.2 ⟨(i,j),c,by simp[hx,hu]⟩;rw[this];rfl
 ·rw[if_neg c]
def spS(sp:List Space):Nat→List Slot:=fun t=>(sp[t]?.map (·.sl)).getD []
theorem iN{sp:List Space}{i:Nat}(h:i<sp.length):spS sp i=sp[i].sl:=by simp[spS,h]
theorem n9{sp:List Space}{i:Nat}(h:sp.length≤i):spS sp i=[]:=by simp[spS,h]
theorem sK{kd pl:Int}{f:Slot→Slot}{sp:List Space}:spS (az kd pl f sp)=fun t=>(spS sp t).map fun x=>if x.kd=kd∧x.pl=pl then f x else x:=by funext t;simp only[spS,az,List.getElem?_map];cases sp[t]?<;>rfl
theorem nr{kd pl:Int}{f:Slot→Slot}{sp:List Space}(h:sp.length=5):ea f (spS sp) (jV (spS sp) kd pl 5)=spS (az kd pl f sp):=by rw[sK,aAB fun t ht=>n9 (by omega)]
theorem aAq{kd pl:Int}{sp:List Space}(h:sp.length=5):qY (spS sp) (jV (spS sp) kd pl 5)=dK kd pl sp:=by
 rw[Bool.eq_iff_iff];simp only[qY,dK,List.any_eq_true,Bool.and_eq_true,decide_eq_true_eq];constructor
 ·rintro⟨⟨i,j⟩,h1,h2⟩;obtain⟨hi,x,hx,hk⟩:=mA.1 h1;have hi':i<sp.length:=by omega
  simp only[hx,Option.map_some,Option.getD_some]at h2;rw[iN hi']at hx;exact⟨sp[i],List.getElem_mem hi',x,List.mem_of_getElem? hx,hk,h2⟩
 ·rintro⟨s,hs,x,hx,hk,hu⟩;obtain⟨i,hi,rfl⟩:=List.getElem_of_mem hs;obtain⟨j,hj,rfl⟩:=List.getElem_of_mem hx;have e:(spS sp i)[j]?=some sp[i].sl[j]:=by rw[iN hi,List.getElem?_eq_getElem hj]
  exact⟨(i,j),mA.2 ⟨by omega,_,e,hk⟩,by simp only[e,Option.map_some,Option.getD_some];exact hu⟩
theorem we{sp:List Space}{i j:Nat}{y:Slot}:spS (aQ sp i j y)=rK (spS sp) i j y:=by
 funext t;simp only[spS,aQ,rK,List.getElem?_modify];by_cases c:t=i
 ·subst c;simp only[if_true];cases sp[t]?<;>rfl
 ·have c':¬i=t:=fun e=>c e.symm
  simp only[c,c',if_false];cases sp[t]?<;>rfl
theorem aBq{S:Nat→List Slot}{i j:Nat}{y:Slot}:ovS (rK S i j y)=ovS S:=by
 have:∀t,(rK S i j y t).length=(S t).length:=fun t=>by unfold rK;split<;>simp
 simp only[ovS,this]
theorem pJ{E:List (List PV)}{T W:Pages}{hd:Int}{S:Nat→List Slot}{i j:Nat}{y:Slot}(hi:i<5):cx (2+i) (.arr 4 (((S i).set j y).map rL) []) (oH E T W hd S)=oH E T W hd (rK S i j y):=by
 have hc:i=0∨i=1∨i=2∨i=3∨i=4:=by omega
 unfold oH;rw[aBq];rcases hc with rfl|rfl|rfl|rfl|rfl<;>rfl
end Go.Qm
namespace Go.Qm
open Go.Cq Go.Cq.D Go.RowKit Go.Proofs
set_option maxRecDepth 10000
def jr(l:List Int):Int:=if aN l<l.length then(aN l:Int)else-1
theorem rq(b1 b2:Bool)(p:Pages)(hl:p.rf.length≤1048576):af Try.prog 150 [.agg [.ro b1 1 (p.tx.map rS),.ro b2 1 (p.rf.map rI)]] (.v (.one (dI (jr p.rf)))):=by
 refine aK hmix Try.func150 ok150 ?_;conv=>whnf
 refine aa (fun i:Nat=>[(6,.v (.one (.ro b2 1 (p.rf.map rI)))),(7,.v (.one (dI p.rf.length))),(8,.v (.one (dI i)))]) (fun _=>[]) (fun _=>0)
  (fun i=>i≤p.rf.length∧i≤aN p.rf) (fun i=>p.rf.length-i) 0 (by omega) (by simp[dI]) rfl rfl fun i hi=>?_
 conv=>whnf
 refine CondP.mk (fun h=>?_) (fun h=>?_)<;>conv=>whnf
 ·have hlt:i<p.rf.length:=by simpa using h
  refine aJ (k:=i) rfl rfl (by simpa using hlt) ?_;conv=>whnf
  refine aE rfl (r:=.one (dI p.rf[i])) (by simp[aZ,rI,hlt,eI,dI]) ?_;conv=>whnf
  refine CondP.mk (fun h1=>?_) (fun h1=>?_)<;>conv=>whnf
  ·have h1:p.rf[i]=0:=by simpa using h1
   have e:aN p.rf=i:=by have:=pE hlt h1;omega
   refine⟨?_,rfl⟩;rw[jr,e,if_pos hlt];rfl
  ·have h1:¬p.rf[i]=0:=by simpa using h1
   refine⟨i+1,by omega,⟨by omega,?_⟩,?_,rfl,rfl⟩
   ·rcases Nat.lt_or_ge i (aN p.rf)with c|c
    ·omega
    ·have e:aN p.rf=i:=by omega
     have:=oS (l:=p.rf) (by omega);simp only[e]at this;exact absurd this h1
   ·rw[up hlt (by omega)];rfl
 ·have:¬i<p.rf.length:=by simpa using h
  refine⟨?_,rfl⟩;rw[jr,if_neg (by omega)];rfl
end Go.Qm
namespace Go.Qm
open Go.Cq Go.Cq.D Go.RowKit Go.Proofs
set_option maxRecDepth 10000
theorem NJ.same{J:Nm}{Js:Nat→Nat×Nat}{S S':Nat→List Slot}(h:NJ J Js S)(hl:∀t,(S' t).length=(S t).length):NJ J Js S':=⟨h.lt,fun i hi hne=>h.at5 i hi fun e=>hne (List.eq_nil_of_length_eq_zero (by rw[hl,e];rfl))⟩
def oHm(E:List (List PV))(m:Mem):DH:=oH E m.ram m.swp m.hd (spS m.sp)
theorem aCN{J:Nm}{E:List (List PV)}{m:Mem}(h1:∀g p,J g=some p→g<7)(h2:∀g sz es ov,aH (oHm E m) g=some (.arr sz es ov)→es≠[]→∃id base,J g=some (id,base,sz)):∃Js,NJ J Js (spS m.sp):=by
 have:∀i,∃D:Nat×Nat,i<5→spS m.sp i≠[]→J (2+i)=some (D.1,D.2,4):=fun i=>by
  by_cases c:i<5∧spS m.sp i≠[]
  ·have hg:aH (oHm E m) (2+i)=some (.arr 4 ((spS m.sp i).map rL) []):=by
    have hc:i=0∨i=1∨i=2∨i=3∨i=4:=by omega
    rcases hc with rfl|rfl|rfl|rfl|rfl<;>rfl
   obtain⟨id,base,e⟩:=h2 _ _ _ _ hg (by simpa using c.2);exact⟨(id,base),fun _ _=>e⟩
  ·exact⟨(0,0),fun a b=>absurd ⟨a,b⟩ c⟩
 obtain⟨Js,hJ⟩:=Classical.axiomOfChoice this;exact⟨Js,h1,hJ⟩
theorem xw{kd pl:Int}{g:Slot→Slot}(hg:∀x,(g x).kd=x.kd∧(g x).pl=x.pl):∀{l:List Slot}{j:Nat},kY kd pl j (l.map g)=kY kd pl j l:=by
 intro l;induction l with
 |nil=>intro j;rfl
 |cons x l ih=>intro j;simp only[List.map_cons,kY,ih,(hg x).1,(hg x).2]
theorem aAm{S:Nat→List Slot}{kd pl:Int}{g:Slot→Slot}(hg:∀x,(g x).kd=x.kd∧(g x).pl=x.pl):∀{n:Nat},jV (fun t=>(S t).map g) kd pl n=jV S kd pl n:=by
 intro n;induction n with
 |zero=>rfl
 |succ n ih=>simp only[jV,ih,xw hg]
theorem xg{m:Mem}{kd pl p:Int}{n:Nat}:jV (spS (d8 m p).sp) kd pl n=jV (spS m.sp) kd pl n:=by simp only[d8,sK];exact aAm fun x=>by split<;>exact⟨rfl,rfl⟩
theorem aAL{J:Nm}{Js:Nat→Nat×Nat}{S:Nat→List Slot}{L:List (Nat×Nat)}{kd pl:Int}{P:Program}(nj:NJ J Js S)(hL:jV S kd pl 5=L)(q:Nat)(hq:q<L.length):∃i j x,L[q]=(i,j)∧i<5∧(S i)[j]?=some x∧(Prg.mk P J).J (2+i)=some ((Js i).1,(Js i).2,4):=by
 have hm:=List.getElem_mem hq;cases hp:L[q]with
 |mk i j=>rw[hp,←hL,mA]at hm;obtain⟨h1,x,h2, -⟩:=hm;exact⟨i,j,x,rfl,h1,h2,nj.at5 i h1 fun e=>by rw[e]at h2;simp at h2⟩
theorem eC{α β:Type}{f:α→β}{l:List α}(h:l.length=12):(l.map f).take 12=l.map f:=List.take_of_length_le (by simp[h])
def gj(m:Mem)(but:Int):Int:=match bR m but with
 |some m'=>aN m'.ram.rf
 |none=> -1
set_option maxHeartbeats 4000000 in
theorem rm(E:List (List PV))(m:Mem)(but:Int)(w:Wf m)(hE:E.length=5)(hr:∀row,row∈E→row.length=3):
  c6 Try.prog 92 [.one (.ptr 0 0 0),.one (dI but)] (oHm E m) 7
  fun x H'=>x= .tup [.one (dI (gj m but)),.one (dB (bR m but).isSome)]∧H'=oHm E ((bR m but).getD m):=by
 refine qZ hmix Try.func92 ok92 fun J hJ1 hJ2=>?_
 obtain⟨Js,nj⟩:=aCN hJ1 hJ2;clear hJ1 hJ2;have l:=w.L;conv=>whnf
 refine aB (cas:=[.agg [.ro true 1 (m.ram.tx.map rS),.ro true 1 (m.ram.rf.map rI)]]) [.lend] rfl (by show some [DV.agg [DC.ro true 1 (List.take _ (List.drop 0 _)),DC.ro true 1 (List.take _ (List.drop 0 _))]]=_;simp only[List.drop_zero,List.take_length]) rfl (rq true true m.ram (by rw[l.rr];omega)) rfl ?_;conv=>whnf
 have hfi:∀p:Pages,decide (0≤jr p.rf)=decide (aN p.rf<p.rf.length):=fun p=>by
  unfold jr;split
  ·rename_i c;rw[decide_eq_true c,decide_eq_true (by omega)]
  ·rename_i c;rw[decide_eq_false c,decide_eq_false (by omega)]
 simp only[List.drop_zero,List.take_length];refine CondP.mk (fun h=>?_) (fun h=>?_)<;>conv=>whnf
 ·have h:aN m.ram.rf<m.ram.rf.length:=by rw[hfi]at h;simpa using h
  have e:bR m but=some m:=by rw[bR,if_pos h]
  rw[gj,e,jr,if_pos h];exact⟨rfl,rfl⟩
 have h:¬aN m.ram.rf<m.ram.rf.length:=by rw[hfi]at h;simpa using h
 refine aB (cas:=[.agg [.ro true 1 (m.swp.tx.map rS),.ro true 1 (m.swp.rf.map rI)]]) [.lend] rfl (by show some [DV.agg [DC.ro true 1 (List.take _ (List.drop 0 _)),DC.ro true 1 (List.take _ (List.drop 0 _))]]=_;simp only[List.drop_zero,List.take_length]) rfl (rq true true m.swp (by rw[l.sr];omega)) rfl ?_;conv=>whnf
 have hfl:∀p:Pages,decide (jr p.rf<0)= !decide (aN p.rf<p.rf.length):=fun p=>by
  unfold jr;split
  ·rename_i c;rw[decide_eq_true c,decide_eq_false (by omega)];rfl
  ·rename_i c;rw[decide_eq_false c,decide_eq_true (by omega)];rfl
 simp only[List.drop_zero,List.take_length];refine CondP.mk (fun h2=>?_) (fun h2=>?_)<;>conv=>whnf
 ·have h2:¬aN m.swp.rf<m.swp.rf.length:=by rw[hfl]at h2;simpa using h2
  have e:bR m but=none:=by rw[bR,if_neg h,if_neg h2]
  rw[gj,e];exact⟨rfl,rfl⟩
 have h2:aN m.swp.rf<m.swp.rf.length:=by rw[hfl]at h2;simpa using h2
 have e:bR m but=some (eR m but):=by rw[bR,if_neg h,if_pos h2]
 rw[gj,e,jr,if_pos h2];simp only[Option.getD_some,Option.isSome_some];rw[w.swp.rf]at h2;obtain⟨F,hF⟩:∃F,aN m.swp.rf=F:=⟨_,rfl⟩;rw[hF]at h2 ⊢;refine aa (fun s:Mem×DTs=>(0,.v (.one (.ptr 0 0 0)))::(1,.v (.one (dI but)))::(7,.v (.one (dI F)))::s.2) (fun s=>oHm E s.1) (fun _=>7)
  (fun s=>Wf s.1∧aN s.1.swp.rf=F∧eR s.1 but=eR m but∧∀t,(spS s.1.sp t).length=(spS m.sp t).length) (fun s=>mu s.1 but) (m,_) ⟨w,hF,rfl,fun _=>rfl⟩ rfl rfl rfl fun s hs=>?_
 clear l w h e hF;obtain⟨s,rest⟩:=s;obtain⟨ws,hf,hr2,hlS⟩:=hs;simp only at ws hf hr2 hlS;obtain⟨a,ha⟩:=Int.eq_ofNat_of_zero_le ws.hd.1;have ha12:a<12:=by have:=ws.hd;omega
 conv=>whnf
 refine dm rfl ?_;conv=>whnf
 simp only[qf ws.hd];refine CondP.mk (fun h3=>?_) (fun h3=>?_)<;>conv=>whnf
 ·have h3:s.hd=but:=by simpa using h3
  have hc:clk s but= .inl (dH s):=by rw[clk,if_pos h3]
  exact⟨(dH s,_),kH hc,⟨ws.hand,hf,by rw[←hr2,jH hc],hlS⟩,rfl,rfl,rfl⟩
 have h3:¬s.hd=but:=by simpa using h3
 have nj1:=nj.same hlS;have hS16:∀i,(spS s.sp i).length≤16:=fun i=>by
  rcases Nat.lt_or_ge i s.sp.length with c|c
  ·rw[iN c];exact ws.sl _ (List.getElem_mem c)
  ·rw[n9 c];exact Nat.zero_le _
 refine iZ [] [.pass,.pass,.pass] [0,1,2,3,4,5,6] J rfl rfl rfl rfl rfl (aCM E s.ram s.swp ((s.hd+1) % 12) (spS s.sp) Js 1 s.hd hE hr hS16 (by decide) J nj1) (nj1.of (lt7 ⟨rfl,rfl,rfl,rfl,rfl,rfl,rfl⟩)) rfl
  ((bV rfl rfl (by rfl) rfl).trans ((gV rfl rfl (by rfl) rfl).trans ((aI rfl rfl (by rfl)).trans ((aI rfl rfl (by rfl)).trans ((aI rfl rfl (by rfl)).trans ((aI rfl rfl (by rfl)).trans ((aI rfl rfl (by rfl)).trans rfl))))))) ?_
 conv=>whnf
 simp only[List.drop_zero,List.take_length,nR];obtain⟨S,hSe⟩:∃S,spS s.sp=S:=⟨_,rfl⟩;rw[hSe]at nj1 hS16;simp only[hSe];obtain⟨L,hL⟩:∃L,jV S 1 s.hd 5=L:=⟨_,rfl⟩;simp only[hL,List.length_map];obtain⟨N,hN⟩:∃N,L.length=N:=⟨_,rfl⟩;simp only[hN];have hN80:N≤1000:=by have:=na (Js:=Js) (kd:=1) (pl:=s.hd) hS16 (i:=5);rw[nR,hL,List.length_map,hN]at this;omega
 refine aa (fun z:Nat×Bool=>[(0,.v (.one (.ptr 0 0 0))),(1,.v (.one (dI but))),(7,.v (.one (dI F))),(8,.v (.one (dI s.hd))),(9,.v (.one (.sl 7 0 N))),(10,.v (.one (dB z.2))),(49,.v (.one (.sl 7 0 N))),(50,.v (.one (dI N))),(51,.v (.one (dI z.1)))])
  (fun z=>(7,.arr 1 (L.map (tkP Js)) [])::oH E s.ram s.swp ((s.hd+1) % 12) (ea ed S (L.take z.1))) (fun _=>8)
  (fun z=>z.1≤N∧z.2=qY S (L.take z.1)) (fun z=>N-z.1) (0,false) ⟨Nat.zero_le _,rfl⟩ rfl (by rw[List.take_zero,ob];rfl) rfl fun z hz=>?_
 obtain⟨q,u⟩:=z;obtain⟨hqN,hu⟩:=hz;simp only at hqN hu;conv=>whnf
 refine CondP.mk (fun h4=>?_) (fun h4=>?_)<;>conv=>whnf
 ·have hq:q<L.length:=by
                 have:(q:Int)< (N:Int):=by simpa using h4
                 omega
  obtain⟨i,j,x,he,hi5,hx,hJ⟩:=aAL (P:=Try.prog) nj1 hL q hq;have hrow:(L.map (tkP Js))[q]?=some (tk (Js i) j):=by simp[hq,he,tkP]
  have hst:cx (2+i) (.arr 4 (((ea ed S (L.take q) i).map rL).modify j (fun row=>row.set 3 (.sc (.bool false)))) []) (oH E s.ram s.swp ((s.hd+1) % 12) (ea ed S (L.take q)))=oH E s.ram s.swp ((s.hd+1) % 12) (ea ed S (L.take (q+1))):=by rw[mZ hq he hx,←pJ hi5,aV (aj (f:=rL) (ij hx)),←map_set];split<;>rfl
  have hx':=ij (f:=ed) (L:=L.take q) hx;have hu':=vT hq he hx;rw[←hu]at hu';obtain⟨S',hS'⟩:∃S',ea ed S (L.take q)=S':=⟨_,rfl⟩;obtain⟨x',hxe⟩:∃x',(if(i,j)∈L.take q then ed x else x)=x':=⟨_,rfl⟩;rw[hS']at hst hx';rw[hxe]at hx' hu';simp only[hS'];obtain⟨D,hD⟩:∃D,Js i=D:=⟨_,rfl⟩;rw[hD]at hrow hJ;have hjl:j< (S' i).length:=(List.getElem?_eq_some_iff.1 hx').1;have nextq:IntKind.wrap .i64 ((q:Int)+1)=((q+1:Nat):Int):=wrap64 (by omega) (by omega);refine aC (k:=q) rfl rfl rfl (by omega) ?_;conv=>whnf
  refine bq rfl rfl rfl (aW hrow rfl rfl rfl) rfl ?_;conv=>whnf
  have hc:i=0∨i=1∨i=2∨i=3∨i=4:=by omega
  clear hx hD he hxe hS' hi5;cases u
  ·(conv=>whnf)<;>repeat' first|(refine aF ?_;conv=>whnf)|(refine aD ?_;conv=>whnf)
   rcases hc with rfl|rfl|rfl|rfl|rfl
   all_goals
    refine f9 (i:=j) rfl rfl hJ rfl ?_
    (conv=>whnf)<;>repeat' first|(refine aF ?_;conv=>whnf)|(refine aD ?_;conv=>whnf)
    refine bq rfl rfl rfl (aW (aj (f:=rL) hx') rfl rfl rfl) rfl ?_;conv=>whnf
    refine f9 (i:=j) rfl rfl hJ rfl ?_;conv=>whnf
    refine aG rfl rfl rfl (by simpa using hjl) (by decide) ?_;conv=>whnf
    refine⟨(q+1,x'.us),by show N-(q+1)<N-q;omega,⟨by show q+1≤N;omega,by rw[hu'];rfl⟩,?_,by rw[←hst];rfl,rfl⟩;rw[nextq];rfl
  ·(conv=>whnf)<;>repeat' first|(refine aF ?_;conv=>whnf)|(refine aD ?_;conv=>whnf)
   rcases hc with rfl|rfl|rfl|rfl|rfl
   all_goals
    refine f9 (i:=j) rfl rfl hJ rfl ?_;conv=>whnf
    refine aG rfl rfl rfl (by simpa using hjl) (by decide) ?_;conv=>whnf
    refine⟨(q+1,true),by show N-(q+1)<N-q;omega,⟨by show q+1≤N;omega,by rw[hu'];rfl⟩,?_,by rw[←hst];rfl,rfl⟩;rw[nextq];rfl
 have hqe:q=N:=by
             have:¬(q:Int)< (N:Int):=by simpa using h4
             omega
 subst hqe;have w2:=ws.hand.calm s.hd;have l2:=w2.L;have hSc:ea ed S (L.take q)=spS (d8 (dH s) s.hd).sp:=by rw[List.take_of_length_le (by omega),←hL,←hSe];exact nr ws.sp
 have huc:u=dK 1 s.hd s.sp:=by rw[hu,List.take_of_length_le (by omega),←hL,←hSe];exact aAq ws.sp
 simp only[hSc];refine CondP.mk (fun h5=>?_) (fun h5=>?_)<;>conv=>whnf
 ·have hc:clk s but= .inl (d8 (dH s) s.hd):=by rw[clk,if_neg h3,if_pos (huc.symm.trans h5)]
  refine⟨(d8 (dH s) s.hd,_),kH hc,⟨w2,hf,by rw[←hr2,jH hc],fun t=>?_⟩,rfl,rfl,rfl⟩;show(spS (d8 (dH s) s.hd).sp t).length=_;rw[←hSc,sL,←hlS,hSe]
 have hc:clk s but= .inr (eM (d8 (dH s) s.hd) s.hd.toNat):=by rw[clk,if_neg h3,if_neg (by rw[←huc];exact fun c=>by rw[h5]at c;exact absurd c (by decide))]
 rw[←hr2,la hc];have wev:=(w2.aCT ha12 (by show aN s.swp.rf<12;omega));have hto:s.hd.toNat=a:=by omega
 rw[hto];have e1:s.ram=(d8 (dH s) s.hd).ram:=rfl;have e2:s.swp=(d8 (dH s) s.hd).swp:=rfl;have e3:(s.hd+1) % 12=(d8 (dH s) s.hd).hd:=rfl;have hlS2:∀t,(spS (d8 (dH s) s.hd).sp t).length=(spS m.sp t).length:=fun t=>by rw[←hSc,sL,←hlS,hSe]
 rw[e2]at hf;have hL2:jV (spS (d8 (dH s) s.hd).sp) 1 a 5=L:=by rw[xg,←ha,←hL,←hSe];rfl
 simp only[e1,e2,ha];rw[←ha];generalize hs2:d8 (dH s) s.hd=s2 at*;have hq:(List.take q (List.drop 0 (List.map (tkP Js) L)))=L.map (tkP Js):=by rw[List.drop_zero,List.take_of_length_le (by simp;omega)]
 simp only[hq,ha,List.length_map,l2.rt,l2.st,l2.sr];refine aC (k:=a) rfl rfl rfl ha12 ?_;conv=>whnf
 obtain⟨tx,htx⟩:∃tx,s2.ram.tx[a]?=some tx:=⟨_,List.getElem?_eq_getElem (by rw[l2.rt];exact ha12)⟩;obtain⟨rf,hrf⟩:∃rf,s2.ram.rf[a]?=some rf:=⟨_,List.getElem?_eq_getElem (by rw[l2.rr];exact ha12)⟩;refine bq rfl rfl rfl (aW (aj (f:=rS) htx) rfl rfl rfl) rfl ?_;conv=>whnf
 simp only[List.length_map,l2.rr];refine aC (k:=a) rfl rfl rfl ha12 ?_;conv=>whnf
 refine bq rfl rfl rfl (aW (aj (f:=rI) hrf) rfl rfl rfl) rfl ?_;conv=>whnf
 refine aC (k:=F) rfl rfl rfl h2 ?_;conv=>whnf
 refine aG rfl rfl rfl (by simpa [l2.st]using h2) (by decide) ?_;conv=>whnf
 refine aC (k:=F) rfl rfl rfl h2 ?_;conv=>whnf
 refine aG rfl rfl rfl (by simpa [l2.sr]using h2) (by decide) ?_;conv=>whnf
 have hhd:((a:Int)+1) % 12=s2.hd:=by rw[←ha];exact e3
 rw[gB (by rw[l2.st];exact h2),jB (by rw[l2.sr];exact h2),hhd];simp only[List.drop_zero,eC l2.rt,eC l2.rr,eC (show(s2.swp.tx.set F tx).length=12 by simp[l2.st]),eC (show(s2.swp.rf.set F rf).length=12 by simp[l2.sr]),List.length_map,l2.rt,l2.rr];refine aC (k:=a) rfl rfl rfl ha12 ?_;conv=>whnf
 refine aG rfl rfl rfl (by simpa [l2.rt]using ha12) (by decide) ?_;conv=>whnf
 refine aC (k:=a) rfl rfl rfl ha12 ?_;conv=>whnf
 refine aG rfl rfl rfl (by simpa [l2.rr]using ha12) (by decide) ?_;conv=>whnf
 rw[gB (by rw[l2.rt];exact ha12),jB (by rw[l2.rr];exact ha12)];simp only[List.drop_zero,eC (show(s2.ram.tx.set a []).length=12 by simp[l2.rt]),eC (show(s2.ram.rf.set a 0).length=12 by simp[l2.rr]),List.length_map];rw[List.take_of_length_le (l:=List.map (tkP Js) L) (by simp)];have hN80:L.length≤1000:=by omega
 obtain⟨N,hN⟩:∃N,L.length=N:=⟨_,rfl⟩;rw[hN]at hN80;simp only[hN];have nj2:=nj.same hlS2;obtain⟨S2,hS2⟩:∃S2,spS s2.sp=S2:=⟨_,rfl⟩;rw[hS2]at hL2 nj2;simp only[hS2];refine aa (fun q:Nat=>[(0,.v (.one (.ptr 0 0 0))),(7,.v (.one (dI F))),(111,.v (.one (.own 1 (L.map (tkP Js))))),(112,.v (.one (dI N))),(113,.v (.one (dI q)))])
  (fun q=>oH E (ab s2.ram a [] 0) (ab s2.swp F tx rf) s2.hd (ea (cC 2 F) S2 (L.take q))) (fun _=>7)
  (fun q=>q≤N) (fun q=>N-q) 0 (Nat.zero_le _) rfl (by rw[List.take_zero,ob];rfl) rfl fun q hqN=>?_
 conv=>whnf
 refine CondP.mk (fun h6=>?_) (fun h6=>?_)<;>conv=>whnf
 ·have hq:q<L.length:=by
                 have:(q:Int)< (N:Int):=by simpa using h6
                 omega
  obtain⟨i,j,x,he,hi5,hx,hJ⟩:=aAL (P:=Try.prog) nj2 hL2 q hq;have hrow:(L.map (tkP Js))[q]?=some (tk (Js i) j):=by simp[hq,he,tkP]
  have hst:cx (2+i) (.arr 4 ((((ea (cC 2 F) S2 (L.take q) i).map rL).modify j (fun row=>row.set 0 (.sc (.int .i64 2)))).modify j (fun row=>row.set 1 (.sc (.int .i64 F)))) []) (oH E (ab s2.ram a [] 0) (ab s2.swp F tx rf) s2.hd (ea (cC 2 F) S2 (L.take q)))=oH E (ab s2.ram a [] 0) (ab s2.swp F tx rf) s2.hd (ea (cC 2 F) S2 (L.take (q+1))):=by have hx':=ij (f:=cC 2 F) (L:=L.take q) hx;have hjl:=(List.getElem?_eq_some_iff.1 hx').1;rw[mZ hq he hx,←pJ hi5,aV (aj (f:=rL) hx'),aV (List.getElem?_set_self (by simpa using hjl)),List.set_set,←map_set];split<;>rfl
  have hjl:j< (ea (cC 2 F) S2 (L.take q) i).length:=(List.getElem?_eq_some_iff.1 (ij (f:=cC 2 F) (L:=L.take q) hx)).1;obtain⟨S',hS'⟩:∃S',ea (cC 2 F) S2 (L.take q)=S':=⟨_,rfl⟩;rw[hS']at hst hjl;simp only[hS'];obtain⟨D,hD⟩:∃D,Js i=D:=⟨_,rfl⟩;rw[hD]at hrow hJ;have nextq:IntKind.wrap .i64 ((q:Int)+1)=((q+1:Nat):Int):=wrap64 (by omega) (by omega);simp only[List.length_map,hN];refine aC (k:=q) rfl rfl rfl (by omega) ?_;conv=>whnf
  refine bq rfl rfl rfl (aW hrow rfl rfl rfl) rfl ?_;conv=>whnf
  have hc:i=0∨i=1∨i=2∨i=3∨i=4:=by omega
  clear hx hD he hS' hi5;rcases hc with rfl|rfl|rfl|rfl|rfl
  all_goals
   refine f9 (i:=j) rfl rfl hJ rfl ?_;conv=>whnf
   refine aG rfl rfl rfl (by simpa using hjl) (by decide) ?_;conv=>whnf
   refine f9 (i:=j) rfl rfl hJ rfl ?_;conv=>whnf
   refine aG rfl rfl rfl (by simpa using hjl) (by decide) ?_;conv=>whnf
   refine⟨q+1,by omega,by omega,?_,by rw[←hst];rfl,rfl⟩;rw[nextq,List.take_of_length_le (by simp;omega)];rfl
 have hqe:q=N:=by
             have:¬(q:Int)< (N:Int):=by simpa using h6
             omega
 subst hqe;have hSt:ea (cC 2 F) S2 (L.take q)=spS (eM s2 a).sp:=by rw[List.take_of_length_le (by omega),←hL2,←hS2,←hf];exact nr w2.sp
 simp only[hSt];have hrl:(ab s2.ram a [] 0).rf.length=12:=by simp[ab,l2.rr]
 refine aB (cas:=[.agg [.ro true 1 ((ab s2.ram a [] 0).tx.map rS),.ro true 1 ((ab s2.ram a [] 0).rf.map rI)]]) [.lend] rfl (by show some [DV.agg [DC.ro true 1 (List.take _ (List.drop 0 _)),DC.ro true 1 (List.take _ (List.drop 0 _))]]=_;simp only[List.drop_zero,List.take_length]) rfl (rq true true (ab s2.ram a [] 0) (by omega)) rfl ?_;conv=>whnf
 simp only[List.drop_zero,List.take_length];have hfr:jr (ab s2.ram a [] 0).rf=(aN (eM s2 a).ram.rf:Int):=by rw[jr,if_pos (by rw[hrl];exact wev.2)];rfl
 have heq:eM s2 a=⟨ab s2.ram a [] 0,ab s2.swp F tx rf,(eM s2 a).sp,s2.hd⟩:=by simp only[eM,hf,htx,hrf,Option.getD_some]
 rw[hfr];refine⟨rfl,?_⟩;rw[heq];rfl
end Go.Qm
namespace Go.Qm
open Go.Cq Go.Cq.D Go.RowKit Go.Proofs
set_option maxRecDepth 10000
theorem aC9{E:List (List PV)}{T W:Pages}{hd:Int}{S:Nat→List Slot}{i j:Nat}{x y:Slot}{f:List PV→List PV}(hi:i<5)(hx:(S i)[j]?=some x)(hf:f (rL x)=rL y):cx (2+i) (.arr 4 (((S i).map rL).modify j f) []) (oH E T W hd S)=oH E T W hd (rK S i j y):=by rw[←pJ hi,aV (aj (f:=rL) hx),hf,map_set]
theorem aCW{E:List (List PV)}{T W:Pages}{hd:Int}{sp:List Space}{i j:Nat}{x:Slot}(hi:i<5)(hx:(spS sp i)[j]?=some x):cx (2+i) (.arr 4 (((spS sp i).map rL).modify j (fun row=>row.set 3 (.sc (.bool true)))) []) (oH E T W hd (spS sp))=oH E T W hd (spS (aQ sp i j {x with us:=true})):=by rw[we];exact aC9 hi hx rfl
theorem aCm{E:List (List PV)}{T W:Pages}{hd:Int}{sp:List Space}{i j:Nat}{x:Slot}{kd pl:Int}{ow:Bool}(hi:i<5)(hx:(spS sp i)[j]?=some x):cx (2+i) (.arr 4 ((((spS sp i).map rL).set j (rL ⟨kd,pl,ow,false⟩)).modify j (fun row=>row.set 3 (.sc (.bool true)))) []) (oH E T W hd (spS sp))=oH E T W hd (spS (aQ sp i j ⟨kd,pl,ow,true⟩)):=by have hj:=(List.getElem?_eq_some_iff.1 hx).1;rw[we,←pJ hi,aV (List.getElem?_set_self (by simpa using hj)),List.set_set,←map_set];rfl
theorem w8{but:Int}{sp sp':List Space}(h:alike but sp sp')(t:Nat):(spS sp' t).length=(spS sp t).length:=by
 obtain⟨h1,h2⟩:=h;rcases Nat.lt_or_ge t sp.length with c|c
 ·have c':t<sp'.length:=by omega
  rw[iN c,iN c'];exact(h2 t c c').2.2.1
 ·rw[n9 c,n9 (by omega)]
theorem p9{E:List (List PV)}{m m1:Mem}(hl:∀t,(spS m1.sp t).length=(spS m.sp t).length):bA (fun t=>([0,1,2,3,4,5,6]:List Nat)[t]?) (oHm E m1) [0,1,2,3,4,5,6] 0 (oHm E m)=some (oHm E m1):=(bV rfl rfl (by rfl) rfl).trans ((gV rfl rfl (by rfl) rfl).trans ((aI rfl rfl (by simp[hl])).trans ((aI rfl rfl (by simp[hl])).trans ((aI rfl rfl (by simp[hl])).trans ((aI rfl rfl (by simp[hl])).trans ((aI rfl rfl (by simp[hl])).trans rfl))))))
set_option maxHeartbeats 8000000 in
theorem zo(E:List (List PV))(m:Mem)(i j:Nat)(w:Wf m)(hE:E.length=5)(hr:∀row,row∈E→row.length=3)(hi:i<m.sp.length)(hj:j<m.sp[i].sl.length):
  c6 Try.prog 78 [.one (.ptr 0 0 0),.one (dI i),.one (dI j)] (oHm E m) 7
  fun x H'=>x= .v (.one (dB (b7 m i j).isSome))∧H'=oHm E ((b7 m i j).getD m):=by
 refine qZ hmix Try.func78 ok78 fun J hJ1 hJ2=>?_
 obtain⟨Js,nj⟩:=aCN hJ1 hJ2;clear hJ1 hJ2;have l:=w.L;have hi5:i<5:=by rw[←l.sp];exact hi
 have hx:=dM hi hj;have hxS:(spS m.sp i)[j]?=some (ae m i j):=by rw[iN hi,hx];exact List.getElem?_eq_getElem hj
 have hjS:j< (spS m.sp i).length:=by rw[iN hi];exact hj
 obtain⟨row,hrow,hrl⟩:∃row,E[i]?=some row∧2<row.length:=⟨E[i]'(by omega),List.getElem?_eq_getElem (by omega),by rw[hr _ (List.getElem_mem _)];omega⟩;obtain⟨I,hI⟩:∃I:Int,(i:Int)=I:=⟨_,rfl⟩;obtain⟨s1,s2⟩:=w.slot hi hj;have skd:(ae m i j).kd=0∨(ae m i j).kd=1∨(ae m i j).kd=2:=by rw[hx];exact w.kd _ (List.getElem_mem hi) _ (List.getElem_mem hj)
 rw[hI];conv=>whnf
 refine aC (k:=i) rfl rfl (by show some I=_;rw[←hI]) hi5 ?_;conv=>whnf
 have hc:i=0∨i=1∨i=2∨i=3∨i=4:=by omega
 obtain⟨x,hxe⟩:∃x,ae m i j=x:=⟨_,rfl⟩;rw[hxe]at hx hxS s1 s2 skd;have hnone:¬x.kd=1→bR m (-1)=none→b7 m i j=none:=fun c1 hrm=>by rw[b7,hxe,if_neg c1,hrm];rfl
 have hsome:¬x.kd=1→∀m1,bR m (-1)=some m1→(spS m1.sp i)[j]?=some x∧j< (spS m1.sp i).length:=fun c1 m1 hrm=>by
  obtain⟨hi1,hj1,ex, -⟩:=f8 (cN w hrm) hi hj (.inl (by rw[hxe];exact c1));have:(spS m1.sp i)[j]?=some x:=by rw[iN hi1,List.getElem?_eq_getElem hj1,ex,hxe]
  exact⟨this,(List.getElem?_eq_some_iff.1 this).1⟩
 have hb0:x.kd=0→∀m1,bR m (-1)=some m1→b7 m i j=some {m1 with ram:=ab m1.ram (aN m1.ram.rf) jT 1,sp:=aQ m1.sp i j ⟨1,aN m1.ram.rf,true,true⟩}:=fun c0 m1 hrm=>by rw[b7,hxe,if_neg (by omega),hrm,Option.map_some,if_pos c0]
 have hb1:x.kd=1→b7 m i j=some {m with sp:=aQ m.sp i j {x with us:=true}}:=fun c1=>by rw[b7,hxe,if_pos c1]
 have hb2:x.kd=2→∀m1,bR m (-1)=some m1→∃f:Nat,x.pl=f∧f<12∧(spS (az 2 f (cC 1 (aN m1.ram.rf)) m1.sp) i)[j]?=some (cC 1 (aN m1.ram.rf) x)∧b7 m i j=some ⟨ab m1.ram (aN m1.ram.rf) (m1.swp.tx[f]?.getD []) (m1.swp.rf[f]?.getD 0),ab m1.swp f [] 0,aQ (az 2 f (cC 1 (aN m1.ram.rf)) m1.sp) i j ⟨1,aN m1.ram.rf,x.ow,true⟩,m1.hd⟩:=fun c2 m1 hrm=>by
  obtain⟨f,e1,hf12, -⟩:=(w.bR hrm).1.aA1 (cN w hrm) hi hj (by rw[hxe];exact c2);rw[hxe]at e1;refine⟨f,e1,hf12,?_,?_⟩
  ·rw[sK];simp only[List.getElem?_map,(hsome (by omega) m1 hrm).1,Option.map_some];rw[if_pos ⟨c2,e1⟩]
  ·rw[b7,hxe,if_neg (by omega),hrm,Option.map_some,if_neg (by omega),e1,Int.toNat_natCast]
 rcases hc with rfl|rfl|rfl|rfl|rfl
 all_goals
  refine bq rfl rfl rfl (bZ hrow hrl rfl) rfl ?_;conv=>whnf
  refine aC (k:=j) rfl rfl rfl hjS ?_;conv=>whnf
  refine bq rfl rfl rfl (aW (aj (f:=rL) hxS) rfl rfl rfl) rfl ?_;conv=>whnf
  refine CondP.mk (fun c0=>?_) (fun c0=>?_)<;>conv=>whnf
  ·have c0:x.kd=0:=by simpa using c0
   have c1:¬x.kd=1:=by omega
   have hcall:=rm E m (-1) w hE hr;cases hrm:bR m (-1)with
   |none=>
    rw[gj,hrm]at hcall;have hb:=hnone c1 hrm;refine bp (r:=.tup [.one (dI (-1)),.one (dB false)]) (Hr:=oHm E m) [.pass,.pass] [0,1,2,3,4,5,6] rfl rfl rfl rfl hcall rfl (p9 (E:=E) (m:=m) (m1:=m) fun _=>rfl) ?_
    (conv=>whnf)<;>repeat' first|(refine aF ?_;conv=>whnf)|(refine aD ?_;conv=>whnf)
    rw[hb];exact⟨rfl,rfl⟩
   |some m1=>
    rw[gj,hrm]at hcall;obtain⟨w1,hf⟩:=w.bR hrm;have l1:=w1.L;have ha:=cN w hrm;have hlS:=w8 ha;obtain⟨hxS1,hjS1⟩:=hsome c1 m1 hrm;refine bp (r:=.tup [.one (dI (aN m1.ram.rf)),.one (dB true)]) (Hr:=oHm E m1) [.pass,.pass] [0,1,2,3,4,5,6] rfl rfl rfl rfl hcall rfl (p9 (E:=E) (m:=m) (m1:=m1) hlS) ?_
    (conv=>whnf)<;>repeat' first|(refine aF ?_;conv=>whnf)|(refine aD ?_;conv=>whnf)
    refine o5 rfl rfl (m:=4) (c:=4) rfl rfl (by decide) (by decide) (by decide) ?_;conv=>whnf
    refine j8 rfl rfl (bs:=jT) rfl ?_;conv=>whnf
    simp only[List.length_map,l1.rt,l1.rr];refine aC (k:=aN m1.ram.rf) rfl rfl rfl hf ?_;conv=>whnf
    refine aG rfl rfl rfl (by simpa [l1.rt]using hf) (by decide) ?_;conv=>whnf
    refine aC (k:=aN m1.ram.rf) rfl rfl rfl hf ?_;conv=>whnf
    refine aG rfl rfl rfl (by simpa [l1.rr]using hf) (by decide) ?_;conv=>whnf
    refine dT (row':=rL ⟨1,aN m1.ram.rf,true,false⟩) rfl rfl rfl (by simpa using hjS1) (iO (fun _=>rfl)) (eV _) rfl rfl rfl ?_;conv=>whnf
    refine aG rfl rfl rfl (by simpa using hjS1) (by decide) ?_;conv=>whnf
    rw[hb0 c0 m1 hrm,gB (by rw[l1.rt];exact hf),jB (by rw[l1.rr];exact hf)];simp only[List.drop_zero,eC (show(m1.ram.tx.set (aN m1.ram.rf) jT).length=12 by simp[l1.rt]),eC (show(m1.ram.rf.set (aN m1.ram.rf) 1).length=12 by simp[l1.rr])];refine⟨rfl,?_⟩;show _=oH E (ab m1.ram (aN m1.ram.rf) jT 1) m1.swp m1.hd (spS (aQ m1.sp _ j _));rw[←aCm hi5 hxS1];rfl
  ·have c0:¬x.kd=0:=by simpa using c0
   refine CondP.mk (fun c2=>?_) (fun c2=>?_)<;>conv=>whnf
   ·have c2:x.kd=2:=by simpa using c2
    have c1:¬x.kd=1:=by omega
    have hcall:=rm E m (-1) w hE hr;cases hrm:bR m (-1)with
    |none=>
     rw[gj,hrm]at hcall;have hb:=hnone c1 hrm;refine bp (r:=.tup [.one (dI (-1)),.one (dB false)]) (Hr:=oHm E m) [.pass,.pass] [0,1,2,3,4,5,6] rfl rfl rfl rfl hcall rfl (p9 (E:=E) (m:=m) (m1:=m) fun _=>rfl) ?_
     (conv=>whnf)<;>repeat' first|(refine aF ?_;conv=>whnf)|(refine aD ?_;conv=>whnf)
     rw[hb];exact⟨rfl,rfl⟩
    |some m1=>
     rw[gj,hrm]at hcall;obtain⟨w1,hf⟩:=w.bR hrm;have l1:=w1.L;have ha:=cN w hrm;have hlS:=w8 ha;obtain⟨hxS1,hjS1⟩:=hsome c1 m1 hrm;refine bp (r:=.tup [.one (dI (aN m1.ram.rf)),.one (dB true)]) (Hr:=oHm E m1) [.pass,.pass] [0,1,2,3,4,5,6] rfl rfl rfl rfl hcall rfl (p9 (E:=E) (m:=m) (m1:=m1) hlS) ?_
     (conv=>whnf)<;>repeat' first|(refine aF ?_;conv=>whnf)|(refine aD ?_;conv=>whnf)
     obtain⟨f,e1,hf12,hx2,hb⟩:=hb2 c2 m1 hrm;obtain⟨tx,htx⟩:∃tx,m1.swp.tx[f]?=some tx:=⟨_,List.getElem?_eq_getElem (by rw[l1.st];exact hf12)⟩;obtain⟨rf,hrf⟩:∃rf,m1.swp.rf[f]?=some rf:=⟨_,List.getElem?_eq_getElem (by rw[l1.sr];exact hf12)⟩;rw[htx,hrf]at hb;simp only[Option.getD_some]at hb;rw[hb];generalize aN m1.ram.rf=F at*;refine bq rfl rfl rfl (aW (aj (f:=rL) hxS1) rfl rfl rfl) rfl ?_;conv=>whnf
     simp only[e1,List.length_map,l1.rt,l1.rr,l1.st];refine aC (k:=f) rfl rfl rfl hf12 ?_;conv=>whnf
     refine bq rfl rfl rfl (aW (aj (f:=rS) htx) rfl rfl rfl) rfl ?_;conv=>whnf
     simp only[List.length_map,l1.sr];refine aC (k:=f) rfl rfl rfl hf12 ?_;conv=>whnf
     refine bq rfl rfl rfl (aW (aj (f:=rI) hrf) rfl rfl rfl) rfl ?_;conv=>whnf
     refine aC (k:=F) rfl rfl rfl hf ?_;conv=>whnf
     refine aG rfl rfl rfl (by simpa [l1.rt]using hf) (by decide) ?_;conv=>whnf
     refine aC (k:=F) rfl rfl rfl hf ?_;conv=>whnf
     refine aG rfl rfl rfl (by simpa [l1.rr]using hf) (by decide) ?_;conv=>whnf
     rw[gB (by rw[l1.rt];exact hf),jB (by rw[l1.rr];exact hf)];simp only[List.drop_zero,eC l1.st,eC l1.sr,eC (show(m1.ram.tx.set F tx).length=12 by simp[l1.rt]),eC (show(m1.ram.rf.set F rf).length=12 by simp[l1.rr]),List.length_map,l1.st,l1.sr];refine aC (k:=f) rfl rfl rfl hf12 ?_;conv=>whnf
     refine aG rfl rfl rfl (by simpa [l1.st]using hf12) (by decide) ?_;conv=>whnf
     refine aC (k:=f) rfl rfl rfl hf12 ?_;conv=>whnf
     refine aG rfl rfl rfl (by simpa [l1.sr]using hf12) (by decide) ?_;conv=>whnf
     rw[gB (by rw[l1.st];exact hf12),jB (by rw[l1.sr];exact hf12)];simp only[List.drop_zero,eC (show(m1.swp.tx.set f []).length=12 by simp[l1.st]),eC (show(m1.swp.rf.set f 0).length=12 by simp[l1.sr])];have nj1:=nj.same hlS;have hS16:∀i,(spS m1.sp i).length≤16:=fun i=>by
      rcases Nat.lt_or_ge i m1.sp.length with c|c
      ·rw[iN c];exact w1.sl _ (List.getElem_mem c)
      ·rw[n9 c];exact Nat.zero_le _
     refine iZ [] [.pass,.pass,.pass] [0,1,2,3,4,5,6] J rfl rfl rfl rfl rfl (aCM E (ab m1.ram F tx rf) (ab m1.swp f [] 0) m1.hd (spS m1.sp) Js 2 f hE hr hS16 (by decide) J nj1) (nj1.of (lt7 ⟨rfl,rfl,rfl,rfl,rfl,rfl,rfl⟩)) rfl
      ((bV rfl rfl (by rfl) rfl).trans ((gV rfl rfl (by rfl) rfl).trans ((aI rfl rfl (by rfl)).trans ((aI rfl rfl (by rfl)).trans ((aI rfl rfl (by rfl)).trans ((aI rfl rfl (by rfl)).trans ((aI rfl rfl (by rfl)).trans rfl))))))) ?_
     conv=>whnf
     simp only[List.drop_zero,List.take_length,nR];obtain⟨S,hSe⟩:∃S,spS m1.sp=S:=⟨_,rfl⟩;rw[hSe]at nj1 hS16;simp only[hSe];obtain⟨L,hL⟩:∃L,jV S 2 f 5=L:=⟨_,rfl⟩;simp only[hL,List.length_map];obtain⟨N,hN⟩:∃N,L.length=N:=⟨_,rfl⟩;have hN80:N≤1000:=by have:=na (Js:=Js) (kd:=2) (pl:=f) hS16 (i:=5);rw[nR,hL,List.length_map,hN]at this;omega
     simp only[hN];refine aa (fun q:Nat=>[(7,.v (.one (.ptr _ j 0))),(10,.v (.one (dI F))),(117,.v (.one (.own 1 (L.map (tkP Js))))),(118,.v (.one (dI N))),(119,.v (.one (dI q)))])
      (fun q=>oH E (ab m1.ram F tx rf) (ab m1.swp f [] 0) m1.hd (ea (cC 1 F) S (L.take q))) (fun _=>7)
      (fun q=>q≤N) (fun q=>N-q) 0 (Nat.zero_le _) rfl (by rw[List.take_zero,ob];rfl) rfl fun q hqN=>?_
     conv=>whnf
     refine CondP.mk (fun h6=>?_) (fun h6=>?_)<;>conv=>whnf
     ·have hq:q<L.length:=by
                     have:(q:Int)< (N:Int):=by simpa using h6
                     omega
      obtain⟨i',j',y,he,hi5',hy,hJ⟩:=aAL (P:=Try.prog) nj1 hL q hq;have hrow':(L.map (tkP Js))[q]?=some (tk (Js i') j'):=by simp[hq,he,tkP]
      have hst:cx (2+i') (.arr 4 ((((ea (cC 1 F) S (L.take q) i').map rL).modify j' (fun row=>row.set 0 (.sc (.int .i64 1)))).modify j' (fun row=>row.set 1 (.sc (.int .i64 F)))) []) (oH E (ab m1.ram F tx rf) (ab m1.swp f [] 0) m1.hd (ea (cC 1 F) S (L.take q)))=oH E (ab m1.ram F tx rf) (ab m1.swp f [] 0) m1.hd (ea (cC 1 F) S (L.take (q+1))):=by have hx':=ij (f:=cC 1 F) (L:=L.take q) hy;have hjl:=(List.getElem?_eq_some_iff.1 hx').1;rw[mZ hq he hy,←pJ hi5',aV (aj (f:=rL) hx'),aV (List.getElem?_set_self (by simpa using hjl)),List.set_set,←map_set];split<;>rfl
      have hjl:j'< (ea (cC 1 F) S (L.take q) i').length:=(List.getElem?_eq_some_iff.1 (ij (f:=cC 1 F) (L:=L.take q) hy)).1;obtain⟨S',hS'⟩:∃S',ea (cC 1 F) S (L.take q)=S':=⟨_,rfl⟩;rw[hS']at hst hjl;simp only[hS'];obtain⟨D,hD⟩:∃D,Js i'=D:=⟨_,rfl⟩;rw[hD]at hrow' hJ;have nextq:IntKind.wrap .i64 ((q:Int)+1)=((q+1:Nat):Int):=wrap64 (by omega) (by omega);simp only[List.length_map,hN];refine aC (k:=q) rfl rfl rfl (by omega) ?_;conv=>whnf
      refine bq rfl rfl rfl (aW hrow' rfl rfl rfl) rfl ?_;conv=>whnf
      have hc':i'=0∨i'=1∨i'=2∨i'=3∨i'=4:=by omega
      clear hy hD he hS' hi5';rcases hc' with rfl|rfl|rfl|rfl|rfl
      all_goals
       refine f9 (i:=j') rfl rfl hJ rfl ?_;conv=>whnf
       refine aG rfl rfl rfl (by simpa using hjl) (by decide) ?_;conv=>whnf
       refine f9 (i:=j') rfl rfl hJ rfl ?_;conv=>whnf
       refine aG rfl rfl rfl (by simpa using hjl) (by decide) ?_;conv=>whnf
       refine⟨q+1,by omega,by omega,?_,by rw[←hst];rfl,rfl⟩;rw[nextq,List.take_of_length_le (by simp;omega)];rfl
     ·have hqe:q=N:=by
                  have:¬(q:Int)< (N:Int):=by simpa using h6
                  omega
      subst hqe;have hSt:ea (cC 1 F) S (L.take q)=spS (az 2 f (cC 1 F) m1.sp):=by rw[List.take_of_length_le (by omega),←hL,←hSe];exact nr w1.sp
      simp only[hSt];refine aG rfl rfl rfl (by simpa using(List.getElem?_eq_some_iff.1 hx2).1) (by decide) ?_;conv=>whnf
      refine⟨rfl,?_⟩;show _=oH E (ab m1.ram F tx rf) (ab m1.swp f [] 0) m1.hd (spS (aQ (az 2 f (cC 1 F) m1.sp) _ j {cC 1 F x with us:=true}));rw[←aCW hi5 hx2];rfl
   ·have c2:¬x.kd=2:=by simpa using c2
    have c1:x.kd=1:=by omega
    refine aG rfl rfl rfl (by simpa using hjS) (by decide) ?_;conv=>whnf
    rw[hb1 c1];refine⟨rfl,?_⟩;show _=oH E m.ram m.swp m.hd (spS (aQ m.sp _ j _));rw[←aCW hi5 hxS];rfl
end Go.Qm
namespace Go.Qm
open Go.Cq Go.Cq.D Go.RowKit Go.Proofs
set_option maxRecDepth 10000
theorem aAR{α:Type}{l:List α}(h:l.length=5):∃a b c d e,l=[a,b,c,d,e]:=
 match l,h with
 | [a,b,c,d,e],_=>⟨a,b,c,d,e,rfl⟩
theorem il{P:Prg}{ts:DTs}{H:DH}{n:Nat}{K:DT→DTs→DH→Nat→List Nat→Prop}(es:List Go.Cq.D.Loc)(ms:List M)(ρ:List Nat)(J:Nm){f:FuncId}{args:List Opd}{Hr:DH}{r:DT}(hJ:∀t p,J t=some p→∃g,ρ[t]?=some g∧P.J g=some p)(h5:gS ρ.length Hr=true)(h:xp es ts H n fun ts1 H1 n1=>∃das cas Hc H',dk ts1 args=some das∧fh H1 ρ ms das=some cas∧eA (fun g=>fT ρ g 0) H1 ρ 0=some Hc∧(nodup ρ&&(nodup (given ms das)&&(bU (given ms das) ρ&&(bU (d7 ms das) (given ms das)&&bU (d7 ms das) ρ))))=true∧(jQ P.prog J f cas Hc ρ.length fun x H'=>x=r∧H'=Hr)∧
   bA (fun t=>ρ[t]?) Hr ρ 0 (fA (given ms das) H1)=some H'∧fDT (gE (fun t=>ρ[t]?) r) fun x=>fTs ts1 fun ts1=>fDH H' fun H'=>K x ts1 H' n1 (given ms das++ρ)):OpP P (.call f args) ts H n K:=by
 rw[rX]at h;obtain⟨das,cas,Hc,H',h1,h2,h3,h4,hc,h6,h⟩:=h;exact iZ es ms ρ J rfl h1 h2 h3 h4 hc hJ h5 h6 h
theorem bG{es:List (List PV)}{i:Nat}{s t:Space}(h:es[i]?=some (rP s))(h1:t.lv=s.lv)(h2:t.ar=s.ar):es.modify i (fun row=>row.set 2 (.sl 4 (((t.sl.map rL).drop 0).take t.sl.length)))=es.set i (rP t):=by rw[aV h,List.drop_zero,bg];simp only[rP,h1,h2];rfl
theorem uF{ram swp:Pages}{s0 s1 s2 s3 s4:Space}{hd:Int}{i j:Nat}(w:Wf ⟨ram,swp,[s0,s1,s2,s3,s4],hd⟩):∃(ram' swp':Pages)(t0 t1 t2 t3 t4:Space)(hd':Int),(b7 ⟨ram,swp,[s0,s1,s2,s3,s4],hd⟩ i j).getD ⟨ram,swp,[s0,s1,s2,s3,s4],hd⟩=⟨ram',swp',[t0,t1,t2,t3,t4],hd'⟩∧(t0.lv=s0.lv∧t0.ar=s0.ar∧t0.sl.length=s0.sl.length)∧(t1.lv=s1.lv∧t1.ar=s1.ar∧t1.sl.length=s1.sl.length)∧(t2.lv=s2.lv∧t2.ar=s2.ar∧t2.sl.length=s2.sl.length)∧(t3.lv=s3.lv∧t3.ar=s3.ar∧t3.sl.length=s3.sl.length)∧(t4.lv=s4.lv∧t4.ar=s4.ar∧t4.sl.length=s4.sl.length):=by
 cases hb:b7 ⟨ram,swp,[s0,s1,s2,s3,s4],hd⟩ i j with
 |none=>exact⟨_,_,_,_,_,_,_,_,rfl,⟨rfl,rfl,rfl⟩,⟨rfl,rfl,rfl⟩,⟨rfl,rfl,rfl⟩,⟨rfl,rfl,rfl⟩,⟨rfl,rfl,rfl⟩⟩
 |some m'=>obtain⟨h1,h2⟩:=jA w hb;obtain⟨ram',swp',sp',hd'⟩:=m';obtain⟨t0,t1,t2,t3,t4,rfl⟩:=aAR (h1.trans rfl);exact⟨_,_,_,_,_,_,_,_,rfl,h2 0 (by simp) (by simp),h2 1 (by simp) (by simp),h2 2 (by simp) (by simp),h2 3 (by simp) (by simp),h2 4 (by simp) (by simp)⟩
theorem mI{P:Prg}{ρ:List Nat}:∀t p,noJ t=some p→∃g,ρ[t]?=some g∧P.J g=some p:=fun t p e=>by simp[noJ]at e
end Go.Qm
namespace Go.Qm
open Go.Cq Go.Cq.D Go.RowKit Go.Proofs
set_option maxRecDepth 10000
theorem v5{ram swp:Pages}{s0 s1 s2 s3 s4:Space}{hd but:Int}(w:Wf ⟨ram,swp,[s0,s1,s2,s3,s4],hd⟩):∃(ram' swp':Pages)(t0 t1 t2 t3 t4:Space)(hd':Int),(bR ⟨ram,swp,[s0,s1,s2,s3,s4],hd⟩ but).getD ⟨ram,swp,[s0,s1,s2,s3,s4],hd⟩=⟨ram',swp',[t0,t1,t2,t3,t4],hd'⟩∧(t0.lv=s0.lv∧t0.ar=s0.ar∧t0.sl.length=s0.sl.length)∧(t1.lv=s1.lv∧t1.ar=s1.ar∧t1.sl.length=s1.sl.length)∧(t2.lv=s2.lv∧t2.ar=s2.ar∧t2.sl.length=s2.sl.length)∧(t3.lv=s3.lv∧t3.ar=s3.ar∧t3.sl.length=s3.sl.length)∧(t4.lv=s4.lv∧t4.ar=s4.ar∧t4.sl.length=s4.sl.length):=by
 cases hb:bR ⟨ram,swp,[s0,s1,s2,s3,s4],hd⟩ but with
 |none=>exact⟨_,_,_,_,_,_,_,_,rfl,⟨rfl,rfl,rfl⟩,⟨rfl,rfl,rfl⟩,⟨rfl,rfl,rfl⟩,⟨rfl,rfl,rfl⟩,⟨rfl,rfl,rfl⟩⟩
 |some m'=>obtain⟨h1,h2⟩:=(cN w hb).same;obtain⟨ram',swp',sp',hd'⟩:=m';obtain⟨t0,t1,t2,t3,t4,rfl⟩:=aAR (h1.trans rfl);exact⟨_,_,_,_,_,_,_,_,rfl,h2 0 (by simp) (by simp),h2 1 (by simp) (by simp),h2 2 (by simp) (by simp),h2 3 (by simp) (by simp),h2 4 (by simp) (by simp)⟩
theorem xI{m:Mem}{i j:Nat}{x:Slot}(hx:ae m i j=x)(hc:x.ow=false∧1<m.ram.rf[x.pl.toNat]?.getD 0)(hr:bR m x.pl=none):fW m i j=none:=by rw[fW,hx,if_pos hc,hr];rfl
theorem px{m m1:Mem}{i j:Nat}{x:Slot}(hx:ae m i j=x)(hc:x.ow=false∧1<m.ram.rf[x.pl.toNat]?.getD 0)(hr:bR m x.pl=some m1):fW m i j=some {m1 with ram:=dn (ab m1.ram (aN m1.ram.rf) (m1.ram.tx[x.pl.toNat]?.getD []) 1) x.pl.toNat,sp:=aQ m1.sp i j {x with pl:=aN m1.ram.rf,ow:=true}}:=by rw[fW,hx,if_pos hc,hr];rfl
theorem zF{m m1:Mem}(w:Wf m){i j f:Nat}{x y:Slot}{p:Pages}(hi:i<m.sp.length)(hj:j<m.sp[i].sl.length)(hx:ae m i j=x)(hk:x.kd=1)(e1:x.pl=f)(hc:x.ow=false∧1<m.ram.rf[x.pl.toNat]?.getD 0)(hr:bR m x.pl=some m1)(hy:(⟨x.kd,(aN m1.ram.rf:Int),true,x.us⟩:Slot)=y)(hf:f<m1.ram.tx.length)(hp:ab m1.ram (aN m1.ram.rf) m1.ram.tx[f] 1=p):
  fW m i j=some ⟨dn p f,m1.swp,aQ m1.sp i j y,m1.hd⟩∧Lw ⟨dn p f,m1.swp,aQ m1.sp i j y,m1.hd⟩∧ae ⟨dn p f,m1.swp,aQ m1.sp i j y,m1.hd⟩ i j=y∧((dn p f).tx[aN m1.ram.rf]?.getD []).length=4:=by
 have ho:fW m i j=some ⟨dn p f,m1.swp,aQ m1.sp i j y,m1.hd⟩:=by rw[px hx hc hr,←hp,←hy];simp[e1,hf]
 obtain⟨w3,s3,hk3⟩:=w.own hi hj (by rw[hx];exact hk) ho;have ha:=(cN w hr).same;have hi1:i<m1.sp.length:=by rw[ha.1];exact hi
 have hj1:j<m1.sp[i].sl.length:=by rw[(ha.2 i hi hi1).2.2];exact hj
 have hi3:i< (aQ m1.sp i j y).length:=by simpa [aQ]using hi1
 obtain⟨a1,a2,a3⟩:=nb (x:=y) hi1 hj1;have hs:ae ⟨dn p f,m1.swp,aQ m1.sp i j y,m1.hd⟩ i j=y:=by rw[dM a1 a2];exact a3
 obtain⟨k,r1, -, -,r4⟩:=(w3.slot a1 a2).1 hk3;rw[hs,←hy]at r1;have:k=aN m1.ram.rf:=by simp only at r1;omega
 subst this;exact⟨ho,w3.L,hs,r4⟩
theorem jt{b0:DB}{E:List (List PV)}{ov ov':List (Nat×Nat×DC)}{H:DH}(h:∀i k,ai ov' i k=ai ov i k:=by
  intro i k;cases h:Nat.beq 2 k<;>simp only[ovS,ai,h,cond_true,cond_false]
  match i with
  |0=>rfl
  |1=>rfl
  |2=>rfl
  |3=>rfl
  |4=>rfl
  |n+5=>simp):hY ((0,b0)::(1,.arr 3 E ov)::H) ((0,b0)::(1,.arr 3 E ov')::H):=fun g=>by
 have hr:∀o:Option DB,qS o o:=fun o=>by cases o<;>simp only[qS];exact hZ.refl _
 simp only[aU];split
 ·exact hr _
 ·split
  ·exact⟨rfl,rfl,h⟩
  ·exact hr _
set_option maxHeartbeats 8000000 in
theorem qi(hc:vD)(b1 b2 b3 b4 b5:Bool)(m:Mem)(who a b:Int)(h:m.fits 1048576):af Try.prog 38 [aM b1 b2 b3 b4 b5 m,.one (dI who),.one (dI a),.one (dI b)] (.tup [oM (dt m who a b).1,.one (dI (dt m who a b).2)]):=by
 refine aK hmix Try.func38 ok38 ?_;conv=>whnf
 refine aB [.pass] rfl rfl rfl (hc b1 b2 b3 b4 b5 m h) rfl ?_;conv=>whnf
 cases h1:ct m with
 |false=>
  (conv=>whnf)<;>repeat' first|(refine aF ?_;conv=>whnf)|(refine aD ?_;conv=>whnf)
  refine⟨?_,rfl⟩;simp[dt,h1,oM,jX,dI]
 |true=>
 (conv=>whnf)<;>repeat' first|(refine aF ?_;conv=>whnf)|(refine aD ?_;conv=>whnf)
 refine aB [.pass,.pass] rfl rfl rfl (aBh b1 b2 b3 b4 b5 m who (by have:=h.sp;omega)) rfl ?_
 (conv=>whnf)<;>repeat' first|(refine aF ?_;conv=>whnf)|(refine aD ?_;conv=>whnf)
 cases h2:fv m.sp who with
 |false=>
  (conv=>whnf)<;>repeat' first|(refine aF ?_;conv=>whnf)|(refine aD ?_;conv=>whnf)
  refine⟨?_,rfl⟩;simp[dt,h2,oM,jX,dI]
 |true=>
 (conv=>whnf)<;>repeat' first|(refine aF ?_;conv=>whnf)|(refine aD ?_;conv=>whnf)
 refine aB [.pass,.pass,.pass] rfl rfl rfl (jM a 0 63) rfl ?_
 (conv=>whnf)<;>repeat' first|(refine aF ?_;conv=>whnf)|(refine aD ?_;conv=>whnf)
 cases h3:inB a 0 63 with
 |false=>
  (conv=>whnf)<;>repeat' first|(refine aF ?_;conv=>whnf)|(refine aD ?_;conv=>whnf)
  refine⟨?_,rfl⟩;simp[dt,h3,oM,jX,dI]
 |true=>
 (conv=>whnf)<;>repeat' first|(refine aF ?_;conv=>whnf)|(refine aD ?_;conv=>whnf)
 refine aB [.pass,.pass,.pass] rfl rfl rfl (jM b 0 255) rfl ?_
 (conv=>whnf)<;>repeat' first|(refine aF ?_;conv=>whnf)|(refine aD ?_;conv=>whnf)
 cases h5:inB b 0 255 with
 |false=>
  (conv=>whnf)<;>repeat' first|(refine aF ?_;conv=>whnf)|(refine aD ?_;conv=>whnf)
  refine⟨?_,rfl⟩;simp[dt,h5,oM,jX,dI]
 |true=>
 have h4:=h3;simp only[inB,Bool.and_eq_true,decide_eq_true_eq]at h4;obtain⟨c,rfl⟩:=Int.eq_ofNat_of_zero_le h4.1;obtain⟨i,rfl,hi,hlv⟩:=ko h2;obtain⟨ha,hal,hsl⟩:=od h1 hi hlv;have hae:vS m i=m.sp[i].ar:=by simp[vS,hi]
 have hget:dt m i c b=cH m i c b:=by simp[dt,h1,h2,h3,h5]
 have hat:dN m.sp[i].ar ((c / 4:Nat):Int)=bH m.sp[i].ar ((c / 4:Nat):Int):=by rw[dN,if_pos ha]
 obtain⟨at_,hate⟩:∃at_,bH m.sp[i].ar ((c / 4:Nat):Int)=at_:=⟨_,rfl⟩;rw[hate]at hat;rw[hget]
 (conv=>whnf)<;>repeat' first|(refine aF ?_;conv=>whnf)|(refine aD ?_;conv=>whnf)
 refine aB [.pass] rfl rfl rfl (kA b1 b2 b3 b4 b5 m h) rfl ?_;conv=>whnf
 refine dm rfl ?_;conv=>whnf
 simp only[aDZ (show c≤1000 by omega)];refine aJ (k:=i) rfl rfl (by simpa using hi) ?_;conv=>whnf
 refine aE rfl (r:=.one (.ro b5 4 (m.sp[i].ar.map rA))) (by simp[aZ,rP,hi]) ?_;conv=>whnf
 refine aB [.pass,.pass] rfl rfl rfl (lF b5 m.sp[i].ar ((c / 4:Nat):Int) (by omega)) rfl ?_;conv=>whnf
 rw[hat];refine CondP.mk (fun c1=>?_) (fun c1=>?_)<;>conv=>whnf
 ·have c1:at_<0:=by simpa using c1
  refine⟨?_,rfl⟩;rw[cH,hae,hate,if_pos c1];simp[oM,dI]
 have c1:¬at_<0:=by simpa using c1
 have hlt:at_.toNat<m.sp[i].ar.length:=by rw[←hate];exact i5 (by omega)
 refine aJ (k:=i) rfl rfl (by simpa using hi) ?_;conv=>whnf
 refine aE rfl (r:=.one (.ro b5 4 (m.sp[i].ar.map rA))) (by simp[aZ,rP,hi]) ?_;conv=>whnf
 refine aJ (k:=at_.toNat) rfl (by show some at_=_;congr 1;omega) (by simpa using hlt) ?_;conv=>whnf
 refine aE rfl (r:=.one (dB m.sp[i].ar[at_.toNat].wr)) (by simp[aZ,rA,hlt,eB,dB]) ?_;conv=>whnf
 have hwr:zm m.sp[i].ar at_=m.sp[i].ar[at_.toNat].wr:=by simp[zm,hlt]
 refine CondP.mk (fun c2=>?_) (fun c2=>?_)<;>conv=>whnf
 ·have c2:m.sp[i].ar[at_.toNat].wr=false:=by simpa using c2
  refine⟨?_,rfl⟩;rw[cH,hae,hate,if_neg c1,hwr,if_pos c2];simp[oM,dI]
 have c2:¬m.sp[i].ar[at_.toNat].wr=false:=by simpa using c2
 have hset:cH m i c b=match(b7 m i (c / 4)).bind fun m1=>fW m1 i (c / 4)with
  |none=>(m,4)
  |some m2=>(iH m2 (ae m2 i (c / 4)).pl.toNat (c % 4) b,0):=by rw[cH,hae,hate,if_neg c1,hwr,if_neg c2]<;>rfl
 have w:=pT h1;have hj:c / 4<m.sp[i].sl.length:=by omega
 simp only[List.drop_zero,List.take_length];have hfits:=h;obtain⟨ram,swp,sp,hd⟩:=m;obtain⟨s0,s1,s2,s3,s4,rfl⟩:=aAR w.sp;have hcall:=zo ([s0,s1,s2,s3,s4].map rP) ⟨ram,swp,[s0,s1,s2,s3,s4],hd⟩ i (c / 4) w rfl (by simp[rP]) hi hj;obtain⟨ram',swp',t0,t1,t2,t3,t4,hd',hm',p0,p1,p2,p3,p4⟩:=uF (i:=i) (j:=c / 4) w;rw[hm']at hcall;refine il (Hr:=oHm ([s0,s1,s2,s3,s4].map rP) ⟨ram',swp',[t0,t1,t2,t3,t4],hd'⟩) (r:=.v (.one (dB (b7 ⟨ram,swp,[s0,s1,s2,s3,s4],hd⟩ i (c / 4)).isSome))) [.h 2 0 4,.h 3 4 2,.h 3 3 2,.h 3 2 2,.h 3 1 2,.h 3 0 2] [.pass,.pass,.pass] [2,3,8,7,6,5,4] noJ mI rfl ?_;conv=>whnf
 simp only[List.length_map];refine⟨_,_,_,_,rfl,rfl,rfl,rfl,hcall.toJ,(bV rfl rfl (by rfl) rfl).trans ((gV rfl rfl (by rfl) rfl).trans ((aI rfl rfl (by simp[spS,p0.2.2])).trans ((aI rfl rfl (by simp[spS,p1.2.2])).trans ((aI rfl rfl (by simp[spS,p2.2.2])).trans ((aI rfl rfl (by simp[spS,p3.2.2])).trans ((aI rfl rfl (by simp[spS,p4.2.2])).trans rfl)))))),?_⟩;conv=>whnf
 refine aX (lo:=0) (len:=t0.sl.length) rfl rfl rfl rfl (bG (t:=t0) rfl p0.1 p0.2.1) rfl ?_;conv=>whnf
 refine aX (lo:=0) (len:=t1.sl.length) rfl rfl rfl rfl (bG (t:=t1) rfl p1.1 p1.2.1) rfl ?_;conv=>whnf
 refine aX (lo:=0) (len:=t2.sl.length) rfl rfl rfl rfl (bG (t:=t2) rfl p2.1 p2.2.1) rfl ?_;conv=>whnf
 refine aX (lo:=0) (len:=t3.sl.length) rfl rfl rfl rfl (bG (t:=t3) rfl p3.1 p3.2.1) rfl ?_;conv=>whnf
 refine aX (lo:=0) (len:=t4.sl.length) (es2:=[t0,t1,t2,t3,t4].map rP) rfl rfl rfl rfl ((bG (t:=t4) rfl p4.1 p4.2.1).trans rfl) rfl ?_;conv=>whnf
 cases hb:b7 ⟨ram,swp,[s0,s1,s2,s3,s4],hd⟩ i (c / 4)with
 |none=>
  rw[hb]at hset
  (conv=>whnf)<;>repeat' first|(refine aF ?_;conv=>whnf)|(refine aD ?_;conv=>whnf)
  refine aB [.pass] rfl rfl rfl (kA b1 b2 b3 b4 b5 ⟨ram,swp,[s0,s1,s2,s3,s4],hd⟩ hfits) rfl ?_;conv=>whnf
  refine⟨?_,rfl⟩;rw[hset];simp[oM,dI]
 |some m1=>
  rw[hb,Option.getD_some]at hm';rw[hb,Option.bind_some]at hset;obtain⟨hi1,hj1,hk1⟩:=ki w hi hj hb;have w1:=w.aAr hi hj hb;have l1:=w1.L
  (conv=>whnf)<;>repeat' first|(refine aF ?_;conv=>whnf)|(refine aD ?_;conv=>whnf)
  subst hm';have ht5:List.take 5 (List.map rP [t0,t1,t2,t3,t4])=List.map rP [t0,t1,t2,t3,t4]:=rfl;dsimp only;simp only[List.drop_zero,ht5];clear p0 p1 p2 p3 p4 hcall ht5;generalize hT:[t0,t1,t2,t3,t4]=T at*;have hx1:=dM (m:=⟨ram',swp',T,hd'⟩) hi1 hj1;dsimp only at hi1 hj1 hk1 hx1;have hg1:=aj (f:=rP) (List.getElem?_eq_getElem hi1);obtain⟨x,hx⟩:∃x,T[i].sl[c / 4]=x:=⟨_,rfl⟩;rw[hx]at hx1 hk1;have hxg:(T[i].sl.map rL)[c / 4]?=some (rL x):=by simp[hj1,hx]
  obtain⟨f,e1,f12, -,e4⟩:=(w1.slot hi1 hj1).1 (by rw[hx1];exact hk1);rw[hx1]at e1;dsimp only at e4;have hft:f<ram'.tx.length:=by rw[l1.rt];exact f12
  have hfr:f<ram'.rf.length:=by rw[l1.rr];exact f12
  have hrf:ram'.rf[f]?.getD 0=ram'.rf[f]:=by simp[hfr]
  refine aC (k:=i) rfl rfl rfl (by simpa using hi1) ?_;conv=>whnf
  refine dV (i:=i) (k:=2) (sz':=4) (es':=T[i].sl.map rL) T[i].sl.length rfl rfl rfl (aW hg1 rfl rfl rfl) rfl (by simp) ?_;conv=>whnf
  refine aC (k:=c / 4) rfl rfl rfl hj1 ?_;conv=>whnf
  refine bq rfl rfl rfl (aW hxg rfl rfl rfl) rfl ?_;conv=>whnf
  obtain⟨y,hy⟩:∃y,(⟨x.kd,x.pl,true,x.us⟩:Slot)=y:=⟨_,rfl⟩;have hyp:y.pl=f:=by rw[←hy];exact e1
  have hyg:((T[i].sl.set (c / 4) y).map rL)[c / 4]?=some (rL y):=by rw[List.getElem?_map,List.getElem?_set_self hj1];rfl
  have hLy:(T[i].sl.map rL).modify (c / 4) (fun row=>row.set 2 (.sc (.bool true)))=(T[i].sl.set (c / 4) y).map rL:=by rw[aV hxg,←map_set,←hy];rfl
  have hTy:(T.map rP).modify i (fun row=>row.set 2 (.sl 4 ((((T[i].sl.set (c / 4) y).map rL).drop 0).take T[i].sl.length)))=(aQ T i (c / 4) y).map rP:=by rw[List.drop_zero,List.take_of_length_le (by simp),←map_set];exact ck hi1
  have hslot:(ae ⟨ram',swp',aQ T i (c / 4) y,hd'⟩ i (c / 4)).pl=f:=by rw[show ae ⟨ram',swp',aQ T i (c / 4) y,hd'⟩ i (c / 4)=y by simp[ae,aQ,hi1,hj1]];exact hyp
  have gt:ram'.tx[f]?.getD []=ram'.tx[f]:=by simp[hft]
  rw[gt]at e4;refine CondP.mk (fun c3=>?ca) (fun c3=>?cb)<;>rw[c3]<;>(conv=>whnf)<;>repeat' first|(refine aF ?_;conv=>whnf)|(refine aD ?_;conv=>whnf)
  case' ca=>
   have c3:x.ow=false:=by simpa using c3
   refine bq rfl rfl rfl (aW hxg rfl rfl rfl) rfl ?_
   (conv=>whnf)<;>repeat' first|(refine aF ?_;conv=>whnf)|(refine aD ?_;conv=>whnf)
   refine aC (k:=f) rfl rfl (by show some _=some _;rw[e1]) (by simpa using hfr) ?_
   (conv=>whnf)<;>repeat' first|(refine aF ?_;conv=>whnf)|(refine aD ?_;conv=>whnf)
   refine bq rfl rfl rfl (aW (row:=rI ram'.rf[f]) (by simp[hfr]) rfl rfl rfl) rfl ?_
   (conv=>whnf)<;>repeat' first|(refine aF ?_;conv=>whnf)|(refine aD ?_;conv=>whnf)
   refine CondP.mk (fun c4=>?cr) (fun c4=>?cc)<;>conv=>whnf
   case' cc=>
    have c4:¬1<ram'.rf[f]:=by simpa using c4
    have ho:fW ⟨ram',swp',T,hd'⟩ i (c / 4)=some ⟨ram',swp',aQ T i (c / 4) y,hd'⟩:=by rw[fW,hx1,if_neg (fun c=>c4 (by have:=c.2;rw[e1,Int.toNat_natCast,hrf]at this;exact this)),←hy]
    simp only[List.drop_zero,List.take_length]
  case' cb=>
   have c3:x.ow=true:=by simpa using c3
   have ho:fW ⟨ram',swp',T,hd'⟩ i (c / 4)=some ⟨ram',swp',aQ T i (c / 4) y,hd'⟩:=by rw[fW,hx1,if_neg (fun c=>by rw[c3]at c;exact absurd c.1 (by decide)),←hy]
  case cr=>
   have c3:x.ow=false:=by simpa using c3
   have c4:1<ram'.rf[f]:=by simpa using c4
   have hcond:x.ow=false∧1<ram'.rf[x.pl.toNat]?.getD 0:=⟨c3,by rw[e1,Int.toNat_natCast,hrf];exact c4⟩;refine bq rfl rfl rfl (aW hxg rfl rfl rfl) rfl ?_;conv=>whnf
   simp only[List.drop_zero,List.take_length];clear hyg hLy hTy hslot;have hroom:=rm (T.map rP) ⟨ram',swp',T,hd'⟩ x.pl w1 (by simp[l1.sp]) (by simp[rP]);subst hT;obtain⟨ram2,swp2,u0,u1,u2,u3,u4,hd2,hm2,p0,p1,p2,p3,p4⟩:=v5 (but:=x.pl) w1;rw[hm2]at hroom;have hi5:i<5:=by simpa using hi1
   obtain⟨W,hW⟩:∃W,([u0,u1,u2,u3,u4].map rP).set i (rP ([t0,t1,t2,t3,t4][i]))=W:=⟨_,rfl⟩;have hsame:g7 [t0,t1,t2,t3,t4] [u0,u1,u2,u3,u4]:=⟨rfl,fun q h h'=>by
    have hc:q=0∨q=1∨q=2∨q=3∨q=4:=by simp at h;omega
    rcases hc with rfl|rfl|rfl|rfl|rfl
    ·exact p0
    ·exact p1
    ·exact p2
    ·exact p3
    ·exact p4⟩
   have hiU:i< [u0,u1,u2,u3,u4].length:=by simpa using hi5
   obtain⟨y2,hy2⟩:∃y2,(⟨x.kd,(aN ram2.rf:Int),true,x.us⟩:Slot)=y2:=⟨_,rfl⟩;obtain⟨S,hS⟩:∃S,spS [u0,u1,u2,u3,u4] i=S:=⟨_,rfl⟩;have hSU:[u0,u1,u2,u3,u4][i].sl=S:=by rw[←hS,iN hiU]
   have hWg:W[i]?=some (rP ([t0,t1,t2,t3,t4][i])):=by rw[←hW];exact List.getElem?_set_self (by simpa using hi5)
   have hW2:W.modify i (fun row=>row.set 2 (.sl 4 ((((S.set (c / 4) y2).map rL).drop 0).take S.length)))=(aQ [u0,u1,u2,u3,u4] i (c / 4) y2).map rP:=by rw[←hSU];obtain⟨q1,q2, -⟩:=hsame.2 i hi1 hiU;rw[aV hWg,←hW,List.set_set,List.drop_zero,List.take_of_length_le (by simp),←ck hiU,aV (aj (f:=rP) (List.getElem?_eq_getElem hiU)),←map_set];simp only[rP,q1,q2];rfl
   have hc:i=0∨i=1∨i=2∨i=3∨i=4:=by omega
   rcases hc with rfl|rfl|rfl|rfl|rfl
   case' inl=>
    refine il (Hr:=oHm ([t0,t1,t2,t3,t4].map rP) ⟨ram2,swp2,[u0,u1,u2,u3,u4],hd2⟩) (r:=.tup [.one (dI (gj ⟨ram',swp',[t0,t1,t2,t3,t4],hd'⟩ x.pl)),.one (dB (bR ⟨ram',swp',[t0,t1,t2,t3,t4],hd'⟩ x.pl).isSome)]) [.h 3 4 2,.h 3 3 2,.h 3 2 2,.h 3 1 2] [.pass,.pass] [2,3,4,8,7,6,5] noJ mI rfl ?_;conv=>whnf
    simp only[List.length_map];refine⟨_,_,_,_,rfl,rfl,rfl,rfl,(hroom.perm jt).toJ,(bV rfl rfl (by rfl) rfl).trans ((gV rfl rfl (by rfl) rfl).trans ((aI rfl rfl (by simp[spS,p0.2.2])).trans ((aI rfl rfl (by simp[spS,p1.2.2])).trans ((aI rfl rfl (by simp[spS,p2.2.2])).trans ((aI rfl rfl (by simp[spS,p3.2.2])).trans ((aI rfl rfl (by simp[spS,p4.2.2])).trans rfl)))))),?_⟩;conv=>whnf
    refine aX (lo:=0) (len:=u1.sl.length) rfl rfl rfl rfl (bG (t:=u1) rfl p1.1 p1.2.1) rfl ?_;conv=>whnf
    refine aX (lo:=0) (len:=u2.sl.length) rfl rfl rfl rfl (bG (t:=u2) rfl p2.1 p2.2.1) rfl ?_;conv=>whnf
    refine aX (lo:=0) (len:=u3.sl.length) rfl rfl rfl rfl (bG (t:=u3) rfl p3.1 p3.2.1) rfl ?_;conv=>whnf
    refine aX (lo:=0) (len:=u4.sl.length) (es2:=W) rfl rfl rfl rfl ((bG (t:=u4) rfl p4.1 p4.2.1).trans hW) rfl ?_;conv=>whnf
   case' inr.inl=>
    refine il (Hr:=oHm ([t0,t1,t2,t3,t4].map rP) ⟨ram2,swp2,[u0,u1,u2,u3,u4],hd2⟩) (r:=.tup [.one (dI (gj ⟨ram',swp',[t0,t1,t2,t3,t4],hd'⟩ x.pl)),.one (dB (bR ⟨ram',swp',[t0,t1,t2,t3,t4],hd'⟩ x.pl).isSome)]) [.h 3 4 2,.h 3 3 2,.h 3 2 2,.h 3 0 2] [.pass,.pass] [2,3,8,4,7,6,5] noJ mI rfl ?_;conv=>whnf
    simp only[List.length_map];refine⟨_,_,_,_,rfl,rfl,rfl,rfl,(hroom.perm jt).toJ,(bV rfl rfl (by rfl) rfl).trans ((gV rfl rfl (by rfl) rfl).trans ((aI rfl rfl (by simp[spS,p0.2.2])).trans ((aI rfl rfl (by simp[spS,p1.2.2])).trans ((aI rfl rfl (by simp[spS,p2.2.2])).trans ((aI rfl rfl (by simp[spS,p3.2.2])).trans ((aI rfl rfl (by simp[spS,p4.2.2])).trans rfl)))))),?_⟩;conv=>whnf
    refine aX (lo:=0) (len:=u0.sl.length) rfl rfl rfl rfl (bG (t:=u0) rfl p0.1 p0.2.1) rfl ?_;conv=>whnf
    refine aX (lo:=0) (len:=u2.sl.length) rfl rfl rfl rfl (bG (t:=u2) rfl p2.1 p2.2.1) rfl ?_;conv=>whnf
    refine aX (lo:=0) (len:=u3.sl.length) rfl rfl rfl rfl (bG (t:=u3) rfl p3.1 p3.2.1) rfl ?_;conv=>whnf
    refine aX (lo:=0) (len:=u4.sl.length) (es2:=W) rfl rfl rfl rfl ((bG (t:=u4) rfl p4.1 p4.2.1).trans hW) rfl ?_;conv=>whnf
   case' inr.inr.inl=>
    refine il (Hr:=oHm ([t0,t1,t2,t3,t4].map rP) ⟨ram2,swp2,[u0,u1,u2,u3,u4],hd2⟩) (r:=.tup [.one (dI (gj ⟨ram',swp',[t0,t1,t2,t3,t4],hd'⟩ x.pl)),.one (dB (bR ⟨ram',swp',[t0,t1,t2,t3,t4],hd'⟩ x.pl).isSome)]) [.h 3 4 2,.h 3 3 2,.h 3 1 2,.h 3 0 2] [.pass,.pass] [2,3,8,7,4,6,5] noJ mI rfl ?_;conv=>whnf
    simp only[List.length_map];refine⟨_,_,_,_,rfl,rfl,rfl,rfl,(hroom.perm jt).toJ,(bV rfl rfl (by rfl) rfl).trans ((gV rfl rfl (by rfl) rfl).trans ((aI rfl rfl (by simp[spS,p0.2.2])).trans ((aI rfl rfl (by simp[spS,p1.2.2])).trans ((aI rfl rfl (by simp[spS,p2.2.2])).trans ((aI rfl rfl (by simp[spS,p3.2.2])).trans ((aI rfl rfl (by simp[spS,p4.2.2])).trans rfl)))))),?_⟩;conv=>whnf
    refine aX (lo:=0) (len:=u0.sl.length) rfl rfl rfl rfl (bG (t:=u0) rfl p0.1 p0.2.1) rfl ?_;conv=>whnf
    refine aX (lo:=0) (len:=u1.sl.length) rfl rfl rfl rfl (bG (t:=u1) rfl p1.1 p1.2.1) rfl ?_;conv=>whnf
    refine aX (lo:=0) (len:=u3.sl.length) rfl rfl rfl rfl (bG (t:=u3) rfl p3.1 p3.2.1) rfl ?_;conv=>whnf
    refine aX (lo:=0) (len:=u4.sl.length) (es2:=W) rfl rfl rfl rfl ((bG (t:=u4) rfl p4.1 p4.2.1).trans hW) rfl ?_;conv=>whnf
   case' inr.inr.inr.inl=>
    refine il (Hr:=oHm ([t0,t1,t2,t3,t4].map rP) ⟨ram2,swp2,[u0,u1,u2,u3,u4],hd2⟩) (r:=.tup [.one (dI (gj ⟨ram',swp',[t0,t1,t2,t3,t4],hd'⟩ x.pl)),.one (dB (bR ⟨ram',swp',[t0,t1,t2,t3,t4],hd'⟩ x.pl).isSome)]) [.h 3 4 2,.h 3 2 2,.h 3 1 2,.h 3 0 2] [.pass,.pass] [2,3,8,7,6,4,5] noJ mI rfl ?_;conv=>whnf
    simp only[List.length_map];refine⟨_,_,_,_,rfl,rfl,rfl,rfl,(hroom.perm jt).toJ,(bV rfl rfl (by rfl) rfl).trans ((gV rfl rfl (by rfl) rfl).trans ((aI rfl rfl (by simp[spS,p0.2.2])).trans ((aI rfl rfl (by simp[spS,p1.2.2])).trans ((aI rfl rfl (by simp[spS,p2.2.2])).trans ((aI rfl rfl (by simp[spS,p3.2.2])).trans ((aI rfl rfl (by simp[spS,p4.2.2])).trans rfl)))))),?_⟩;conv=>whnf
    refine aX (lo:=0) (len:=u0.sl.length) rfl rfl rfl rfl (bG (t:=u0) rfl p0.1 p0.2.1) rfl ?_;conv=>whnf
    refine aX (lo:=0) (len:=u1.sl.length) rfl rfl rfl rfl (bG (t:=u1) rfl p1.1 p1.2.1) rfl ?_;conv=>whnf
    refine aX (lo:=0) (len:=u2.sl.length) rfl rfl rfl rfl (bG (t:=u2) rfl p2.1 p2.2.1) rfl ?_;conv=>whnf
    refine aX (lo:=0) (len:=u4.sl.length) (es2:=W) rfl rfl rfl rfl ((bG (t:=u4) rfl p4.1 p4.2.1).trans hW) rfl ?_;conv=>whnf
   case' inr.inr.inr.inr=>
    refine il (Hr:=oHm ([t0,t1,t2,t3,t4].map rP) ⟨ram2,swp2,[u0,u1,u2,u3,u4],hd2⟩) (r:=.tup [.one (dI (gj ⟨ram',swp',[t0,t1,t2,t3,t4],hd'⟩ x.pl)),.one (dB (bR ⟨ram',swp',[t0,t1,t2,t3,t4],hd'⟩ x.pl).isSome)]) [.h 3 3 2,.h 3 2 2,.h 3 1 2,.h 3 0 2] [.pass,.pass] [2,3,8,7,6,5,4] noJ mI rfl ?_;conv=>whnf
    simp only[List.length_map];refine⟨_,_,_,_,rfl,rfl,rfl,rfl,(hroom.perm jt).toJ,(bV rfl rfl (by rfl) rfl).trans ((gV rfl rfl (by rfl) rfl).trans ((aI rfl rfl (by simp[spS,p0.2.2])).trans ((aI rfl rfl (by simp[spS,p1.2.2])).trans ((aI rfl rfl (by simp[spS,p2.2.2])).trans ((aI rfl rfl (by simp[spS,p3.2.2])).trans ((aI rfl rfl (by simp[spS,p4.2.2])).trans rfl)))))),?_⟩;conv=>whnf
    refine aX (lo:=0) (len:=u0.sl.length) rfl rfl rfl rfl (bG (t:=u0) rfl p0.1 p0.2.1) rfl ?_;conv=>whnf
    refine aX (lo:=0) (len:=u1.sl.length) rfl rfl rfl rfl (bG (t:=u1) rfl p1.1 p1.2.1) rfl ?_;conv=>whnf
    refine aX (lo:=0) (len:=u2.sl.length) rfl rfl rfl rfl (bG (t:=u2) rfl p2.1 p2.2.1) rfl ?_;conv=>whnf
    refine aX (lo:=0) (len:=u3.sl.length) (es2:=W) rfl rfl rfl rfl ((bG (t:=u3) rfl p3.1 p3.2.1).trans hW) rfl ?_;conv=>whnf
   all_goals
    cases hr:bR ⟨ram',swp',[t0,t1,t2,t3,t4],hd'⟩ x.pl with
    |none=>
     have ho:=xI hx1 hcond hr;rw[ho]at hset
     (conv=>whnf)<;>repeat' first|(refine aF ?_;conv=>whnf)|(refine aD ?_;conv=>whnf)
     refine aB [.pass] rfl rfl rfl (kA b1 b2 b3 b4 b5 ⟨ram,swp,[s0,s1,s2,s3,s4],hd⟩ hfits) rfl ?_;conv=>whnf
     refine aX (lo:=0) rfl (bZ hWg (by simp[rP]) (by simp only[ai,if_true];rfl)) rfl rfl rfl (by simp only[bJ,if_true];rfl) ?_;conv=>whnf
     refine⟨?_,rfl⟩;rw[hset];simp[oM,dI]
    |some m2=>
     rw[hr,Option.getD_some]at hm2;subst hm2;obtain⟨w2,hf⟩:=w1.bR hr;have l2:=w2.L;dsimp only at hf;have ho:=px hx1 hcond hr;rw[ho]at hset;obtain⟨hi2,hj2,ex2, -⟩:=f8 (cN w1 hr) hi1 hj1 (.inr (by rw[hx1]));rw[hx1]at ex2;have hj2:c / 4<S.length:=by rw[←hSU];exact hj2
     have hxg2:(S.map rL)[c / 4]?=some (rL x):=by rw[←ex2];simp only[←hSU];exact aj (f:=rL) (List.getElem?_eq_getElem _)
     have hL2:((S.map rL).modify (c / 4) (fun row=>row.set 1 (.sc (.int .i64 (aN ram2.rf:Int))))).modify (c / 4) (fun row=>row.set 2 (.sc (.bool true)))=(S.set (c / 4) y2).map rL:=by rw[aV hxg2,aV (List.getElem?_set_self (by simpa using hj2)),List.set_set,←map_set,←hy2];rfl
     have hyg2:((S.set (c / 4) y2).map rL)[c / 4]?=some (rL y2):=by rw[List.getElem?_map,List.getElem?_set_self hj2];rfl
     dsimp only;rw[hS];have hF:gj ⟨ram',swp',[t0,t1,t2,t3,t4],hd'⟩ x.pl=(aN ram2.rf:Int):=by rw[gj,hr]
     have hft2:f<ram2.tx.length:=by rw[l2.rt];exact f12
     have hFt:aN ram2.rf<ram2.tx.length:=by rw[l2.rt];exact hf
     have hFr:aN ram2.rf<ram2.rf.length:=by rw[l2.rr];exact hf
     (conv=>whnf)<;>repeat' first|(refine aF ?_;conv=>whnf)|(refine aD ?_;conv=>whnf)
     refine bq rfl rfl rfl (aW hxg2 rfl rfl rfl) rfl ?_;conv=>whnf
     refine aC (k:=f) rfl rfl (by show some _=some _;rw[e1]) (by simpa using hft2) ?_;conv=>whnf
     refine bq rfl rfl rfl (aW (row:=rS ram2.tx[f]) (by simp[hft2]) rfl rfl rfl) rfl ?_;conv=>whnf
     refine aC (k:=aN ram2.rf) rfl rfl (by show some _=some _;rw[hF]) (by simpa using hFt) ?_;conv=>whnf
     refine aG rfl rfl rfl (by simpa using hFt) (by decide) ?_;conv=>whnf
     refine aC (k:=aN ram2.rf) rfl rfl (by show some _=some _;rw[hF]) (by simpa using hFr) ?_;conv=>whnf
     refine aG rfl rfl rfl (by simpa using hFr) (by decide) ?_;conv=>whnf
     have hne:aN ram2.rf≠f:=fun e=>by have:=tC (f:=f) w1 (by rw[←e1];exact hr);have h0:=gW hFr;rw[e,this]at h0;dsimp only at h0;omega
     obtain⟨q,hq⟩:∃q,ab ram2 (aN ram2.rf) ram2.tx[f] 1=q:=⟨_,rfl⟩;have hqt:ram2.tx.set (aN ram2.rf) ram2.tx[f]=q.tx:=by rw[←hq];rfl
     have hqr:ram2.rf.set (aN ram2.rf) 1=q.rf:=by rw[←hq];rfl
     have hql:q.tx.length=ram2.tx.length:=by rw[←hqt,List.length_set]
     have hqm:q.rf.length=ram2.rf.length:=by rw[←hqr,List.length_set]
     dsimp only;rw[gB hFt,jB hFr,hqt,hqr,hF];simp only[List.drop_zero,List.length_map,jj hql,jj hqm];have hq1:f<q.tx.length:=by omega
     have hq2:f<q.rf.length:=by rw[hqm,l2.rr];exact f12
     have hqb:0≤q.rf[f]?.getD 0∧q.rf[f]?.getD 0≤1000:=by rw[←hq];exact(w2.ram.take (t:=ram2.tx[f]) (n:=1) (k:=aN ram2.rf) (by decide)).get
     rw[show q.rf[f]?.getD 0=q.rf[f] by simp[hq2]]at hqb;refine bq rfl rfl rfl (aW hxg2 rfl rfl rfl) rfl ?_;conv=>whnf
     have hgv:=fun i len2 es2=>aAN ⟨q,swp2,[],hd2⟩ f 5 i len2 W es2 hq1 hq2 (by show-1000≤q.rf[f]∧q.rf[f]≤1000;omega)
     rw[←e1]at hgv;refine bp [.pass,.pass] [2,3,4] rfl rfl rfl rfl (hgv _ _ _) rfl ((bV rfl rfl (by rfl) rfl).trans ((gV rfl rfl (by rfl) rfl).trans ((aI rfl rfl (by rfl)).trans rfl))) ?_;conv=>whnf
     refine aG rfl rfl rfl (by simpa using hj2) (by decide) ?_;conv=>whnf
     refine aG rfl rfl rfl (by simpa using hj2) (by decide) ?_;conv=>whnf
     rw[hL2];obtain⟨ho',l3,hy3,r4⟩:=zF w1 hi1 hj1 hx1 hk1 e1 hcond hr hy2 hft2 hq;rw[ho']at ho;rw[←Option.some.inj ho]at hset;have h3t:=l3.rt;have h3r:=l3.rr;have h3s:=l3.sp;dsimp only at h3t h3r h3s r4 hy3;obtain⟨g,hg⟩:∃g,dn q f=g:=⟨_,rfl⟩;rw[hg]at h3t h3r hy3 r4 hset;dsimp only;rw[hg];have hFg:aN ram2.rf<g.tx.length:=by rw[h3t];exact hf
     have gtF:g.tx[aN ram2.rf]?.getD []=g.tx[aN ram2.rf]:=by simp[hFg]
     rw[gtF]at r4;refine bq rfl rfl rfl (aW hyg2 rfl rfl rfl) rfl ?_;conv=>whnf
     refine bq rfl rfl rfl (aW hyg2 rfl rfl rfl) rfl ?_;conv=>whnf
     refine aC (k:=aN ram2.rf) rfl rfl (by show some _=some _;rw[←hy2]) (by simpa using hFg) ?_;conv=>whnf
     refine bq rfl rfl rfl (aW (row:=rS g.tx[aN ram2.rf]) (by simp[hFg]) rfl rfl rfl) rfl ?_;conv=>whnf
     refine dm rfl ?_;conv=>whnf
     simp only[aCh];refine aB [.pass,.pass,.pass] rfl rfl rfl (wY g.tx[aN ram2.rf] (c % 4) b (by omega)) rfl ?_;conv=>whnf
     refine aC (k:=aN ram2.rf) rfl rfl (by show some _=some _;rw[←hy2]) (by simpa using hFg) ?_;conv=>whnf
     refine aG rfl rfl rfl (by simpa using hFg) (by decide) ?_;conv=>whnf
     refine aX (lo:=0) (len:=S.length) rfl (bZ hWg (by simp[rP]) (by simp only[ai,if_true];rfl)) rfl rfl hW2 (by simp only[bJ,if_true];rfl) ?_;conv=>whnf
     rw[gB hFg,hset];refine⟨?_,rfl⟩;have hyp2:y2.pl=(aN ram2.rf:Int):=by rw[←hy2]
     simp only[hy3,hyp2,Int.toNat_natCast,iH,gtF];obtain⟨X,hX⟩:∃X,g.tx.set (aN ram2.rf) (oQ g.tx[aN ram2.rf] (c % 4) b)=X:=⟨_,rfl⟩;have hXl:X.length=g.tx.length:=by rw[←hX,List.length_set]
     rw[hX];simp[oM,dI,hXl,jj hXl,h3s,jj h3s]
  all_goals
   rw[ho]at hset;refine aG rfl rfl rfl (by simpa using hj1) (by decide) ?_;conv=>whnf
   rw[hLy];refine bq rfl rfl rfl (aW hyg rfl rfl rfl) rfl ?_;conv=>whnf
   refine bq rfl rfl rfl (aW hyg rfl rfl rfl) rfl ?_;conv=>whnf
   refine aC (k:=f) rfl rfl (by show some _=some _;rw[hyp]) (by simpa using hft) ?_;conv=>whnf
   refine bq rfl rfl rfl (aW (row:=rS ram'.tx[f]) (by simp[hft]) rfl rfl rfl) rfl ?_;conv=>whnf
   refine dm rfl ?_;conv=>whnf
   simp only[aCh];refine aB [.pass,.pass,.pass] rfl rfl rfl (wY ram'.tx[f] (c % 4) b (by omega)) rfl ?_;conv=>whnf
   refine aC (k:=f) rfl rfl (by show some _=some _;rw[hyp]) (by simpa using hft) ?_;conv=>whnf
   refine aG rfl rfl rfl (by simpa using hft) (by decide) ?_;conv=>whnf
   refine aX (i:=i) (k:=2) (g':=4) (lo:=0) (len:=T[i].sl.length) (es2:=(aQ T i (c / 4) y).map rP) (ov2:=[]) rfl (bZ hg1 (by simp[rP]) (by simp only[ai,if_true];rfl)) rfl rfl hTy (by simp only[bJ,if_true];rfl) ?_;conv=>whnf
   rw[gB hft,hset];refine⟨?_,rfl⟩;simp only[hslot,Int.toNat_natCast,iH,gt];obtain⟨X,hX⟩:∃X,ram'.tx.set f (oQ ram'.tx[f] (c % 4) b)=X:=⟨_,rfl⟩;have hXl:X.length=ram'.tx.length:=by rw[←hX,List.length_set]
   have hSl:=uN (sp:=T) (i:=i) (j:=c / 4) (x:=y);rw[hX];simp[oM,dI,hXl,jj hXl,hSl,jj hSl]
end Go.Qm
namespace Go.Qm
open Go.Cq Go.Cq.D Go.RowKit Go.Proofs
set_option maxRecDepth 10000
theorem Wf.small{m m':Mem}(w:Wf m')(hs:g7 m.sp m'.sp)(h:m.fits 16):m'.fits 16:=by
 refine⟨by rw[w.ram.tx];omega,by rw[w.ram.rf];omega,by rw[w.swp.tx];omega,by rw[w.swp.rf];omega,by rw[w.sp];omega,fun s hs'=>?_⟩;obtain⟨q,hq,rfl⟩:=List.getElem_of_mem hs';have hq':q<m.sp.length:=by rw[←hs.1];exact hq
 obtain⟨-,e2,e3⟩:=hs.2 q hq' hq;rw[e2,e3];exact h.ss _ (List.getElem_mem hq')
theorem vX:jX.fits 16:=⟨by simp[jX],by simp[jX],by simp[jX],by simp[jX],by simp[jX],fun s hs=>by simp[jX]at hs⟩
end Go.Qm
namespace Go.Qm
open Go.Cq Go.Cq.D Go.RowKit Go.Proofs
set_option maxRecDepth 10000
theorem rG{m:Mem}{who a b:Int}:(dt m who a b).1.fits 16:=by
 unfold dt;split
 ·rename_i h;simp only[Bool.and_eq_true]at h;have w:=pT h.1;have hs:=tL h.1;obtain⟨i,rfl,hi,hlv⟩:=ko h.2.1;have hsl:=(od h.1 hi hlv).2.2;have h4:=h.2.2.1;simp only[inB,Bool.and_eq_true,decide_eq_true_eq]at h4;rw[Int.toNat_natCast];unfold cH;split
  ·exact hs
  ·split
   ·exact hs
   ·split
    ·exact hs
    ·rename_i m2 hb;simp only[Option.bind_eq_some_iff]at hb;obtain⟨m1,hb,ho⟩:=hb;have hj:a.toNat / 4<m.sp[i].sl.length:=by omega
     have w1:=w.aAr hi hj hb;obtain⟨hi1,hj1,hk1⟩:=ki w hi hj hb;obtain⟨w2,s2, -⟩:=w1.own hi1 hj1 (by rw[dM hi1 hj1];exact hk1) ho;have hf:=w2.small ((jA w hb).trans s2) hs;exact⟨by simpa [iH]using hf.rt,hf.rr,hf.st,hf.sr,hf.sp,hf.ss⟩
 ·exact vX
set_option maxHeartbeats 4000000 in
theorem rO(hc:vD)(b1 b2 b3 b4 b5:Bool)(m:Mem)(who a b:Int)(hw:m.inW):af Try.prog 18 [aM b1 b2 b3 b4 b5 m,.one (dI who),.one (dI a),.one (dI b)] (.v (.one (dB true))):=by
 refine aK hmix Try.func18 ok18 ?_;conv=>whnf
 refine aB [.pass,.pass] rfl rfl rfl (aAJ b1 b2 b3 b4 b5 m 1048576 (by omega) (by omega) hw) rfl ?_;conv=>whnf
 refine CondP.mk (fun h1=>?_) (fun h1=>?_)<;>conv=>whnf
 ·exact⟨rfl,rfl⟩
 have h1:0≤mf 1048576 m:=by simpa using h1
 obtain⟨hf,hwt⟩:=aAe (by omega) h1 (by omega);refine aB [.pass] rfl rfl rfl (lz b1 b2 b3 b4 b5 m hf) rfl ?_;conv=>whnf
 refine aB [.give,.pass,.pass,.pass] rfl rfl rfl (by simpa [oM,dI]using vb m who a b hf) rfl ?_;conv=>whnf
 generalize hr:dt m who a b=r;have hsm:r.1.fits 16:=by rw[←hr];exact rG
 refine aB [.pass] rfl rfl rfl (lz b1 b2 b3 b4 b5 m hf) rfl ?_;conv=>whnf
 simp only[List.drop_zero,List.take_length];have heq:af Try.prog 26 [aM true true true true true r.1,aM true true true true true r.1] (.v (.one (dB true))):=by simpa using tq true true true true true true true true true true r.1 r.1 (hsm.mono (by decide))
 refine aB (cas:=[aM true true true true true m,.one (dI who),.one (dI a),.one (dI b)]) [.lend,.pass,.pass,.pass] rfl (by show some [DV.agg [DC.ro true 1 (List.take _ (List.drop 0 _)),DC.ro true 1 (List.take _ (List.drop 0 _)),DC.ro true 1 (List.take _ (List.drop 0 _)),DC.ro true 1 (List.take _ (List.drop 0 _)),DC.ro true 3 (List.take _ (List.drop 0 _)),_],_,_,_]=_;simp only[List.drop_zero,List.take_length];rfl) rfl (qi hc true true true true true m who a b hf) rfl ?_;conv=>whnf
 simp only[hr,List.drop_zero,List.take_length];refine aB (cas:=[aM true true true true true r.1,aM true true true true true r.1]) [.lend,.lend] rfl (by show some [DV.agg [DC.ro true 1 (List.take _ (List.drop 0 _)),DC.ro true 1 (List.take _ (List.drop 0 _)),DC.ro true 1 (List.take _ (List.drop 0 _)),DC.ro true 1 (List.take _ (List.drop 0 _)),DC.ro true 3 (List.take _ (List.drop 0 _)),_],DV.agg [DC.ro true 1 (List.take _ (List.drop 0 _)),DC.ro true 1 (List.take _ (List.drop 0 _)),DC.ro true 1 (List.take _ (List.drop 0 _)),DC.ro true 1 (List.take _ (List.drop 0 _)),DC.ro true 3 (List.take _ (List.drop 0 _)),_]]=_;simp only[List.drop_zero,List.take_length];rfl) rfl heq rfl ?_
 (conv=>whnf)<;>repeat' first|(refine aF ?_;conv=>whnf)|(refine aD ?_;conv=>whnf)
 repeat (simp only;(conv=>whnf)<;>repeat' first|(refine aF ?_;conv=>whnf)|(refine aD ?_;conv=>whnf));refine aB [.pass] rfl rfl rfl (lz b1 b2 b3 b4 b5 m hf) rfl ?_;conv=>whnf
 have heq2:af Try.prog 26 [aM true true true true true m,aM true true true true true m] (.v (.one (dB true))):=by simpa using tq true true true true true true true true true true m m (hf.mono (by decide))
 simp only[List.drop_zero,List.take_length];refine aB (cas:=[aM true true true true true m,aM true true true true true m]) [.lend,.lend] rfl (by show some [DV.agg [DC.ro true 1 (List.take _ (List.drop 0 _)),DC.ro true 1 (List.take _ (List.drop 0 _)),DC.ro true 1 (List.take _ (List.drop 0 _)),DC.ro true 1 (List.take _ (List.drop 0 _)),DC.ro true 3 (List.take _ (List.drop 0 _)),_],DV.agg [DC.ro true 1 (List.take _ (List.drop 0 _)),DC.ro true 1 (List.take _ (List.drop 0 _)),DC.ro true 1 (List.take _ (List.drop 0 _)),DC.ro true 1 (List.take _ (List.drop 0 _)),DC.ro true 3 (List.take _ (List.drop 0 _)),_]]=_;simp only[List.drop_zero,List.take_length];rfl) rfl heq2 rfl ?_
 (conv=>whnf)<;>repeat' first|(refine aF ?_;conv=>whnf)|(refine aD ?_;conv=>whnf)
 simp only[List.drop_zero,List.take_length];simp only[List.length_map];refine eT [.pass,.pass] [24,25,26,27,28] rfl rfl rfl rfl (oE m 1 hf (by omega) (by omega)) fun res H3 hp=>?_
 obtain⟨rfl,rfl⟩:=hp;refine⟨rfl,rfl,_,(aI rfl rfl (by simp[dF,bf,aq])).trans ((aI rfl rfl (by simp[dF,bf,aq])).trans ((aI rfl rfl (by simp[dF,bf,aq])).trans ((aI rfl rfl (by simp[dF,bf,aq])).trans ((aI rfl rfl (by simp[dF,bf,aq])).trans rfl)))),?_⟩
 (conv=>whnf)<;>repeat' first|(refine aF ?_;conv=>whnf)|(refine aD ?_;conv=>whnf)
 refine aB (cas:=[aM true true true true true r.1,aM true true true true true r.1]) [.lend,.lend] rfl (by show some [DV.agg [DC.ro true 1 (List.take _ (List.drop 0 _)),DC.ro true 1 (List.take _ (List.drop 0 _)),DC.ro true 1 (List.take _ (List.drop 0 _)),DC.ro true 1 (List.take _ (List.drop 0 _)),DC.ro true 3 (List.take _ (List.drop 0 _)),_],DV.agg [DC.ro true 1 (List.take _ (List.drop 0 _)),DC.ro true 1 (List.take _ (List.drop 0 _)),DC.ro true 1 (List.take _ (List.drop 0 _)),DC.ro true 1 (List.take _ (List.drop 0 _)),DC.ro true 3 (List.take _ (List.drop 0 _)),_]]=_;simp only[List.drop_zero,List.take_length];rfl) rfl heq rfl ?_
 (conv=>whnf)<;>repeat' first|(refine aF ?_;conv=>whnf)|(refine aD ?_;conv=>whnf)
 repeat (simp only;(conv=>whnf)<;>repeat' first|(refine aF ?_;conv=>whnf)|(refine aD ?_;conv=>whnf));simp only[List.drop_zero,List.take_length];simp only[List.length_map];have hwr:=aAl hsm;refine eT [.pass,.pass] [24,25,26,27,28] rfl rfl rfl rfl (oE r.1 1 (hsm.mono (by decide)) (by omega) (by omega)) fun res H3 hp=>?_
 obtain⟨rfl,rfl⟩:=hp;refine⟨rfl,rfl,_,(aI rfl rfl (by simp[dF,bf,aq])).trans ((aI rfl rfl (by simp[dF,bf,aq])).trans ((aI rfl rfl (by simp[dF,bf,aq])).trans ((aI rfl rfl (by simp[dF,bf,aq])).trans ((aI rfl rfl (by simp[dF,bf,aq])).trans rfl)))),?_⟩;conv=>whnf
 have e1:List.take r.1.ram.tx.length (List.map rS (dF 1 r.1).ram.tx)=List.map rS (dF 1 r.1).ram.tx:=List.take_of_length_le (by simp[dF,bf,aq]);have e2:List.take r.1.ram.rf.length (List.map rI (dF 1 r.1).ram.rf)=List.map rI (dF 1 r.1).ram.rf:=List.take_of_length_le (by simp[dF,bf,aq]);have e3:List.take r.1.swp.tx.length (List.map rS (dF 1 r.1).swp.tx)=List.map rS (dF 1 r.1).swp.tx:=List.take_of_length_le (by simp[dF,bf,aq]);have e4:List.take r.1.swp.rf.length (List.map rI (dF 1 r.1).swp.rf)=List.map rI (dF 1 r.1).swp.rf:=List.take_of_length_le (by simp[dF,bf,aq]);have e5:List.take r.1.sp.length (List.map rP (dF 1 r.1).sp)=List.map rP (dF 1 r.1).sp:=List.take_of_length_le (by simp[dF,bf,aq]);simp only[List.drop_zero,e1,e2,e3,e4,e5];generalize hg:dF 1 r.1=g at*;have hgf:g.fits 1048576:=by rw[←hg];exact aBs.2 (hsm.mono (by decide))
 have hgw:g.wt=r.1.wt:=by rw[←hg];exact ye
 have hheld:af Try.prog 28 [aM true true true true true g,.one (dI 1)] (.v (.one (dI (1+r.1.wt)))):=by have:=uy true true true true true g 1 hgf (by omega) (by omega);rw[←hg,aCn]at this;rw[←hg];exact this
 have ehd:r.1.hd=g.hd:=by rw[←hg];rfl
 simp only[ehd];refine aB (cas:=[aM true true true true true g,.one (dI 1)]) [.lend,.pass] rfl (by show some [DV.agg [DC.ro true 1 (List.take _ (List.drop 0 _)),DC.ro true 1 (List.take _ (List.drop 0 _)),DC.ro true 1 (List.take _ (List.drop 0 _)),DC.ro true 1 (List.take _ (List.drop 0 _)),DC.ro true 3 (List.take _ (List.drop 0 _)),_],_]=_;simp only[List.drop_zero,List.take_length];rfl) rfl hheld rfl ?_
 (conv=>whnf)<;>repeat' first|(refine aF ?_;conv=>whnf)|(refine aD ?_;conv=>whnf)
 refine CondP.mk (fun h=>by simp at h) (fun _=>?_);conv=>whnf
 refine aB [.pass] rfl rfl rfl (lz b1 b2 b3 b4 b5 m hf) rfl ?_;conv=>whnf
 simp only[List.drop_zero,List.take_length];refine aB (cas:=[aM true true true true true m,.one (dI who),.one (dI a),.one (dI b)]) [.lend,.pass,.pass,.pass] rfl (by show some [DV.agg [DC.ro true 1 (List.take _ (List.drop 0 _)),DC.ro true 1 (List.take _ (List.drop 0 _)),DC.ro true 1 (List.take _ (List.drop 0 _)),DC.ro true 1 (List.take _ (List.drop 0 _)),DC.ro true 3 (List.take _ (List.drop 0 _)),_],_,_,_]=_;simp only[List.drop_zero,List.take_length];rfl) rfl (qi hc true true true true true m who a b hf) rfl ?_;conv=>whnf
 simp only[hr,List.drop_zero,List.take_length];refine aB (cas:=[aM true true true true true r.1,aM true true true true true r.1]) [.lend,.lend] rfl (by show some [DV.agg [DC.ro true 1 (List.take _ (List.drop 0 _)),DC.ro true 1 (List.take _ (List.drop 0 _)),DC.ro true 1 (List.take _ (List.drop 0 _)),DC.ro true 1 (List.take _ (List.drop 0 _)),DC.ro true 3 (List.take _ (List.drop 0 _)),_],DV.agg [DC.ro true 1 (List.take _ (List.drop 0 _)),DC.ro true 1 (List.take _ (List.drop 0 _)),DC.ro true 1 (List.take _ (List.drop 0 _)),DC.ro true 1 (List.take _ (List.drop 0 _)),DC.ro true 3 (List.take _ (List.drop 0 _)),_]]=_;simp only[List.drop_zero,List.take_length,aM,ehd,dI]) rfl heq rfl ?_
 (conv=>whnf)<;>repeat' first|(refine aF ?_;conv=>whnf)|(refine aD ?_;conv=>whnf)
 repeat (simp only;(conv=>whnf)<;>repeat' first|(refine aF ?_;conv=>whnf)|(refine aD ?_;conv=>whnf));refine aB (cas:=[aM true true true true true g,.one (dI 1)]) [.lend,.pass] rfl (by show some [DV.agg [DC.ro true 1 (List.take _ (List.drop 0 _)),DC.ro true 1 (List.take _ (List.drop 0 _)),DC.ro true 1 (List.take _ (List.drop 0 _)),DC.ro true 1 (List.take _ (List.drop 0 _)),DC.ro true 3 (List.take _ (List.drop 0 _)),_],_]=_;simp only[List.drop_zero,List.take_length];rfl) rfl hheld rfl ?_
 (conv=>whnf)<;>repeat' first|(refine aF ?_;conv=>whnf)|(refine aD ?_;conv=>whnf)
 refine CondP.mk (fun h=>by simp at h) (fun _=>?_);conv=>whnf
 exact⟨rfl,rfl⟩
end Go.Qm

