import Derived.Test.YthdipcbjhhopaaaUa
namespace Go.Qm
open Go.Cq Go.Cq.D Go.RowKit Go.Proofs
set_option maxRecDepth 10000
theorem kh{α β:Type}{f:α→β}{l:List α}{n:Nat}(h:l.length=n):(l.map f).take n=l.map f:=List.take_of_length_le (by simp[h])
theorem mA{sp:List Space}{i:Nat}(hi:i<sp.length):(sp.map rP).modify i (fun row=>row.set 1 (.sl 4 (sp[i].ar.map rA)))=sp.map rP:=by have hg:=aa (f:=rP) (List.getElem?_eq_getElem hi);rw[aX hg];exact oq hg
theorem uF{sp:List Space}{i j:Nat}{x:Slot}:(aU sp i j x).length=sp.length:=by simp[aU]
theorem qM{P:Prg}{ts:DTs}{H:DH}{n:Nat}{K:DT→DTs→DH→Nat→List Nat→Prop}{zs:List CV}{bytes:Nat}{x y:Opd}{g lo len g2 len2 sz:Nat}{es0 es2:List (List PV)}(hx:cX ts x=some (.sl g lo len))(hy:cX ts y=some (.sl g2 0 len2))(hsz:Nat.beq zs.length sz=true)(h0:Nat.blt 0 sz=true)(hg:aF H g=some (.arr sz es0 []))(hg2:aF H g2=some (.arr sz es2 []))(hl:es2.length=len2)(hs:∀row,row∈es2→gE row)(h1:(len+len2)*bytes≤140737488355328)(h2:len+len2≤140737488355328)(h:K (.v (.one (.sl n 0 (len+len2)))) ts ((n,.arr sz ((es0.drop lo).take len++es2) [])::dm g H) (n+1) [g]):OpP P (.app zs bytes x y) ts H n K:=by
 have e:=Nat.eq_of_beq_eq_true hsz;have e0:0<sz:=by simpa using h0
 subst hl;have ee:(es2.drop 0).take es2.length=es2:=by rw[List.drop_zero,List.take_length]
 refine⟨lh ⟨.sl g lo len,.sl g2 0 es2.length,(es2.drop 0).take es2.length,none,hx,hy,?_,by omega,?_⟩⟩
 ·rw[e];exact .copy hg2 (by rw[ee];exact hs)
 ·rw[e,ee];exact⟨es0,hg,by simp,h1,h2,h⟩
theorem aA9{sp:List Space}{Z:Nat}{A L:List (List PV)}(h:Z<sp.length):(((sp.map rP).modify Z (fun row=>row.set 0 (.sc (.bool true)))).modify Z (fun row=>row.set 2 (.sl 4 L))).modify Z (fun row=>row.set 1 (.sl 4 A))=(sp.map rP).set Z [eB true,.sl 4 A,.sl 4 L]:=by
 have hg:=aa (f:=rP) (List.getElem?_eq_getElem h);have hl:Z< (sp.map rP).length:=by simpa using h
 rw[aX hg,aX (List.getElem?_set_self hl),List.set_set,aX (List.getElem?_set_self hl),List.set_set];rfl
theorem aCP{i a la b lb:Nat}{v:CV}{es:List (List PV)}{ov:List (Nat×Nat×DC)}(h:i<es.length)(h0:ov.all (fun p=>!Nat.beq p.2.1 0)=true):wrN i 0 [.sc v,.sl a 0 la,.sl b 0 lb] (.arr 3 es ov)=some (.arr 3 (es.modify i (·.set 0 (.sc v))) ((i,2,.sl b 0 lb)::(i,1,.sl a 0 la)::ov)):=by simp only[wrN,wr1,h,h0,true_and,List.length_modify,show(0:Nat)<3 by decide,show 0+1<3 by decide,show 0+1+1<3 by decide,if_true,ite_self]
theorem we{P:Prg}{ts:DTs}{H:DH}{n:Nat}{KL:DTs→DH→DT→DTs→DH→Nat→List Nat→Prop}{x:Opd}{g i sz s1 s2:Nat}{v:CV}{a b es:List (List PV)}(la lb:Nat)(hx:cX ts x=some (.ptr g i 0))(hr:jG ts H (bz ts (COp.fl (.load (some 3) x)).reads)=true)(hg:aF H g=some (.arr sz es []))(he:es[i]?=some [.sc v,.sl s1 a,.sl s2 b])(h1:Nat.beq n g=false)(h2:Nat.beq (n+1) g=false)(ha:a.length=la)(hb:b.length=lb)(h:KL ts (cL g (.arr sz es [(i,2,.sl (n+1) 0 lb),(i,1,.sl n 0 la)]) ((n+1,.arr s2 b [])::cL g (.arr sz es [(i,1,.sl n 0 la)]) ((n,.arr s1 a [])::H))) (.v (.agg [.sc v,.sl n 0 la,.sl (n+1) 0 lb])) ts (cL g (.arr sz es [(i,2,.sl (n+1) 0 lb),(i,1,.sl n 0 la)]) ((n+1,.arr s2 b [])::cL g (.arr sz es [(i,1,.sl n 0 la)]) ((n,.arr s1 a [])::H))) (n+2) []):LdP P (.fl (.load (some 3) x)) ts H n KL:=by
 subst ha hb;have n1:¬g=n:=fun e=>Nat.ne_of_beq_eq_false h1 e.symm
 have n2:¬g=n+1:=fun e=>Nat.ne_of_beq_eq_false h2 e.symm
 have e0:∀{H:DH}{ov:List (Nat×Nat×DC)}{k:Nat}{c:DC},aF H g=some (.arr sz es ov)→(DB.arr sz es ov).cell i k=some c→∀ts,aZ ts H (.h g i k)=some c:=fun h hc ts=>by simp only[aZ,h,Option.bind_some,hc]
 have g1:aF (cL g (.arr sz es [(i,1,.sl n 0 a.length)]) ((n,.arr s1 a [])::H)) g=some (.arr sz es [(i,1,.sl n 0 a.length)]):=by rw[aq,if_pos rfl]
 have g2:aF (cL g (.arr sz es [(i,2,.sl (n+1) 0 b.length),(i,1,.sl n 0 a.length)]) ((n+1,.arr s2 b [])::cL g (.arr sz es [(i,1,.sl n 0 a.length)]) ((n,.arr s1 a [])::H))) g=some (.arr sz es [(i,2,.sl (n+1) 0 b.length),(i,1,.sl n 0 a.length)]):=by rw[aq,if_pos rfl]
 have c0:∀{ov:List (Nat×Nat×DC)},ag ov i 0=none→(DB.arr sz es ov).cell i 0=some (.sc v):=fun ho=>ah (p:=.sc v) he rfl rfl ho
 have c1:(DB.arr sz es []).cell i 1=some (.own s1 a):=ah (p:=.sl s1 a) he rfl rfl rfl;have c2:(DB.arr sz es [(i,1,.sl n 0 a.length)]).cell i 2=some (.own s2 b):=ah (p:=.sl s2 b) he rfl rfl rfl;have d1:(DB.arr sz es [(i,2,.sl (n+1) 0 b.length),(i,1,.sl n 0 a.length)]).cell i 1=some (.sl n 0 a.length):=bD he (by simp) (if_pos rfl);have d2:(DB.arr sz es [(i,2,.sl (n+1) 0 b.length),(i,1,.sl n 0 a.length)]).cell i 2=some (.sl (n+1) 0 b.length):=bD he (by simp) (if_pos rfl);refine sM hx hr (ts1:=ts) (n1:=n+2) ?_ (xw (r:=.agg [.sc v,.sl n 0 a.length,.sl (n+1) 0 b.length]) ?_ h)
 ·simp only[Option.getD_some,show List.range 3=[0,1,2]from rfl,List.map_cons,List.map_nil,Nat.zero_add,dC,exp,e0 hg (c0 rfl),e0 hg c1];simp only[fF,aT,if_neg n1,hg,DB.fK];simp only[e0 g1 c2,g1,aT,if_neg n2]
 ·simp only[dfl,hx,fU,Nat.zero_add,e0 g2 (c0 rfl),e0 g2 d1,e0 g2 d2];rfl
set_option maxHeartbeats 4000000 in
theorem xS(m:Mem)(i:Nat)(w:Wf m)(hi:i<m.sp.length)(har:∀x,x∈m.sp[i].ar→bm x=true)(hal:m.sp[i].ar.length≤1048576)(hsl:m.sp[i].sl.length=16)(hlv:m.sp[i].lv=true):
  ae Try.prog 103 [oM m,.one (dI i)] (.tup [oM (en m i).1,.one (dI (en m i).2)]):=by
 refine aJ hmix Try.func103 ok103 ?_;conv=>whnf
 simp only[List.drop_zero,List.take_length];refine aB (cas:=[aM true true true true true m]) [.lend] rfl (by show some [DV.agg [DC.ro true 1 (List.take _ (List.drop 0 _)),DC.ro true 1 (List.take _ (List.drop 0 _)),DC.ro true 1 (List.take _ (List.drop 0 _)),DC.ro true 1 (List.take _ (List.drop 0 _)),DC.ro true 3 (List.take _ (List.drop 0 _)),_]]=_;simp only[List.drop_zero,List.take_length];rfl) rfl (xj true true true true true m (by rw[w.sp];omega)) rfl ?_;conv=>whnf
 refine CondP.mk (fun c1=>?_) (fun c1=>?_)<;>conv=>whnf
 ·have c1:¬br m.sp<m.sp.length:=fun c=>by rw[fY,if_pos c]at c1;simp at c1;omega
  refine⟨?_,rfl⟩;rw[en,if_neg c1];simp[oM,dI]
 have c1:br m.sp<m.sp.length:=by
  rcases Nat.lt_or_ge (br m.sp) m.sp.length with c|c
  ·exact c
  ·rw[fY,if_neg (by omega)]at c1;simp at c1
 rw[fY,if_pos c1];have hfm:en m i=if(bN m i 16).2 then(eZ (dq (bN m i 16).1 i 16) i (br m.sp),((br m.sp:Nat):Int))else((bN m i 16).1, -1):=by rw[en,if_pos c1]
 have hZi:¬i=br m.sp:=fun e=>by have:=kA c1;simp only[←e,hlv]at this;exact absurd this (by decide)
 obtain⟨Z,hZ⟩:∃Z,br m.sp=Z:=⟨_,rfl⟩;rw[hZ]at c1 hfm hZi ⊢;simp only[List.drop_zero,List.take_length];refine aV (fun j:Nat=>[(1,.v (.one (dI i))),(2,.v (.one (.ptr 5 0 0))),(4,.v (.one (.ptr 6 0 0))),(6,.v (.one (dI Z))),(7,.v (.one (dI j)))]) (fun j=>[(6,bO gI),(5,bO (bN m i j).1)]) (fun _=>7)
  (fun j=>j≤16∧(bN m i j).2=true) (fun j=>16-j) 0 ⟨by omega,rfl⟩ rfl rfl rfl fun j hj=>?_
 obtain⟨hj16,hok⟩:=hj;obtain⟨w1,s1⟩:=nh w hi (j:=j) (by omega);have hstep:bN m i (j+1)=if(bN m i j).2&&(shP (bN m i j).1 i j&&decide ((aR (bN m i j).1 i j).kd=0))then(match bW (bN m i j).1 i j with
  |some m2=>(m2,true)
  |none=>((bN m i j).1,false))else bN m i j:=rfl
 rw[hok,Bool.true_and,shP,lp s1 hi]at hstep;obtain⟨m1,hm1⟩:∃m1,(bN m i j).1=m1:=⟨_,rfl⟩;rw[hm1]at hstep w1 s1;simp only[hm1];have l1:=w1.L;have hi1:i<m1.sp.length:=by rw[s1.1];exact hi
 have hi5:i<5:=by rw[←l1.sp];exact hi1
 obtain⟨-,ear,esl⟩:=s1.2 i hi hi1;rw[←ear]at hstep hal har;have hg:=aa (f:=rP) (List.getElem?_eq_getElem hi1);conv=>whnf
 refine CondP.mk (fun c2=>?_) (fun c2=>?_)<;>conv=>whnf
 ·have hj15:j<16:=by
               have:(j:Int)<16:=by simpa using c2
               omega
  have hj1:j<m1.sp[i].sl.length:=by omega
  refine aH (k:=i) rfl rfl rfl (by simpa using hi1) ?_;conv=>whnf
  refine we (v:=.bool m1.sp[i].lv) (a:=m1.sp[i].ar.map rA) (b:=m1.sp[i].sl.map rL) m1.sp[i].ar.length m1.sp[i].sl.length rfl rfl rfl hg rfl rfl (by simp) (by simp) ?_;conv=>whnf
  have hro:some [DV.agg [dB m1.sp[i].lv,.ro true 4 (((m1.sp[i].ar.map rA).drop 0).take m1.sp[i].ar.length),.ro true 4 (((m1.sp[i].sl.map rL).drop 0).take m1.sp[i].sl.length)],.one (dI j)]=some [.agg [dB m1.sp[i].lv,.ro true 4 (m1.sp[i].ar.map rA),.ro true 4 (m1.sp[i].sl.map rL)],.one (dI j)]:=by simp only[List.drop_zero,aj]
  refine aB [.lend,.pass] rfl hro rfl (kx true true m1.sp[i] j (by omega) har) rfl ?_;cases hsh:iB m1.sp[i].ar (bI m1.sp[i].ar j)with
  |false=>
   rw[hsh,Bool.false_and]at hstep
   (conv=>whnf)<;>repeat' first|(refine aE ?_;conv=>whnf)|(refine aD ?_;conv=>whnf)
   refine ai (i:=i) (k:=2) (g':=9) (lo:=0) (len:=m1.sp[i].sl.length) (es2:=m1.sp.map rP) (ov2:=[(i,1,.sl 8 0 m1.sp[i].ar.length)]) rfl (bD hg (by simp[rP]) (by simp only[ag,if_true];rfl)) rfl rfl (by rw[List.drop_zero,aj];exact di hi1) (by simp only[ax,if_true];rfl) ?_;conv=>whnf
   refine ai (i:=i) (k:=1) (g':=8) (lo:=0) (len:=m1.sp[i].ar.length) (es2:=m1.sp.map rP) (ov2:=[]) rfl (bD hg (by simp[rP]) (by simp only[ag,if_true];rfl)) rfl rfl (by rw[List.drop_zero,aj];exact mA hi1) (by simp only[ax,if_true];rfl) ?_
   (conv=>whnf)<;>repeat' first|(refine aE ?_;conv=>whnf)|(refine aD ?_;conv=>whnf)
   refine⟨j+1,by omega,⟨by omega,by rw[hstep];exact hok⟩,?_,?_,rfl⟩
   ·rw[wrap64 (by omega) (by omega)];rfl
   ·rw[hstep];simp only[Bool.false_eq_true,if_false,hm1,List.drop_zero,List.take_length];rfl
  |true=>
   rw[hsh,Bool.true_and]at hstep
   (conv=>whnf)<;>repeat' first|(refine aE ?_;conv=>whnf)|(refine aD ?_;conv=>whnf)
   refine aH (k:=i) rfl rfl rfl (by simpa using hi1) ?_
   (conv=>whnf)<;>repeat' first|(refine aE ?_;conv=>whnf)|(refine aD ?_;conv=>whnf)
   refine cx rfl rfl rfl (bD hg (by simp[rP]) (if_pos rfl)) rfl ?_
   (conv=>whnf)<;>repeat' first|(refine aE ?_;conv=>whnf)|(refine aD ?_;conv=>whnf)
   refine aH (k:=j) rfl rfl rfl hj1 ?_
   (conv=>whnf)<;>repeat' first|(refine aE ?_;conv=>whnf)|(refine aD ?_;conv=>whnf)
   refine cx rfl rfl rfl (ah (row:=rL m1.sp[i].sl[j]) (by simp[hj1]) rfl rfl rfl) rfl ?_
   (conv=>whnf)<;>repeat' first|(refine aE ?_;conv=>whnf)|(refine aD ?_;conv=>whnf)
   refine ai (i:=i) (k:=2) (g':=9) (lo:=0) (len:=m1.sp[i].sl.length) (es2:=m1.sp.map rP) (ov2:=[(i,1,.sl 8 0 m1.sp[i].ar.length)]) rfl (bD hg (by simp[rP]) (by simp only[ag,if_true];rfl)) rfl rfl (by rw[List.drop_zero,aj];exact di hi1) (by simp only[ax,if_true];rfl) ?_;conv=>whnf
   refine ai (i:=i) (k:=1) (g':=8) (lo:=0) (len:=m1.sp[i].ar.length) (es2:=m1.sp.map rP) (ov2:=[]) rfl (bD hg (by simp[rP]) (by simp only[ag,if_true];rfl)) rfl rfl (by rw[List.drop_zero,aj];exact mA hi1) (by simp only[ax,if_true];rfl) ?_;conv=>whnf
   have hx:=dh hi1 hj1;refine CondP.mk (fun c3=>?_) (fun c3=>?_)<;>conv=>whnf
   ·have c3:(aR m1 i j).kd=0:=by rw[hx];simpa using c3
    rw[decide_eq_true c3]at hstep;have hcall:=vi m1 i j w1 hi1 hj1;simp only[List.drop_zero,List.take_length];simp only[List.length_map,l1.rt,l1.rr,l1.st,l1.sr,l1.sp];cases hb:bW m1 i j with
    |none=>
     rw[hb]at hcall hstep;refine dK (r:=.tup [.agg (cW m1.hd),.one (dB false)]) (Hr:=hM m1) [.pass,.pass,.pass] [7,8,9,10,11] rfl rfl rfl rfl hcall rfl (aDH l1 l1 rfl rfl rfl rfl rfl rfl) ?_
     (conv=>whnf)<;>repeat' first|(refine aE ?_;conv=>whnf)|(refine aD ?_;conv=>whnf)
     have hst:bN m i 16=(m1,false):=by have:=oh (m:=m) (i:=i) (j:=j+1) (by rw[hstep];rfl) (15-j);rw[show j+1+(15-j)=16 by omega,hstep]at this;exact this
     rw[hfm,hst];refine⟨?_,rfl⟩;simp[oM,dI,kh l1.rt,kh l1.rr,kh l1.st,kh l1.sr,kh l1.sp]
    |some m2=>
     have w2:=w1.aCL hi1 hj1 hb;have l2:=w2.L;rw[hb]at hcall hstep;refine dK (r:=.tup [.agg (cW m2.hd),.one (dB true)]) (Hr:=hM m2) [.pass,.pass,.pass] [7,8,9,10,11] rfl rfl rfl rfl hcall rfl (aDH l1 l2 rfl rfl rfl rfl rfl rfl) ?_
     (conv=>whnf)<;>repeat' first|(refine aE ?_;conv=>whnf)|(refine aD ?_;conv=>whnf)
     have hst:bN m i (j+1)=(m2,true):=hstep;refine⟨j+1,by omega,⟨by omega,by rw[hst]⟩,?_,?_,rfl⟩
     ·rw[wrap64 (by omega) (by omega)];rfl
     ·rw[hst];simp only[List.drop_zero,kh l2.rt,kh l2.rr,kh l2.st,kh l2.sr,kh l2.sp];rfl
   ·have c3:¬(aR m1 i j).kd=0:=by rw[hx];simpa using c3
    rw[decide_eq_false c3]at hstep;refine⟨j+1,by omega,⟨by omega,by rw[hstep];exact hok⟩,?_,?_,rfl⟩
    ·rw[wrap64 (by omega) (by omega)];rfl
    ·rw[hstep];simp only[Bool.false_eq_true,if_false,hm1,List.drop_zero,List.take_length];rfl
 have hje:j=16:=by
             have:¬(j:Int)<16:=by simpa using c2
             omega
 subst hje;rw[hok,hm1]at hfm;clear hstep c2 hok hj16;refine aV (fun j:Nat=>[(1,.v (.one (dI i))),(2,.v (.one (.ptr 5 0 0))),(4,.v (.one (.ptr 6 0 0))),(6,.v (.one (dI Z))),(10,.v (.one (dI j)))]) (fun j=>[(6,bO gI),(5,bO (dq m1 i j))]) (fun _=>7)
  (fun j=>j≤16) (fun j=>16-j) 0 (by omega) rfl rfl rfl fun j hj16=>?_
 have fk:=oX w1.ram w1.swp (i:=i) (j:=j);obtain⟨m3,hm3⟩:∃m3,dq m1 i j=m3:=⟨_,rfl⟩;have hstep:dq m1 i (j+1)=lD m3 i j:=by rw[←hm3];rfl
 rw[hm3]at fk;simp only[hm3];have hi3:i<m3.sp.length:=by rw[fk.sm.1];exact hi1
 obtain⟨-,ear3,esl3⟩:=fk.sm.2 i hi1 hi3;rw[←ear3]at hal har;have hg3:=aa (f:=rP) (List.getElem?_eq_getElem hi3);conv=>whnf
 refine CondP.mk (fun c2=>?_) (fun c2=>?_)<;>conv=>whnf
 ·have hj15:j<16:=by
               have:(j:Int)<16:=by simpa using c2
               omega
  have hj3:j<m3.sp[i].sl.length:=by omega
  refine aH (k:=i) rfl rfl rfl (by simpa using hi3) ?_;conv=>whnf
  refine eg (i:=i) (k:=2) (sz':=4) (es':=m3.sp[i].sl.map rL) m3.sp[i].sl.length rfl rfl rfl (ah hg3 rfl rfl rfl) rfl (by simp) ?_;conv=>whnf
  refine aH (k:=j) rfl rfl rfl hj3 ?_;conv=>whnf
  refine rM (row:=rL (aR m3 i j)) rfl rfl rfl (by rw[dh hi3 hj3];simp[hj3]) (eR _) rfl rfl ?_;conv=>whnf
  refine ai (i:=i) (k:=2) (g':=8) (lo:=0) (len:=m3.sp[i].sl.length) (es2:=m3.sp.map rP) (ov2:=[]) rfl (bD hg3 (by simp[rP]) (by simp only[ag,if_true];rfl)) rfl rfl (by rw[List.drop_zero,aj];exact di hi3) (by simp only[ax,if_true];rfl) ?_;conv=>whnf
  obtain⟨x,hx⟩:∃x,aR m3 i j=x:=⟨_,rfl⟩;obtain⟨sh,hsh⟩:∃sh,iB m3.sp[i].ar (bI m3.sp[i].ar j)=sh:=⟨_,rfl⟩;have hS:lD m3 i j=⟨gW (x.kd=1) m3.ram x.pl.toNat,gW (x.kd=2) m3.swp x.pl.toNat,aU m3.sp i j ⟨x.kd,x.pl,sh&&x.ow,x.us⟩,m3.hd⟩:=by rw[lD,shP,show arF m3 i=m3.sp[i].ar by simp[arF,hi3],hsh,hx];cases sh<;>rfl
  have htl:(x.kd=1→∃f:Nat,x.pl=f∧f<12)∧(x.kd=2→∃f:Nat,x.pl=f∧f<12):=by have e:=fk.at_ j (Nat.le_refl j);obtain⟨t1,t2⟩:=w1.slot (i:=i) (j:=j) hi1 (by omega);rw[←e,hx]at t1 t2;exact⟨fun c=>let⟨f,a,b,_⟩:=t1 c;⟨f,a,b⟩,fun c=>let⟨f,a,b,_⟩:=t2 c;⟨f,a,b⟩⟩
  simp only[hx,List.drop_zero,List.take_length];refine aH (k:=i) rfl rfl rfl (by simpa using hi3) ?_;conv=>whnf
  refine we (v:=.bool m3.sp[i].lv) (a:=m3.sp[i].ar.map rA) (b:=m3.sp[i].sl.map rL) m3.sp[i].ar.length m3.sp[i].sl.length rfl rfl rfl hg3 rfl rfl (by simp) (by simp) ?_;conv=>whnf
  have hro:some [DV.agg [dB m3.sp[i].lv,.ro true 4 (((m3.sp[i].ar.map rA).drop 0).take m3.sp[i].ar.length),.ro true 4 (((m3.sp[i].sl.map rL).drop 0).take m3.sp[i].sl.length)],.one (dI j)]=some [.agg [dB m3.sp[i].lv,.ro true 4 (m3.sp[i].ar.map rA),.ro true 4 (m3.sp[i].sl.map rL)],.one (dI j)]:=by simp only[List.drop_zero,aj]
  refine aB [.lend,.pass] rfl hro rfl (kx true true m3.sp[i] j (by omega) har) rfl ?_;rw[hsh];cases sh
  all_goals
   (conv=>whnf)<;>repeat' first|(refine aE ?_;conv=>whnf)|(refine aD ?_;conv=>whnf)
   refine ai (i:=i) (k:=2) (g':=12) (lo:=0) (len:=m3.sp[i].sl.length) (es2:=m3.sp.map rP) (ov2:=[(i,1,.sl 11 0 m3.sp[i].ar.length)]) rfl (bD hg3 (by simp[rP]) (by simp only[ag,if_true];rfl)) rfl rfl (by rw[List.drop_zero,aj];exact di hi3) (by simp only[ax,if_true];rfl) ?_;conv=>whnf
   refine ai (i:=i) (k:=1) (g':=11) (lo:=0) (len:=m3.sp[i].ar.length) (es2:=m3.sp.map rP) (ov2:=[]) rfl (bD hg3 (by simp[rP]) (by simp only[ag,if_true];rfl)) rfl rfl (by rw[List.drop_zero,aj];exact mA hi3) (by simp only[ax,if_true];rfl) ?_
   (conv=>whnf)<;>repeat' first|(refine aE ?_;conv=>whnf)|(refine aD ?_;conv=>whnf)
   simp only[List.drop_zero,List.take_length];refine aH (k:=i) rfl rfl rfl (by simpa using hi3) ?_;conv=>whnf
   refine eg (i:=i) (k:=2) (sz':=4) (es':=m3.sp[i].sl.map rL) m3.sp[i].sl.length rfl rfl rfl (ah hg3 rfl rfl rfl) rfl (by simp) ?_;conv=>whnf
   refine aH (k:=j) rfl rfl rfl hj3 ?_;conv=>whnf
   first
    |refine d8 (row':=rL ⟨x.kd,x.pl,false,x.us⟩) rfl rfl rfl (by simpa using hj3) (jj (fun _=>rfl)) (eR _) rfl rfl rfl ?_
    |refine d8 (row':=rL x) rfl rfl rfl (by simpa using hj3) (jj (fun _=>rfl)) (eR _) rfl rfl rfl ?_
   conv=>whnf
   refine ai (i:=i) (k:=2) (g':=11) (lo:=0) (len:=m3.sp[i].sl.length) (ov2:=[]) rfl (bD hg3 (by simp[rP]) (by simp only[ag,if_true];rfl)) rfl rfl (by rw[List.drop_zero,List.take_of_length_le (by simp),ez hi3]) (by simp only[ax,if_true];rfl) ?_;conv=>whnf
   simp only[List.drop_zero,List.take_of_length_le,List.length_map,uF,Nat.le_refl];refine CondP.mk (fun c3=>?_) (fun c3=>?_)<;>conv=>whnf
   ·have c3:x.kd=1:=by simpa using c3
    obtain⟨f,e1,e2⟩:=htl.1 c3;have e3:f<m3.ram.rf.length:=by rw[fk.rl,l1.rr];exact e2
    refine aH (k:=f) rfl rfl (by show some _=some _;rw[e1]) (by simpa using e3) ?_;conv=>whnf
    refine cx rfl rfl rfl (ah (row:=rI m3.ram.rf[f]) (by simp[e3]) rfl rfl rfl) rfl ?_;conv=>whnf
    refine aH (k:=f) rfl rfl (by show some _=some _;rw[e1]) (by simpa using e3) ?_;conv=>whnf
    refine aI rfl rfl rfl (by simpa using e3) (by decide) ?_;conv=>whnf
    have hb:=fk.rb _ (List.getElem_mem e3);rw[kL c3 e1 e3,f0 (show¬x.kd=2 by omega)]at hS;refine⟨j+1,by omega,by omega,?_,?_,rfl⟩
    ·rw[wrap64 (by omega) (by omega)];rfl
    ·rw[hstep,hS,gZ e3,wrap64 (by omega) (by omega),List.drop_zero,List.take_of_length_le (by simp)];rfl
   ·have c3:¬x.kd=1:=by simpa using c3
    refine CondP.mk (fun c4=>?_) (fun c4=>?_)<;>conv=>whnf
    ·have c4:x.kd=2:=by simpa using c4
     obtain⟨f,e1,e2⟩:=htl.2 c4;have e3:f<m3.swp.rf.length:=by rw[fk.sl,l1.sr];exact e2
     refine aH (k:=f) rfl rfl (by show some _=some _;rw[e1]) (by simpa using e3) ?_;conv=>whnf
     refine cx rfl rfl rfl (ah (row:=rI m3.swp.rf[f]) (by simp[e3]) rfl rfl rfl) rfl ?_;conv=>whnf
     refine aH (k:=f) rfl rfl (by show some _=some _;rw[e1]) (by simpa using e3) ?_;conv=>whnf
     refine aI rfl rfl rfl (by simpa using e3) (by decide) ?_;conv=>whnf
     have hb:=fk.sb _ (List.getElem_mem e3);rw[f0 c3,kL c4 e1 e3]at hS;refine⟨j+1,by omega,by omega,?_,?_,rfl⟩
     ·rw[wrap64 (by omega) (by omega)];rfl
     ·rw[hstep,hS,gZ e3,wrap64 (by omega) (by omega),List.drop_zero,List.take_of_length_le (by simp)];rfl
    ·have c4:¬x.kd=2:=by simpa using c4
     rw[f0 c3,f0 c4]at hS;refine⟨j+1,by omega,by omega,?_,?_,rfl⟩
     ·rw[wrap64 (by omega) (by omega)];rfl
     ·rw[hstep,hS];rfl
 have hje:j=16:=by
             have:¬(j:Int)<16:=by simpa using c2
             omega
 subst hje;rw[hm3]at hfm;refine aH (k:=i) rfl rfl rfl (by simpa using hi3) ?_;conv=>whnf
 refine we (v:=.bool m3.sp[i].lv) (a:=m3.sp[i].ar.map rA) (b:=m3.sp[i].sl.map rL) m3.sp[i].ar.length m3.sp[i].sl.length rfl rfl rfl hg3 rfl rfl (by simp) (by simp) ?_;conv=>whnf
 have hZ3:Z<m3.sp.length:=by rw[fk.sm.1,s1.1];exact c1
 refine eG rfl rfl rfl ?_;conv=>whnf
 refine qM rfl rfl rfl rfl rfl rfl (by simp) (iE n7 _) (by omega) (by omega) ?_;conv=>whnf
 refine eG rfl rfl rfl ?_;conv=>whnf
 refine qM rfl rfl rfl rfl rfl rfl (by simp) (iE eR _) (by omega) (by omega) ?_;conv=>whnf
 refine aH (k:=Z) rfl rfl rfl (by simpa using hZ3) ?_;conv=>whnf
 refine iw rfl rfl rfl rfl rfl (aCP (by simpa using hZ3) rfl) ?_;conv=>whnf
 have hgZ:=aa (f:=rP) (List.getElem?_eq_getElem hZ3);have hiZ:¬Z=i:=fun e=>hZi e.symm
 have hm4:(eZ m3 i Z).sp=m3.sp.set Z ⟨true,m3.sp[i].ar,m3.sp[i].sl⟩:=by simp[eZ,arF,mE,hi3]
 have hi4:i< (eZ m3 i Z).sp.length:=by rw[hm4,List.length_set];exact hi3
 have hx4:(eZ m3 i Z).sp[i]=m3.sp[i]:=by simp only[hm4];exact List.getElem_set_ne hiZ _
 have hg4:=aa (f:=rP) (List.getElem?_eq_getElem hi4);refine ai (i:=Z) (k:=2) (g':=14) (lo:=0) (len:=0+m3.sp[i].sl.length) (ov2:=[(Z,1,.sl 12 0 (0+m3.sp[i].ar.length)),(i,2,.sl 9 0 m3.sp[i].sl.length),(i,1,.sl 8 0 m3.sp[i].ar.length)]) rfl (bD (bU hgZ) (by simp[rP]) (by simp only[ag,if_true];rfl)) rfl rfl rfl (by simp only[ax,if_true,if_neg hZi];rfl) ?_;conv=>whnf
 refine ai (i:=Z) (k:=1) (g':=12) (lo:=0) (len:=0+m3.sp[i].ar.length) (es2:=(eZ m3 i Z).sp.map rP) (ov2:=[(i,2,.sl 9 0 m3.sp[i].sl.length),(i,1,.sl 8 0 m3.sp[i].ar.length)]) rfl (bD (bU (bU hgZ)) (by simp[rP]) (by simp only[ag,if_true];rfl)) rfl rfl (by rw[aA9 hZ3,hm4,←map_set];simp[rP]) (by simp only[ax,if_true,if_neg hZi];rfl) ?_;conv=>whnf
 refine ai (i:=i) (k:=2) (g':=9) (lo:=0) (len:=m3.sp[i].sl.length) (es2:=(eZ m3 i Z).sp.map rP) (ov2:=[(i,1,.sl 8 0 m3.sp[i].ar.length)]) rfl (bD hg4 (by simp[rP]) (by simp only[ag,if_true];rfl)) rfl rfl (by rw[List.drop_zero,aj,←hx4];exact di hi4) (by simp only[ax,if_true];rfl) ?_;conv=>whnf
 refine ai (i:=i) (k:=1) (g':=8) (lo:=0) (len:=m3.sp[i].ar.length) (es2:=(eZ m3 i Z).sp.map rP) (ov2:=[]) rfl (bD hg4 (by simp[rP]) (by simp only[ag,if_true];rfl)) rfl rfl (by rw[List.drop_zero,aj,←hx4];exact mA hi4) (by simp only[ax,if_true];rfl) ?_;conv=>whnf
 have e4:(eZ m3 i Z).sp.length=m3.sp.length:=by rw[hm4,List.length_set]
 rw[hfm];refine⟨?_,rfl⟩;simp[oM,dI,e4,kh e4,show(eZ m3 i Z).ram=m3.ram from rfl,show(eZ m3 i Z).swp=m3.swp from rfl,show(eZ m3 i Z).hd=m3.hd from rfl]
end Go.Qm
namespace Go.Qm
open Go.Cq Go.Cq.D Go.RowKit Go.Proofs
set_option maxRecDepth 10000
end Go.Qm
namespace Go.Qm
open Go.Cq Go.Cq.D Go.RowKit Go.Proofs
set_option maxRecDepth 10000
def dH(m:Mem)(who:Int):Mem×Int×Bool:=if c8 m&&gB m.sp who then(if(en m who.toNat).2<0 then(gI, -1,false)else((en m who.toNat).1,(en m who.toNat).2,true))else(gI, -1,false)
set_option maxHeartbeats 1000000 in
theorem uW(m:Mem)(who:Int)(h:m.fits 1048576):ae Try.prog 44 [oM m,.one (dI who)] (.tup [oM (dH m who).1,.one (dI (dH m who).2.1),.one (dB (dH m who).2.2)]):=by
 refine aJ hmix Try.func44 ok44 ?_;conv=>whnf
 simp only[List.drop_zero,List.take_length];refine aB (cas:=[aM true true true true true m]) [.lend] rfl (by show some [DV.agg [DC.ro true 1 (List.take _ (List.drop 0 _)),DC.ro true 1 (List.take _ (List.drop 0 _)),DC.ro true 1 (List.take _ (List.drop 0 _)),DC.ro true 1 (List.take _ (List.drop 0 _)),DC.ro true 3 (List.take _ (List.drop 0 _)),_]]=_;simp only[List.drop_zero,List.take_length];rfl) rfl (xt true true true true true m (h.mono (by decide))) rfl ?_;conv=>whnf
 refine CondP.mk (fun h1=>?_) (fun h1=>?_)<;>rw[h1]<;>(conv=>whnf)<;>repeat' first|(refine aE ?_;conv=>whnf)|(refine aD ?_;conv=>whnf)
 ·refine⟨?_,rfl⟩;have h1:c8 m=false:=by simpa using h1
  simp[dH,h1,oM,gI,dI,dB]
 have h1:c8 m=true:=by simpa using h1
 simp only[List.drop_zero,List.take_length];refine aB (cas:=[aM true true true true true m,.one (dI who)]) [.lend,.pass] rfl (by show some [DV.agg [DC.ro true 1 (List.take _ (List.drop 0 _)),DC.ro true 1 (List.take _ (List.drop 0 _)),DC.ro true 1 (List.take _ (List.drop 0 _)),DC.ro true 1 (List.take _ (List.drop 0 _)),DC.ro true 3 (List.take _ (List.drop 0 _)),_],_]=_;simp only[List.drop_zero,List.take_length];rfl) rfl (zf true true true true true m who (by have:=h.sp;omega)) rfl ?_
 (conv=>whnf)<;>repeat' first|(refine aE ?_;conv=>whnf)|(refine aD ?_;conv=>whnf)
 refine CondP.mk (fun h2=>?_) (fun h2=>?_)<;>conv=>whnf
 ·refine⟨?_,rfl⟩;have h2:gB m.sp who=false:=by simpa using h2
  simp[dH,h2,oM,gI,dI,dB]
 have h2:gB m.sp who=true:=by simpa using h2
 obtain⟨i,rfl,hi,hlv⟩:=kc h2;obtain⟨ha,hal,hsl⟩:=pA h1 hi hlv;simp only[List.drop_zero,List.take_length];refine aB (cas:=[aM true true true true true m]) [.lend] rfl (by show some [DV.agg [DC.ro true 1 (List.take _ (List.drop 0 _)),DC.ro true 1 (List.take _ (List.drop 0 _)),DC.ro true 1 (List.take _ (List.drop 0 _)),DC.ro true 1 (List.take _ (List.drop 0 _)),DC.ro true 3 (List.take _ (List.drop 0 _)),_]]=_;simp only[List.drop_zero,List.take_length];rfl) rfl (xu true true true true true m h) rfl ?_;conv=>whnf
 refine aB [.give,.pass] rfl rfl rfl (by simpa [oM,dI]using xS m i (pH h1) hi (gq ha) (by omega) hsl hlv) rfl ?_;conv=>whnf
 have hf:dH m i=if(en m i).2<0 then(gI, -1,false)else((en m i).1,(en m i).2,true):=by simp[dH,h1,h2]
 refine CondP.mk (fun c=>?_) (fun c=>?_)<;>conv=>whnf
 ·have c:(en m i).2<0:=by simpa using c
  rw[hf,if_pos c];refine⟨?_,rfl⟩;simp[oM,gI,dI,dB]
 ·have c:¬(en m i).2<0:=by simpa using c
  rw[hf,if_neg c];refine⟨?_,rfl⟩;simp[oM,dI,dB]
end Go.Qm
namespace Go.Qm
open Go.Cq Go.Cq.D Go.RowKit Go.Proofs
set_option maxRecDepth 10000
def tk(D:Nat×Nat)(j:Nat):List PV:=[.sc (.ptr D.1 ((D.2+j)*4+0))]
def lF(D:Nat×Nat)(kd pl:Int):Nat→List Slot→List (List PV)
 |_,[]=>[]
 |j,x::l=>(if x.kd=kd∧x.pl=pl then [tk D j]else [])++lF D kd pl (j+1) l
theorem uQ{D:Nat×Nat}{kd pl:Int}:∀{l:List Slot}{j:Nat},(lF D kd pl j l).length≤l.length:=by
 intro l;induction l with
 |nil=>intro j;exact Nat.le_refl 0
 |cons x l ih=>intro j;have:=ih (j:=j+1);simp only[lF,List.length_append,List.length_cons];split<;>simp<;>omega
theorem zT{D:Nat×Nat}{kd pl:Int}{x:Slot}:∀{l:List Slot}{j:Nat},lF D kd pl j (l++[x])=lF D kd pl j l++(if x.kd=kd∧x.pl=pl then [tk D (j+l.length)]else []):=by
 intro l;induction l with
 |nil=>intro j;simp[lF]
 |cons y l ih=>intro j;simp only[List.cons_append,lF,ih,List.append_assoc,List.length_cons,show j+1+l.length=j+(l.length+1) by omega]
theorem yM{D:Nat×Nat}{kd pl:Int}{l:List Slot}{k:Nat}(h:k<l.length):lF D kd pl 0 (l.take (k+1))=lF D kd pl 0 (l.take k)++(if l[k].kd=kd∧l[k].pl=pl then [tk D k]else []):=by rw[List.take_succ_eq_append_getElem h,zT,List.length_take,Nat.min_eq_left (by omega),Nat.zero_add]
def J1(D:Nat×Nat):Nm:=fun t=>if t=0 then some (D.1,D.2,4)else none
theorem aD0{D:Nat×Nat}{n:Nat}(hn:0<n):∀g p,J1 D g=some p→g<n:=by
 intro g p h;unfold J1 at h;split at h
 ·omega
 ·simp at h
theorem cB{f:Nat→Option Nat}{H3 H:DH}{g t:Nat}{l:List Nat}{cs cs0:List DC}{db':DB}(h1:aF H3 t=some (.box cs))(h2:aF H g=some (.box cs0))(h3:cs.length=cs0.length)(h4:eY f (.box cs)=some db'):bC f H3 (g::l) t H=bC f H3 l (t+1) (cL g db' H):=tX h1 h2 h3 h4
set_option maxHeartbeats 1000000 in
theorem iM(l:List Slot)(D:Nat×Nat)(kd pl:Int)(acc:List (List PV))(who:Int)(j:Nat)(hj:j<l.length)(ha:acc.length≤1000):jI Try.prog (J1 D) 173 [.one (dI who),.one (dI j),.one (.sc (.ptr D.1 ((D.2+j)*4+0))),.one (.ptr 1 0 0),.one (.ptr 2 0 0),.one (.ptr 3 0 0)] [(0,.arr 4 (l.map rL) []),(1,.box [dI kd]),(2,.box [dI pl]),(3,.box [.own 1 acc])] 4
  fun x H'=>x= .tup []∧H'=[(0,.arr 4 (l.map rL) []),(1,.box [dI kd]),(2,.box [dI pl]),(3,.box [.own 1 (acc++if l[j].kd=kd∧l[j].pl=pl then [tk D j]else [])])]:=by
 refine mF hmix Try.func173 ok173 (aD0 (by decide)) ?_;conv=>whnf
 refine fc (g:=0) (i:=j) rfl rfl rfl rfl ?_;conv=>whnf
 refine cx rfl rfl rfl (ah (row:=rL l[j]) (by simp[hj]) rfl rfl rfl) rfl ?_;conv=>whnf
 refine CondP.mk (fun c1=>?_) (fun c1=>?_)<;>rw[c1]<;>(conv=>whnf)<;>repeat' first|(refine aE ?_;conv=>whnf)|(refine aD ?_;conv=>whnf)
 ·have c1:l[j].kd=kd:=by simpa using c1
  refine fc (g:=0) (i:=j) rfl rfl rfl rfl ?_
  (conv=>whnf)<;>repeat' first|(refine aE ?_;conv=>whnf)|(refine aD ?_;conv=>whnf)
  refine cx rfl rfl rfl (ah (row:=rL l[j]) (by simp[hj]) rfl rfl rfl) rfl ?_
  (conv=>whnf)<;>repeat' first|(refine aE ?_;conv=>whnf)|(refine aD ?_;conv=>whnf)
  refine CondP.mk (fun c2=>?_) (fun c2=>?_)<;>conv=>whnf
  ·have c2:l[j].pl=pl:=by simpa using c2
   refine eG rfl rfl rfl ?_;conv=>whnf
   refine mK [] [] 1 (sz:=1) rfl rfl rfl rfl rfl rfl rfl rfl (by omega) (by omega) ?_;conv=>whnf
   refine⟨rfl,?_⟩;rw[if_pos ⟨c1,c2⟩];simp[tk,dI,List.replicate,List.take_of_length_le]
  ·have c2:¬l[j].pl=pl:=by simpa using c2
   refine⟨rfl,?_⟩;rw[if_neg fun c=>c2 c.2];simp[dI]
 ·have c1:¬l[j].kd=kd:=by simpa using c1
  refine⟨rfl,?_⟩;rw[if_neg fun c=>c1 c.1];simp[dI]
end Go.Qm
namespace Go.Qm
open Go.Cq Go.Cq.D Go.RowKit Go.Proofs
set_option maxRecDepth 10000
def ovS(S:Nat→List Slot):List (Nat×Nat×DC):=[(0,2,.sl 2 0 (S 0).length),(1,2,.sl 3 0 (S 1).length),(2,2,.sl 4 0 (S 2).length),(3,2,.sl 5 0 (S 3).length),(4,2,.sl 6 0 (S 4).length)]
def bxO(T:Pages)(W:Pages)(hd:Int):DB:=.box [.own 1 (T.tx.map rS),.own 1 (T.rf.map rI),.own 1 (W.tx.map rS),.own 1 (W.rf.map rI),.sl 1 0 5,dI hd]
def oH(E:List (List PV))(T W:Pages)(hd:Int)(S:Nat→List Slot):DH:=[(0,bxO T W hd),(1,.arr 3 E (ovS S)),(2,.arr 4 ((S 0).map rL) []),(3,.arr 4 ((S 1).map rL) []),(4,.arr 4 ((S 2).map rL) []),(5,.arr 4 ((S 3).map rL) []),(6,.arr 4 ((S 4).map rL) [])]
def oC(Js:Nat→Nat×Nat)(S:Nat→List Slot)(kd pl:Int)(A:List (List PV)):Nat→List (List PV)
 |0=>A
 |i+1=>oC Js S kd pl A i++lF (Js i) kd pl 0 (S i)
structure NJ(J:Nm)(Js:Nat→Nat×Nat)(S:Nat→List Slot):Prop where
 lt:∀g p,J g=some p→g<7
 at5:∀i,i<5→S i≠[]→J (2+i)=some ((Js i).1,(Js i).2,4)
theorem o7{Js:Nat→Nat×Nat}{S:Nat→List Slot}{kd pl:Int}(hS:∀i,(S i).length≤16):∀{i:Nat},(oC Js S kd pl [] i).length≤16*i:=by
 intro i;induction i with
 |zero=>exact Nat.le_refl 0
 |succ i ih=>have h1:=hS i;have h2:=uQ (D:=Js i) (kd:=kd) (pl:=pl) (l:=S i) (j:=0);simp only[oC,List.length_append];omega
theorem ti{D:Nat×Nat}{P:Prg}{ρ:List Nat}{g:Nat}(h0:ρ[0]?=some g)(h:P.J g=some (D.1,D.2,4)):∀t p,J1 D t=some p→∃g,ρ[t]?=some g∧P.J g=some p:=by
 intro t p ht;unfold J1 at ht;split at ht
 ·rename_i e;subst e;cases ht;exact⟨g,h0,h⟩
 ·simp at ht
set_option maxHeartbeats 4000000 in
theorem aBg (E : List (List PV)) (T W : Pages) (hd : Int) (S : Nat → List Slot) (Js : Nat → Nat × Nat) (kd pl : Int) (hE : E.length = 5) (hr : ∀ row, row ∈ E → row.length = 3) (hS : ∀ i, (S i).length ≤ 16) (hk : kd ≠ 0) (J : Nm) (nj : NJ J Js S) :
  jI Try.prog J 172 [.one (.ptr 0 0 0), .one (.fn 173 [(7, 0, 0), (8, 0, 0), (9, 0, 0)])] (oH E T W hd S ++ [(7, .box [dI kd]), (8, .box [dI pl]), (9, .box [.own 1 []])]) 10
  fun x H' => x = .tup [] ∧ H' = oH E T W hd S ++ [(7, .box [dI kd]), (8, .box [dI pl]), (9, .box [.own 1 (oC Js S kd pl [] 5)])] := by
 refine mF hmix Try.func172 ok172 (fun g p h => by have := nj.lt g p h; omega) ?_; have hi3 : ∀ i, i < 5 → ∃ row, E[i]? = some row ∧ 2 < row.length := fun i hi => ⟨E[i]'(by omega), List.getElem?_eq_getElem (by omega), by rw [hr _ (List.getElem_mem _)]; omega⟩
 conv => whnf
 refine aV (fun i : Nat => [(0, .v (.one (.ptr 0 0 0))), (1, .v (.one (.fn 173 [(7, 0, 0), (8, 0, 0), (9, 0, 0)]))), (11, .v (.one (dI 5))), (12, .v (.one (dI i)))]) (fun i => oH E T W hd S ++ [(7, .box [dI kd]), (8, .box [dI pl]), (9, .box [.own 1 (oC Js S kd pl [] i)])]) (fun _ => 10)
  (fun i => i ≤ 5) (fun i => 5 - i) 0 (by omega) rfl rfl rfl fun i hi => ?_
 conv => whnf
 refine CondP.mk (fun h => ?_) (fun h => ?_) <;> conv => whnf
 ·have hi5 : i < 5 := by
              have : (i : Int) < 5 := by simpa using h
              omega
  have ha := o7 (Js := Js) (kd := kd) (pl := pl) hS (i := i); have hs := hS i; obtain ⟨I, hI⟩ : ∃ I : Int, (i : Int) = I := ⟨_, rfl⟩; obtain ⟨N, hN⟩ : ∃ N, (S i).length = N := ⟨_, rfl⟩; obtain ⟨D, hD⟩ : ∃ D, Js i = D := ⟨_, rfl⟩; obtain ⟨A1, hA⟩ : ∃ A1, oC Js S kd pl [] i = A1 := ⟨_, rfl⟩; obtain ⟨F, hF⟩ : ∃ F : Nat → List (List PV), ∀ j, F j = A1 ++ lF D kd pl 0 ((S i).take j) := ⟨_, fun _ => rfl⟩; have hF0 : F 0 = A1 := by rw [hF]; simp [lF]
  have hFe : F N = oC Js S kd pl [] (i + 1) := by rw [hF, ← hN, List.take_length, oC, hD, hA]
  have hFs : ∀ j (hj : j < (S i).length), F (j + 1) = F j ++ if (S i)[j].kd = kd ∧ (S i)[j].pl = pl then [tk D j] else [] := fun j hj => by rw [hF, hF, yM hj, List.append_assoc]
  have hFl : ∀ j, (F j).length ≤ 1000 := fun j => by have := uQ (D := D) (kd := kd) (pl := pl) (l := (S i).take j) (j := 0); rw [List.length_take] at this; rw [hF, List.length_append]; rw [hA] at ha; omega
  have hJ : 0 < N → (Prg.mk Try.prog J).J (2 + i) = some (D.1, D.2, 4) := fun h0 => by have := nj.at5 i hi5 (fun e => by rw [e] at hN; simp at hN; omega); rw [hD] at this; exact this
  obtain ⟨row, hrow, hrl⟩ := hi3 i hi5; obtain ⟨i1, hi1⟩ : ∃ i1, i1 = i + 1 := ⟨_, rfl⟩; have next : IntKind.wrap .i64 (I + 1) = (i1 : Int) := by rw [← hI, hi1]; exact wrap64 (by omega) (by omega)
  have hmu : 5 - i1 < 5 - i := by omega
  have hle : i1 ≤ 5 := by omega
  rw [← hi1] at hFe; rw [hI, hA]; have hc : i = 0 ∨ i = 1 ∨ i = 2 ∨ i = 3 ∨ i = 4 := by omega
  clear ha h hD hF hi hA; rcases hc with rfl | rfl | rfl | rfl | rfl
  all_goals
   refine aH rfl rfl (by show some I = _; rw [← hI]) hi5 ?_; conv => whnf
   refine cx rfl rfl rfl (bD hrow hrl rfl) rfl ?_; conv => whnf
   refine aV (fun j : Nat => [(0, .v (.one (.ptr 0 0 0))), (1, .v (.one (.fn 173 [(7, 0, 0), (8, 0, 0), (9, 0, 0)]))), (4, .v (.one (dI I))), (11, .v (.one (dI 5))), (12, .v (.one (dI I))), (23, .v (.one (dI N))), (24, .v (.one (dI j)))]) (fun j => oH E T W hd S ++ [(7, .box [dI kd]), (8, .box [dI pl]), (9, .box [.own 1 (F j)])]) (fun _ => 10)
    (fun j => j ≤ N) (fun j => N - j) 0 (by omega) (by rw [← hN]; rfl) (by rw [hF0]; rfl) rfl fun j hjN => ?_
   conv => whnf
   refine CondP.mk (fun h1 => ?_) (fun h1 => ?_) <;> conv => whnf
   ·have hj : j < N := by
               have : (j : Int) < (N : Int) := by simpa using h1
               omega
    have hJ := hJ (by omega); rw [← hN] at hj; have nextj : IntKind.wrap .i64 ((j : Int) + 1) = ((j + 1 : Nat) : Int) := wrap64 (by omega) (by omega); refine aH rfl rfl (by show some I = _; rw [← hI]) hi5 ?_; conv => whnf
    refine cx rfl rfl rfl (bD hrow hrl rfl) rfl ?_; conv => whnf
    refine aBT (k := j) rfl rfl rfl hj hJ ?_; conv => whnf
    refine fc (i := j) rfl rfl hJ ?_ ?_; rfl; conv => whnf
    refine cx rfl rfl rfl (ah (aa (f := rL) (List.getElem?_eq_getElem hj)) rfl rfl rfl) rfl ?_; conv => whnf
    refine CondP.mk (fun c0 => ?_) (fun c0 => ?_) <;> conv => whnf
    ·first
      | refine g7 [.pass, .pass, .pass, .pass, .pass, .pass] [2, 7, 8, 9] (J1 D) rfl rfl rfl rfl rfl rfl (iM _ D kd pl (F j) _ j hj (hFl j)) (ti rfl hJ) rfl ((aN rfl rfl (by rfl)).trans ((cB rfl rfl (by rfl) rfl).trans ((cB rfl rfl (by rfl) rfl).trans ((cB rfl rfl (by rfl) rfl).trans rfl)))) ?_
      | refine g7 [.pass, .pass, .pass, .pass, .pass, .pass] [3, 7, 8, 9] (J1 D) rfl rfl rfl rfl rfl rfl (iM _ D kd pl (F j) _ j hj (hFl j)) (ti rfl hJ) rfl ((aN rfl rfl (by rfl)).trans ((cB rfl rfl (by rfl) rfl).trans ((cB rfl rfl (by rfl) rfl).trans ((cB rfl rfl (by rfl) rfl).trans rfl)))) ?_
      | refine g7 [.pass, .pass, .pass, .pass, .pass, .pass] [4, 7, 8, 9] (J1 D) rfl rfl rfl rfl rfl rfl (iM _ D kd pl (F j) _ j hj (hFl j)) (ti rfl hJ) rfl ((aN rfl rfl (by rfl)).trans ((cB rfl rfl (by rfl) rfl).trans ((cB rfl rfl (by rfl) rfl).trans ((cB rfl rfl (by rfl) rfl).trans rfl)))) ?_
      | refine g7 [.pass, .pass, .pass, .pass, .pass, .pass] [5, 7, 8, 9] (J1 D) rfl rfl rfl rfl rfl rfl (iM _ D kd pl (F j) _ j hj (hFl j)) (ti rfl hJ) rfl ((aN rfl rfl (by rfl)).trans ((cB rfl rfl (by rfl) rfl).trans ((cB rfl rfl (by rfl) rfl).trans ((cB rfl rfl (by rfl) rfl).trans rfl)))) ?_
      | refine g7 [.pass, .pass, .pass, .pass, .pass, .pass] [6, 7, 8, 9] (J1 D) rfl rfl rfl rfl rfl rfl (iM _ D kd pl (F j) _ j hj (hFl j)) (ti rfl hJ) rfl ((aN rfl rfl (by rfl)).trans ((cB rfl rfl (by rfl) rfl).trans ((cB rfl rfl (by rfl) rfl).trans ((cB rfl rfl (by rfl) rfl).trans rfl)))) ?_
     conv => whnf
     rw [← hFs j hj]; refine ⟨j + 1, by omega, by omega, ?_, rfl, rfl⟩; rw [nextj]; rfl
    ·have hs1 := hFs j hj; rw [if_neg (fun c => hk (by rw [← c.1]; simpa using c0)), List.append_nil] at hs1; refine ⟨j + 1, by omega, by omega, ?_, by rw [hs1]; rfl, rfl⟩; rw [nextj]; rfl
   ·have : j = N := by
              have : ¬ (j : Int) < (N : Int) := by simpa using h1
              omega
    subst this; refine ⟨i1, hmu, hle, ?_, by rw [hFe]; rfl, rfl⟩; rw [next]; rfl
 ·have : i = 5 := by
            have : ¬ (i : Int) < 5 := by simpa using h
            omega
  subst this; exact ⟨rfl, rfl⟩
end Go.Qm
namespace Go.Qm
open Go.Cq Go.Cq.D Go.RowKit Go.Proofs
set_option maxRecDepth 10000
theorem oO{f:Nat→Option Nat}{H3 H:DH}{g t sz:Nat}{l:List Nat}{es es0:List (List PV)}{ov ov0:List (Nat×Nat×DC)}{db':DB}(h1:aF H3 t=some (.arr sz es ov))(h2:aF H g=some (.arr sz es0 ov0))(h3:es.length=es0.length)(h4:eY f (.arr sz es ov)=some db'):bC f H3 (g::l) t H=bC f H3 l (t+1) (cL g db' H):=tX h1 h2 ⟨rfl,h3⟩ h4
theorem NJ.of{J:Nm}{Js:Nat→Nat×Nat}{S:Nat→List Slot}(nj:NJ J Js S){P:Program}{ρ:List Nat}(h:∀t,t<7→ρ[t]?=some t):∀t p,J t=some p→∃g,ρ[t]?=some g∧(Prg.mk P J).J g=some p:=fun t p ht=>⟨t,h t (nj.lt t p ht),ht⟩
theorem lt7{p:Nat→Prop}(h:p 0∧p 1∧p 2∧p 3∧p 4∧p 5∧p 6):∀t,t<7→p t:=by
 intro t ht;have:t=0∨t=1∨t=2∨t=3∨t=4∨t=5∨t=6:=by omega
 rcases this with rfl|rfl|rfl|rfl|rfl|rfl|rfl
 ·exact h.1
 ·exact h.2.1
 ·exact h.2.2.1
 ·exact h.2.2.2.1
 ·exact h.2.2.2.2.1
 ·exact h.2.2.2.2.2.1
 ·exact h.2.2.2.2.2.2
set_option maxHeartbeats 2000000 in
theorem aCR(E:List (List PV))(T W:Pages)(hd:Int)(S:Nat→List Slot)(Js:Nat→Nat×Nat)(kd pl:Int)(hE:E.length=5)(hr:∀row,row∈E→row.length=3)(hS:∀i,(S i).length≤16)(hk:kd≠0)(J:Nm)(nj:NJ J Js S):
  jI Try.prog J 145 [.one (.ptr 0 0 0),.one (dI kd),.one (dI pl)] (oH E T W hd S) 7
  fun x H'=>x= .v (.one (.own 1 (oC Js S kd pl [] 5)))∧H'=oH E T W hd S:=by
 refine mF hmix Try.func145 ok145 nj.lt ?_;conv=>whnf
 refine eG rfl rfl rfl ?_;conv=>whnf
 refine zU rfl rfl ?_;conv=>whnf
 refine iP [] [.pass,.pass] [0,1,2,3,4,5,6,7,8,10] J rfl rfl rfl rfl rfl (aBg E T W hd S Js kd pl hE hr hS hk J nj) (nj.of (lt7 ⟨rfl,rfl,rfl,rfl,rfl,rfl,rfl⟩)) rfl
  ((cB rfl rfl (by rfl) rfl).trans ((oO rfl rfl (by rfl) rfl).trans ((aN rfl rfl (by rfl)).trans ((aN rfl rfl (by rfl)).trans ((aN rfl rfl (by rfl)).trans ((aN rfl rfl (by rfl)).trans ((aN rfl rfl (by rfl)).trans ((cB rfl rfl (by rfl) rfl).trans ((cB rfl rfl (by rfl) rfl).trans ((cB rfl rfl (by rfl) rfl).trans rfl)))))))))) ?_
 conv=>whnf
 refine⟨?_,rfl⟩;simp
end Go.Qm
namespace Go.Qm
open Go.Cq Go.Cq.D Go.RowKit Go.Proofs
set_option maxRecDepth 10000
def kN(kd pl:Int):Nat→List Slot→List Nat
 |_,[]=>[]
 |j,x::l=>(if x.kd=kd∧x.pl=pl then [j]else [])++kN kd pl (j+1) l
theorem aBu{D:Nat×Nat}{kd pl:Int}:∀{l:List Slot}{j:Nat},lF D kd pl j l=(kN kd pl j l).map (tk D):=by
 intro l;induction l with
 |nil=>intro j;rfl
 |cons x l ih=>intro j;simp only[lF,kN,List.map_append,ih];split<;>rfl
theorem y8{kd pl:Int}{k:Nat}:∀{l:List Slot}{j:Nat},k∈kN kd pl j l↔j≤k∧∃x,l[k-j]?=some x∧x.kd=kd∧x.pl=pl:=by
 intro l;induction l with
 |nil=>intro j;simp[kN]
 |cons x l ih=>
  intro j;simp only[kN,List.mem_append,ih];constructor
  ·rintro(h| ⟨h1,y,h2,h3⟩)
   ·split at h
    ·rename_i c;simp only[List.mem_singleton]at h;subst h;exact⟨Nat.le_refl _,x,by simp,c⟩
    ·simp at h
   ·refine⟨by omega,y,?_,h3⟩;rw[show k-j=(k-(j+1))+1 by omega,List.getElem?_cons_succ];exact h2
  ·rintro⟨h1,y,h2,h3⟩;by_cases c:k=j
   ·subst c;simp only[Nat.sub_self,List.getElem?_cons_zero,Option.some.injEq]at h2;subst h2;rw[if_pos h3];exact .inl (by simp)
   ·rw[show k-j=(k-(j+1))+1 by omega,List.getElem?_cons_succ]at h2;exact .inr ⟨by omega,y,h2,h3⟩
def jO(S:Nat→List Slot)(kd pl:Int):Nat→List (Nat×Nat)
 |0=>[]
 |i+1=>jO S kd pl i++(kN kd pl 0 (S i)).map fun j=>(i,j)
def tkP(Js:Nat→Nat×Nat)(p:Nat×Nat):List PV:=tk (Js p.1) p.2
theorem nR{Js:Nat→Nat×Nat}{S:Nat→List Slot}{kd pl:Int}:∀{n:Nat},oC Js S kd pl [] n=(jO S kd pl n).map (tkP Js):=by
 intro n;induction n with
 |zero=>rfl
 |succ n ih=>simp only[oC,jO,ih,aBu,List.map_append,List.map_map];rfl
theorem lE{S:Nat→List Slot}{kd pl:Int}{i j:Nat}:∀{n:Nat},(i,j)∈jO S kd pl n↔i<n∧∃x,(S i)[j]?=some x∧x.kd=kd∧x.pl=pl:=by
 intro n;induction n with
 |zero=>simp[jO]
 |succ n ih=>
  simp only[jO,List.mem_append,ih,List.mem_map,Prod.mk.injEq,y8];constructor
  ·rintro(⟨h1,h2⟩| ⟨k,⟨-,h2⟩,h3,h4⟩)
   ·exact⟨by omega,h2⟩
   ·subst h3 h4;exact⟨by omega,h2⟩
  ·rintro⟨h1,h2⟩;by_cases c:i=n
   ·subst c;exact .inr ⟨j,⟨Nat.zero_le _,h2⟩,rfl,rfl⟩
   ·exact .inl ⟨by omega,h2⟩
def eX(f:Slot→Slot)(S:Nat→List Slot)(L:List (Nat×Nat)):Nat→List Slot:=fun t=>(S t).mapIdx fun j x=>if(t,j)∈L then f x else x
def rR(S:Nat→List Slot)(i j:Nat)(y:Slot):Nat→List Slot:=fun t=>if t=i then(S t).set j y else S t
theorem og{f:Slot→Slot}{S:Nat→List Slot}:eX f S []=S:=by
 funext t;refine List.ext_getElem? fun k=>?_
 simp only[eX,List.getElem?_mapIdx,List.not_mem_nil,if_false];cases (S t)[k]?<;>rfl
theorem iN{f:Slot→Slot}{S:Nat→List Slot}{L:List (Nat×Nat)}{i j:Nat}{x:Slot}(h:(S i)[j]?=some x):(eX f S L i)[j]?=some (if(i,j)∈L then f x else x):=by simp only[eX,List.getElem?_mapIdx,h,Option.map_some]
theorem tL{f:Slot→Slot}{S:Nat→List Slot}{L:List (Nat×Nat)}{t:Nat}:(eX f S L t).length=(S t).length:=by simp[eX]
theorem mP{f:Slot→Slot}{S:Nat→List Slot}{L:List (Nat×Nat)}{q i j:Nat}{x:Slot}(hq:q<L.length)(he:L[q]=(i,j))(hx:(S i)[j]?=some x):eX f S (L.take (q+1))=rR (eX f S (L.take q)) i j (f x):=by
 funext t;rw[List.take_succ_eq_append_getElem hq,he];refine List.ext_getElem? fun k=>?_
 simp only[eX,rR,List.mem_append,List.mem_singleton,Prod.mk.injEq,List.getElem?_mapIdx];by_cases c:t=i
 ·subst c;rw[if_pos rfl,List.getElem?_set];by_cases c2:j=k
  ·subst c2;obtain⟨hj,hx'⟩:=List.getElem?_eq_some_iff.1 hx;simp[hj,hx']
  ·have c3:¬k=j:=fun e=>c2 e.symm
   simp[c2,c3,List.getElem?_mapIdx]
 ·simp[c,List.getElem?_mapIdx]
theorem aAq{f:Slot→Slot}{S:Nat→List Slot}{kd pl:Int}(h0:∀t,5≤t→S t=[]):eX f S (jO S kd pl 5)=fun t=>(S t).map fun x=>if x.kd=kd∧x.pl=pl then f x else x:=by
 funext t;refine List.ext_getElem? fun k=>?_
 simp only[eX,List.getElem?_mapIdx,List.getElem?_map,lE];cases e:(S t)[k]? with
 |none=>rfl
 |some x=>
  have ht:t<5:=by
   rcases Nat.lt_or_ge t 5 with c|c
   ·exact c
   ·rw[h0 t c]at e;simp at e
  simp only[Option.map_some,Option.some.injEq];by_cases c:x.kd=kd∧x.pl=pl
  ·rw[if_pos ⟨ht,x,rfl,c⟩,if_pos c]
  ·rw[if_neg c,if_neg (by rintro⟨-,y,h2,h3⟩;rw[Option.some.injEq]at h2;subst h2;exact c h3)]
def qL(S:Nat→List Slot)(L:List (Nat×Nat)):Bool:=L.any fun p=>((S p.1)[p.2]?.map (·.us)).getD false
theorem vU{S:Nat→List Slot}{L:List (Nat×Nat)}{q i j:Nat}{x:Slot}(hq:q<L.length)(he:L[q]=(i,j))(hx:(S i)[j]?=some x):qL S (L.take (q+1))=(qL S (L.take q)||(if(i,j)∈L.take q then dt x else x).us):=by
 rw[List.take_succ_eq_append_getElem hq,he];simp only[qL,List.any_append,List.any_cons,List.any_nil,Bool.or_false,hx,Option.map_some,Option.getD_some];by_cases c:(i,j)∈L.take q
 ·rw[if_pos c];show _=(_||false);rw[Bool.or_false];cases hu:x.us with
  |false=>rw[Bool.or_false]
  |true=>have:(L.take q).any (fun p=>((S p.1)[p.2]?.map (·.us)).getD false)=true:=List.any_eq_true.2 ⟨(i,j),c,by simp[hx,hu]⟩;rw[this];rfl
 ·rw[if_neg c]
def spS(sp:List Space):Nat→List Slot:=fun t=>(sp[t]?.map (·.sl)).getD []
theorem il{sp:List Space}{i:Nat}(h:i<sp.length):spS sp i=sp[i].sl:=by simp[spS,h]
theorem pJ{sp:List Space}{i:Nat}(h:sp.length≤i):spS sp i=[]:=by simp[spS,h]
theorem sC{kd pl:Int}{f:Slot→Slot}{sp:List Space}:spS (au kd pl f sp)=fun t=>(spS sp t).map fun x=>if x.kd=kd∧x.pl=pl then f x else x:=by funext t;simp only[spS,au,List.getElem?_map];cases sp[t]?<;>rfl
theorem oL{kd pl:Int}{f:Slot→Slot}{sp:List Space}(h:sp.length=5):eX f (spS sp) (jO (spS sp) kd pl 5)=spS (au kd pl f sp):=by rw[sC,aAq fun t ht=>pJ (by omega)]
theorem aA4{kd pl:Int}{sp:List Space}(h:sp.length=5):qL (spS sp) (jO (spS sp) kd pl 5)=cz kd pl sp:=by
 rw[Bool.eq_iff_iff];simp only[qL,cz,List.any_eq_true,Bool.and_eq_true,decide_eq_true_eq];constructor
 ·rintro⟨⟨i,j⟩,h1,h2⟩;obtain⟨hi,x,hx,hk⟩:=lE.1 h1;have hi':i<sp.length:=by omega
  simp only[hx,Option.map_some,Option.getD_some]at h2;rw[il hi']at hx;exact⟨sp[i],List.getElem_mem hi',x,List.mem_of_getElem? hx,hk,h2⟩
 ·rintro⟨s,hs,x,hx,hk,hu⟩;obtain⟨i,hi,rfl⟩:=List.getElem_of_mem hs;obtain⟨j,hj,rfl⟩:=List.getElem_of_mem hx;have e:(spS sp i)[j]?=some sp[i].sl[j]:=by rw[il hi,List.getElem?_eq_getElem hj]
  exact⟨(i,j),lE.2 ⟨by omega,_,e,hk⟩,by simp only[e,Option.map_some,Option.getD_some];exact hu⟩
theorem wy{sp:List Space}{i j:Nat}{y:Slot}:spS (aU sp i j y)=rR (spS sp) i j y:=by
 funext t;simp only[spS,aU,rR,List.getElem?_modify];by_cases c:t=i
 ·subst c;simp only[if_true];cases sp[t]?<;>rfl
 ·have c':¬i=t:=fun e=>c e.symm
  simp only[c,c',if_false];cases sp[t]?<;>rfl
theorem aBJ{S:Nat→List Slot}{i j:Nat}{y:Slot}:ovS (rR S i j y)=ovS S:=by
 have:∀t,(rR S i j y t).length=(S t).length:=fun t=>by unfold rR;split<;>simp
 simp only[ovS,this]
theorem oa{E:List (List PV)}{T W:Pages}{hd:Int}{S:Nat→List Slot}{i j:Nat}{y:Slot}(hi:i<5):cL (2+i) (.arr 4 (((S i).set j y).map rL) []) (oH E T W hd S)=oH E T W hd (rR S i j y):=by
 have hc:i=0∨i=1∨i=2∨i=3∨i=4:=by omega
 unfold oH;rw[aBJ];rcases hc with rfl|rfl|rfl|rfl|rfl<;>rfl
end Go.Qm
namespace Go.Qm
open Go.Cq Go.Cq.D Go.RowKit Go.Proofs
set_option maxRecDepth 10000
def jT(l:List Int):Int:=if aO l<l.length then(aO l:Int)else-1
theorem rW(b1 b2:Bool)(p:Pages)(hl:p.rf.length≤1048576):ae Try.prog 150 [.agg [.ro b1 1 (p.tx.map rS),.ro b2 1 (p.rf.map rI)]] (.v (.one (dI (jT p.rf)))):=by
 refine aJ hmix Try.func150 ok150 ?_;conv=>whnf
 refine aV (fun i:Nat=>[(6,.v (.one (.ro b2 1 (p.rf.map rI)))),(7,.v (.one (dI p.rf.length))),(8,.v (.one (dI i)))]) (fun _=>[]) (fun _=>0)
  (fun i=>i≤p.rf.length∧i≤aO p.rf) (fun i=>p.rf.length-i) 0 (by omega) (by simp[dI]) rfl rfl fun i hi=>?_
 conv=>whnf
 refine CondP.mk (fun h=>?_) (fun h=>?_)<;>conv=>whnf
 ·have hlt:i<p.rf.length:=by simpa using h
  refine aG (k:=i) rfl rfl (by simpa using hlt) ?_;conv=>whnf
  refine aC rfl (r:=.one (dI p.rf[i])) (by simp[aY,rI,hlt,eI,dI]) ?_;conv=>whnf
  refine CondP.mk (fun h1=>?_) (fun h1=>?_)<;>conv=>whnf
  ·have h1:p.rf[i]=0:=by simpa using h1
   have e:aO p.rf=i:=by have:=lZ hlt h1;omega
   refine⟨?_,rfl⟩;rw[jT,e,if_pos hlt];rfl
  ·have h1:¬p.rf[i]=0:=by simpa using h1
   refine⟨i+1,by omega,⟨by omega,?_⟩,?_,rfl,rfl⟩
   ·rcases Nat.lt_or_ge i (aO p.rf)with c|c
    ·omega
    ·have e:aO p.rf=i:=by omega
     have:=lL (l:=p.rf) (by omega);simp only[e]at this;exact absurd this h1
   ·rw[up hlt (by omega)];rfl
 ·have:¬i<p.rf.length:=by simpa using h
  refine⟨?_,rfl⟩;rw[jT,if_neg (by omega)];rfl
end Go.Qm
namespace Go.Qm
open Go.Cq Go.Cq.D Go.RowKit Go.Proofs
set_option maxRecDepth 10000
theorem NJ.same{J:Nm}{Js:Nat→Nat×Nat}{S S':Nat→List Slot}(h:NJ J Js S)(hl:∀t,(S' t).length=(S t).length):NJ J Js S':=⟨h.lt,fun i hi hne=>h.at5 i hi fun e=>hne (List.eq_nil_of_length_eq_zero (by rw[hl,e];rfl))⟩
def oHm(E:List (List PV))(m:Mem):DH:=oH E m.ram m.swp m.hd (spS m.sp)
theorem aCQ{J:Nm}{E:List (List PV)}{m:Mem}(h1:∀g p,J g=some p→g<7)(h2:∀g sz es ov,aF (oHm E m) g=some (.arr sz es ov)→es≠[]→∃id base,J g=some (id,base,sz)):∃Js,NJ J Js (spS m.sp):=by
 have:∀i,∃D:Nat×Nat,i<5→spS m.sp i≠[]→J (2+i)=some (D.1,D.2,4):=fun i=>by
  by_cases c:i<5∧spS m.sp i≠[]
  ·have hg:aF (oHm E m) (2+i)=some (.arr 4 ((spS m.sp i).map rL) []):=by
    have hc:i=0∨i=1∨i=2∨i=3∨i=4:=by omega
    rcases hc with rfl|rfl|rfl|rfl|rfl<;>rfl
   obtain⟨id,base,e⟩:=h2 _ _ _ _ hg (by simpa using c.2);exact⟨(id,base),fun _ _=>e⟩
  ·exact⟨(0,0),fun a b=>absurd ⟨a,b⟩ c⟩
 obtain⟨Js,hJ⟩:=Classical.axiomOfChoice this;exact⟨Js,h1,hJ⟩
theorem xz{kd pl:Int}{g:Slot→Slot}(hg:∀x,(g x).kd=x.kd∧(g x).pl=x.pl):∀{l:List Slot}{j:Nat},kN kd pl j (l.map g)=kN kd pl j l:=by
 intro l;induction l with
 |nil=>intro j;rfl
 |cons x l ih=>intro j;simp only[List.map_cons,kN,ih,(hg x).1,(hg x).2]
theorem zF{S:Nat→List Slot}{kd pl:Int}{g:Slot→Slot}(hg:∀x,(g x).kd=x.kd∧(g x).pl=x.pl):∀{n:Nat},jO (fun t=>(S t).map g) kd pl n=jO S kd pl n:=by
 intro n;induction n with
 |zero=>rfl
 |succ n ih=>simp only[jO,ih,xz hg]
theorem xo{m:Mem}{kd pl p:Int}{n:Nat}:jO (spS (dS m p).sp) kd pl n=jO (spS m.sp) kd pl n:=by simp only[dS,sC];exact zF fun x=>by split<;>exact⟨rfl,rfl⟩
theorem aAv{J:Nm}{Js:Nat→Nat×Nat}{S:Nat→List Slot}{L:List (Nat×Nat)}{kd pl:Int}{P:Program}(nj:NJ J Js S)(hL:jO S kd pl 5=L)(q:Nat)(hq:q<L.length):∃i j x,L[q]=(i,j)∧i<5∧(S i)[j]?=some x∧(Prg.mk P J).J (2+i)=some ((Js i).1,(Js i).2,4):=by
 have hm:=List.getElem_mem hq;cases hp:L[q]with
 |mk i j=>rw[hp,←hL,lE]at hm;obtain⟨h1,x,h2, -⟩:=hm;exact⟨i,j,x,rfl,h1,h2,nj.at5 i h1 fun e=>by rw[e]at h2;simp at h2⟩
theorem dw{α β:Type}{f:α→β}{l:List α}(h:l.length=12):(l.map f).take 12=l.map f:=List.take_of_length_le (by simp[h])
def nE(m:Mem)(but:Int):Int:=match cR m but with
 |some m'=>aO m'.ram.rf
 |none=> -1
set_option maxHeartbeats 4000000 in
theorem wQ(E:List (List PV))(m:Mem)(but:Int)(w:Wf m)(hE:E.length=5)(hr:∀row,row∈E→row.length=3):
  dO Try.prog 92 [.one (.ptr 0 0 0),.one (dI but)] (oHm E m) 7
  fun x H'=>x= .tup [.one (dI (nE m but)),.one (dB (cR m but).isSome)]∧H'=oHm E ((cR m but).getD m):=by
 refine qo hmix Try.func92 ok92 fun J hJ1 hJ2=>?_
 obtain⟨Js,nj⟩:=aCQ hJ1 hJ2;clear hJ1 hJ2;have l:=w.L;conv=>whnf
 refine aB (cas:=[.agg [.ro true 1 (m.ram.tx.map rS),.ro true 1 (m.ram.rf.map rI)]]) [.lend] rfl (by show some [DV.agg [DC.ro true 1 (List.take _ (List.drop 0 _)),DC.ro true 1 (List.take _ (List.drop 0 _))]]=_;simp only[List.drop_zero,List.take_length]) rfl (rW true true m.ram (by rw[l.rr];omega)) rfl ?_;conv=>whnf
 have hfi:∀p:Pages,decide (0≤jT p.rf)=decide (aO p.rf<p.rf.length):=fun p=>by
  unfold jT;split
  ·rename_i c;rw[decide_eq_true c,decide_eq_true (by omega)]
  ·rename_i c;rw[decide_eq_false c,decide_eq_false (by omega)]
 simp only[List.drop_zero,List.take_length];refine CondP.mk (fun h=>?_) (fun h=>?_)<;>conv=>whnf
 ·have h:aO m.ram.rf<m.ram.rf.length:=by rw[hfi]at h;simpa using h
  have e:cR m but=some m:=by rw[cR,if_pos h]
  rw[nE,e,jT,if_pos h];exact⟨rfl,rfl⟩
 have h:¬aO m.ram.rf<m.ram.rf.length:=by rw[hfi]at h;simpa using h
 refine aB (cas:=[.agg [.ro true 1 (m.swp.tx.map rS),.ro true 1 (m.swp.rf.map rI)]]) [.lend] rfl (by show some [DV.agg [DC.ro true 1 (List.take _ (List.drop 0 _)),DC.ro true 1 (List.take _ (List.drop 0 _))]]=_;simp only[List.drop_zero,List.take_length]) rfl (rW true true m.swp (by rw[l.sr];omega)) rfl ?_;conv=>whnf
 have hfl:∀p:Pages,decide (jT p.rf<0)= !decide (aO p.rf<p.rf.length):=fun p=>by
  unfold jT;split
  ·rename_i c;rw[decide_eq_true c,decide_eq_false (by omega)];rfl
  ·rename_i c;rw[decide_eq_false c,decide_eq_true (by omega)];rfl
 simp only[List.drop_zero,List.take_length];refine CondP.mk (fun h2=>?_) (fun h2=>?_)<;>conv=>whnf
 ·have h2:¬aO m.swp.rf<m.swp.rf.length:=by rw[hfl]at h2;simpa using h2
  have e:cR m but=none:=by rw[cR,if_neg h,if_neg h2]
  rw[nE,e];exact⟨rfl,rfl⟩
 have h2:aO m.swp.rf<m.swp.rf.length:=by rw[hfl]at h2;simpa using h2
 have e:cR m but=some (dz m but):=by rw[cR,if_neg h,if_pos h2]
 rw[nE,e,jT,if_pos h2];simp only[Option.getD_some,Option.isSome_some];rw[w.swp.rf]at h2;obtain⟨F,hF⟩:∃F,aO m.swp.rf=F:=⟨_,rfl⟩;rw[hF]at h2 ⊢;refine aV (fun s:Mem×DTs=>(0,.v (.one (.ptr 0 0 0)))::(1,.v (.one (dI but)))::(7,.v (.one (dI F)))::s.2) (fun s=>oHm E s.1) (fun _=>7)
  (fun s=>Wf s.1∧aO s.1.swp.rf=F∧dz s.1 but=dz m but∧∀t,(spS s.1.sp t).length=(spS m.sp t).length) (fun s=>mu s.1 but) (m,_) ⟨w,hF,rfl,fun _=>rfl⟩ rfl rfl rfl fun s hs=>?_
 clear l w h e hF;obtain⟨s,rest⟩:=s;obtain⟨ws,hf,hr2,hlS⟩:=hs;simp only at ws hf hr2 hlS;obtain⟨a,ha⟩:=Int.eq_ofNat_of_zero_le ws.hd.1;have ha12:a<12:=by have:=ws.hd;omega
 conv=>whnf
 refine fP rfl ?_;conv=>whnf
 simp only[qR ws.hd];refine CondP.mk (fun h3=>?_) (fun h3=>?_)<;>conv=>whnf
 ·have h3:s.hd=but:=by simpa using h3
  have hc:clk s but= .inl (cw s):=by rw[clk,if_pos h3]
  exact⟨(cw s,_),j6 hc,⟨ws.hand,hf,by rw[←hr2,ij hc],hlS⟩,rfl,rfl,rfl⟩
 have h3:¬s.hd=but:=by simpa using h3
 have nj1:=nj.same hlS;have hS16:∀i,(spS s.sp i).length≤16:=fun i=>by
  rcases Nat.lt_or_ge i s.sp.length with c|c
  ·rw[il c];exact ws.sl _ (List.getElem_mem c)
  ·rw[pJ c];exact Nat.zero_le _
 refine iP [] [.pass,.pass,.pass] [0,1,2,3,4,5,6] J rfl rfl rfl rfl rfl (aCR E s.ram s.swp ((s.hd+1) % 12) (spS s.sp) Js 1 s.hd hE hr hS16 (by decide) J nj1) (nj1.of (lt7 ⟨rfl,rfl,rfl,rfl,rfl,rfl,rfl⟩)) rfl
  ((cB rfl rfl (by rfl) rfl).trans ((oO rfl rfl (by rfl) rfl).trans ((aN rfl rfl (by rfl)).trans ((aN rfl rfl (by rfl)).trans ((aN rfl rfl (by rfl)).trans ((aN rfl rfl (by rfl)).trans ((aN rfl rfl (by rfl)).trans rfl))))))) ?_
 conv=>whnf
 simp only[List.drop_zero,List.take_length,nR];obtain⟨S,hSe⟩:∃S,spS s.sp=S:=⟨_,rfl⟩;rw[hSe]at nj1 hS16;simp only[hSe];obtain⟨L,hL⟩:∃L,jO S 1 s.hd 5=L:=⟨_,rfl⟩;simp only[hL,List.length_map];obtain⟨N,hN⟩:∃N,L.length=N:=⟨_,rfl⟩;simp only[hN];have hN80:N≤1000:=by have:=o7 (Js:=Js) (kd:=1) (pl:=s.hd) hS16 (i:=5);rw[nR,hL,List.length_map,hN]at this;omega
 refine aV (fun z:Nat×Bool=>[(0,.v (.one (.ptr 0 0 0))),(1,.v (.one (dI but))),(7,.v (.one (dI F))),(8,.v (.one (dI s.hd))),(9,.v (.one (.sl 7 0 N))),(10,.v (.one (dB z.2))),(49,.v (.one (.sl 7 0 N))),(50,.v (.one (dI N))),(51,.v (.one (dI z.1)))])
  (fun z=>(7,.arr 1 (L.map (tkP Js)) [])::oH E s.ram s.swp ((s.hd+1) % 12) (eX dt S (L.take z.1))) (fun _=>8)
  (fun z=>z.1≤N∧z.2=qL S (L.take z.1)) (fun z=>N-z.1) (0,false) ⟨Nat.zero_le _,rfl⟩ rfl (by rw[List.take_zero,og];rfl) rfl fun z hz=>?_
 obtain⟨q,u⟩:=z;obtain⟨hqN,hu⟩:=hz;simp only at hqN hu;conv=>whnf
 refine CondP.mk (fun h4=>?_) (fun h4=>?_)<;>conv=>whnf
 ·have hq:q<L.length:=by
                 have:(q:Int)< (N:Int):=by simpa using h4
                 omega
  obtain⟨i,j,x,he,hi5,hx,hJ⟩:=aAv (P:=Try.prog) nj1 hL q hq;have hrow:(L.map (tkP Js))[q]?=some (tk (Js i) j):=by simp[hq,he,tkP]
  have hst:cL (2+i) (.arr 4 (((eX dt S (L.take q) i).map rL).modify j (fun row=>row.set 3 (.sc (.bool false)))) []) (oH E s.ram s.swp ((s.hd+1) % 12) (eX dt S (L.take q)))=oH E s.ram s.swp ((s.hd+1) % 12) (eX dt S (L.take (q+1))):=by rw[mP hq he hx,←oa hi5,aX (aa (f:=rL) (iN hx)),←map_set];split<;>rfl
  have hx':=iN (f:=dt) (L:=L.take q) hx;have hu':=vU hq he hx;rw[←hu]at hu';obtain⟨S',hS'⟩:∃S',eX dt S (L.take q)=S':=⟨_,rfl⟩;obtain⟨x',hxe⟩:∃x',(if(i,j)∈L.take q then dt x else x)=x':=⟨_,rfl⟩;rw[hS']at hst hx';rw[hxe]at hx' hu';simp only[hS'];obtain⟨D,hD⟩:∃D,Js i=D:=⟨_,rfl⟩;rw[hD]at hrow hJ;have hjl:j< (S' i).length:=(List.getElem?_eq_some_iff.1 hx').1;have nextq:IntKind.wrap .i64 ((q:Int)+1)=((q+1:Nat):Int):=wrap64 (by omega) (by omega);refine aH (k:=q) rfl rfl rfl (by omega) ?_;conv=>whnf
  refine cx rfl rfl rfl (ah hrow rfl rfl rfl) rfl ?_;conv=>whnf
  have hc:i=0∨i=1∨i=2∨i=3∨i=4:=by omega
  clear hx hD he hxe hS' hi5;cases u
  ·(conv=>whnf)<;>repeat' first|(refine aE ?_;conv=>whnf)|(refine aD ?_;conv=>whnf)
   rcases hc with rfl|rfl|rfl|rfl|rfl
   all_goals
    refine fc (i:=j) rfl rfl hJ rfl ?_
    (conv=>whnf)<;>repeat' first|(refine aE ?_;conv=>whnf)|(refine aD ?_;conv=>whnf)
    refine cx rfl rfl rfl (ah (aa (f:=rL) hx') rfl rfl rfl) rfl ?_;conv=>whnf
    refine fc (i:=j) rfl rfl hJ rfl ?_;conv=>whnf
    refine aI rfl rfl rfl (by simpa using hjl) (by decide) ?_;conv=>whnf
    refine⟨(q+1,x'.us),by show N-(q+1)<N-q;omega,⟨by show q+1≤N;omega,by rw[hu'];rfl⟩,?_,by rw[←hst];rfl,rfl⟩;rw[nextq];rfl
  ·(conv=>whnf)<;>repeat' first|(refine aE ?_;conv=>whnf)|(refine aD ?_;conv=>whnf)
   rcases hc with rfl|rfl|rfl|rfl|rfl
   all_goals
    refine fc (i:=j) rfl rfl hJ rfl ?_;conv=>whnf
    refine aI rfl rfl rfl (by simpa using hjl) (by decide) ?_;conv=>whnf
    refine⟨(q+1,true),by show N-(q+1)<N-q;omega,⟨by show q+1≤N;omega,by rw[hu'];rfl⟩,?_,by rw[←hst];rfl,rfl⟩;rw[nextq];rfl
 have hqe:q=N:=by
             have:¬(q:Int)< (N:Int):=by simpa using h4
             omega
 subst hqe;have w2:=ws.hand.calm s.hd;have l2:=w2.L;have hSc:eX dt S (L.take q)=spS (dS (cw s) s.hd).sp:=by rw[List.take_of_length_le (by omega),←hL,←hSe];exact oL ws.sp
 have huc:u=cz 1 s.hd s.sp:=by rw[hu,List.take_of_length_le (by omega),←hL,←hSe];exact aA4 ws.sp
 simp only[hSc];refine CondP.mk (fun h5=>?_) (fun h5=>?_)<;>conv=>whnf
 ·have hc:clk s but= .inl (dS (cw s) s.hd):=by rw[clk,if_neg h3,if_pos (huc.symm.trans h5)]
  refine⟨(dS (cw s) s.hd,_),j6 hc,⟨w2,hf,by rw[←hr2,ij hc],fun t=>?_⟩,rfl,rfl,rfl⟩;show(spS (dS (cw s) s.hd).sp t).length=_;rw[←hSc,tL,←hlS,hSe]
 have hc:clk s but= .inr (eV (dS (cw s) s.hd) s.hd.toNat):=by rw[clk,if_neg h3,if_neg (by rw[←huc];exact fun c=>by rw[h5]at c;exact absurd c (by decide))]
 rw[←hr2,lM hc];have wev:=(w2.aCB ha12 (by show aO s.swp.rf<12;omega));have hto:s.hd.toNat=a:=by omega
 rw[hto];have e1:s.ram=(dS (cw s) s.hd).ram:=rfl;have e2:s.swp=(dS (cw s) s.hd).swp:=rfl;have e3:(s.hd+1) % 12=(dS (cw s) s.hd).hd:=rfl;have hlS2:∀t,(spS (dS (cw s) s.hd).sp t).length=(spS m.sp t).length:=fun t=>by rw[←hSc,tL,←hlS,hSe]
 rw[e2]at hf;have hL2:jO (spS (dS (cw s) s.hd).sp) 1 a 5=L:=by rw[xo,←ha,←hL,←hSe];rfl
 simp only[e1,e2,ha];rw[←ha];generalize hs2:dS (cw s) s.hd=s2 at*;have hq:(List.take q (List.drop 0 (List.map (tkP Js) L)))=L.map (tkP Js):=by rw[List.drop_zero,List.take_of_length_le (by simp;omega)]
 simp only[hq,ha,List.length_map,l2.rt,l2.st,l2.sr];refine aH (k:=a) rfl rfl rfl ha12 ?_;conv=>whnf
 obtain⟨tx,htx⟩:∃tx,s2.ram.tx[a]?=some tx:=⟨_,List.getElem?_eq_getElem (by rw[l2.rt];exact ha12)⟩;obtain⟨rf,hrf⟩:∃rf,s2.ram.rf[a]?=some rf:=⟨_,List.getElem?_eq_getElem (by rw[l2.rr];exact ha12)⟩;refine cx rfl rfl rfl (ah (aa (f:=rS) htx) rfl rfl rfl) rfl ?_;conv=>whnf
 simp only[List.length_map,l2.rr];refine aH (k:=a) rfl rfl rfl ha12 ?_;conv=>whnf
 refine cx rfl rfl rfl (ah (aa (f:=rI) hrf) rfl rfl rfl) rfl ?_;conv=>whnf
 refine aH (k:=F) rfl rfl rfl h2 ?_;conv=>whnf
 refine aI rfl rfl rfl (by simpa [l2.st]using h2) (by decide) ?_;conv=>whnf
 refine aH (k:=F) rfl rfl rfl h2 ?_;conv=>whnf
 refine aI rfl rfl rfl (by simpa [l2.sr]using h2) (by decide) ?_;conv=>whnf
 have hhd:((a:Int)+1) % 12=s2.hd:=by rw[←ha];exact e3
 rw[kn (by rw[l2.st];exact h2),gZ (by rw[l2.sr];exact h2),hhd];simp only[List.drop_zero,dw l2.rt,dw l2.rr,dw (show(s2.swp.tx.set F tx).length=12 by simp[l2.st]),dw (show(s2.swp.rf.set F rf).length=12 by simp[l2.sr]),List.length_map,l2.rt,l2.rr];refine aH (k:=a) rfl rfl rfl ha12 ?_;conv=>whnf
 refine aI rfl rfl rfl (by simpa [l2.rt]using ha12) (by decide) ?_;conv=>whnf
 refine aH (k:=a) rfl rfl rfl ha12 ?_;conv=>whnf
 refine aI rfl rfl rfl (by simpa [l2.rr]using ha12) (by decide) ?_;conv=>whnf
 rw[kn (by rw[l2.rt];exact ha12),gZ (by rw[l2.rr];exact ha12)];simp only[List.drop_zero,dw (show(s2.ram.tx.set a []).length=12 by simp[l2.rt]),dw (show(s2.ram.rf.set a 0).length=12 by simp[l2.rr]),List.length_map];rw[List.take_of_length_le (l:=List.map (tkP Js) L) (by simp)];have hN80:L.length≤1000:=by omega
 obtain⟨N,hN⟩:∃N,L.length=N:=⟨_,rfl⟩;rw[hN]at hN80;simp only[hN];have nj2:=nj.same hlS2;obtain⟨S2,hS2⟩:∃S2,spS s2.sp=S2:=⟨_,rfl⟩;rw[hS2]at hL2 nj2;simp only[hS2];refine aV (fun q:Nat=>[(0,.v (.one (.ptr 0 0 0))),(7,.v (.one (dI F))),(111,.v (.one (.own 1 (L.map (tkP Js))))),(112,.v (.one (dI N))),(113,.v (.one (dI q)))])
  (fun q=>oH E (ab s2.ram a [] 0) (ab s2.swp F tx rf) s2.hd (eX (bf 2 F) S2 (L.take q))) (fun _=>7)
  (fun q=>q≤N) (fun q=>N-q) 0 (Nat.zero_le _) rfl (by rw[List.take_zero,og];rfl) rfl fun q hqN=>?_
 conv=>whnf
 refine CondP.mk (fun h6=>?_) (fun h6=>?_)<;>conv=>whnf
 ·have hq:q<L.length:=by
                 have:(q:Int)< (N:Int):=by simpa using h6
                 omega
  obtain⟨i,j,x,he,hi5,hx,hJ⟩:=aAv (P:=Try.prog) nj2 hL2 q hq;have hrow:(L.map (tkP Js))[q]?=some (tk (Js i) j):=by simp[hq,he,tkP]
  have hst:cL (2+i) (.arr 4 ((((eX (bf 2 F) S2 (L.take q) i).map rL).modify j (fun row=>row.set 0 (.sc (.int .i64 2)))).modify j (fun row=>row.set 1 (.sc (.int .i64 F)))) []) (oH E (ab s2.ram a [] 0) (ab s2.swp F tx rf) s2.hd (eX (bf 2 F) S2 (L.take q)))=oH E (ab s2.ram a [] 0) (ab s2.swp F tx rf) s2.hd (eX (bf 2 F) S2 (L.take (q+1))):=by have hx':=iN (f:=bf 2 F) (L:=L.take q) hx;have hjl:=(List.getElem?_eq_some_iff.1 hx').1;rw[mP hq he hx,←oa hi5,aX (aa (f:=rL) hx'),aX (List.getElem?_set_self (by simpa using hjl)),List.set_set,←map_set];split<;>rfl
  have hjl:j< (eX (bf 2 F) S2 (L.take q) i).length:=(List.getElem?_eq_some_iff.1 (iN (f:=bf 2 F) (L:=L.take q) hx)).1;obtain⟨S',hS'⟩:∃S',eX (bf 2 F) S2 (L.take q)=S':=⟨_,rfl⟩;rw[hS']at hst hjl;simp only[hS'];obtain⟨D,hD⟩:∃D,Js i=D:=⟨_,rfl⟩;rw[hD]at hrow hJ;have nextq:IntKind.wrap .i64 ((q:Int)+1)=((q+1:Nat):Int):=wrap64 (by omega) (by omega);simp only[List.length_map,hN];refine aH (k:=q) rfl rfl rfl (by omega) ?_;conv=>whnf
  refine cx rfl rfl rfl (ah hrow rfl rfl rfl) rfl ?_;conv=>whnf
  have hc:i=0∨i=1∨i=2∨i=3∨i=4:=by omega
  clear hx hD he hS' hi5;rcases hc with rfl|rfl|rfl|rfl|rfl
  all_goals
   refine fc (i:=j) rfl rfl hJ rfl ?_;conv=>whnf
   refine aI rfl rfl rfl (by simpa using hjl) (by decide) ?_;conv=>whnf
   refine fc (i:=j) rfl rfl hJ rfl ?_;conv=>whnf
   refine aI rfl rfl rfl (by simpa using hjl) (by decide) ?_;conv=>whnf
   refine⟨q+1,by omega,by omega,?_,by rw[←hst];rfl,rfl⟩;rw[nextq,List.take_of_length_le (by simp;omega)];rfl
 have hqe:q=N:=by
             have:¬(q:Int)< (N:Int):=by simpa using h6
             omega
 subst hqe;have hSt:eX (bf 2 F) S2 (L.take q)=spS (eV s2 a).sp:=by rw[List.take_of_length_le (by omega),←hL2,←hS2,←hf];exact oL w2.sp
 simp only[hSt];have hrl:(ab s2.ram a [] 0).rf.length=12:=by simp[ab,l2.rr]
 refine aB (cas:=[.agg [.ro true 1 ((ab s2.ram a [] 0).tx.map rS),.ro true 1 ((ab s2.ram a [] 0).rf.map rI)]]) [.lend] rfl (by show some [DV.agg [DC.ro true 1 (List.take _ (List.drop 0 _)),DC.ro true 1 (List.take _ (List.drop 0 _))]]=_;simp only[List.drop_zero,List.take_length]) rfl (rW true true (ab s2.ram a [] 0) (by omega)) rfl ?_;conv=>whnf
 simp only[List.drop_zero,List.take_length];have hfr:jT (ab s2.ram a [] 0).rf=(aO (eV s2 a).ram.rf:Int):=by rw[jT,if_pos (by rw[hrl];exact wev.2)];rfl
 have heq:eV s2 a=⟨ab s2.ram a [] 0,ab s2.swp F tx rf,(eV s2 a).sp,s2.hd⟩:=by simp only[eV,hf,htx,hrf,Option.getD_some]
 rw[hfr];refine⟨rfl,?_⟩;rw[heq];rfl
end Go.Qm
namespace Go.Qm
open Go.Cq Go.Cq.D Go.RowKit Go.Proofs
set_option maxRecDepth 10000
theorem aC4{E:List (List PV)}{T W:Pages}{hd:Int}{S:Nat→List Slot}{i j:Nat}{x y:Slot}{f:List PV→List PV}(hi:i<5)(hx:(S i)[j]?=some x)(hf:f (rL x)=rL y):cL (2+i) (.arr 4 (((S i).map rL).modify j f) []) (oH E T W hd S)=oH E T W hd (rR S i j y):=by rw[←oa hi,aX (aa (f:=rL) hx),hf,map_set]
theorem aCN{E:List (List PV)}{T W:Pages}{hd:Int}{sp:List Space}{i j:Nat}{x:Slot}(hi:i<5)(hx:(spS sp i)[j]?=some x):cL (2+i) (.arr 4 (((spS sp i).map rL).modify j (fun row=>row.set 3 (.sc (.bool true)))) []) (oH E T W hd (spS sp))=oH E T W hd (spS (aU sp i j {x with us:=true})):=by rw[wy];exact aC4 hi hx rfl
theorem aC9{E:List (List PV)}{T W:Pages}{hd:Int}{sp:List Space}{i j:Nat}{x:Slot}{kd pl:Int}{ow:Bool}(hi:i<5)(hx:(spS sp i)[j]?=some x):cL (2+i) (.arr 4 ((((spS sp i).map rL).set j (rL ⟨kd,pl,ow,false⟩)).modify j (fun row=>row.set 3 (.sc (.bool true)))) []) (oH E T W hd (spS sp))=oH E T W hd (spS (aU sp i j ⟨kd,pl,ow,true⟩)):=by have hj:=(List.getElem?_eq_some_iff.1 hx).1;rw[wy,←oa hi,aX (List.getElem?_set_self (by simpa using hj)),List.set_set,←map_set];rfl
theorem wU{but:Int}{sp sp':List Space}(h:alike but sp sp')(t:Nat):(spS sp' t).length=(spS sp t).length:=by
 obtain⟨h1,h2⟩:=h;rcases Nat.lt_or_ge t sp.length with c|c
 ·have c':t<sp'.length:=by omega
  rw[il c,il c'];exact(h2 t c c').2.2.1
 ·rw[pJ c,pJ (by omega)]
theorem pt{E:List (List PV)}{m m1:Mem}(hl:∀t,(spS m1.sp t).length=(spS m.sp t).length):bC (fun t=>([0,1,2,3,4,5,6]:List Nat)[t]?) (oHm E m1) [0,1,2,3,4,5,6] 0 (oHm E m)=some (oHm E m1):=(cB rfl rfl (by rfl) rfl).trans ((oO rfl rfl (by rfl) rfl).trans ((aN rfl rfl (by simp[hl])).trans ((aN rfl rfl (by simp[hl])).trans ((aN rfl rfl (by simp[hl])).trans ((aN rfl rfl (by simp[hl])).trans ((aN rfl rfl (by simp[hl])).trans rfl))))))
set_option maxHeartbeats 8000000 in
theorem zK(E:List (List PV))(m:Mem)(i j:Nat)(w:Wf m)(hE:E.length=5)(hr:∀row,row∈E→row.length=3)(hi:i<m.sp.length)(hj:j<m.sp[i].sl.length):
  dO Try.prog 78 [.one (.ptr 0 0 0),.one (dI i),.one (dI j)] (oHm E m) 7
  fun x H'=>x= .v (.one (dB (bW m i j).isSome))∧H'=oHm E ((bW m i j).getD m):=by
 refine qo hmix Try.func78 ok78 fun J hJ1 hJ2=>?_
 obtain⟨Js,nj⟩:=aCQ hJ1 hJ2;clear hJ1 hJ2;have l:=w.L;have hi5:i<5:=by rw[←l.sp];exact hi
 have hx:=dh hi hj;have hxS:(spS m.sp i)[j]?=some (aR m i j):=by rw[il hi,hx];exact List.getElem?_eq_getElem hj
 have hjS:j< (spS m.sp i).length:=by rw[il hi];exact hj
 obtain⟨row,hrow,hrl⟩:∃row,E[i]?=some row∧2<row.length:=⟨E[i]'(by omega),List.getElem?_eq_getElem (by omega),by rw[hr _ (List.getElem_mem _)];omega⟩;obtain⟨I,hI⟩:∃I:Int,(i:Int)=I:=⟨_,rfl⟩;obtain⟨s1,s2⟩:=w.slot hi hj;have skd:(aR m i j).kd=0∨(aR m i j).kd=1∨(aR m i j).kd=2:=by rw[hx];exact w.kd _ (List.getElem_mem hi) _ (List.getElem_mem hj)
 rw[hI];conv=>whnf
 refine aH (k:=i) rfl rfl (by show some I=_;rw[←hI]) hi5 ?_;conv=>whnf
 have hc:i=0∨i=1∨i=2∨i=3∨i=4:=by omega
 obtain⟨x,hxe⟩:∃x,aR m i j=x:=⟨_,rfl⟩;rw[hxe]at hx hxS s1 s2 skd;have hnone:¬x.kd=1→cR m (-1)=none→bW m i j=none:=fun c1 hrm=>by rw[bW,hxe,if_neg c1,hrm];rfl
 have hsome:¬x.kd=1→∀m1,cR m (-1)=some m1→(spS m1.sp i)[j]?=some x∧j< (spS m1.sp i).length:=fun c1 m1 hrm=>by
  obtain⟨hi1,hj1,ex, -⟩:=k9 (eJ w hrm) hi hj (.inl (by rw[hxe];exact c1));have:(spS m1.sp i)[j]?=some x:=by rw[il hi1,List.getElem?_eq_getElem hj1,ex,hxe]
  exact⟨this,(List.getElem?_eq_some_iff.1 this).1⟩
 have hb0:x.kd=0→∀m1,cR m (-1)=some m1→bW m i j=some {m1 with ram:=ab m1.ram (aO m1.ram.rf) jK 1,sp:=aU m1.sp i j ⟨1,aO m1.ram.rf,true,true⟩}:=fun c0 m1 hrm=>by rw[bW,hxe,if_neg (by omega),hrm,Option.map_some,if_pos c0]
 have hb1:x.kd=1→bW m i j=some {m with sp:=aU m.sp i j {x with us:=true}}:=fun c1=>by rw[bW,hxe,if_pos c1]
 have hb2:x.kd=2→∀m1,cR m (-1)=some m1→∃f:Nat,x.pl=f∧f<12∧(spS (au 2 f (bf 1 (aO m1.ram.rf)) m1.sp) i)[j]?=some (bf 1 (aO m1.ram.rf) x)∧bW m i j=some ⟨ab m1.ram (aO m1.ram.rf) (m1.swp.tx[f]?.getD []) (m1.swp.rf[f]?.getD 0),ab m1.swp f [] 0,aU (au 2 f (bf 1 (aO m1.ram.rf)) m1.sp) i j ⟨1,aO m1.ram.rf,x.ow,true⟩,m1.hd⟩:=fun c2 m1 hrm=>by
  obtain⟨f,e1,hf12, -⟩:=(w.cR hrm).1.aAm (eJ w hrm) hi hj (by rw[hxe];exact c2);rw[hxe]at e1;refine⟨f,e1,hf12,?_,?_⟩
  ·rw[sC];simp only[List.getElem?_map,(hsome (by omega) m1 hrm).1,Option.map_some];rw[if_pos ⟨c2,e1⟩]
  ·rw[bW,hxe,if_neg (by omega),hrm,Option.map_some,if_neg (by omega),e1,Int.toNat_natCast]
 rcases hc with rfl|rfl|rfl|rfl|rfl
 all_goals
  refine cx rfl rfl rfl (bD hrow hrl rfl) rfl ?_;conv=>whnf
  refine aH (k:=j) rfl rfl rfl hjS ?_;conv=>whnf
  refine cx rfl rfl rfl (ah (aa (f:=rL) hxS) rfl rfl rfl) rfl ?_;conv=>whnf
  refine CondP.mk (fun c0=>?_) (fun c0=>?_)<;>conv=>whnf
  ·have c0:x.kd=0:=by simpa using c0
   have c1:¬x.kd=1:=by omega
   have hcall:=wQ E m (-1) w hE hr;cases hrm:cR m (-1)with
   |none=>
    rw[nE,hrm]at hcall;have hb:=hnone c1 hrm;refine dK (r:=.tup [.one (dI (-1)),.one (dB false)]) (Hr:=oHm E m) [.pass,.pass] [0,1,2,3,4,5,6] rfl rfl rfl rfl hcall rfl (pt (E:=E) (m:=m) (m1:=m) fun _=>rfl) ?_
    (conv=>whnf)<;>repeat' first|(refine aE ?_;conv=>whnf)|(refine aD ?_;conv=>whnf)
    rw[hb];exact⟨rfl,rfl⟩
   |some m1=>
    rw[nE,hrm]at hcall;obtain⟨w1,hf⟩:=w.cR hrm;have l1:=w1.L;have ha:=eJ w hrm;have hlS:=wU ha;obtain⟨hxS1,hjS1⟩:=hsome c1 m1 hrm;refine dK (r:=.tup [.one (dI (aO m1.ram.rf)),.one (dB true)]) (Hr:=oHm E m1) [.pass,.pass] [0,1,2,3,4,5,6] rfl rfl rfl rfl hcall rfl (pt (E:=E) (m:=m) (m1:=m1) hlS) ?_
    (conv=>whnf)<;>repeat' first|(refine aE ?_;conv=>whnf)|(refine aD ?_;conv=>whnf)
    refine pX rfl rfl (m:=4) (c:=4) rfl rfl (by decide) (by decide) (by decide) ?_;conv=>whnf
    refine pF rfl rfl (bs:=jK) rfl ?_;conv=>whnf
    simp only[List.length_map,l1.rt,l1.rr];refine aH (k:=aO m1.ram.rf) rfl rfl rfl hf ?_;conv=>whnf
    refine aI rfl rfl rfl (by simpa [l1.rt]using hf) (by decide) ?_;conv=>whnf
    refine aH (k:=aO m1.ram.rf) rfl rfl rfl hf ?_;conv=>whnf
    refine aI rfl rfl rfl (by simpa [l1.rr]using hf) (by decide) ?_;conv=>whnf
    refine d8 (row':=rL ⟨1,aO m1.ram.rf,true,false⟩) rfl rfl rfl (by simpa using hjS1) (jj (fun _=>rfl)) (eR _) rfl rfl rfl ?_;conv=>whnf
    refine aI rfl rfl rfl (by simpa using hjS1) (by decide) ?_;conv=>whnf
    rw[hb0 c0 m1 hrm,kn (by rw[l1.rt];exact hf),gZ (by rw[l1.rr];exact hf)];simp only[List.drop_zero,dw (show(m1.ram.tx.set (aO m1.ram.rf) jK).length=12 by simp[l1.rt]),dw (show(m1.ram.rf.set (aO m1.ram.rf) 1).length=12 by simp[l1.rr])];refine⟨rfl,?_⟩;show _=oH E (ab m1.ram (aO m1.ram.rf) jK 1) m1.swp m1.hd (spS (aU m1.sp _ j _));rw[←aC9 hi5 hxS1];rfl
  ·have c0:¬x.kd=0:=by simpa using c0
   refine CondP.mk (fun c2=>?_) (fun c2=>?_)<;>conv=>whnf
   ·have c2:x.kd=2:=by simpa using c2
    have c1:¬x.kd=1:=by omega
    have hcall:=wQ E m (-1) w hE hr;cases hrm:cR m (-1)with
    |none=>
     rw[nE,hrm]at hcall;have hb:=hnone c1 hrm;refine dK (r:=.tup [.one (dI (-1)),.one (dB false)]) (Hr:=oHm E m) [.pass,.pass] [0,1,2,3,4,5,6] rfl rfl rfl rfl hcall rfl (pt (E:=E) (m:=m) (m1:=m) fun _=>rfl) ?_
     (conv=>whnf)<;>repeat' first|(refine aE ?_;conv=>whnf)|(refine aD ?_;conv=>whnf)
     rw[hb];exact⟨rfl,rfl⟩
    |some m1=>
     rw[nE,hrm]at hcall;obtain⟨w1,hf⟩:=w.cR hrm;have l1:=w1.L;have ha:=eJ w hrm;have hlS:=wU ha;obtain⟨hxS1,hjS1⟩:=hsome c1 m1 hrm;refine dK (r:=.tup [.one (dI (aO m1.ram.rf)),.one (dB true)]) (Hr:=oHm E m1) [.pass,.pass] [0,1,2,3,4,5,6] rfl rfl rfl rfl hcall rfl (pt (E:=E) (m:=m) (m1:=m1) hlS) ?_
     (conv=>whnf)<;>repeat' first|(refine aE ?_;conv=>whnf)|(refine aD ?_;conv=>whnf)
     obtain⟨f,e1,hf12,hx2,hb⟩:=hb2 c2 m1 hrm;obtain⟨tx,htx⟩:∃tx,m1.swp.tx[f]?=some tx:=⟨_,List.getElem?_eq_getElem (by rw[l1.st];exact hf12)⟩;obtain⟨rf,hrf⟩:∃rf,m1.swp.rf[f]?=some rf:=⟨_,List.getElem?_eq_getElem (by rw[l1.sr];exact hf12)⟩;rw[htx,hrf]at hb;simp only[Option.getD_some]at hb;rw[hb];generalize aO m1.ram.rf=F at*;refine cx rfl rfl rfl (ah (aa (f:=rL) hxS1) rfl rfl rfl) rfl ?_;conv=>whnf
     simp only[e1,List.length_map,l1.rt,l1.rr,l1.st];refine aH (k:=f) rfl rfl rfl hf12 ?_;conv=>whnf
     refine cx rfl rfl rfl (ah (aa (f:=rS) htx) rfl rfl rfl) rfl ?_;conv=>whnf
     simp only[List.length_map,l1.sr];refine aH (k:=f) rfl rfl rfl hf12 ?_;conv=>whnf
     refine cx rfl rfl rfl (ah (aa (f:=rI) hrf) rfl rfl rfl) rfl ?_;conv=>whnf
     refine aH (k:=F) rfl rfl rfl hf ?_;conv=>whnf
     refine aI rfl rfl rfl (by simpa [l1.rt]using hf) (by decide) ?_;conv=>whnf
     refine aH (k:=F) rfl rfl rfl hf ?_;conv=>whnf
     refine aI rfl rfl rfl (by simpa [l1.rr]using hf) (by decide) ?_;conv=>whnf
     rw[kn (by rw[l1.rt];exact hf),gZ (by rw[l1.rr];exact hf)];simp only[List.drop_zero,dw l1.st,dw l1.sr,dw (show(m1.ram.tx.set F tx).length=12 by simp[l1.rt]),dw (show(m1.ram.rf.set F rf).length=12 by simp[l1.rr]),List.length_map,l1.st,l1.sr];refine aH (k:=f) rfl rfl rfl hf12 ?_;conv=>whnf
     refine aI rfl rfl rfl (by simpa [l1.st]using hf12) (by decide) ?_;conv=>whnf
     refine aH (k:=f) rfl rfl rfl hf12 ?_;conv=>whnf
     refine aI rfl rfl rfl (by simpa [l1.sr]using hf12) (by decide) ?_;conv=>whnf
     rw[kn (by rw[l1.st];exact hf12),gZ (by rw[l1.sr];exact hf12)];simp only[List.drop_zero,dw (show(m1.swp.tx.set f []).length=12 by simp[l1.st]),dw (show(m1.swp.rf.set f 0).length=12 by simp[l1.sr])];have nj1:=nj.same hlS;have hS16:∀i,(spS m1.sp i).length≤16:=fun i=>by
      rcases Nat.lt_or_ge i m1.sp.length with c|c
      ·rw[il c];exact w1.sl _ (List.getElem_mem c)
      ·rw[pJ c];exact Nat.zero_le _
     refine iP [] [.pass,.pass,.pass] [0,1,2,3,4,5,6] J rfl rfl rfl rfl rfl (aCR E (ab m1.ram F tx rf) (ab m1.swp f [] 0) m1.hd (spS m1.sp) Js 2 f hE hr hS16 (by decide) J nj1) (nj1.of (lt7 ⟨rfl,rfl,rfl,rfl,rfl,rfl,rfl⟩)) rfl
      ((cB rfl rfl (by rfl) rfl).trans ((oO rfl rfl (by rfl) rfl).trans ((aN rfl rfl (by rfl)).trans ((aN rfl rfl (by rfl)).trans ((aN rfl rfl (by rfl)).trans ((aN rfl rfl (by rfl)).trans ((aN rfl rfl (by rfl)).trans rfl))))))) ?_
     conv=>whnf
     simp only[List.drop_zero,List.take_length,nR];obtain⟨S,hSe⟩:∃S,spS m1.sp=S:=⟨_,rfl⟩;rw[hSe]at nj1 hS16;simp only[hSe];obtain⟨L,hL⟩:∃L,jO S 2 f 5=L:=⟨_,rfl⟩;simp only[hL,List.length_map];obtain⟨N,hN⟩:∃N,L.length=N:=⟨_,rfl⟩;have hN80:N≤1000:=by have:=o7 (Js:=Js) (kd:=2) (pl:=f) hS16 (i:=5);rw[nR,hL,List.length_map,hN]at this;omega
     simp only[hN];refine aV (fun q:Nat=>[(7,.v (.one (.ptr _ j 0))),(10,.v (.one (dI F))),(117,.v (.one (.own 1 (L.map (tkP Js))))),(118,.v (.one (dI N))),(119,.v (.one (dI q)))])
      (fun q=>oH E (ab m1.ram F tx rf) (ab m1.swp f [] 0) m1.hd (eX (bf 1 F) S (L.take q))) (fun _=>7)
      (fun q=>q≤N) (fun q=>N-q) 0 (Nat.zero_le _) rfl (by rw[List.take_zero,og];rfl) rfl fun q hqN=>?_
     conv=>whnf
     refine CondP.mk (fun h6=>?_) (fun h6=>?_)<;>conv=>whnf
     ·have hq:q<L.length:=by
                     have:(q:Int)< (N:Int):=by simpa using h6
                     omega
      obtain⟨i',j',y,he,hi5',hy,hJ⟩:=aAv (P:=Try.prog) nj1 hL q hq;have hrow':(L.map (tkP Js))[q]?=some (tk (Js i') j'):=by simp[hq,he,tkP]
      have hst:cL (2+i') (.arr 4 ((((eX (bf 1 F) S (L.take q) i').map rL).modify j' (fun row=>row.set 0 (.sc (.int .i64 1)))).modify j' (fun row=>row.set 1 (.sc (.int .i64 F)))) []) (oH E (ab m1.ram F tx rf) (ab m1.swp f [] 0) m1.hd (eX (bf 1 F) S (L.take q)))=oH E (ab m1.ram F tx rf) (ab m1.swp f [] 0) m1.hd (eX (bf 1 F) S (L.take (q+1))):=by have hx':=iN (f:=bf 1 F) (L:=L.take q) hy;have hjl:=(List.getElem?_eq_some_iff.1 hx').1;rw[mP hq he hy,←oa hi5',aX (aa (f:=rL) hx'),aX (List.getElem?_set_self (by simpa using hjl)),List.set_set,←map_set];split<;>rfl
      have hjl:j'< (eX (bf 1 F) S (L.take q) i').length:=(List.getElem?_eq_some_iff.1 (iN (f:=bf 1 F) (L:=L.take q) hy)).1;obtain⟨S',hS'⟩:∃S',eX (bf 1 F) S (L.take q)=S':=⟨_,rfl⟩;rw[hS']at hst hjl;simp only[hS'];obtain⟨D,hD⟩:∃D,Js i'=D:=⟨_,rfl⟩;rw[hD]at hrow' hJ;have nextq:IntKind.wrap .i64 ((q:Int)+1)=((q+1:Nat):Int):=wrap64 (by omega) (by omega);simp only[List.length_map,hN];refine aH (k:=q) rfl rfl rfl (by omega) ?_;conv=>whnf
      refine cx rfl rfl rfl (ah hrow' rfl rfl rfl) rfl ?_;conv=>whnf
      have hc':i'=0∨i'=1∨i'=2∨i'=3∨i'=4:=by omega
      clear hy hD he hS' hi5';rcases hc' with rfl|rfl|rfl|rfl|rfl
      all_goals
       refine fc (i:=j') rfl rfl hJ rfl ?_;conv=>whnf
       refine aI rfl rfl rfl (by simpa using hjl) (by decide) ?_;conv=>whnf
       refine fc (i:=j') rfl rfl hJ rfl ?_;conv=>whnf
       refine aI rfl rfl rfl (by simpa using hjl) (by decide) ?_;conv=>whnf
       refine⟨q+1,by omega,by omega,?_,by rw[←hst];rfl,rfl⟩;rw[nextq,List.take_of_length_le (by simp;omega)];rfl
     ·have hqe:q=N:=by
                  have:¬(q:Int)< (N:Int):=by simpa using h6
                  omega
      subst hqe;have hSt:eX (bf 1 F) S (L.take q)=spS (au 2 f (bf 1 F) m1.sp):=by rw[List.take_of_length_le (by omega),←hL,←hSe];exact oL w1.sp
      simp only[hSt];refine aI rfl rfl rfl (by simpa using(List.getElem?_eq_some_iff.1 hx2).1) (by decide) ?_;conv=>whnf
      refine⟨rfl,?_⟩;show _=oH E (ab m1.ram F tx rf) (ab m1.swp f [] 0) m1.hd (spS (aU (au 2 f (bf 1 F) m1.sp) _ j {bf 1 F x with us:=true}));rw[←aCN hi5 hx2];rfl
   ·have c2:¬x.kd=2:=by simpa using c2
    have c1:x.kd=1:=by omega
    refine aI rfl rfl rfl (by simpa using hjS) (by decide) ?_;conv=>whnf
    rw[hb1 c1];refine⟨rfl,?_⟩;show _=oH E m.ram m.swp m.hd (spS (aU m.sp _ j _));rw[←aCN hi5 hxS];rfl
end Go.Qm
namespace Go.Qm
open Go.Cq Go.Cq.D Go.RowKit Go.Proofs
set_option maxRecDepth 10000
theorem aCC{α:Type}{l:List α}(h:l.length=5):∃a b c d e,l=[a,b,c,d,e]:=
 match l,h with
 | [a,b,c,d,e],_=>⟨a,b,c,d,e,rfl⟩
theorem aAL{P:Prg}{ts:DTs}{H:DH}{n:Nat}{K:DT→DTs→DH→Nat→List Nat→Prop}(es:List Go.Cq.D.Loc)(ms:List M)(ρ:List Nat)(J:Nm){f:FuncId}{args:List Opd}{Hr:DH}{r:DT}(hJ:∀t p,J t=some p→∃g,ρ[t]?=some g∧P.J g=some p)(h5:g9 ρ.length Hr=true)(h:yZ es ts H n fun ts1 H1 n1=>∃das cas Hc H',d9 ts1 args=some das∧ff H1 ρ ms das=some cas∧dp (fun g=>fS ρ g 0) H1 ρ 0=some Hc∧(nodup ρ&&(nodup (given ms das)&&(bX (given ms das) ρ&&(bX (dU ms das) (given ms das)&&bX (dU ms das) ρ))))=true∧(jI P.prog J f cas Hc ρ.length fun x H'=>x=r∧H'=Hr)∧
   bC (fun t=>ρ[t]?) Hr ρ 0 (fG (given ms das) H1)=some H'∧fDT (gD (fun t=>ρ[t]?) r) fun x=>fTs ts1 fun ts1=>fDH H' fun H'=>K x ts1 H' n1 (given ms das++ρ)):OpP P (.call f args) ts H n K:=by
 rw[r9]at h;obtain⟨das,cas,Hc,H',h1,h2,h3,h4,hc,h6,h⟩:=h;exact iP es ms ρ J rfl h1 h2 h3 h4 hc hJ h5 h6 h
theorem iR{es:List (List PV)}{i:Nat}{s t:Space}(h:es[i]?=some (rP s))(h1:t.lv=s.lv)(h2:t.ar=s.ar):es.modify i (fun row=>row.set 2 (.sl 4 (((t.sl.map rL).drop 0).take t.sl.length)))=es.set i (rP t):=by rw[aX h,List.drop_zero,aj];simp only[rP,h1,h2];rfl
theorem uM{ram swp:Pages}{s0 s1 s2 s3 s4:Space}{hd:Int}{i j:Nat}(w:Wf ⟨ram,swp,[s0,s1,s2,s3,s4],hd⟩):∃(ram' swp':Pages)(t0 t1 t2 t3 t4:Space)(hd':Int),(bW ⟨ram,swp,[s0,s1,s2,s3,s4],hd⟩ i j).getD ⟨ram,swp,[s0,s1,s2,s3,s4],hd⟩=⟨ram',swp',[t0,t1,t2,t3,t4],hd'⟩∧(t0.lv=s0.lv∧t0.ar=s0.ar∧t0.sl.length=s0.sl.length)∧(t1.lv=s1.lv∧t1.ar=s1.ar∧t1.sl.length=s1.sl.length)∧(t2.lv=s2.lv∧t2.ar=s2.ar∧t2.sl.length=s2.sl.length)∧(t3.lv=s3.lv∧t3.ar=s3.ar∧t3.sl.length=s3.sl.length)∧(t4.lv=s4.lv∧t4.ar=s4.ar∧t4.sl.length=s4.sl.length):=by
 cases hb:bW ⟨ram,swp,[s0,s1,s2,s3,s4],hd⟩ i j with
 |none=>exact⟨_,_,_,_,_,_,_,_,rfl,⟨rfl,rfl,rfl⟩,⟨rfl,rfl,rfl⟩,⟨rfl,rfl,rfl⟩,⟨rfl,rfl,rfl⟩,⟨rfl,rfl,rfl⟩⟩
 |some m'=>obtain⟨h1,h2⟩:=lP w hb;obtain⟨ram',swp',sp',hd'⟩:=m';obtain⟨t0,t1,t2,t3,t4,rfl⟩:=aCC (h1.trans rfl);exact⟨_,_,_,_,_,_,_,_,rfl,h2 0 (by simp) (by simp),h2 1 (by simp) (by simp),h2 2 (by simp) (by simp),h2 3 (by simp) (by simp),h2 4 (by simp) (by simp)⟩
theorem aDB{P:Prg}{ρ:List Nat}:∀t p,noJ t=some p→∃g,ρ[t]?=some g∧P.J g=some p:=fun t p e=>by simp[noJ]at e
end Go.Qm
namespace Go.Qm
open Go.Cq Go.Cq.D Go.RowKit Go.Proofs
set_option maxRecDepth 10000
set_option maxHeartbeats 8000000 in
theorem pG(hc:vW)(b1 b2 b3 b4 b5:Bool)(m:Mem)(who:Int)(h:m.fits 1048576):ae Try.prog 43 [aM b1 b2 b3 b4 b5 m,.one (dI who)] (.tup [oM (dH m who).1,.one (dI (dH m who).2.1),.one (dB (dH m who).2.2)]):=by
 refine aJ hmix Try.func43 ok43 ?_;conv=>whnf
 refine aB [.pass] rfl rfl rfl (hc b1 b2 b3 b4 b5 m h) rfl ?_;conv=>whnf
 cases h1:c8 m with
 |false=>
  (conv=>whnf)<;>repeat' first|(refine aE ?_;conv=>whnf)|(refine aD ?_;conv=>whnf)
  refine⟨?_,rfl⟩;simp[dH,h1,oM,gI,dI,dB]
 |true=>
 (conv=>whnf)<;>repeat' first|(refine aE ?_;conv=>whnf)|(refine aD ?_;conv=>whnf)
 refine aB [.pass,.pass] rfl rfl rfl (aBE b1 b2 b3 b4 b5 m who (by have:=h.sp;omega)) rfl ?_
 (conv=>whnf)<;>repeat' first|(refine aE ?_;conv=>whnf)|(refine aD ?_;conv=>whnf)
 cases h2:gB m.sp who with
 |false=>
  (conv=>whnf)<;>repeat' first|(refine aE ?_;conv=>whnf)|(refine aD ?_;conv=>whnf)
  refine⟨?_,rfl⟩;simp[dH,h2,oM,gI,dI,dB]
 |true=>
 (conv=>whnf)<;>repeat' first|(refine aE ?_;conv=>whnf)|(refine aD ?_;conv=>whnf)
 refine aB [.pass] rfl rfl rfl (tQ b1 b2 b3 b4 b5 m h.sp) rfl ?_
 (conv=>whnf)<;>repeat' first|(refine aE ?_;conv=>whnf)|(refine aD ?_;conv=>whnf)
 obtain⟨i,rfl,hi,hlv⟩:=kc h2;obtain⟨ha,hal,hsl⟩:=pA h1 hi hlv;have w:=pH h1;have hmf:dH m i=if(en m i).2<0 then(gI, -1,false)else((en m i).1,(en m i).2,true):=by simp[dH,h1,h2]
 refine CondP.mk (fun c=>?_) (fun c=>?_)<;>conv=>whnf
 ·have c:¬br m.sp<m.sp.length:=fun e=>by rw[fY,if_pos e]at c;simp at c;omega
  refine⟨?_,rfl⟩;rw[hmf,en,if_neg c];simp[oM,gI,dI,dB]
 have c1:br m.sp<m.sp.length:=by
  rcases Nat.lt_or_ge (br m.sp) m.sp.length with e|e
  ·exact e
  ·rw[fY,if_neg (by omega)]at c;simp at c
 clear c;refine aB [.pass] rfl rfl rfl (sZ b1 b2 b3 b4 b5 m h) rfl ?_;conv=>whnf
 refine aG (k:=i) rfl rfl (by simpa using hi) ?_;conv=>whnf
 refine aC rfl (r:=.one (.ro b5 4 (m.sp[i].sl.map rL))) (by simp[aY,rP,hi]) ?_;conv=>whnf
 simp only[List.drop_zero,List.take_length];have hfm:en m i=if(bN m i 16).2 then(eZ (dq (bN m i 16).1 i 16) i (br m.sp),((br m.sp:Nat):Int))else((bN m i 16).1, -1):=by rw[en,if_pos c1]
 have hat:∀j:Nat,cq m.sp[i].ar j=bI m.sp[i].ar j:=fun j=>by rw[cq,if_pos ha]
 refine aV (fun j:Nat=>[(1,.v (.one (dI i))),(2,.v (.one (.ptr 0 0 0))),(4,.v (.one (.ptr 1 0 0))),(7,.v (.one (.ptr 2 0 0))),(36,.v (.one (.ro b5 4 (m.sp[i].sl.map rL)))),(37,.v (.one (dI 16))),(38,.v (.one (dI j)))])
  (fun j=>[(2,bO (bN m i j).1),(1,bO gI),(0,.box [.ro b1 1 (m.ram.tx.map rS),.ro b2 1 (m.ram.rf.map rI),.ro b3 1 (m.swp.tx.map rS),.ro b4 1 (m.swp.rf.map rI),.ro b5 3 (m.sp.map rP),dI m.hd])]) (fun _=>3)
  (fun j=>j≤16∧(bN m i j).2=true) (fun j=>16-j) 0 ⟨by omega,rfl⟩ (by rw[List.length_map,hsl];rfl) rfl rfl fun j hj=>?_
 obtain⟨hj16,hok⟩:=hj;obtain⟨w1,s1⟩:=nh w hi (j:=j) (by omega);have hstep:bN m i (j+1)=if(bN m i j).2&&(shP (bN m i j).1 i j&&decide ((aR (bN m i j).1 i j).kd=0))then(match bW (bN m i j).1 i j with
  |some m2=>(m2,true)
  |none=>((bN m i j).1,false))else bN m i j:=rfl
 have hkd:=aAN (m:=m) (i:=i) (Nat.le_refl j);rw[hok,Bool.true_and,shP,lp s1 hi]at hstep;obtain⟨m1,hm1⟩:∃m1,(bN m i j).1=m1:=⟨_,rfl⟩;rw[hm1]at hstep w1 s1 hkd;simp only[hm1];have l1:=w1.L;have hi1:i<m1.sp.length:=by rw[s1.1];exact hi
 obtain⟨-,ear,esl⟩:=s1.2 i hi hi1;conv=>whnf
 refine CondP.mk (fun c2=>?_) (fun c2=>?_)<;>conv=>whnf
 ·have hj15:j<16:=by
               have:(j:Int)<16:=by simpa using c2
               omega
  have hj1:j<m1.sp[i].sl.length:=by omega
  have hj0:j<m.sp[i].sl.length:=by omega
  rw[dh hi hj0]at hkd;refine aG (k:=j) rfl rfl (by simpa using hj0) ?_;conv=>whnf
  refine aC rfl (ldL hj0) ?_;conv=>whnf
  refine CondP.mk (fun c3=>?_) (fun c3=>?_)<;>rw[c3]<;>(conv=>whnf)<;>repeat' first|(refine aE ?_;conv=>whnf)|(refine aD ?_;conv=>whnf)
  ·have c3:m.sp[i].sl[j].kd=0:=by simpa using c3
   rw[decide_eq_true (hkd.2 c3),Bool.and_true]at hstep;refine aG (k:=i) rfl rfl (by simpa using hi) ?_
   (conv=>whnf)<;>repeat' first|(refine aE ?_;conv=>whnf)|(refine aD ?_;conv=>whnf)
   refine aC rfl (ldP hi) ?_
   (conv=>whnf)<;>repeat' first|(refine aE ?_;conv=>whnf)|(refine aD ?_;conv=>whnf)
   refine aB [.pass,.pass] rfl rfl rfl (kD b5 b5 m.sp[i] j (by omega)) rfl ?_;rw[hat];cases hsh:iB m.sp[i].ar (bI m.sp[i].ar j)with
   |false=>
    rw[hsh]at hstep
    (conv=>whnf)<;>repeat' first|(refine aE ?_;conv=>whnf)|(refine aD ?_;conv=>whnf)
    refine⟨j+1,by omega,⟨by omega,by rw[hstep];exact hok⟩,?_,?_,rfl⟩
    ·rw[wrap64 (by omega) (by omega)];rfl
    ·rw[hstep];simp only[Bool.false_eq_true,if_false,hm1];rfl
   |true=>
    rw[hsh,if_pos rfl]at hstep
    (conv=>whnf)<;>repeat' first|(refine aE ?_;conv=>whnf)|(refine aD ?_;conv=>whnf)
    clear hkd ear esl l1;obtain⟨ram,swp,sp,hd⟩:=m1;obtain⟨s0,s1',s2,s3,s4,rfl⟩:=aCC w1.sp;have hcall:=zK ([s0,s1',s2,s3,s4].map rP) ⟨ram,swp,[s0,s1',s2,s3,s4],hd⟩ i j w1 rfl (by simp[rP]) hi1 hj1;obtain⟨ram',swp',t0,t1,t2,t3,t4,hd',hm',p0,p1,p2,p3,p4⟩:=uM (i:=i) (j:=j) w1;rw[hm']at hcall;refine aAL (Hr:=oHm ([s0,s1',s2,s3,s4].map rP) ⟨ram',swp',[t0,t1,t2,t3,t4],hd'⟩) (r:=.v (.one (dB (bW ⟨ram,swp,[s0,s1',s2,s3,s4],hd⟩ i j).isSome))) [.h 2 0 4,.h 4 4 2,.h 4 3 2,.h 4 2 2,.h 4 1 2,.h 4 0 2] [.pass,.pass,.pass] [2,4,9,8,7,6,5] noJ aDB rfl ?_;conv=>whnf
    simp only[List.length_map];refine⟨_,_,_,_,rfl,rfl,rfl,rfl,hcall.toJ,(cB rfl rfl (by rfl) rfl).trans ((oO rfl rfl (by rfl) rfl).trans ((aN rfl rfl (by simp[spS,p0.2.2])).trans ((aN rfl rfl (by simp[spS,p1.2.2])).trans ((aN rfl rfl (by simp[spS,p2.2.2])).trans ((aN rfl rfl (by simp[spS,p3.2.2])).trans ((aN rfl rfl (by simp[spS,p4.2.2])).trans rfl)))))),?_⟩
    (conv=>whnf)<;>repeat' first|(refine aE ?_;conv=>whnf)|(refine aD ?_;conv=>whnf)
    refine ai (lo:=0) (len:=t0.sl.length) rfl rfl rfl rfl (iR (t:=t0) rfl p0.1 p0.2.1) rfl ?_;conv=>whnf
    refine ai (lo:=0) (len:=t1.sl.length) rfl rfl rfl rfl (iR (t:=t1) rfl p1.1 p1.2.1) rfl ?_;conv=>whnf
    refine ai (lo:=0) (len:=t2.sl.length) rfl rfl rfl rfl (iR (t:=t2) rfl p2.1 p2.2.1) rfl ?_;conv=>whnf
    refine ai (lo:=0) (len:=t3.sl.length) rfl rfl rfl rfl (iR (t:=t3) rfl p3.1 p3.2.1) rfl ?_;conv=>whnf
    refine ai (lo:=0) (len:=t4.sl.length) (es2:=[t0,t1,t2,t3,t4].map rP) rfl rfl rfl rfl ((iR (t:=t4) rfl p4.1 p4.2.1).trans rfl) rfl ?_;conv=>whnf
    cases hb:bW ⟨ram,swp,[s0,s1',s2,s3,s4],hd⟩ i j with
    |none=>
     rw[hb]at hstep
     (conv=>whnf)<;>repeat' first|(refine aE ?_;conv=>whnf)|(refine aD ?_;conv=>whnf)
     have hst:bN m i 16=(⟨ram,swp,[s0,s1',s2,s3,s4],hd⟩,false):=by have:=oh (m:=m) (i:=i) (j:=j+1) (by rw[hstep]) (15-j);rw[show j+1+(15-j)=16 by omega,hstep]at this;exact this
     rw[hmf,hfm,hst];refine⟨?_,rfl⟩;simp[oM,gI,dI,dB]
    |some m2=>
     rw[hb,Option.getD_some]at hm';subst hm';rw[hb]at hstep;have hst:bN m i (j+1)=(⟨ram',swp',[t0,t1,t2,t3,t4],hd'⟩,true):=hstep
     (conv=>whnf)<;>repeat' first|(refine aE ?_;conv=>whnf)|(refine aD ?_;conv=>whnf)
     refine⟨j+1,by omega,⟨by omega,by rw[hst]⟩,?_,?_,rfl⟩
     ·rw[wrap64 (by omega) (by omega)];rfl
     ·rw[hst];rfl
  ·have c3:¬m.sp[i].sl[j].kd=0:=by simpa using c3
   rw[decide_eq_false fun e=>c3 (hkd.1 e),Bool.and_false]at hstep;refine⟨j+1,by omega,⟨by omega,by rw[hstep];exact hok⟩,?_,?_,rfl⟩
   ·rw[wrap64 (by omega) (by omega)];rfl
   ·rw[hstep];simp only[Bool.false_eq_true,if_false,hm1];rfl
 have hje:j=16:=by
             have:¬(j:Int)<16:=by simpa using c2
             omega
 subst hje;rw[hok,hm1]at hfm;clear hstep c2 hok hj16 hkd;refine aB [.pass] rfl rfl rfl (tQ b1 b2 b3 b4 b5 m h.sp) rfl ?_;conv=>whnf
 rw[fY,if_pos c1];obtain⟨Z,hZ⟩:∃Z,br m.sp=Z:=⟨_,rfl⟩;rw[hZ]at c1 hfm ⊢;have hg:=aa (f:=rP) (List.getElem?_eq_getElem hi1);have hsl1:m1.sp[i].sl.length=16:=by omega
 refine aH (k:=i) rfl rfl rfl (by simpa using hi1) ?_;conv=>whnf
 refine we (v:=.bool m1.sp[i].lv) (a:=m1.sp[i].ar.map rA) (b:=m1.sp[i].sl.map rL) m1.sp[i].ar.length m1.sp[i].sl.length rfl rfl rfl hg rfl rfl (by simp) (by simp) ?_;conv=>whnf
 rw[hsl1];refine aV (fun j:Nat=>[(4,.v (.one (.ptr 1 0 0))),(7,.v (.one (.ptr 2 0 0))),(10,.v (.one (dI Z))),(11,.v (.one (.ptr 6 0 0))),(72,.v (.one (dI 16))),(73,.v (.one (dI j)))])
  (fun j=>[(6,.box [dB m1.sp[i].lv,.sl 4 0 m1.sp[i].ar.length,.sl 5 0 16]),(5,.arr 4 ((mE (dq m1 i j) i).map rL) []),(4,.arr 4 (m1.sp[i].ar.map rA) []),(3,.arr 3 (m1.sp.map rP) [(i,2,.sl 5 0 16),(i,1,.sl 4 0 m1.sp[i].ar.length)]),
   (2,.box [.own 1 ((dq m1 i j).ram.tx.map rS),.own 1 ((dq m1 i j).ram.rf.map rI),.own 1 ((dq m1 i j).swp.tx.map rS),.own 1 ((dq m1 i j).swp.rf.map rI),.sl 3 0 m1.sp.length,dI (dq m1 i j).hd]),(1,bO gI)]) (fun _=>7)
  (fun j=>j≤16) (fun j=>16-j) 0 (by omega) rfl (by simp[wv hi1,dq,dI,dB];rfl) rfl fun j hj16=>?_
 have fk:=oX w1.ram w1.swp (i:=i) (j:=j);obtain⟨m3,hm3⟩:∃m3,dq m1 i j=m3:=⟨_,rfl⟩;have hstep:dq m1 i (j+1)=lD m3 i j:=by rw[←hm3];rfl
 rw[hm3]at fk;simp only[hm3];have hi3:i<m3.sp.length:=by rw[fk.sm.1];exact hi1
 obtain⟨-,ear3,esl3⟩:=fk.sm.2 i hi1 hi3;obtain⟨L,hL⟩:∃L,mE m3 i=L:=⟨_,rfl⟩;simp only[hL];have hL3:L=m3.sp[i].sl:=by rw[←hL,wv hi3]
 have hL16:L.length=16:=by rw[hL3];omega
 conv=>whnf
 refine CondP.mk (fun c2=>?_) (fun c2=>?_)<;>conv=>whnf
 ·have hj15:j<16:=by
               have:(j:Int)<16:=by simpa using c2
               omega
  have hjL:j<L.length:=by omega
  obtain⟨x,hx⟩:∃x,L[j]=x:=⟨_,rfl⟩;have hx3:aR m3 i j=x:=by rw[dh hi3 (by rw[←hL3];exact hjL),←hx];simp only[hL3]
  obtain⟨sh,hsh⟩:∃sh,iB m1.sp[i].ar (bI m1.sp[i].ar j)=sh:=⟨_,rfl⟩;have hS:lD m3 i j=⟨gW (x.kd=1) m3.ram x.pl.toNat,gW (x.kd=2) m3.swp x.pl.toNat,aU m3.sp i j ⟨x.kd,x.pl,sh&&x.ow,x.us⟩,m3.hd⟩:=by rw[lD,shP,lp fk.sm hi1,hsh,hx3];cases sh<;>rfl
  have hSL:mE (lD m3 i j) i=L.set j ⟨x.kd,x.pl,sh&&x.ow,x.us⟩:=by rw[hS,aAh,hL]
  have htl:(x.kd=1→∃f:Nat,x.pl=f∧f<12)∧(x.kd=2→∃f:Nat,x.pl=f∧f<12):=by have e:=fk.at_ j (Nat.le_refl j);obtain⟨t1,t2⟩:=w1.slot (i:=i) (j:=j) hi1 (by omega);rw[←e,hx3]at t1 t2;exact⟨fun c=>let⟨f,a,b,_⟩:=t1 c;⟨f,a,b⟩,fun c=>let⟨f,a,b,_⟩:=t2 c;⟨f,a,b⟩⟩
  obtain⟨y,hy⟩:∃y,(⟨x.kd,x.pl,sh&&x.ow,x.us⟩:Slot)=y:=⟨_,rfl⟩;have hyk:y.kd=x.kd:=by rw[←hy]
  have hyp:y.pl=x.pl:=by rw[←hy]
  rw[hy]at hS hSL;have hjy:(L.set j y)[j]?=some y:=List.getElem?_set_self hjL;have hL0:(L.map rL).modify j (fun row=>row.set 2 (.sc (.bool (sh&&x.ow))))=(L.set j y).map rL:=by rw[aX (aa (f:=rL) (List.getElem?_eq_getElem hjL)),←map_set,hx,←hy];rfl
  refine aH (k:=j) rfl rfl rfl hj15 ?_;conv=>whnf
  have hro:some [DV.agg [dB m1.sp[i].lv,.ro true 4 (((m1.sp[i].ar.map rA).drop 0).take m1.sp[i].ar.length),.ro true 4 (((L.map rL).drop 0).take 16)],.one (dI j)]=some [.agg [dB m1.sp[i].lv,.ro true 4 (m1.sp[i].ar.map rA),.ro true 4 (L.map rL)],.one (dI j)]:=by simp only[List.drop_zero,aj,kh hL16]
  refine aB [.lend,.pass] rfl hro rfl (kD true true ⟨m1.sp[i].lv,m1.sp[i].ar,L⟩ j (by rw[ear];omega)) rfl ?_;rw[show cq m1.sp[i].ar j=bI m1.sp[i].ar j by rw[ear,hat],hsh];cases sh
  case' false=>
   (conv=>whnf)<;>repeat' first|(refine aE ?_;conv=>whnf)|(refine aD ?_;conv=>whnf)
   refine aI rfl rfl rfl (by simpa using hjL) (by decide) ?_;conv=>whnf
   rw[show(L.map rL).modify j (fun row=>row.set 2 (.sc (.bool false)))=(L.set j y).map rL from hL0]
  case' true=>
   (conv=>whnf)<;>repeat' first|(refine aE ?_;conv=>whnf)|(refine aD ?_;conv=>whnf)
   rw[show L.map rL=(L.set j y).map rL by rw[←hL0,aX (aa (f:=rL) (List.getElem?_eq_getElem hjL)),hx];exact(oq (aa (f:=rL) (hx▸List.getElem?_eq_getElem hjL))).symm]
  all_goals
   refine cx rfl rfl rfl (ah (aa (f:=rL) hjy) rfl rfl rfl) rfl ?_;conv=>whnf
   rw[hyk];refine CondP.mk (fun c3=>?_) (fun c3=>?_)<;>conv=>whnf
   ·have c3:x.kd=1:=by simpa using c3
    rw[f0 (show¬x.kd=2 by omega)]at hS;obtain⟨f,e1,e2⟩:=htl.1 c3;have e3:f<m3.ram.rf.length:=by rw[fk.rl,l1.rr];exact e2
    have hb:=fk.rb _ (List.getElem_mem e3);rw[kL c3 e1 e3]at hS;refine cx rfl rfl rfl (ah (aa (f:=rL) hjy) rfl rfl rfl) rfl ?_;conv=>whnf
    refine aH (k:=f) rfl rfl (by show some _=some _;rw[hyp,e1]) (by simpa using e3) ?_;conv=>whnf
    refine cx rfl rfl rfl (ah (row:=rI m3.ram.rf[f]) (by simp[e3]) rfl rfl rfl) rfl ?_;conv=>whnf
    refine aH (k:=f) rfl rfl (by show some _=some _;rw[hyp,e1]) (by simpa using e3) ?_;conv=>whnf
    refine aI rfl rfl rfl (by simpa using e3) (by decide) ?_;conv=>whnf
    refine⟨j+1,by omega,by omega,?_,?_,rfl⟩
    ·rw[wrap64 (by omega) (by omega)];rfl
    ·rw[hstep,hSL,hS,gZ e3,wrap64 (by omega) (by omega),List.drop_zero,List.take_of_length_le (by simp)];rfl
   ·have c3:¬x.kd=1:=by simpa using c3
    rw[f0 c3]at hS;refine CondP.mk (fun c4=>?_) (fun c4=>?_)<;>conv=>whnf
    ·have c4:x.kd=2:=by simpa using c4
     obtain⟨f,e1,e2⟩:=htl.2 c4;have e3:f<m3.swp.rf.length:=by rw[fk.sl,l1.sr];exact e2
     have hb:=fk.sb _ (List.getElem_mem e3);rw[kL c4 e1 e3]at hS;refine cx rfl rfl rfl (ah (aa (f:=rL) hjy) rfl rfl rfl) rfl ?_;conv=>whnf
     refine aH (k:=f) rfl rfl (by show some _=some _;rw[hyp,e1]) (by simpa using e3) ?_;conv=>whnf
     refine cx rfl rfl rfl (ah (row:=rI m3.swp.rf[f]) (by simp[e3]) rfl rfl rfl) rfl ?_;conv=>whnf
     refine aH (k:=f) rfl rfl (by show some _=some _;rw[hyp,e1]) (by simpa using e3) ?_;conv=>whnf
     refine aI rfl rfl rfl (by simpa using e3) (by decide) ?_;conv=>whnf
     refine⟨j+1,by omega,by omega,?_,?_,rfl⟩
     ·rw[wrap64 (by omega) (by omega)];rfl
     ·rw[hstep,hSL,hS,gZ e3,wrap64 (by omega) (by omega),List.drop_zero,List.take_of_length_le (by simp)];rfl
    ·have c4:¬x.kd=2:=by simpa using c4
     rw[f0 c4]at hS;refine⟨j+1,by omega,by omega,?_,?_,rfl⟩
     ·rw[wrap64 (by omega) (by omega)];rfl
     ·rw[hstep,hSL,hS];rfl
 have hje:j=16:=by
             have:¬(j:Int)<16:=by simpa using c2
             omega
 subst hje;have hZ3:Z<m1.sp.length:=by rw[s1.1];exact c1
 refine aB (cas:=[.one (.ro true 4 (m1.sp[i].ar.map rA))]) [.lend] rfl (by show some [DV.one (DC.ro true 4 (List.take _ (List.drop 0 _)))]=_;rw[List.drop_zero,aj]) rfl (qk true m1.sp[i].ar (by rw[ear];omega)) rfl ?_;conv=>whnf
 refine aB (cas:=[.one (.ro true 4 (L.map rL))]) [.lend] rfl (by show some [DV.one (DC.ro true 4 (List.take _ (List.drop 0 _)))]=_;rw[List.drop_zero,kh hL16]) rfl (qa true L (by omega)) rfl ?_;conv=>whnf
 refine aH (k:=Z) rfl rfl rfl hZ3 ?_;conv=>whnf
 have hgZ:=aa (f:=rP) (List.getElem?_eq_getElem hZ3);have hlv1:m1.sp[i].lv=true:=by rw[(s1.2 i hi hi1).1];exact hlv
 have hZi:¬i=Z:=fun e=>by have:=kA (l:=m.sp) (by rw[hZ];exact c1);simp only[hZ,←e,hlv]at this;exact absurd this (by decide)
 obtain⟨q,hq⟩:∃q,m1.sp.set Z ⟨true,m1.sp[i].ar,L⟩=q:=⟨_,rfl⟩;have hqi:i<q.length:=by rw[←hq,List.length_set];exact hi1
 have hqx:q[i]=m1.sp[i]:=by simp only[←hq];exact List.getElem_set_ne (fun e=>hZi e.symm) _
 have hgq:=aa (f:=rP) (List.getElem?_eq_getElem hqi);obtain⟨r,hr⟩:∃r,q.set i ⟨m1.sp[i].lv,m1.sp[i].ar,L⟩=r:=⟨_,rfl⟩;have hri:i<r.length:=by rw[←hr,List.length_set];exact hqi
 have hrx:r[i]=⟨m1.sp[i].lv,m1.sp[i].ar,L⟩:=by simp only[←hr];exact List.getElem_set_self _
 have hgr:=aa (f:=rP) (List.getElem?_eq_getElem hri);have hm4:eZ m3 i Z=⟨m3.ram,m3.swp,r,m3.hd⟩:=by have:=zV (m:=m1) hi1 (j:=16);rw[hm3,hL]at this;simp only[eZ,lp fk.sm hi1,hL,this];rw[←hr,←hq,List.set_comm _ _ hZi]
 refine iw rfl rfl rfl rfl rfl (aCP (by simpa using hZ3) rfl) ?_;conv=>whnf
 refine ai (i:=Z) (k:=2) (g':=8) (lo:=0) (len:=(L.map rL).length) (ov2:=[(Z,1,.sl 7 0 (m1.sp[i].ar.map rA).length),(i,2,.sl 5 0 16),(i,1,.sl 4 0 m1.sp[i].ar.length)]) rfl (bD (bU hgZ) (by simp[rP]) (by simp only[ag,if_true];rfl)) rfl rfl rfl (by simp only[ax,if_true,if_neg hZi];rfl) ?_;conv=>whnf
 refine ai (i:=Z) (k:=1) (g':=7) (lo:=0) (len:=(m1.sp[i].ar.map rA).length) (es2:=q.map rP) (ov2:=[(i,2,.sl 5 0 16),(i,1,.sl 4 0 m1.sp[i].ar.length)]) rfl (bD (bU (bU hgZ)) (by simp[rP]) (by simp only[ag,if_true];rfl)) rfl rfl (by rw[aA9 hZ3,←hq,←map_set];simp[rP]) (by simp only[ax,if_true,if_neg hZi];rfl) ?_;conv=>whnf
 refine ai (i:=i) (k:=2) (g':=5) (lo:=0) (len:=16) (es2:=r.map rP) (ov2:=[(i,1,.sl 4 0 m1.sp[i].ar.length)]) rfl (bD hgq (by simp[rP]) (by simp only[ag,if_true];rfl)) rfl rfl (by rw[List.drop_zero,kh hL16,aX hgq,←hr,←map_set,hqx];rfl) (by simp only[ax,if_true];rfl) ?_;conv=>whnf
 refine ai (i:=i) (k:=1) (g':=4) (lo:=0) (len:=m1.sp[i].ar.length) (es2:=r.map rP) (ov2:=[]) rfl (bD hgr (by simp[rP]) (by simp only[ag,if_true];rfl)) rfl rfl (by rw[List.drop_zero,aj,show m1.sp[i].ar=r[i].ar by rw[hrx]];exact mA hri) (by simp only[ax,if_true];rfl) ?_;conv=>whnf
 have hrl:r.length=m1.sp.length:=by rw[←hr,←hq,List.length_set,List.length_set]
 rw[hmf,hfm,hm3,hm4,if_pos rfl,if_neg (show¬((Z:Nat):Int)<0 by omega)];refine⟨?_,rfl⟩;simp[oM,dI,dB,kh hrl]
end Go.Qm
namespace Go.Qm
open Go.Cq Go.Cq.D Go.RowKit Go.Proofs
set_option maxRecDepth 10000
theorem oY:gI.fits 16:=⟨by simp[gI],by simp[gI],by simp[gI],by simp[gI],by simp[gI],fun s hs=>by simp[gI]at hs⟩
end Go.Qm
namespace Go.Qm
open Go.Cq Go.Cq.D Go.RowKit Go.Proofs
set_option maxRecDepth 10000
theorem pc{m:Mem}{who:Int}:(dH m who).1.fits 16:=by
 unfold dH;split
 ·rename_i h;simp only[Bool.and_eq_true]at h;have w:=pH h.1;have hs:=tK h.1;obtain⟨i,rfl,hi,hlv⟩:=kc h.2;have hsl:=(pA h.1 hi hlv).2.2;rw[Int.toNat_natCast];split
  ·exact oY
  ·rename_i c;unfold en at c ⊢;split at c
   ·rename_i c1;rw[if_pos c1];obtain⟨w1,s1⟩:=nh w hi (j:=16) (by omega);split at c
    ·rename_i c2;rw[if_pos c2];have hi1:i< (bN m i 16).1.sp.length:=by rw[s1.1];exact hi
     have fk:=oX w1.ram w1.swp (i:=i) (j:=16);have sm:=s1.trans fk.sm;have hi3:i< (dq (bN m i 16).1 i 16).sp.length:=by rw[sm.1];exact hi
     have key:∀(q:Nat)(hq:q< (dq (bN m i 16).1 i 16).sp.length),(dq (bN m i 16).1 i 16).sp[q].ar.length≤16∧(dq (bN m i 16).1 i 16).sp[q].sl.length≤16:=fun q hq=>by
      have hq':q<m.sp.length:=by rw[←sm.1];exact hq
      obtain⟨-,e2,e3⟩:=sm.2 q hq' hq;rw[e2,e3];exact hs.ss _ (List.getElem_mem hq')
     refine⟨by rw[eZ,fk.rt,w1.ram.tx];omega,by rw[eZ,fk.rl,w1.ram.rf];omega,by rw[eZ,fk.st,w1.swp.tx];omega,by rw[eZ,fk.sl,w1.swp.rf];omega,by simp only[eZ,List.length_set];rw[sm.1,w.sp];omega,fun s hs'=>?_⟩;rcases List.mem_or_eq_of_mem_set hs' with hs'|rfl
     ·obtain⟨q,hq,rfl⟩:=List.getElem_of_mem hs';exact key q hq
     ·have:=key i hi3;simpa [arF,mE,hi3]using this
    ·simp at c
   ·simp at c
 ·exact oY
set_option maxHeartbeats 4000000 in
theorem pd(hc:vW)(b1 b2 b3 b4 b5:Bool)(m:Mem)(who:Int)(hw:m.inW):ae Try.prog 16 [aM b1 b2 b3 b4 b5 m,.one (dI who)] (.v (.one (dB true))):=by
 refine aJ hmix Try.func16 ok16 ?_
 conv=>whnf
 refine aB [.pass,.pass] rfl rfl rfl (zm b1 b2 b3 b4 b5 m 1048576 (by omega) (by omega) hw) rfl ?_
 conv=>whnf
 refine CondP.mk (fun h1=>?_) (fun h1=>?_)<;>conv=>whnf
 ·exact⟨rfl,rfl⟩
 have h1:0≤nA 1048576 m:=by simpa using h1
 obtain⟨hf,hwt⟩:=aAj (by omega) h1 (by omega)
 refine aB [.pass] rfl rfl rfl (lI b1 b2 b3 b4 b5 m hf) rfl ?_
 conv=>whnf
 refine aB [.give,.pass] rfl rfl rfl (by simpa [oM,dI]using uW m who hf) rfl ?_
 conv=>whnf
 generalize hr:dH m who=r
 have hsm:r.1.fits 16:=by rw[←hr];exact pc
 refine aB [.pass] rfl rfl rfl (lI b1 b2 b3 b4 b5 m hf) rfl ?_
 conv=>whnf
 simp only[List.drop_zero,List.take_length]
 have heq:ae Try.prog 26 [aM true true true true true r.1,aM true true true true true r.1] (.v (.one (dB true))):=by
  simpa using tz true true true true true true true true true true r.1 r.1 (hsm.mono (by decide))
 refine aB (cas:=[aM true true true true true m,.one (dI who)]) [.lend,.pass] rfl (by show some [DV.agg [DC.ro true 1 (List.take _ (List.drop 0 _)),DC.ro true 1 (List.take _ (List.drop 0 _)),DC.ro true 1 (List.take _ (List.drop 0 _)),DC.ro true 1 (List.take _ (List.drop 0 _)),DC.ro true 3 (List.take _ (List.drop 0 _)),_],_]=_;simp only[List.drop_zero,List.take_length];rfl) rfl (pG hc true true true true true m who hf) rfl ?_
 conv=>whnf
 simp only[hr,List.drop_zero,List.take_length]
 refine aB (cas:=[aM true true true true true r.1,aM true true true true true r.1]) [.lend,.lend] rfl (by show some [DV.agg [DC.ro true 1 (List.take _ (List.drop 0 _)),DC.ro true 1 (List.take _ (List.drop 0 _)),DC.ro true 1 (List.take _ (List.drop 0 _)),DC.ro true 1 (List.take _ (List.drop 0 _)),DC.ro true 3 (List.take _ (List.drop 0 _)),_],DV.agg [DC.ro true 1 (List.take _ (List.drop 0 _)),DC.ro true 1 (List.take _ (List.drop 0 _)),DC.ro true 1 (List.take _ (List.drop 0 _)),DC.ro true 1 (List.take _ (List.drop 0 _)),DC.ro true 3 (List.take _ (List.drop 0 _)),_]]=_;simp only[List.drop_zero,List.take_length];rfl) rfl heq rfl ?_
 (conv=>whnf)<;>repeat' first|(refine aE ?_;conv=>whnf)|(refine aD ?_;conv=>whnf)
 simp only;(conv=>whnf)<;>repeat' first|(refine aE ?_;conv=>whnf)|(refine aD ?_;conv=>whnf)
 simp only[if_true,beq_self_eq_true,Bool.not_true];(conv=>whnf)<;>repeat' first|(refine aE ?_;conv=>whnf)|(refine aD ?_;conv=>whnf)
 refine aB [.pass] rfl rfl rfl (lI b1 b2 b3 b4 b5 m hf) rfl ?_
 conv=>whnf
 have heq2:ae Try.prog 26 [aM true true true true true m,aM true true true true true m] (.v (.one (dB true))):=by
  simpa using tz true true true true true true true true true true m m (hf.mono (by decide))
 simp only[List.drop_zero,List.take_length]
 refine aB (cas:=[aM true true true true true m,aM true true true true true m]) [.lend,.lend] rfl (by show some [DV.agg [DC.ro true 1 (List.take _ (List.drop 0 _)),DC.ro true 1 (List.take _ (List.drop 0 _)),DC.ro true 1 (List.take _ (List.drop 0 _)),DC.ro true 1 (List.take _ (List.drop 0 _)),DC.ro true 3 (List.take _ (List.drop 0 _)),_],DV.agg [DC.ro true 1 (List.take _ (List.drop 0 _)),DC.ro true 1 (List.take _ (List.drop 0 _)),DC.ro true 1 (List.take _ (List.drop 0 _)),DC.ro true 1 (List.take _ (List.drop 0 _)),DC.ro true 3 (List.take _ (List.drop 0 _)),_]]=_;simp only[List.drop_zero,List.take_length];rfl) rfl heq2 rfl ?_
 (conv=>whnf)<;>repeat' first|(refine aE ?_;conv=>whnf)|(refine aD ?_;conv=>whnf)
 simp only[List.drop_zero,List.take_length]
 simp only[List.length_map]
 refine eK [.pass,.pass] [24,25,26,27,28] rfl rfl rfl rfl (oR m 1 hf (by omega) (by omega)) fun res H3 hp=>?_
 obtain⟨rfl,rfl⟩:=hp
 refine⟨rfl,rfl,_,(aN rfl rfl (by simp[ct,ba,av])).trans ((aN rfl rfl (by simp[ct,ba,av])).trans ((aN rfl rfl (by simp[ct,ba,av])).trans ((aN rfl rfl (by simp[ct,ba,av])).trans ((aN rfl rfl (by simp[ct,ba,av])).trans rfl)))),?_⟩
 (conv=>whnf)<;>repeat' first|(refine aE ?_;conv=>whnf)|(refine aD ?_;conv=>whnf)
 refine aB (cas:=[aM true true true true true r.1,aM true true true true true r.1]) [.lend,.lend] rfl (by show some [DV.agg [DC.ro true 1 (List.take _ (List.drop 0 _)),DC.ro true 1 (List.take _ (List.drop 0 _)),DC.ro true 1 (List.take _ (List.drop 0 _)),DC.ro true 1 (List.take _ (List.drop 0 _)),DC.ro true 3 (List.take _ (List.drop 0 _)),_],DV.agg [DC.ro true 1 (List.take _ (List.drop 0 _)),DC.ro true 1 (List.take _ (List.drop 0 _)),DC.ro true 1 (List.take _ (List.drop 0 _)),DC.ro true 1 (List.take _ (List.drop 0 _)),DC.ro true 3 (List.take _ (List.drop 0 _)),_]]=_;simp only[List.drop_zero,List.take_length];rfl) rfl heq rfl ?_
 (conv=>whnf)<;>repeat' first|(refine aE ?_;conv=>whnf)|(refine aD ?_;conv=>whnf)
 simp only;(conv=>whnf)<;>repeat' first|(refine aE ?_;conv=>whnf)|(refine aD ?_;conv=>whnf)
 simp only[if_true,beq_self_eq_true,Bool.not_true];(conv=>whnf)<;>repeat' first|(refine aE ?_;conv=>whnf)|(refine aD ?_;conv=>whnf)
 simp only[List.drop_zero,List.take_length]
 simp only[List.length_map]
 have hwr:=yq hsm
 refine eK [.pass,.pass] [24,25,26,27,28] rfl rfl rfl rfl (oR r.1 1 (hsm.mono (by decide)) (by omega) (by omega)) fun res H3 hp=>?_
 obtain⟨rfl,rfl⟩:=hp
 refine⟨rfl,rfl,_,(aN rfl rfl (by simp[ct,ba,av])).trans ((aN rfl rfl (by simp[ct,ba,av])).trans ((aN rfl rfl (by simp[ct,ba,av])).trans ((aN rfl rfl (by simp[ct,ba,av])).trans ((aN rfl rfl (by simp[ct,ba,av])).trans rfl)))),?_⟩
 conv=>whnf
 have e1:List.take r.1.ram.tx.length (List.map rS (ct 1 r.1).ram.tx)=List.map rS (ct 1 r.1).ram.tx:=List.take_of_length_le (by simp[ct,ba,av])
 have e2:List.take r.1.ram.rf.length (List.map rI (ct 1 r.1).ram.rf)=List.map rI (ct 1 r.1).ram.rf:=List.take_of_length_le (by simp[ct,ba,av])
 have e3:List.take r.1.swp.tx.length (List.map rS (ct 1 r.1).swp.tx)=List.map rS (ct 1 r.1).swp.tx:=List.take_of_length_le (by simp[ct,ba,av])
 have e4:List.take r.1.swp.rf.length (List.map rI (ct 1 r.1).swp.rf)=List.map rI (ct 1 r.1).swp.rf:=List.take_of_length_le (by simp[ct,ba,av])
 have e5:List.take r.1.sp.length (List.map rP (ct 1 r.1).sp)=List.map rP (ct 1 r.1).sp:=List.take_of_length_le (by simp[ct,ba,av])
 simp only[List.drop_zero,e1,e2,e3,e4,e5]
 generalize hg:ct 1 r.1=g at*
 have hgf:g.fits 1048576:=by rw[←hg];exact aBq.2 (hsm.mono (by decide))
 have hgw:g.wt=r.1.wt:=by rw[←hg];exact zM
 have hheld:ae Try.prog 28 [aM true true true true true g,.one (dI 1)] (.v (.one (dI (1+r.1.wt)))):=by
  have:=vV true true true true true g 1 hgf (by omega) (by omega)
  rw[←hg,aCf]at this
  rw[←hg]
  exact this
 have ehd:r.1.hd=g.hd:=by rw[←hg];rfl
 simp only[ehd]
 refine aB (cas:=[aM true true true true true g,.one (dI 1)]) [.lend,.pass] rfl (by show some [DV.agg [DC.ro true 1 (List.take _ (List.drop 0 _)),DC.ro true 1 (List.take _ (List.drop 0 _)),DC.ro true 1 (List.take _ (List.drop 0 _)),DC.ro true 1 (List.take _ (List.drop 0 _)),DC.ro true 3 (List.take _ (List.drop 0 _)),_],_]=_;simp only[List.drop_zero,List.take_length];rfl) rfl hheld rfl ?_
 (conv=>whnf)<;>repeat' first|(refine aE ?_;conv=>whnf)|(refine aD ?_;conv=>whnf)
 refine CondP.mk (fun h=>by simp at h) (fun _=>?_)
 conv=>whnf
 refine aB [.pass] rfl rfl rfl (lI b1 b2 b3 b4 b5 m hf) rfl ?_
 conv=>whnf
 simp only[List.drop_zero,List.take_length]
 refine aB (cas:=[aM true true true true true m,.one (dI who)]) [.lend,.pass] rfl (by show some [DV.agg [DC.ro true 1 (List.take _ (List.drop 0 _)),DC.ro true 1 (List.take _ (List.drop 0 _)),DC.ro true 1 (List.take _ (List.drop 0 _)),DC.ro true 1 (List.take _ (List.drop 0 _)),DC.ro true 3 (List.take _ (List.drop 0 _)),_],_]=_;simp only[List.drop_zero,List.take_length];rfl) rfl (pG hc true true true true true m who hf) rfl ?_
 conv=>whnf
 simp only[hr,List.drop_zero,List.take_length]
 refine aB (cas:=[aM true true true true true r.1,aM true true true true true r.1]) [.lend,.lend] rfl (by show some [DV.agg [DC.ro true 1 (List.take _ (List.drop 0 _)),DC.ro true 1 (List.take _ (List.drop 0 _)),DC.ro true 1 (List.take _ (List.drop 0 _)),DC.ro true 1 (List.take _ (List.drop 0 _)),DC.ro true 3 (List.take _ (List.drop 0 _)),_],DV.agg [DC.ro true 1 (List.take _ (List.drop 0 _)),DC.ro true 1 (List.take _ (List.drop 0 _)),DC.ro true 1 (List.take _ (List.drop 0 _)),DC.ro true 1 (List.take _ (List.drop 0 _)),DC.ro true 3 (List.take _ (List.drop 0 _)),_]]=_;simp only[List.drop_zero,List.take_length,aM,ehd,dI]) rfl heq rfl ?_
 (conv=>whnf)<;>repeat' first|(refine aE ?_;conv=>whnf)|(refine aD ?_;conv=>whnf)
 simp only;(conv=>whnf)<;>repeat' first|(refine aE ?_;conv=>whnf)|(refine aD ?_;conv=>whnf)
 simp only[if_true,beq_self_eq_true,Bool.not_true];(conv=>whnf)<;>repeat' first|(refine aE ?_;conv=>whnf)|(refine aD ?_;conv=>whnf)
 refine aB (cas:=[aM true true true true true g,.one (dI 1)]) [.lend,.pass] rfl (by show some [DV.agg [DC.ro true 1 (List.take _ (List.drop 0 _)),DC.ro true 1 (List.take _ (List.drop 0 _)),DC.ro true 1 (List.take _ (List.drop 0 _)),DC.ro true 1 (List.take _ (List.drop 0 _)),DC.ro true 3 (List.take _ (List.drop 0 _)),_],_]=_;simp only[List.drop_zero,List.take_length];rfl) rfl hheld rfl ?_
 (conv=>whnf)<;>repeat' first|(refine aE ?_;conv=>whnf)|(refine aD ?_;conv=>whnf)
 refine CondP.mk (fun h=>by simp at h) (fun _=>?_)
 conv=>whnf
 exact⟨rfl,rfl⟩
end Go.Qm

