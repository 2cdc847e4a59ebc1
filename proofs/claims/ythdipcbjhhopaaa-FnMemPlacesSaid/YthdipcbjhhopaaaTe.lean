import Derived.Test.YthdipcbjhhopaaaTd
namespace Go.Cq.D
open Go.RowKit
section
variable{P:Prg}{n0:Nat}{ts:DTs}{H:DH}{n:Nat}{K:DT→DTs→DH→Nat→List Nat→Prop}{Q:Kc}
theorem gk(es:List Loc)(ms:List M)(ρ:List Nat)(J:JN){ts1:DTs}{H1:DH}{n1:Nat}{f:FuncId}{args:List Opd}{das cas:List DV}{Hc:DH}{Post:DT→DH→Prop}(he:dQ es ts H n=(ts1,H1,n1))(h1:dJ ts1 args=some das)(h2:fD H1 ρ ms das=some cas)(h3:dq (fun g=>fM ρ g 0) H1 ρ 0=some Hc)(h4:(nodup ρ&&(nodup (given ms das)&&(bZ (given ms das) ρ&&(bZ (dM ms das) (given ms das)&&bZ (dM ms das) ρ))))=true)(hc:e8 P.prog J f cas Hc ρ.length Post)(hJ:∀t p,J t=some p→∃g,ρ[t]?=some g∧P.J g=some p)(h:∀res H3,Post res H3→gh ρ.length H3=true∧∃H',bB (fun t=>ρ[t]?) H3 ρ 0 (fO (given ms das) H1)=some H'∧K (gR (fun t=>ρ[t]?) res) ts1 H' n1 (given ms das++ρ))(hv:J.v=none∨J.v=P.J.v:=by first|exact .inl rfl|exact .inr rfl):OpP P (.call f args) ts H n K:=by simp only[Bool.and_eq_true]at h4;exact⟨aBZ rfl es he (.inl ⟨[],das,h1,ms,ρ,cas,Hc,Post,J,h2,h3,h4.1,h4.2.1,h4.2.2.1,h4.2.2.2,⟨hc,hJ⟩,hv,h⟩)⟩
theorem zb(ms:List M)(J:JN)(cs:List CV){f:FuncId}{args:List Opd}{das cas:List DV}(h1:dJ ts args=some das)(h2:fD H [] ms das=some cas)(h3:given ms das=[])(h4:dM ms das=[])(hc:e8 P.prog J f cas [] 0 fun res H'=>∃t,res= .v (.one (.ptr t 0 0))∧aF H' t=some (.box (cs.map .sc)))(h:K (.v (.one (.ptr n 0 0))) ts ((n,.box (cs.map .sc))::H) (n+1) [])(hn:∀t,J t=none:=by intro;rfl)(hv:J.v=none∨J.v=P.J.v:=by first|exact .inl rfl|exact .inr rfl):OpP P (.call f args) ts H n K:=⟨kf (.inr ⟨das,h1,ms,cas,J,cs,h2,h3,h4,hc,hn,hv,h⟩)⟩
theorem iy(es:List Loc)(ms:List M)(ρ:List Nat)(J:JN){ts1:DTs}{H1:DH}{n1:Nat}{f:FuncId}{args:List Opd}{das cas:List DV}{Hc Hr H':DH}{r:DT}(he:dQ es ts H n=(ts1,H1,n1))(h1:dJ ts1 args=some das)(h2:fD H1 ρ ms das=some cas)(h3:dq (fun g=>fM ρ g 0) H1 ρ 0=some Hc)(h4:(nodup ρ&&(nodup (given ms das)&&(bZ (given ms das) ρ&&(bZ (dM ms das) (given ms das)&&bZ (dM ms das) ρ))))=true)(hc:e8 P.prog J f cas Hc ρ.length fun x H'=>x=r∧H'=Hr)(hJ:∀t p,J t=some p→∃g,ρ[t]?=some g∧P.J g=some p)(h5:gh ρ.length Hr=true)(h6:bB (fun t=>ρ[t]?) Hr ρ 0 (fO (given ms das) H1)=some H')(h:fDT (gR (fun t=>ρ[t]?) r) fun x=>fTs ts1 fun ts1=>fDH H' fun H'=>K x ts1 H' n1 (given ms das++ρ))(hv:J.v=none∨J.v=P.J.v:=by first|exact .inl rfl|exact .inr rfl):OpP P (.call f args) ts H n K:=by simp only[rO,kF,kJ]at h;exact gk es ms ρ J he h1 h2 h3 h4 hc hJ (fun res H3 hp=>by obtain⟨rfl,rfl⟩:=hp;exact⟨h5,H',h6,h⟩) hv
theorem b8(ms:List M)(ρ:List Nat){f:FuncId}{args:List Opd}{das cas:List DV}{Hc Hr H':DH}{r:DT}(h1:dJ ts args=some das)(h2:fD H ρ ms das=some cas)(h3:dq (fun g=>fM ρ g 0) H ρ 0=some Hc)(h4:(nodup ρ&&(nodup (given ms das)&&(bZ (given ms das) ρ&&(bZ (dM ms das) (given ms das)&&bZ (dM ms das) ρ))))=true)(hc:du P.prog f cas Hc ρ.length fun x H'=>x=r∧H'=Hr)(h5:gh ρ.length Hr=true)(h6:bB (fun t=>ρ[t]?) Hr ρ 0 (fO (given ms das) H)=some H')(h:fDT (gR (fun t=>ρ[t]?) r) fun x=>fTs ts fun ts1=>fDH H' fun H'=>K x ts1 H' n (given ms das++ρ)):OpP P (.call f args) ts H n K:=iy [] ms ρ noJ rfl h1 h2 h3 h4 hc.toJ (fun t p e=>by simp[noJ]at e) h5 h6 h
theorem xL(ms:List M)(ρ:List Nat)(J:JN){f:FuncId}{x:Opd}{args:List Opd}{caps:List (Nat×Nat×Nat)}{das dcs cas:List DV}{Hc:DH}{Post:DT→DH→Prop}(h0:cD ts x=some (.fn f caps))(h1:dJ ts args=some das)(hd:das++caps.map (fun q=>.one (.ptr q.1 q.2.1 q.2.2))=dcs)(h2:fD H ρ ms dcs=some cas)(h3:dq (fun g=>fM ρ g 0) H ρ 0=some Hc)(h4:(nodup ρ&&(nodup (given ms dcs)&&(bZ (given ms dcs) ρ&&(bZ (dM ms dcs) (given ms dcs)&&bZ (dM ms dcs) ρ))))=true)(hc:e8 P.prog J f cas Hc ρ.length Post)(hJ:∀t p,J t=some p→∃g,ρ[t]?=some g∧P.J g=some p)(h:∀res H3,Post res H3→gh ρ.length H3=true∧∃H',bB (fun t=>ρ[t]?) H3 ρ 0 (fO (given ms dcs) H)=some H'∧K (gR (fun t=>ρ[t]?) res) ts H' n (given ms dcs++ρ))(hv:J.v=none∨J.v=P.J.v:=by first|exact .inl rfl|exact .inr rfl):OpP P (.callv x args) ts H n K:=by subst hd;simp only[Bool.and_eq_true]at h4;exact⟨kf ⟨[],f,caps,das,h0,h1,ms,ρ,cas,Hc,Post,J,h2,h3,h4.1,h4.2.1,h4.2.2.1,h4.2.2.2,⟨hc,hJ⟩,hv,h⟩⟩
theorem g9(ms:List M)(ρ:List Nat)(J:JN){f:FuncId}{x:Opd}{args:List Opd}{caps:List (Nat×Nat×Nat)}{das dcs cas:List DV}{Hc Hr H':DH}{r:DT}(h0:cD ts x=some (.fn f caps))(h1:dJ ts args=some das)(hd:das++caps.map (fun q=>.one (.ptr q.1 q.2.1 q.2.2))=dcs)(h2:fD H ρ ms dcs=some cas)(h3:dq (fun g=>fM ρ g 0) H ρ 0=some Hc)(h4:(nodup ρ&&(nodup (given ms dcs)&&(bZ (given ms dcs) ρ&&(bZ (dM ms dcs) (given ms dcs)&&bZ (dM ms dcs) ρ))))=true)(hc:e8 P.prog J f cas Hc ρ.length fun x H'=>x=r∧H'=Hr)(hJ:∀t p,J t=some p→∃g,ρ[t]?=some g∧P.J g=some p)(h5:gh ρ.length Hr=true)(h6:bB (fun t=>ρ[t]?) Hr ρ 0 (fO (given ms dcs) H)=some H')(h:fDT (gR (fun t=>ρ[t]?) r) fun x=>fTs ts fun ts1=>fDH H' fun H'=>K x ts1 H' n (given ms dcs++ρ))(hv:J.v=none∨J.v=P.J.v:=by first|exact .inl rfl|exact .inr rfl):OpP P (.callv x args) ts H n K:=by simp only[rO,kF,kJ]at h;exact xL ms ρ J h0 h1 hd h2 h3 h4 hc hJ (fun res H3 hp=>by obtain⟨rfl,rfl⟩:=hp;exact⟨h5,H',h6,h⟩) hv
theorem aDl{f:FOp}{r r':DV}(hf:dfl ts H f=some r)(ht:Told P.J H r r')(h:K (.v r') ts H n []):exec P (.fl f) ts H n K:=by
 cases f with
 |cmpNil neg x=>simp[dfl]at hf
 |_=>exact⟨r,r',.inl hf,ht,h⟩
theorem aBy{x i:Opd}{sz:Nat}{g len id base:Nat}{es:List (List PV)}{ov:List (Nat×Nat×DC)}{k:Nat}(hx:cD ts x=some (.sl g 0 len))(hg:aF H g=some (.arr sz es ov))(hi:di ts i=some (k:Int))(h1:k<len)(hJ:P.J g=some (id,base,sz))(h:K (.v (.one (.sc (.ptr id ((base+k)*sz+0))))) ts H n []):OpP P (.fl (.idxAddr x i sz)) ts H n K:=by refine⟨aDl (r:=.one (.ptr g k 0)) ?_ (.nm hJ (by rw[hg];rfl)) h⟩;simp only[dfl,hx,hi,hg];rw[if_pos ⟨by omega,by omega,by trivial⟩];simp
theorem ft{x:Opd}{g i sz id base off:Nat}(hx:cD ts x=some (.sc (.ptr id off)))(ho:(base+i)*sz+0=off)(hJ:P.J g=some (id,base,sz))(hg:(aF H g).isSome=true)(h:K (.v (.one (.ptr g i 0))) ts H n []):OpP P (.fl (.nilCheck x)) ts H n K:=by subst ho;exact⟨⟨.one (.sc (.ptr id ((base+i)*sz+0))),.one (.ptr g i 0),.inr (.nck hx),.bk hJ hg,h⟩⟩
end
end Go.Cq.D
namespace Go.Qm
open Go.Cq Go.Cq.D Go.RowKit
theorem aBt{m m':Mem}{f:Nat}(hn:0≤m.hd)(h:clk m f= .inr m'):m'.ram.rf[f]?=m.ram.rf[f]?:=by
 unfold clk at h;split at h
 ·cases h
 ·rename_i c;split at h
  ·cases h
  ·cases h;have:¬m.hd.toNat=f:=by omega
   simp[dC,aT,dF,cr,List.getElem?_set_ne this]
theorem aAT{f:Nat}:∀{m:Mem},Wf m→(cn m f).ram.rf[f]?=m.ram.rf[f]?:=by
 have main:∀(k:Nat)(m:Mem),mu m f=k→Wf m→(cn m f).ram.rf[f]?=m.ram.rf[f]?:=by
  intro k;induction k using Nat.strongRecOn with
  |_ k ih=>
   intro m hk h;cases hc:clk m f with
   |inl m'=>obtain⟨h1,h2, -⟩:=h.vM hc;rw[fv hc,ih _ (hk▸gw hc) m' rfl h1,h2]
   |inr m'=>rw[iK hc];exact aBt h.hd.1 hc
 exact fun{m}=>main _ m rfl
theorem aA1{m m':Mem}{f:Nat}(w:Wf m)(h:bT m f=some m'):m'.ram.rf[f]?=m.ram.rf[f]?:=by
 unfold bT at h;split at h
 ·cases h;rfl
 ·split at h
  ·cases h;exact aAT w
  ·cases h
theorem oh{p:Pages}{f:Nat}(h:1<p.rf[f]?.getD 0):dD p f=⟨p.tx,p.rf.set f (p.rf[f]?.getD 0-1)⟩:=by simp only[dD,if_neg (show¬p.rf[f]?.getD 0=1 by omega)]
theorem Wf.aDo{m:Mem}(w:Wf m){f:Nat}(h2:1<m.ram.rf[f]?.getD 0):Wf {m with ram:=dD m.ram f}:=by
 have hf:f<m.ram.rf.length:=by
  rcases Nat.lt_or_ge f m.ram.rf.length with c|c
  ·exact c
  ·rw[List.getElem?_eq_none c]at h2;simp at h2
 have hr:m.ram.rf[f]?.getD 0=m.ram.rf[f]:=by simp[hf]
 have hb:=w.ram.get (k:=f);rw[oh h2];refine⟨⟨w.ram.tx,by simp[w.ram.rf],fun x hx=>?_⟩,w.swp,w.sp,w.hd,w.sl,fun s hs x hx hk=>?_,w.at2,w.kd⟩
 ·rcases List.mem_or_eq_of_mem_set hx with hx|rfl
  ·exact w.ram.bd x hx
  ·omega
 ·obtain⟨k,e1,e2,e3,e4⟩:=w.at1 s hs x hx hk;refine⟨k,e1,e2,?_,e4⟩;by_cases c:f=k
  ·subst c;rw[List.getElem?_set_self hf];simp only[Option.getD_some];omega
  ·rw[List.getElem?_set_ne c];exact e3
theorem Wf.own{m m':Mem}(w:Wf m){i j:Nat}(hi:i<m.sp.length)(hj:j<m.sp[i].sl.length)(hk:(aI m i j).kd=1)(h:ja m i j=some m'):Wf m'∧cG m.sp m'.sp∧(aI m' i j).kd=1:=by
 obtain⟨t1, -⟩:=w.slot hi hj;obtain⟨f,e1,e2,e3,e4⟩:=t1 hk;have key:∀{r s:Pages}{sp:List Space}{d:Int}{x:Slot}(hi:i<sp.length)(hj:j<sp[i].sl.length),aI ⟨r,s,aG sp i j x,d⟩ i j=x:=fun{r s sp d x} hi hj=>by have h1:j<sp[i].sl.length:=hj;simp[aI,aG,hi,h1]
 unfold ja at h;split at h
 ·rename_i c;simp only[Option.map_eq_some_iff]at h;obtain⟨m1,h1,rfl⟩:=h;rw[e1,Int.toNat_natCast]at c;rw[e1]at h1;obtain⟨w1,hf⟩:=w.bT h1;have ha:=cX w h1;obtain⟨hi1,hj1,ex,ey⟩:=eN ha hi hj (.inr e1);have hrf:=aA1 w h1;obtain⟨g,q1,q2,q3,q4⟩:=(w1.slot hi1 hj1).1 (by rw[ey];exact hk);obtain rfl:g=f:=by rw[ey,e1]at q1;omega
  have hne:aJ m1.ram.rf≠g:=fun e=>by have:=eu (l:=m1.ram.rf) (by rw[w1.ram.rf];exact hf);rw[e,hrf]at this;omega
  have wt:=w1.take hf (t:=m1.ram.tx[g]?.getD []) (n:=1) (by decide);have hgt:1< (aT m1.ram (aJ m1.ram.rf) (m1.ram.tx[g]?.getD []) 1).rf[g]?.getD 0:=by simp only[aT,List.getElem?_set_ne hne];rw[hrf];exact c.2
  have wg:=wt.aDo (f:=g) hgt;simp only[e1,Int.toNat_natCast];refine⟨wg.set (y:={aI m i j with pl:=aJ m1.ram.rf,ow:=true}) (fun _=>?_) (fun e=>by simp only[hk]at e;omega) (.inr (.inl hk)),?_,?_⟩
  ·have hz:g<m1.ram.rf.length:=by rw[w1.ram.rf];exact e2
   have hF:aJ m1.ram.rf<m1.ram.rf.length:=by rw[w1.ram.rf];exact hf
   have hFt:aJ m1.ram.rf<m1.ram.tx.length:=by rw[w1.ram.tx];exact hf
   refine⟨aJ m1.ram.rf,rfl,hf,?_,?_⟩
   ·rw[oh hgt];simp only[aT];rw[List.getElem?_set_ne (Ne.symm hne),List.getElem?_set_self hF];simp
   ·rw[oh hgt];simp only[aT];rw[List.getElem?_set_self hFt];simpa using q4
  ·exact(ha.same).trans eR
  ·rw[key hi1 hj1];exact hk
 ·cases h;exact⟨w.set (fun _=>t1 hk) (fun e=>by simp only[hk]at e;omega) (.inr (.inl hk)),eR,by rw[key hi hj];exact hk⟩
end Go.Qm
namespace Go.Qm
open Go.Cq Go.Cq.D Go.RowKit
def hit(kd pl:Int)(x:Slot):Bool:=decide (x.kd=kd∧x.pl=pl)
def eH(kd pl:Int)(l:List Slot):Nat:=l.countP (hit kd pl)
def cnt(kd pl:Int):List Space→Nat
 | []=>0
 |s::l=>eH kd pl s.sl+cnt kd pl l
def one(b:Bool):Nat:=if b then 1 else 0
theorem yw{kd pl:Int}{y:Slot}:∀{l:List Slot}{j:Nat}(h:j<l.length),eH kd pl (l.set j y)+one (hit kd pl l[j])=eH kd pl l+one (hit kd pl y):=by
 intro l;induction l with
 |nil=>intro j h;simp at h
 |cons x l ih=>
  intro j h;cases j with
  |zero=>simp only[eH,List.set_cons_zero,List.countP_cons,List.getElem_cons_zero,one];omega
  |succ j=>have:=ih (j:=j) (by simpa using h);simp only[eH,List.set_cons_succ,List.countP_cons,List.getElem_cons_succ]at this ⊢;omega
theorem rz{kd pl:Int}{t:Space}:∀{sp:List Space}{i:Nat}(h:i<sp.length),cnt kd pl (sp.set i t)+eH kd pl sp[i].sl=cnt kd pl sp+eH kd pl t.sl:=by
 intro sp;induction sp with
 |nil=>intro i h;simp at h
 |cons s l ih=>
  intro i h;cases i with
  |zero=>simp only[List.set_cons_zero,cnt,List.getElem_cons_zero];omega
  |succ i=>have:=ih (i:=i) (by simpa using h);simp only[List.set_cons_succ,cnt,List.getElem_cons_succ]at this ⊢;omega
theorem lu{kd pl:Int}{y:Slot}{sp:List Space}{i j:Nat}(hi:i<sp.length)(hj:j<sp[i].sl.length):cnt kd pl (aG sp i j y)+one (hit kd pl sp[i].sl[j])=cnt kd pl sp+one (hit kd pl y):=by
 have e:aG sp i j y=sp.set i ⟨sp[i].lv,sp[i].ar,sp[i].sl.set j y⟩:=by rw[aG,iO (List.getElem?_eq_getElem hi)]
 have h1:=rz (kd:=kd) (pl:=pl) (t:=⟨sp[i].lv,sp[i].ar,sp[i].sl.set j y⟩) hi;have h2:=yw (kd:=kd) (pl:=pl) (y:=y) hj;rw[e];simp only at h1;omega
theorem xv{kd pl a:Int}:∀{l:List Slot},eH kd pl (l.map fun x=>if x.kd=1∧x.pl=a then dh x else x)=eH kd pl l:=by
 intro l;rw[eH,eH,List.countP_map];refine List.countP_congr fun x _=>?_
 simp only[Function.comp];split<;>rfl
theorem so{kd pl a:Int}:∀{sp:List Space},cnt kd pl (aZ 1 a dh sp)=cnt kd pl sp:=by
 intro sp;induction sp with
 |nil=>rfl
 |cons s l ih=>simp only[aZ,List.map_cons,cnt]at ih ⊢;rw[ih,xv]
theorem xt{k0 p0 k1 p1:Int}(hne:¬(k0=k1∧p0=p1)){kd pl:Int}:∀{l:List Slot},eH kd pl (l.map fun x=>if x.kd=k0∧x.pl=p0 then bS k1 p1 x else x)=if kd=k1∧pl=p1 then eH k1 p1 l+eH k0 p0 l else if kd=k0∧pl=p0 then 0 else eH kd pl l:=by
 intro l;induction l with
 |nil=>simp[eH]
 |cons x l ih=>
  simp only[eH,List.map_cons,List.countP_cons]at ih ⊢;rw[ih];simp only[hit,decide_eq_true_eq];have s1:(k1=kd∧p1=pl)↔(kd=k1∧pl=p1):=⟨fun h=>⟨h.1.symm,h.2.symm⟩,fun h=>⟨h.1.symm,h.2.symm⟩⟩;by_cases c0:x.kd=k0∧x.pl=p0
  ·rw[if_pos c0];simp only[bS,s1];obtain⟨rfl,rfl⟩:=c0;have s2:(x.kd=kd∧x.pl=pl)↔(kd=x.kd∧pl=x.pl):=⟨fun h=>⟨h.1.symm,h.2.symm⟩,fun h=>⟨h.1.symm,h.2.symm⟩⟩;simp only[s2,hne,if_false,and_self,if_true];by_cases c1:kd=k1∧pl=p1
   ·simp only[c1,and_self,if_true];omega
   ·simp only[c1,if_false];by_cases c2:kd=x.kd∧pl=x.pl
    ·simp only[c2,and_self,if_true]
    ·simp only[c2,if_false]
  ·rw[if_neg c0];by_cases c1:kd=k1∧pl=p1
   ·simp only[c1,and_self,if_true,c0,if_false];omega
   ·simp only[c1,if_false];by_cases c2:kd=k0∧pl=p0
    ·simp only[c2,and_self,if_true,c0,if_false]
    ·simp only[c2,if_false]
theorem l8{k0 p0 k1 p1:Int}(hne:¬(k0=k1∧p0=p1)){kd pl:Int}:∀{sp:List Space},cnt kd pl (aZ k0 p0 (bS k1 p1) sp)=if kd=k1∧pl=p1 then cnt k1 p1 sp+cnt k0 p0 sp else if kd=k0∧pl=p0 then 0 else cnt kd pl sp:=by
 intro sp;induction sp with
 |nil=>simp[cnt,aZ]
 |cons s l ih=>
  simp only[aZ,List.map_cons,cnt]at ih ⊢;rw[ih,xt hne];split
  ·omega
  ·split<;>omega
theorem rZ{kd pl:Int}{x:Slot}{s:Space}:∀{sp:List Space},s∈sp→x∈s.sl→x.kd=kd→x.pl=pl→0<cnt kd pl sp:=by
 intro sp;induction sp with
 |nil=>intro h;simp at h
 |cons s' l ih=>
  intro h hx h1 h2;simp only[cnt];rcases List.mem_cons.1 h with rfl|h
  ·have:0<eH kd pl s.sl:=List.countP_pos_iff.2 ⟨x,hx,by simp[hit,h1,h2]⟩;omega
  ·have:=ih h hx h1 h2;omega
theorem aAZ{kd pl:Int}{b:Nat}:∀{sp:List Space},(∀s,s∈sp→s.sl.length≤b)→cnt kd pl sp≤b*sp.length:=by
 intro sp;induction sp with
 |nil=>intro _;simp[cnt]
 |cons s l ih=>
  intro h;have h1:=ih fun t ht=>h t (List.mem_cons_of_mem _ ht)
  have h2:=h s (List.mem_cons_self ..);have h3:eH kd pl s.sl≤s.sl.length:=List.countP_le_length;simp only[cnt,List.length_cons,Nat.mul_add,Nat.mul_one];omega
structure Pl(p:Pages)(f:Nat→Nat):Prop where
 tx:p.tx.length=12
 rf:p.rf.length=12
 ct:∀k,k<12→p.rf[k]?.getD 0=(f k:Int)
 t4:∀k,k<12→f k≠0→(p.tx[k]?.getD []).length=4
theorem Pl.cg{p:Pages}{f g:Nat→Nat}(h:Pl p f)(e:∀k,k<12→g k=f k):Pl p g:=⟨h.tx,h.rf,fun k hk=>by rw[e k hk];exact h.ct k hk,fun k hk hg=>h.t4 k hk (by rw[←e k hk];exact hg)⟩
theorem Pl.take{p:Pages}{f g:Nat→Nat}(h:Pl p f){k:Nat}{t:Str}{n:Int}(hk:k<12)(e:∀j,j<12→j≠k→g j=f j)(hn:n=(g k:Int))(ht:g k≠0→t.length=4):Pl (aT p k t n) g:=by
 have hr:k<p.rf.length:=by rw[h.rf];exact hk
 have hx:k<p.tx.length:=by rw[h.tx];exact hk
 refine⟨by simp[aT,h.tx],by simp[aT,h.rf],fun j hj=>?_,fun j hj hg=>?_⟩
 ·by_cases c:j=k
  ·subst c;simp[aT,hr,hn]
  ·simp only[aT];rw[List.getElem?_set_ne (fun h=>c h.symm),e j hj c];exact h.ct j hj
 ·by_cases c:j=k
  ·subst c;simp[aT,hx,ht hg]
  ·simp only[aT];rw[List.getElem?_set_ne (fun h=>c h.symm)];exact h.t4 j hj (by rw[←e j hj c];exact hg)
theorem Pl.fQ{p:Pages}{f g:Nat→Nat}(h:Pl p f){k:Nat}(hk:k<12)(e:∀j,j<12→j≠k→g j=f j)(hn:g k+1=f k):Pl (dD p k) g:=by
 have hr:k<p.rf.length:=by rw[h.rf];exact hk
 have hx:k<p.tx.length:=by rw[h.tx];exact hk
 have hc:=h.ct k hk;refine⟨by simp only[dD];split<;>simp[h.tx],by simp[dD,h.rf],fun j hj=>?_,fun j hj hg=>?_⟩
 ·by_cases c:j=k
  ·subst c;simp only[dD,List.getElem?_set_self hr,Option.getD_some];omega
  ·simp only[dD];rw[List.getElem?_set_ne (fun h=>c h.symm),e j hj c];exact h.ct j hj
 ·by_cases c:j=k
  ·subst c;simp only[dD];rw[if_neg (by omega)];exact h.t4 j hj (by omega)
  ·have:=h.t4 j hj (by rw[←e j hj c];exact hg);simp only[dD];split
   ·rw[List.getElem?_set_ne (fun h=>c h.symm)];exact this
   ·exact this
structure SpI(s:Space):Prop where
 lv:s.lv=true→ay s.ar=true∧s.sl.length=16
 dd:s.lv=false→s.ar=[]∧s.sl=[]
 sl:∀x,x∈s.sl→x.kd=0∨(x.kd=1∨x.kd=2)∧∃k:Nat,x.pl=k∧k<12
structure Inv(m:Mem):Prop where
 ram:Pl m.ram fun k=>cnt 1 k m.sp
 swp:Pl m.swp fun k=>cnt 2 k m.sp
 sp:m.sp.length=5
 hd:0≤m.hd∧m.hd≤11
 ss:∀s,s∈m.sp→SpI s
theorem SpI.l16{s:Space}(h:SpI s):s.sl.length≤16:=by
 cases e:s.lv with
 |true=>rw[(h.lv e).2];omega
 |false=>rw[(h.dd e).2];simp
theorem Pl.pgW{p:Pages}{f:Nat→Nat}(h:Pl p f)(hf:∀k,f k≤1000):PgW p:=by refine⟨h.tx,h.rf,fun x hx=>?_⟩;obtain⟨k,hk,rfl⟩:=List.getElem_of_mem hx;have:=h.ct k (by rw[←h.rf];exact hk);simp only[List.getElem?_eq_getElem hk,Option.getD_some]at this;have:=hf k;omega
theorem Inv.wf{m:Mem}(h:Inv m):Wf m:=by
 have hb:∀kd pl,cnt kd pl m.sp≤1000:=fun kd pl=>by
  have:=aAZ (kd:=kd) (pl:=pl) (sp:=m.sp) (b:=16) fun s hs=>(h.ss s hs).l16
  rw[h.sp]at this;omega
 have tell:∀{p:Pages}{kd:Int},Pl p (fun k=>cnt kd k m.sp)→∀s,s∈m.sp→∀x,x∈s.sl→kd≠0→x.kd=kd→de p x:=fun{p kd} hp s hs x hx h0 hk=>by
  rcases(h.ss s hs).sl x hx with c| ⟨-,k,e,hk12⟩
  ·exact absurd (hk.symm.trans c) h0
  ·have hc:=rZ hs hx hk e;have:=hp.ct k hk12;exact⟨k,e,hk12,by omega,hp.t4 k hk12 (by omega)⟩
 exact⟨h.ram.pgW fun k=>hb _ _,h.swp.pgW fun k=>hb _ _,h.sp,h.hd,fun s hs=>(h.ss s hs).l16,fun s hs x hx hk=>tell h.ram s hs x hx (by decide) hk,fun s hs x hx hk=>tell h.swp s hs x hx (by decide) hk,fun s hs x hx=>((h.ss s hs).sl x hx).imp (fun h=>h) fun h=>h.1⟩
theorem Inv.hand{m:Mem}(h:Inv m):Inv (cr m):=⟨h.ram,h.swp,h.sp,by have:=h.hd;simp only[cr];omega,h.ss⟩
theorem SpI.map{m:Mem}(h:∀s,s∈m.sp→SpI s){kd pl:Int}{f:Slot→Slot}(hf:∀x:Slot,x.kd=kd→x.pl=pl→(x.kd=0∨(x.kd=1∨x.kd=2)∧∃k:Nat,x.pl=k∧k<12)→(f x).kd=0∨((f x).kd=1∨(f x).kd=2)∧∃k:Nat,(f x).pl=k∧k<12):∀s,s∈aZ kd pl f m.sp→SpI s:=by
 intro s' hs';simp only[aZ,List.mem_map]at hs';obtain⟨s,hs,rfl⟩:=hs';have i:=h s hs;refine⟨fun e=>⟨(i.lv e).1,by simpa using(i.lv e).2⟩,fun e=>⟨(i.dd e).1,by simp[(i.dd e).2]⟩,fun x' hx'=>?_⟩;simp only[List.mem_map]at hx';obtain⟨x,hx,rfl⟩:=hx';split
 ·rename_i c;exact hf x c.1 c.2 (i.sl x hx)
 ·exact i.sl x hx
theorem Inv.calm{m:Mem}(h:Inv m)(pl:Int):Inv (dF m pl):=⟨h.ram.cg fun k _=>so,h.swp.cg fun k _=>so,by simp[dF,aZ,h.sp],h.hd,SpI.map h.ss fun x _ _ c=>c⟩
theorem Inv.qP{m:Mem}(h:Inv m){a:Nat}(ha:a<12)(hf:aJ m.swp.rf<12):Inv (dC m a):=by
 have hz:=eu (l:=m.swp.rf) (by rw[h.swp.rf];exact hf);have hc:=h.swp.ct _ hf;have hne:¬((1:Int)=2∧(a:Int)=(aJ m.swp.rf:Int)):=by omega
 have hr:=h.ram.ct a ha;have hE:∀p,aJ m.swp.rf=p→dC m a=⟨aT m.ram a [] 0,aT m.swp p (m.ram.tx[a]?.getD []) (m.ram.rf[a]?.getD 0),aZ 1 a (bS 2 p) m.sp,m.hd⟩:=fun p hp=>by rw[dC,hp]
 rw[hE _ rfl];clear hE;generalize aJ m.swp.rf=p at*;have e1:∀k:Nat,cnt 1 k (aZ 1 a (bS 2 p) m.sp)=if k=a then 0 else cnt 1 k m.sp:=fun k=>by
  rw[l8 hne,if_neg (by omega)];by_cases c:k=a
  ·rw[if_pos ⟨rfl,by omega⟩,if_pos c]
  ·rw[if_neg (by omega),if_neg c]
 have e2:∀k:Nat,cnt 2 k (aZ 1 a (bS 2 p) m.sp)=if k=p then cnt 1 a m.sp else cnt 2 k m.sp:=fun k=>by
  rw[l8 hne];by_cases c:k=p
  ·rw[if_pos ⟨rfl,by omega⟩,if_pos c];omega
  ·rw[if_neg (by omega),if_neg (by omega),if_neg c]
 refine⟨h.ram.take ha (fun j _ hj=>by simp only[e1,if_neg hj]) (by simp[e1]) (fun c=>absurd (by simp[e1]) c),h.swp.take hf (fun j _ hj=>by simp only[e2,if_neg hj]) (by simp[e2,hr]) (fun c=>?_),by simp[aZ,h.sp],h.hd,SpI.map h.ss fun x _ _ _=>.inr ⟨.inr rfl,p,rfl,hf⟩⟩;simp only[e2,if_true]at c;exact h.ram.t4 a ha c
theorem Inv.vM{m m':Mem}{but:Int}(h:Inv m)(hc:clk m but= .inl m'):Inv m':=by
 unfold clk at hc;split at hc
 ·simp only[Sum.inl.injEq]at hc;subst hc;exact h.hand
 ·split at hc
  ·simp only[Sum.inl.injEq]at hc;subst hc;exact h.hand.calm _
  ·simp at hc
theorem Inv.aDG{m m':Mem}{but:Int}(h:Inv m)(hf:aJ m.swp.rf<12)(hc:clk m but= .inr m'):Inv m':=by
 unfold clk at hc;split at hc
 ·simp at hc
 ·split at hc
  ·simp at hc
  ·simp only[Sum.inr.injEq]at hc;subst hc;exact(h.hand.calm _).qP (by have:=h.hd;omega) hf
theorem Inv.cn{but:Int}:∀{m:Mem},Inv m→aJ m.swp.rf<12→Inv (cn m but):=by
 have main:∀(k:Nat)(m:Mem),mu m but=k→Inv m→aJ m.swp.rf<12→Inv (Go.Qm.cn m but):=by
  intro k;induction k using Nat.strongRecOn with
  |_ k ih=>
   intro m hk h hf;cases hc:clk m but with
   |inl m'=>obtain⟨-, -,h3⟩:=h.wf.vM hc;rw[fv hc];exact ih _ (hk▸gw hc) m' rfl (h.vM hc) (by rw[h3];exact hf)
   |inr m'=>rw[iK hc];exact h.aDG hf hc
 exact fun{m}=>main _ m rfl
theorem Inv.bT{m m':Mem}{but:Int}(h:Inv m)(hr:bT m but=some m'):Inv m':=by
 unfold Go.Qm.bT at hr;split at hr
 ·cases hr;exact h
 ·split at hr
  ·rename_i c;cases hr;exact h.cn (by rw[h.swp.rf]at c;exact c)
  ·simp at hr
def slI(x:Slot):Prop:=x.kd=0∨(x.kd=1∨x.kd=2)∧∃k:Nat,x.pl=k∧k<12
theorem SpI.set{sp:List Space}(h:∀s,s∈sp→SpI s){i j:Nat}{y:Slot}(hy:slI y):∀s,s∈aG sp i j y→SpI s:=by
 intro s' hs';rw[aG]at hs';obtain⟨k,hk,rfl⟩:=List.getElem_of_mem hs';rw[List.length_modify]at hk;have i1:=h _ (List.getElem_mem hk);rw[List.getElem_modify];split
 ·refine⟨fun e=>⟨(i1.lv e).1,by simpa using(i1.lv e).2⟩,fun e=>⟨(i1.dd e).1,by simp[(i1.dd e).2]⟩,fun x hx=>?_⟩;rcases List.mem_or_eq_of_mem_set hx with hx|rfl
  ·exact i1.sl x hx
  ·exact hy
 ·exact i1
theorem o6{kd pl:Int}{y:Slot}{sp:List Space}{i j:Nat}(hi:i<sp.length)(hj:j<sp[i].sl.length)(h1:y.kd=sp[i].sl[j].kd)(h2:y.pl=sp[i].sl[j].pl):cnt kd pl (aG sp i j y)=cnt kd pl sp:=by
 have:=lu (kd:=kd) (pl:=pl) (y:=y) hi hj;have e:hit kd pl y=hit kd pl sp[i].sl[j]:=by simp[hit,h1,h2]
 rw[e]at this;omega
theorem Inv.same{m:Mem}(h:Inv m){i j:Nat}{y:Slot}(hi:i<m.sp.length)(hj:j<m.sp[i].sl.length)(h1:y.kd=m.sp[i].sl[j].kd)(h2:y.pl=m.sp[i].sl[j].pl):Inv {m with sp:=aG m.sp i j y}:=by refine⟨h.ram.cg fun k _=>o6 hi hj h1 h2,h.swp.cg fun k _=>o6 hi hj h1 h2,by simp[aG,h.sp],h.hd,SpI.set h.ss ?_⟩;have:=(h.ss _ (List.getElem_mem hi)).sl _ (List.getElem_mem hj);rw[slI,h1,h2];exact this
theorem Inv.ic{m m':Mem}(h:Inv m){i j:Nat}(hi:i<m.sp.length)(hj:j<m.sp[i].sl.length)(hr:bJ m i j=some m'):Inv m':=by
 have ex:=bU hi hj;unfold bJ at hr;split at hr
 ·rename_i c;cases hr;exact h.same hi hj (by rw[ex]) (by rw[ex])
 ·rename_i c;simp only[Option.map_eq_some_iff]at hr;obtain⟨m1,hm,hr⟩:=hr;have w:=h.bT hm;obtain⟨-,hf⟩:=h.wf.bT hm;have ha:=cX h.wf hm;have hi1:i<m1.sp.length:=by rw[ha.1];exact hi
  have hj1:j<m1.sp[i].sl.length:=by rw[(ha.2 i hi hi1).2.2.1];exact hj
  have ex1:=bU hi1 hj1;have hz:=eu (l:=m1.ram.rf) (by rw[w.ram.rf];exact hf);have hc:=w.ram.ct _ hf;have hc0:cnt 1 (aJ m1.ram.rf) m1.sp=0:=by rw[hz]at hc;omega
  split at hr
  ·rename_i c0;subst hr;generalize aJ m1.ram.rf=p at*;have z0:(aI m1 i j).kd=0:=(zJ hm).2 c0;rw[ex1]at z0;have key:=fun kd pl=>lu (kd:=kd) (pl:=pl) (y:=⟨1,p,true,true⟩) hi1 hj1
   have ho:∀kd pl:Int,kd≠0→one (hit kd pl m1.sp[i].sl[j])=0:=fun kd pl hk=>by simp[one,hit,z0,hk.symm]
   refine⟨w.ram.take hf (fun k _ hk=>?_) ?_ (fun _=>rfl),w.swp.cg fun k _=>?_,by simp[aG,w.sp],w.hd,SpI.set w.ss (.inr ⟨.inl rfl,p,rfl,hf⟩)⟩
   ·have:=key 1 k;rw[ho 1 k (by decide),show one (hit 1 k ⟨1,p,true,true⟩)=0 by simp[one,hit];omega]at this;exact this
   ·have:=key 1 p;rw[ho 1 p (by decide),show one (hit 1 p ⟨1,p,true,true⟩)=1 by simp[one,hit]]at this;show(1:Int)=(cnt 1 p (aG m1.sp i j ⟨1,p,true,true⟩):Int);omega
   ·have:=key 2 k;rw[ho 2 k (by decide),show one (hit 2 k ⟨1,p,true,true⟩)=0 by simp[one,hit]]at this;exact this
  ·rename_i c0;have hk2:(aI m i j).kd=2:=by have:=h.wf.kd _ (List.getElem_mem hi) _ (List.getElem_mem hj);rw[←ex]at this;omega
   obtain⟨f,e1,e2,e3,e4⟩:=w.wf.we ha hi hj hk2;obtain⟨_,_,es, -⟩:=eN ha hi hj (.inl (by omega));have hcf:=w.swp.ct f e2;rw[e1,Int.toNat_natCast]at hr;subst hr;generalize aJ m1.ram.rf=p at*;have hne:¬((2:Int)=1∧(f:Int)=(p:Int)):=by omega
   have k1:∀k:Nat,cnt 1 k (aZ 2 f (bS 1 p) m1.sp)=if k=p then cnt 2 f m1.sp else cnt 1 k m1.sp:=fun k=>by
    rw[l8 hne];by_cases c:k=p
    ·rw[if_pos ⟨rfl,by omega⟩,if_pos c];omega
    ·rw[if_neg (by omega),if_neg (by omega),if_neg c]
   have k2:∀k:Nat,cnt 2 k (aZ 2 f (bS 1 p) m1.sp)=if k=f then 0 else cnt 2 k m1.sp:=fun k=>by
    rw[l8 hne,if_neg (by omega)];by_cases c:k=f
    ·rw[if_pos ⟨rfl,by omega⟩,if_pos c]
    ·rw[if_neg (by omega),if_neg c]
   have w2:Inv ⟨aT m1.ram p (m1.swp.tx[f]?.getD []) (m1.swp.rf[f]?.getD 0),aT m1.swp f [] 0,aZ 2 f (bS 1 p) m1.sp,m1.hd⟩:=⟨w.ram.take hf (fun k _ hk=>by simp only[k1,if_neg hk]) (by simp[k1,hcf]) (fun _=>e4),w.swp.take e2 (fun k _ hk=>by simp only[k2,if_neg hk]) (by simp[k2]) (fun c=>absurd (by simp[k2]) c),by simp[aZ,w.sp],w.hd,SpI.map w.ss fun x _ _ _=>.inr ⟨.inl rfl,p,rfl,hf⟩⟩;have hi2:i< (aZ 2 f (bS 1 p) m1.sp).length:=by simp[aZ];exact hi1
   have hj2:j< (aZ 2 f (bS 1 p) m1.sp)[i].sl.length:=by simp[aZ];exact hj1
   have hs2:(aZ 2 f (bS 1 p) m1.sp)[i].sl[j]=bS 1 p (aI m i j):=by simp only[aZ,List.getElem_map,es,hk2,e1,and_self,if_true]
   exact w2.same (y:=⟨1,p,(aI m i j).ow,true⟩) hi2 hj2 (by rw[hs2];rfl) (by rw[hs2];rfl)
theorem iG{kd pl:Int}{x:Slot}(h:x.kd≠kd∨x.pl≠pl):one (hit kd pl x)=0:=by
 have:hit kd pl x=false:=by simp only[hit,decide_eq_false_iff_not];rintro⟨a,b⟩;exact h.elim (fun h=>h a) fun h=>h b
 rw[this];rfl
theorem uI{kd pl:Int}{x:Slot}(h1:x.kd=kd)(h2:x.pl=pl):one (hit kd pl x)=1:=by simp[one,hit,h1,h2]
theorem Inv.aEG{m:Mem}(h:Inv m){i j:Nat}(hi:i<m.sp.length)(hj:j<m.sp[i].sl.length):Inv (jA m i j):=by
 have e:(m.sp[i]?.bind fun s=>s.sl[j]?)=some m.sp[i].sl[j]:=by simp[hi,hj]
 have key:=fun kd pl=>lu (kd:=kd) (pl:=pl) (y:=dN) hi hj
 have hx:=(h.ss _ (List.getElem_mem hi)).sl _ (List.getElem_mem hj);simp only[jA,e];generalize m.sp[i].sl[j]=x at*;have z:∀kd pl:Int,kd≠0→one (hit kd pl dN)=0:=fun kd pl hk=>iG (.inl fun e=>hk e.symm)
 have hs:∀s,s∈aG m.sp i j dN→SpI s:=SpI.set h.ss (.inl rfl);rcases hx with c| ⟨c|c,k,e1,e2⟩
 ·rw[if_neg (by omega),if_neg (by omega)];refine⟨h.ram.cg fun k _=>?_,h.swp.cg fun k _=>?_,by simp[aG,h.sp],h.hd,hs⟩
  ·have:=key 1 k;rw[z 1 k (by decide),iG (.inl (by omega))]at this;exact this
  ·have:=key 2 k;rw[z 2 k (by decide),iG (.inl (by omega))]at this;exact this
 ·rw[if_pos c,if_neg (by omega),e1,Int.toNat_natCast];refine⟨h.ram.fQ e2 (fun q _ hq=>?_) ?_,h.swp.cg fun q _=>?_,by simp[aG,h.sp],h.hd,hs⟩
  ·have:=key 1 q;rw[z 1 q (by decide),iG (.inr (by omega))]at this;exact this
  ·have:=key 1 k;rw[z 1 k (by decide),uI c e1]at this;exact this
  ·have:=key 2 q;rw[z 2 q (by decide),iG (.inl (by omega))]at this;exact this
 ·rw[if_neg (by omega),if_pos c,e1,Int.toNat_natCast];refine⟨h.ram.cg fun q _=>?_,h.swp.fQ e2 (fun q _ hq=>?_) ?_,by simp[aG,h.sp],h.hd,hs⟩
  ·have:=key 1 q;rw[z 1 q (by decide),iG (.inl (by omega))]at this;exact this
  ·have:=key 2 q;rw[z 2 q (by decide),iG (.inr (by omega))]at this;exact this
  ·have:=key 2 k;rw[z 2 k (by decide),uI c e1]at this;exact this
theorem za{kd pl:Int}{f:Space→Space}(hf:∀s,(f s).sl=s.sl):∀{sp:List Space}{i:Nat},cnt kd pl (sp.modify i f)=cnt kd pl sp:=by
 intro sp;induction sp with
 |nil=>intro i;simp
 |cons s l ih=>
  intro i;cases i with
  |zero=>simp[cnt,hf]
  |succ i=>simp[cnt,ih]
theorem Inv.cU{m:Mem}(h:Inv m){i:Nat}{l:List Area}(hi:i<m.sp.length)(hlv:m.sp[i].lv=true)(hl:ay l=true):Inv (cU m i l):=by
 refine⟨h.ram.cg fun k _=>za (f:=fun s=>{s with ar:=l}) fun _=>rfl,h.swp.cg fun k _=>za (f:=fun s=>{s with ar:=l}) fun _=>rfl,by simp[Go.Qm.cU,h.sp],h.hd,fun s' hs'=>?_⟩;simp only[Go.Qm.cU]at hs';obtain⟨k,hk,rfl⟩:=List.getElem_of_mem hs';rw[List.length_modify]at hk;have i1:=h.ss _ (List.getElem_mem hk);rw[List.getElem_modify];split
 ·rename_i e;subst e;exact⟨fun e=>⟨hl,(i1.lv e).2⟩,fun e=>by simp only at e;rw[hlv]at e;simp at e,i1.sl⟩
 ·exact i1
theorem Inv.ls{m:Mem}(h:Inv m){i:Nat}(hi:i<m.sp.length)(hlv:m.sp[i].lv=true)(fr:Nat):LsOk m i fr 0:=by
 have w:=h.wf;have pg:∀{p:Pages}{f:Nat→Nat},Pl p f→(∀k,f k≤80)→PgOk p 0:=fun{p f} hp hf=>by refine⟨hp.tx,hp.rf,fun x hx=>?_⟩;obtain⟨k,hk,rfl⟩:=List.getElem_of_mem hx;have:=hp.ct k (by rw[←hp.rf];exact hk);simp only[List.getElem?_eq_getElem hk,Option.getD_some]at this;have:=hf k;omega
 have hb:∀kd pl,cnt kd pl m.sp≤80:=fun kd pl=>by
  have:=aAZ (kd:=kd) (pl:=pl) (sp:=m.sp) (b:=16) fun s hs=>(h.ss s hs).l16
  rw[h.sp]at this;exact this
 refine⟨pg h.ram fun k=>hb _ _,pg h.swp fun k=>hb _ _,hi,((h.ss _ (List.getElem_mem hi)).lv hlv).2,fun j hj _=>?_⟩;rcases(h.ss _ (List.getElem_mem hi)).sl _ (List.getElem_mem hj)with c| ⟨-,k,e,hk⟩
 ·simp[gJ,c]
 ·simp only[gJ,inB,Bool.or_eq_true,Bool.and_eq_true,decide_eq_true_eq];right;omega
theorem aCH{m:Mem}{i j:Nat}:cG m.sp (jA m i j).sp:=by
 unfold jA;split
 ·exact cG.refl
 ·exact eR
theorem Inv.ca{m:Mem}(h:Inv m){i fr:Nat}(hi:i<m.sp.length)(hlv:m.sp[i].lv=true):∀{t:Nat},fr+t≤16→Inv (ca m i fr t)∧cG m.sp (ca m i fr t).sp:=by
 intro t;induction t with
 |zero=>intro _;exact⟨h,cG.refl⟩
 |succ t ih=>
  intro ht;obtain⟨h1,s1⟩:=ih (by omega);have hi1:i< (Go.Qm.ca m i fr t).sp.length:=by rw[s1.1];exact hi
  have hl:=(s1.2 i hi hi1).2.2;have h16:=((h.ss _ (List.getElem_mem hi)).lv hlv).2;exact⟨h1.aEG hi1 (by omega),s1.trans aCH⟩
theorem Inv.put{m:Mem}(h:Inv m){i:Nat}{t:Space}(hi:i<m.sp.length)(ht:SpI t)(h0:∀kd pl:Int,kd≠0→eH kd pl t.sl=eH kd pl m.sp[i].sl):Inv {m with sp:=m.sp.set i t}:=by
 have key:∀kd pl:Int,kd≠0→cnt kd pl (m.sp.set i t)=cnt kd pl m.sp:=fun kd pl hk=>by have:=rz (kd:=kd) (pl:=pl) (t:=t) hi;rw[h0 kd pl hk]at this;omega
 refine⟨h.ram.cg fun k _=>key 1 k (by decide),h.swp.cg fun k _=>key 2 k (by decide),by simp[h.sp],h.hd,fun s hs=>?_⟩;rcases List.mem_or_eq_of_mem_set hs with hs|rfl
 ·exact h.ss s hs
 ·exact ht
theorem rG{kd pl:Int}(hk:kd≠0){l:List Slot}(h:∀x,x∈l→x.kd=0):eH kd pl l=0:=by rw[eH,List.countP_eq_zero];intro x hx;simp only[hit,decide_eq_true_eq];rintro⟨a, -⟩;exact hk (a.symm.trans (h x hx))
theorem Pl.inc{p:Pages}{f g:Nat→Nat}(h:Pl p f){k:Nat}(hk:k<12)(e:∀j,j<12→j≠k→g j=f j)(hn:g k=f k+1)(h0:f k≠0):Pl ⟨p.tx,p.rf.set k (p.rf[k]?.getD 0+1)⟩ g:=by
 have hr:k<p.rf.length:=by rw[h.rf];exact hk
 have hc:=h.ct k hk;refine⟨h.tx,by simp[h.rf],fun j hj=>?_,fun j hj hg=>?_⟩
 ·by_cases c:j=k
  ·subst c;simp only[List.getElem?_set_self hr,Option.getD_some];omega
  ·simp only;rw[List.getElem?_set_ne (fun h=>c h.symm),e j hj c];exact h.ct j hj
 ·by_cases c:j=k
  ·subst c;exact h.t4 j hj h0
  ·exact h.t4 j hj (by rw[←e j hj c];exact hg)
structure FI(m:Mem)(i j:Nat):Prop where
 ram:Pl m.ram fun k=>cnt 1 k m.sp+eH 1 k ((iD m i).take j)
 swp:Pl m.swp fun k=>cnt 2 k m.sp+eH 2 k ((iD m i).take j)
 sp:m.sp.length=5
 hd:0≤m.hd∧m.hd≤11
 ss:∀s,s∈m.sp→SpI s
theorem Inv.fi{m:Mem}(h:Inv m)(i:Nat):FI m i 0:=⟨h.ram.cg fun k _=>by simp[eH],h.swp.cg fun k _=>by simp[eH],h.sp,h.hd,h.ss⟩
theorem FI.step{m:Mem}{i j:Nat}(h:FI m i j)(hi:i<m.sp.length)(hj:j<m.sp[i].sl.length):FI (p5 m i j) i (j+1):=by
 have ex:=bU hi hj;have hx:=(h.ss _ (List.getElem_mem hi)).sl _ (List.getElem_mem hj);obtain⟨y,hy⟩:∃y,(if shP m i j then aI m i j else{aI m i j with ow:=false})=y:=⟨_,rfl⟩;have y1:y.kd=m.sp[i].sl[j].kd:=by rw[←hy,←ex];split<;>rfl
 have y2:y.pl=m.sp[i].sl[j].pl:=by rw[←hy,←ex];split<;>rfl
 have pos:∀kd pl:Int,m.sp[i].sl[j].kd=kd→m.sp[i].sl[j].pl=pl→0<cnt kd pl m.sp:=fun kd pl=>rZ (List.getElem_mem hi) (List.getElem_mem hj)
 have hsame:∀kd pl,cnt kd pl (aG m.sp i j y)=cnt kd pl m.sp:=fun kd pl=>o6 hi hj y1 y2
 have htk:∀kd pl,eH kd pl (((iD m i).set j y).take (j+1))=eH kd pl ((iD m i).take j)+one (hit kd pl y):=fun kd pl=>by
  have hl:j< ((iD m i).set j y).length:=by rw[List.length_set,wT hi];exact hj
  rw[List.take_succ_eq_append_getElem hl,List.take_set_of_le (Nat.le_refl j),List.getElem_set_self];simp only[eH,List.countP_append,List.countP_cons,List.countP_nil,one];omega
 have hss:∀s,s∈aG m.sp i j y→SpI s:=SpI.set h.ss (by rw[slI,y1,y2];exact hx);have hF:p5 m i j=⟨fy (y.kd=1) m.ram y.pl.toNat,fy (y.kd=2) m.swp y.pl.toNat,aG m.sp i j y,m.hd⟩:=by unfold p5;rw[hy];simp only[ex,y1,y2]
 rw[hF];have hso:∀{r s:Pages},iD ⟨r,s,aG m.sp i j y,m.hd⟩ i=(iD m i).set j y:=aAc;rw[←y1,←y2]at hx;have nxt:∀{p:Pages}{kd:Int},Pl p (fun k=>cnt kd k m.sp+eH kd k ((iD m i).take j))→kd≠0→Pl (fy (y.kd=kd) p y.pl.toNat) fun k=>cnt kd k (aG m.sp i j y)+eH kd k (((iD m i).set j y).take (j+1)):=fun{p kd} hp h0=>by
  by_cases c:y.kd=kd
  ·rcases hx with c0| ⟨-,f,e1,e2⟩
   ·exact absurd (c.symm.trans c0) h0
   rw[fy,if_pos c,e1,Int.toNat_natCast];refine hp.inc e2 (fun q _ hq=>?_) ?_ ?_
   ·rw[hsame,htk,iG (.inr (by omega))];omega
   ·rw[hsame,htk,uI c e1];omega
   ·have:=pos kd f (by rw[←y1];exact c) (by rw[←y2];exact e1);omega
  ·rw[ib c];exact hp.cg fun k _=>by rw[hsame,htk,iG (.inl c)];omega
 exact⟨by simp only[hso];exact nxt h.ram (by decide),by simp only[hso];exact nxt h.swp (by decide),by simp[aG,h.sp],h.hd,hss⟩
theorem FI.steps{m:Mem}{i:Nat}(h:Inv m)(hi:i<m.sp.length):∀{j:Nat},j≤m.sp[i].sl.length→FI (j8 m i j) i j∧cG m.sp (j8 m i j).sp:=by
 intro j;induction j with
 |zero=>intro _;exact⟨h.fi i,cG.refl⟩
 |succ j ih=>
  intro hj;obtain⟨h1,s1⟩:=ih (by omega);have hi1:i< (j8 m i j).sp.length:=by rw[s1.1];exact hi
  have hl:=(s1.2 i hi hi1).2.2;exact⟨h1.step hi1 (by omega),s1.trans eR⟩
theorem Inv.cF{m:Mem}(h:Inv m){i:Nat}(hi:i<m.sp.length):∀{j:Nat},j≤m.sp[i].sl.length→Inv (cF m i j).1∧cG m.sp (cF m i j).1.sp:=by
 intro j;induction j with
 |zero=>intro _;exact⟨h,cG.refl⟩
 |succ j ih=>
  intro hj;obtain⟨h1,s1⟩:=ih (by omega);have hi1:i< (Go.Qm.cF m i j).1.sp.length:=by rw[s1.1];exact hi
  have hl:=(s1.2 i hi hi1).2.2;simp only[Go.Qm.cF];split
  ·split
   ·rename_i m2 hm2;exact⟨h1.ic hi1 (by omega) hm2,s1.trans (eZ h1.wf hm2)⟩
   ·exact⟨h1,s1⟩
  ·exact⟨h1,s1⟩
theorem Inv.kv{m:Mem}(h:Inv m){i:Nat}(hi:i<m.sp.length)(hlv:m.sp[i].lv=true):0≤(kv m i).2→Inv (kv m i).1:=by
 have h16:=((h.ss _ (List.getElem_mem hi)).lv hlv).2;unfold Go.Qm.kv;split
 ·rename_i c;split
  ·intro _;obtain⟨h1,s1⟩:=h.cF hi (j:=16) (by omega);generalize (Go.Qm.cF m i 16).1=m1 at h1 s1;have hi1:i<m1.sp.length:=by rw[s1.1];exact hi
   obtain⟨-, -,l1⟩:=s1.2 i hi hi1;obtain⟨h2,s2⟩:=FI.steps h1 hi1 (j:=16) (by omega);have hi2:i< (j8 m1 i 16).sp.length:=by rw[s2.1];exact hi1
   have s3:=s1.trans s2;generalize j8 m1 i 16=m2 at h2 s2 s3 hi2;have hz:bp m.sp<m2.sp.length:=by rw[s3.1];exact c
   obtain⟨v1, -,v3⟩:=s3.2 _ c hz;rw[ka c]at v1;generalize bp m.sp=Z at c hz v1 v3 ⊢;obtain⟨u1,u2,u3⟩:=s3.2 i hi hi2;have hd:=(h2.ss _ (List.getElem_mem hz)).dd v1;have hiS:=h2.ss _ (List.getElem_mem hi2);have hsl:iD m2 i=m2.sp[i].sl:=wT hi2;have har:arF m2 i=m2.sp[i].ar:=by simp[arF,hi2]
   have htk:(iD m2 i).take 16=m2.sp[i].sl:=by rw[hsl];exact List.take_of_length_le (by omega)
   have key:∀kd pl,cnt kd pl (m2.sp.set Z ⟨true,arF m2 i,iD m2 i⟩)=cnt kd pl m2.sp+eH kd pl ((iD m2 i).take 16):=fun kd pl=>by have:=rz (kd:=kd) (pl:=pl) (t:=⟨true,arF m2 i,iD m2 i⟩) hz;rw[hd.2]at this;simp only[eH,List.countP_nil]at this;rw[htk,eH];simp only[hsl]at this ⊢;omega
   refine⟨h2.ram.cg fun k _=>key 1 k,h2.swp.cg fun k _=>key 2 k,by simp[iF,h2.sp],h2.hd,fun s hs=>?_⟩;rcases List.mem_or_eq_of_mem_set hs with hs|rfl
   ·exact h2.ss s hs
   ·exact⟨fun _=>⟨by rw[har];exact(hiS.lv (u1.trans hlv)).1,by show(iD m2 i).length=16;rw[hsl];omega⟩,fun e=>by simp at e,by rw[hsl];exact hiS.sl⟩
  ·intro e;simp at e
 ·intro e;simp at e
theorem Inv.own{m m':Mem}(h:Inv m){i j:Nat}(hi:i<m.sp.length)(hj:j<m.sp[i].sl.length)(hk:(aI m i j).kd=1)(hr:ja m i j=some m'):Inv m':=by
 have ex:=bU hi hj;obtain⟨f,e1,e2,e3,e4⟩:=(h.wf.slot hi hj).1 hk;unfold ja at hr;split at hr
 ·rename_i c;simp only[Option.map_eq_some_iff]at hr;obtain⟨m1,hm,hr⟩:=hr;have w:=h.bT hm;obtain⟨-,hf⟩:=h.wf.bT hm;have ha:=cX h.wf hm;obtain⟨hi1,hj1,es, -⟩:=eN ha hi hj (.inr rfl);have hz:=eu (l:=m1.ram.rf) (by rw[w.ram.rf];exact hf);have hc:=w.ram.ct _ hf;have hc0:cnt 1 (aJ m1.ram.rf) m1.sp=0:=by rw[hz]at hc;omega
  have hpos:0<cnt 1 f m1.sp:=rZ (List.getElem_mem hi1) (List.getElem_mem hj1) (by rw[es];exact hk) (by rw[es];exact e1);rw[e1,Int.toNat_natCast]at hr;subst hr;generalize aJ m1.ram.rf=p at*;have hpf:¬p=f:=fun e=>by rw[e]at hc0;omega
  have key:=fun kd pl=>lu (kd:=kd) (pl:=pl) (y:=⟨(aI m i j).kd,p,true,(aI m i j).us⟩) hi1 hj1
  rw[es]at key;have t1:Pl (aT m1.ram p (m1.ram.tx[f]?.getD []) 1) fun k=>if k=p then 1 else cnt 1 k m1.sp:=w.ram.take hf (fun k _ hk=>if_neg hk) (by simp) fun _=>w.ram.t4 f e2 (by omega)
  refine⟨t1.fQ e2 (fun k _ hkf=>?_) ?_,w.swp.cg fun k _=>?_,by simp[aG,w.sp],w.hd,SpI.set w.ss (.inr ⟨.inl hk,p,rfl,hf⟩)⟩
  ·have:=key 1 k;rw[iG (x:=aI m i j) (.inr (by omega))]at this;by_cases c2:k=p
   ·rw[if_pos c2];rw[uI (x:=⟨(aI m i j).kd,p,true,(aI m i j).us⟩) hk (by show(p:Int)=k;omega)]at this;subst c2;show cnt 1 k (aG m1.sp i j _)=1;omega
   ·rw[if_neg c2];rw[iG (x:=⟨(aI m i j).kd,p,true,(aI m i j).us⟩) (.inr (by show(p:Int)≠k;omega))]at this;exact this
  ·have:=key 1 f;rw[uI hk e1,iG (x:=⟨(aI m i j).kd,p,true,(aI m i j).us⟩) (.inr (by show(p:Int)≠f;omega))]at this;rw[if_neg (fun e=>hpf e.symm)];exact this
  ·have:=key 2 k;rw[iG (x:=aI m i j) (.inl (by omega)),iG (x:=⟨(aI m i j).kd,p,true,(aI m i j).us⟩) (.inl (by show(aI m i j).kd≠2;omega))]at this;exact this
 ·cases hr;exact h.same hi hj (by rw[ex]) (by rw[ex])
theorem Inv.text{m:Mem}(h:Inv m){k:Nat}{t:Str}(ht:t.length=(m.ram.tx[k]?.getD []).length):Inv {m with ram:=⟨m.ram.tx.set k t,m.ram.rf⟩}:=by
 refine⟨⟨by simp[h.ram.tx],h.ram.rf,h.ram.ct,fun j hj hg=>?_⟩,h.swp,h.sp,h.hd,h.ss⟩;have:=h.ram.t4 j hj hg;by_cases c:j=k
 ·subst c;have hx:j<m.ram.tx.length:=by rw[h.ram.tx];exact hj
  simp only[List.getElem?_set_self hx,Option.getD_some];omega
 ·simp only;rw[List.getElem?_set_ne (fun h=>c h.symm)];exact this
end Go.Qm
namespace Go.Cq.D
open Go.RowKit
def nA:CV→CV
 |.sl id b l lim=>if 2000<l then .sl id (b+0) (2000-0) (lim.map (· -0))else .sl id b l lim
 |c=>c
theorem RoR.nA{h:Heap}{N:Nat→Prop}{es:List (List PV)}{c:CV}(hr:RoR h N (.sl 1 es) c):RoR h N (.sl 1 (es.take 2000)) (nA c):=by
 cases hr with
 |nil=>exact .nil
 |sl hN hrow hc=>
  rename_i id base lim cf;simp only[D.nA];split
  ·rename_i hl;have e:(2000-0:Nat)=(es.take 2000).length:=by rw[List.length_take];omega
   rw[e];refine .sl hN (cf:=cf) ?_ fun i row k p h1 h2=>?_
   ·obtain⟨b,e1,e2,e3,e4⟩:=hrow.blk;refine⟨⟨b,e1,e2,?_,fun i row k p h1 h2=>?_⟩,hrow.ne,fun i row h1=>?_⟩
    ·rw[List.length_take];omega
    ·rw[List.getElem?_take]at h1;split at h1
     ·exact e4 i row k p h1 h2
     ·simp at h1
    ·rw[List.getElem?_take]at h1;split at h1
     ·exact hrow.len i row h1
     ·simp at h1
   ·rw[List.getElem?_take]at h1;split at h1
    ·exact hc i row k p h1 h2
    ·simp at h1
  ·rename_i hl;rw[List.take_of_length_le (by omega)];exact .sl hN hrow hc
def uB(es:List (List PV))(c:CV):Prop:=(es=[]∧∃z,c= .nils z)∨∃id base lim,c= .sl id base es.length lim
theorem zF{P:Program}{g:FuncId}{b:Bool}{es:List (List PV)}{args:List DV}{H:DH}{n:Nat}{Post:DT→DH→Prop}(hc:∀c,uB es c→e8 P ⟨fun _=>none,some (nA c,es.take 2000)⟩ g (.one (.sc c)::args) H n Post):du P g (.one (.ro b 1 es)::args) H n Post:=by
 intro N I Fp cargs h c U hU hr hlen;obtain⟨v,h1,h2⟩:=hr.cell (.t 0 0 0) (.ro b 1 es) (by simp) rfl;have h2:RoR h (N true) (.sl 1 es) v:=by
  cases b with
  |true=>exact h2
  |false=>exact h2.local fun id hid=>⟨rfl,hr.le id hid⟩
 have hsc:mw v=true:=by rcases h2.len with⟨z,rfl, -⟩| ⟨id,base,lim,cf,rfl, -⟩<;>rfl
 refine hc v ?_ N I Fp cargs h c U ⟨fun g p e=>by simp at e,fun c' es' e=>?_⟩ hU ?_ hlen
 ·rcases h2.len with⟨z,e1,e2⟩| ⟨id,base,lim,cf,e1, -⟩
  ·exact .inl ⟨e2,z,e1⟩
  ·exact .inr ⟨id,base,lim,e1⟩
 ·cases e;exact h2.nA
 ·have hl0:∀t x,ak (fI (DV.one (.sc v)::args) 0) t=some x→(t=0∧x= .v (.one (.sc v)))∨(t≠0∧ak (fI (DV.one (.ro b 1 es)::args) 0) t=some x):=fun t x hx=>by
   simp only[fI,bH]at hx ⊢;by_cases e:t=0
   ·rw[if_pos e]at hx;simp only[Option.some.injEq]at hx;exact .inl ⟨e,hx.symm⟩
   ·rw[if_neg e]at hx;rw[if_neg e];exact .inr ⟨e,hx⟩
  refine hr.sub (fun t x hx=>?_) (fun s j k x hx=>?_) (fun s j k x g hx hg=>?_) (fun _ _ h=>h) (fun _ _ h=>h) (fun _ _ _ _=>rfl)
  ·rcases hl0 t x hx with⟨rfl,rfl⟩| ⟨-,hx⟩
   ·obtain⟨y,e1,e2⟩:=hr.tsh 0 _ rfl;exact⟨y,e1,by cases y with|v z=>cases z<;>exact e2|_=>exact e2⟩
   ·exact hr.tsh t x hx
  ·simp only[ab,Option.bind_eq_some_iff]at hx;obtain⟨y,e1,e2⟩:=hx;rcases hl0 s y e1 with⟨rfl,rfl⟩| ⟨-,hy⟩
   ·simp only[DT.cell]at e2;split at e2
    ·rename_i ej;subst ej;simp only[DV.cell]at e2;split at e2
     ·rename_i ek;subst ek;cases e2;exact⟨v,h1,hsc,rfl⟩
     ·simp at e2
    ·simp at e2
   ·exact hr.cell (.t s j k) x (by simp) (by simp only[ab,hy,Option.bind_some];exact e2)
  ·simp only[ab,Option.bind_eq_some_iff]at hx;obtain⟨y,e1,e2⟩:=hx;rcases hl0 s y e1 with⟨rfl,rfl⟩| ⟨-,hy⟩
   ·simp only[DT.cell]at e2;split at e2
    ·simp only[DV.cell]at e2;split at e2
     ·cases e2;simp[DC.tags]at hg
     ·simp at e2
    ·simp at e2
   ·exact hr.tags (.t s j k) x g (by simp only[ab,hy,Option.bind_some];exact e2) hg
section
variable{P:Prg}{n0:Nat}{ts:DTs}{H:DH}{n:Nat}{K:DT→DTs→DH→Nat→List Nat→Prop}
theorem wo{f:FOp}{r r':DV}(hf:FlV P.J ts f r)(ht:Told P.J H r r')(h:K (.v r') ts H n []):exec P (.fl f) ts H n K:=by
 cases f with
 |cmpNil neg x=>cases hf
 |_=>exact⟨r,r',.inr hf,ht,h⟩
theorem kW{x:Opd}{a b l:Nat}{lim:Option Nat}(hx:cD ts x=some (.sc (.sl a b l lim)))(h:K (.v (.one (.sc (.int .i64 l)))) ts H n []):OpP P (.fl (.len x)) ts H n K:=⟨wo (.lenC hx) .same h⟩
theorem wK{x:Opd}{z:Nat}(hx:cD ts x=some (.sc (.nils z)))(h:K (.v (.one (.sc (.int .i64 0)))) ts H n []):OpP P (.fl (.len x)) ts H n K:=⟨wo (.lenN hx) .same h⟩
theorem sE{x i:Opd}{c:CV}{es:List (List PV)}{k:Nat}(hx:cD ts x=some (.sc c))(hi:di ts i=some (k:Int))(hv:P.J.v=some (c,es))(hk:k<es.length)(h:K (.v (.one (.rp true 1 es k 0))) ts H n []):OpP P (.fl (.idxAddr x i 1)) ts H n K:=⟨wo (.idx hx hi hv hk) .same h⟩
theorem aCE{x y:Opd}{id b l:Nat}{lim:Option Nat}{m b' l':Nat}{lim':Option Nat}{es:List (List PV)}(hx:cD ts x=some (.sc (.sl id b l lim)))(hy:di ts y=some (m:Int))(hv:P.J.v=some (.sl id b' l' lim',es))(hm:m≤l)(h:K (.v (.one (.sc (.sl id (b+0) (m-0) (lim.map (· -0)))))) ts H n []):OpP P (.fl (.sliceL x none (some y) 1)) ts H n K:=⟨wo (.cut hx hy hv hm) .same h⟩
theorem r8{x y:Opd}{k:IntKind}{a b:Int}(hx:evS ts x=some (.int k a))(hy:evS ts y=some (.int k b))(hb:b≠0)(h:K (.v (.one (.sc (.int k (a.tmod b))))) ts H n []):OpP P (.fl (.bin .rem x y)) ts H n K:=fC (by simp[dfl,hx,hy,pK,Go.Tq.na,hb,ry,mw]) h
theorem aAH{x y:Opd}{k:IntKind}{a b:Int}(hx:evS ts x=some (.int k a))(hy:evS ts y=some (.int k b))(hb:b≠0)(h:K (.v (.one (.sc (.int k (k.wrap (a.tdiv b)))))) ts H n []):OpP P (.fl (.bin .quo x y)) ts H n K:=fC (by simp[dfl,hx,hy,pK,Go.Tq.na,hb,ry,mw]) h
end
end Go.Cq.D
namespace Go.Qm
open Go.Cq Go.Cq.D Go.RowKit
def gv(m:Mem):Nat:=eU m.ram.rf+eU m.swp.rf
theorem kE{x:Int}:∀{l:List Int}{k:Nat}(h:k<l.length),eU (l.set k x)+(if l[k]=0 then 1 else 0)=eU l+(if x=0 then 1 else 0):=by
 intro l;induction l with
 |nil=>intro k h;simp at h
 |cons y l ih=>
  intro k h;cases k with
  |zero=>simp only[List.set_cons_zero,List.getElem_cons_zero,eU];omega
  |succ k=>have:=ih (k:=k) (by simpa using h);simp only[List.set_cons_succ,List.getElem_cons_succ,eU];omega
structure PgO(p:Pages):Prop where
 tx:p.tx.length=12
 rf:p.rf.length=12
 ok:∀k,k<12→0≤p.rf[k]?.getD 0∧p.rf[k]?.getD 0≤99∧(p.tx[k]?.getD []).length=if p.rf[k]?.getD 0=0 then 0 else 4
theorem vL:∀{ts:List Str}{ns:List Int},ts.length=ns.length→(∀k,k<ns.length→0≤ns[k]?.getD 0∧ns[k]?.getD 0≤99∧(ts[k]?.getD []).length=if ns[k]?.getD 0=0 then 0 else 4)→eV ts ns=true:=by
 intro ts;induction ts with
 |nil=>intro ns _ _;cases ns<;>rfl
 |cons t ts ih=>
  intro ns hl h;cases ns with
  |nil=>rfl
  |cons n ns=>simp only[eV,Bool.and_eq_true];refine⟨?_,ih (by simpa using hl) fun k hk=>by simpa using h (k+1) (by simpa using hk)⟩;obtain⟨h1,h2,h3⟩:=h 0 (by simp);simp only[List.getElem?_cons_zero,Option.getD_some]at h1 h2 h3;simp only[dk,inB,Bool.and_eq_true,decide_eq_true_eq];refine⟨⟨h1,h2⟩,?_⟩;split at h3<;>simp_all
theorem PgO.wq{p:Pages}(h:PgO p):bo p=true:=by simp only[bo,inB,Bool.and_eq_true,decide_eq_true_eq];exact⟨⟨h.tx.trans h.rf.symm,by rw[h.tx];decide,by rw[h.tx];decide⟩,vL (h.tx.trans h.rf.symm) fun k hk=>h.ok k (by rw[←h.rf];exact hk)⟩
theorem aAj{p:Pages}(h:bo p=true)(hl:p.rf.length=12):PgO p:=by
 simp only[bo,Bool.and_eq_true,decide_eq_true_eq]at h;have hg:=nJ h.2;have ht:p.tx.length=12:=by omega
 refine⟨ht,hl,fun k hk=>?_⟩;have h1:k<p.tx.length:=by omega
 have h2:k<p.rf.length:=by omega
 have:=hg k h1 h2;simp only[dk,inB,Bool.and_eq_true,decide_eq_true_eq]at this;simp only[List.getElem?_eq_getElem h1,List.getElem?_eq_getElem h2,Option.getD_some];obtain⟨⟨a1,a2⟩,a3⟩:=this;refine⟨a1,a2,?_⟩;split at a3
 ·rename_i c;rw[if_pos c];omega
 ·rename_i c;rw[if_neg c];omega
theorem PgO.take{p:Pages}(h:PgO p){k:Nat}{t:Str}{n:Int}(hn:0≤n∧n≤99∧t.length=if n=0 then 0 else 4):PgO (aT p k t n):=by
 refine⟨by simp[aT,h.tx],by simp[aT,h.rf],fun j hj=>?_⟩;by_cases e:k=j
 ·subst e;have e1:(aT p k t n).rf[k]?.getD 0=n:=by simp[aT,h.rf,hj]
  have e2:(aT p k t n).tx[k]?.getD []=t:=by simp[aT,h.tx,hj]
  rw[e1,e2];exact hn
 ·have e1:(aT p k t n).rf[j]?.getD 0=p.rf[j]?.getD 0:=by simp[aT,List.getElem?_set_ne e]
  have e2:(aT p k t n).tx[j]?.getD []=p.tx[j]?.getD []:=by simp[aT,List.getElem?_set_ne e]
  rw[e1,e2];exact h.ok j hj
structure MO(m:Mem):Prop where
 ram:PgO m.ram
 swp:PgO m.swp
theorem aAK{m:Mem}(h:cV m=true):MO m:=by simp only[cV,Bool.and_eq_true,decide_eq_true_eq]at h;obtain⟨⟨⟨⟨⟨⟨⟨⟨h1,h2⟩,h3⟩,h4⟩, -⟩, -⟩, -⟩, -⟩, -⟩:=h;exact⟨aAj h1 h3,aAj h2 h4⟩
theorem o9{l:List Int}{k:Nat}(h:k<l.length):l[k]?.getD 0=l[k]:=by rw[List.getElem?_eq_getElem h];rfl
theorem MO.qP{m:Mem}(h:MO m){a:Nat}(ha:a<12)(hf:aJ m.swp.rf<12)(h0:m.ram.rf[a]?.getD 0≠0):MO (dC m a)∧gv (dC m a)=gv m:=by
 have hl:a<m.ram.rf.length:=by rw[h.ram.rf];exact ha
 have hs:aJ m.swp.rf<m.swp.rf.length:=by rw[h.swp.rf];exact hf
 refine⟨⟨h.ram.take (by decide),h.swp.take (h.ram.ok a ha)⟩,?_⟩;have e1:=kE (x:=0) hl;have e2:=kE (x:=m.ram.rf[a]?.getD 0) hs;rw[gl hs]at e2;rw[o9 hl]at h0 e2;simp only[if_neg h0,if_true]at e1 e2;simp only[gv,dC,aT,o9 hl];omega
theorem MO.cn{but:Int}:∀{m:Mem},Wf m→MO m→aJ m.swp.rf<12→(∀k,k<12→m.ram.rf[k]?.getD 0≠0)→MO (cn m but)∧gv (cn m but)=gv m:=by
 have main:∀(k:Nat)(m:Mem),mu m but=k→Wf m→MO m→aJ m.swp.rf<12→(∀k,k<12→m.ram.rf[k]?.getD 0≠0)→MO (Go.Qm.cn m but)∧gv (Go.Qm.cn m but)=gv m:=by
  intro k;induction k using Nat.strongRecOn with
  |_ k ih=>
   intro m hk w h hf h0;cases hc:clk m but with
   |inl m'=>obtain⟨h1,h2,h3⟩:=w.vM hc;rw[fv hc];have:=ih _ (hk▸gw hc) m' rfl h1 ⟨by rw[h2];exact h.ram,by rw[h3];exact h.swp⟩ (by rw[h3];exact hf) (by rw[h2];exact h0);refine⟨this.1,this.2.trans ?_⟩;simp only[gv,h2,h3]
   |inr m'=>
    rw[iK hc];unfold clk at hc;split at hc
    ·cases hc
    ·split at hc
     ·cases hc
     ·cases hc;have hh:=w.hd;exact MO.qP (m:=dF (cr m) m.hd) ⟨h.ram,h.swp⟩ (by omega) hf (h0 _ (by omega))
 exact fun{m}=>main _ m rfl
theorem MO.bT{m m':Mem}{but:Int}(w:Wf m)(h:MO m)(hr:bT m but=some m'):MO m'∧gv m'=gv m:=by
 unfold Go.Qm.bT at hr;split at hr
 ·cases hr;exact⟨h,rfl⟩
 ·rename_i c;split at hr
  ·rename_i d;cases hr;refine h.cn w (by rw[h.swp.rf]at d;exact d) fun k hk=>?_
   have hl:k<m.ram.rf.length:=by rw[h.ram.rf];exact hk
   rw[o9 hl];exact tf hl (by omega)
  ·cases hr
theorem MO.ic{m m':Mem}(w:Wf m)(h:MO m){i j:Nat}(hi:i<m.sp.length)(hj:j<m.sp[i].sl.length)(hr:bJ m i j=some m'):MO m'∧gv m=gv m'+if(aI m i j).kd=0 then 1 else 0:=by
 have ex:=bU hi hj;unfold bJ at hr;split at hr
 ·rename_i c;cases hr;refine⟨⟨h.ram,h.swp⟩,?_⟩;rw[if_neg (by omega)];rfl
 ·rename_i c1;simp only[Option.map_eq_some_iff]at hr;obtain⟨m1,hm,hr⟩:=hr;obtain⟨h1,hN⟩:=h.bT w hm;obtain⟨w1,hf⟩:=w.bT hm;have hl:aJ m1.ram.rf<m1.ram.rf.length:=by rw[h1.ram.rf];exact hf
  split at hr
  ·rename_i c;subst hr;refine⟨⟨h1.ram.take (by decide),h1.swp⟩,?_⟩;have e1:=kE (x:=1) hl;rw[gl hl]at e1;simp only[if_true,show¬(1:Int)=0 by decide,if_false]at e1;rw[if_pos c,←hN];simp only[gv,aT];omega
  ·rename_i c;subst hr;have k2:m.sp[i].sl[j].kd=2:=by
    rcases w.kd _ (List.getElem_mem hi) _ (List.getElem_mem hj)with e|e|e
    ·rw[ex]at c;exact absurd e c
    ·rw[ex]at c1;exact absurd e c1
    ·exact e
   obtain⟨hi1,hj1,es, -⟩:=eN (cX w hm) hi hj (.inl (by rw[ex];omega));obtain⟨k,e1,e2,e3, -⟩:=w1.at2 _ (List.getElem_mem hi1) _ (List.getElem_mem hj1) (by rw[es,ex];exact k2);have hp:(aI m i j).pl.toNat=k:=by rw[←es,e1];rfl
   have hk:k<m1.swp.rf.length:=by rw[h1.swp.rf];exact e2
   rw[hp];refine⟨⟨h1.ram.take (h1.swp.ok k e2),h1.swp.take (by decide)⟩,?_⟩;have q1:=kE (x:=m1.swp.rf[k]?.getD 0) hl;have q2:=kE (x:=0) hk;rw[gl hl]at q1;rw[o9 hk]at q1 e3;simp only[if_true,if_neg e3]at q1 q2;rw[if_neg c,←hN];simp only[gv,aT,o9 hk];omega
end Go.Qm

