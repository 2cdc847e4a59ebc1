import Derived.Test.YthdipcbjhhopaaaTd
namespace Go.Qm
open Go.Cq Go.Cq.D Go.RowKit
theorem aAS{ar:List Area}{kd pl:Int}{x:Slot}(h1:x.kd=kd)(h2:x.pl=pl):∀{l:List Slot}{i:Nat},x∈l→0< (eb ar kd pl i l).length:=by
 intro l;induction l with
 |nil=>intro i h;simp at h
 |cons y l ih=>
  intro i h;simp only[eb];rcases List.mem_cons.1 h with rfl|h
  ·rw[if_pos ⟨h1,h2⟩];simp
  ·have:=ih (i:=i+1) h;split
   ·simp
   ·exact this
theorem aBi{kd pl:Int}{x:Slot}(h1:x.kd=kd)(h2:x.pl=pl):∀{sp:List Space}{s:Space},s∈sp→x∈s.sl→0< (tel kd pl sp).length:=by
 intro sp;induction sp with
 |nil=>intro s h;simp at h
 |cons y l ih=>
  intro s h hx;simp only[tel,List.length_append];rcases List.mem_cons.1 h with rfl|h
  ·have:=aAS (ar:=s.ar) h1 h2 (i:=0) hx;omega
  ·have:=ih h hx;omega
theorem ui{kd:Int}{sp:List Space}:∀{l:List Int}{i:Nat},cG kd sp i l=true→∀(k:Nat)(h:k<l.length),gH kd sp (i+k) l[k]=true:=by
 intro l;induction l with
 |nil=>intro i _ k h;simp at h
 |cons n l ih=>
  intro i h k hk;simp only[cG,Bool.and_eq_true]at h;cases k with
  |zero=>exact h.1
  |succ k=>have:=ih h.2 k (by simpa using hk);rw[show i+(k+1)=i+1+k by omega];simpa using this
theorem uC:∀{ts:List Str}{ns:List Int},fQ ts ns=true→∀(k:Nat)(h1:k<ts.length)(h2:k<ns.length),eU ts[k] ns[k]=true:=by
 intro ts;induction ts with
 |nil=>intro ns _ k h;simp at h
 |cons t ts ih=>
  intro ns h k h1 h2;cases ns with
  |nil=>simp at h2
  |cons n ns=>
   simp only[fQ,Bool.and_eq_true]at h;cases k with
   |zero=>exact h.1
   |succ k=>simpa using ih h.2 k (by simpa using h1) (by simpa using h2)
theorem p9{ar:List Area}{x:Slot}:∀{l:List Slot}{i:Nat},bR ar i l=true→x∈l→∃j,cA ar j x=true:=by
 intro l;induction l with
 |nil=>intro i _ h;simp at h
 |cons y l ih=>
  intro i h hx;simp only[bR,Bool.and_eq_true]at h;rcases List.mem_cons.1 hx with rfl|hx
  ·exact⟨i,h.1⟩
  ·exact ih h.2 hx
theorem aAP{p:Pages}(h:ca p=true)(hl:p.rf.length=12):PgW p∧∀(k:Nat)(h1:k<p.tx.length)(h2:k<p.rf.length),p.rf[k]≠0→p.tx[k].length=4:=by
 simp only[ca,Bool.and_eq_true,decide_eq_true_eq]at h;have hg:=uC h.2;refine⟨⟨by omega,hl,fun x hx=>?_⟩,fun k h1 h2 h3=>?_⟩
 ·obtain⟨k,hk,rfl⟩:=List.getElem_of_mem hx;have:=hg k (by omega) hk;simp only[eU,inB,Bool.and_eq_true,decide_eq_true_eq]at this;omega
 ·have:=hg k h1 h2;simp only[eU,Bool.and_eq_true,decide_eq_true_eq,if_neg h3]at this;omega
theorem nz{m:Mem}(h:b9 m=true):Wf m:=by
 simp only[b9,Bool.and_eq_true,decide_eq_true_eq]at h;obtain⟨⟨⟨⟨⟨⟨⟨⟨h1,h2⟩,h3⟩,h4⟩,h5⟩,h6⟩,h7⟩,h8⟩,h9⟩:=h;obtain⟨r1,r2⟩:=aAP h1 h3;obtain⟨s1,s2⟩:=aAP h2 h4;have sp:∀s,s∈m.sp→s.sl.length≤16∧∀x,x∈s.sl→(x.kd=0∨x.kd=1∨x.kd=2)∧gL x=true:=fun s hs=>by
  have:=List.all_eq_true.1 h7 s hs;simp only[Bool.and_eq_true]at this;obtain⟨k1,k2⟩:=this;unfold bV at k1;split at k1
  ·simp only[Bool.and_eq_true,decide_eq_true_eq]at k1;refine⟨by omega,fun x hx=>⟨?_,List.all_eq_true.1 k2 x hx⟩⟩;obtain⟨j,hj⟩:=p9 k1.2.2 hx;unfold cA at hj;split at hj
   ·exact .inl ‹_›
   ·simp only[inB,Bool.and_eq_true,decide_eq_true_eq]at hj;omega
  ·simp only[Bool.and_eq_true,decide_eq_true_eq]at k1;refine⟨by omega,fun x hx=>?_⟩;rw[List.length_eq_zero_iff.1 k1.2]at hx;simp at hx
 have told:∀(kd:Int)(p:Pages),kd≠0→PgW p→(∀(k:Nat)(h1:k<p.tx.length)(h2:k<p.rf.length),p.rf[k]≠0→p.tx[k].length=4)→cG kd m.sp 0 p.rf=true→∀s,s∈m.sp→∀x,x∈s.sl→x.kd=kd→d7 p x:=fun kd p hk0 w ht hr s hs x hx hk=>by
  have hp:=((sp s hs).2 x hx).2;obtain⟨k,e1,e2⟩:=qw hp (by omega);have h2:k<p.rf.length:=by rw[w.rf];exact e2
  have h1:k<p.tx.length:=by rw[w.tx];exact e2
  have:=ui hr k h2;simp only[gH,Nat.zero_add,Bool.and_eq_true,decide_eq_true_eq]at this;have hpos:=aBi hk (show x.pl=(k:Int)from e1) hs hx;have hn:p.rf[k]≠0:=by omega
  exact⟨k,e1,e2,by simpa [h2]using hn,by simpa [h1]using ht k h1 h2 hn⟩
 exact⟨r1,s1,h5,by simpa [inB]using h6,fun s hs=>(sp s hs).1,told 1 _ (by decide) r1 r2 h8,told 2 _ (by decide) s1 s2 h9,fun s hs x hx=>((sp s hs).2 x hx).1⟩
def cL(sp sp':List Space):Prop:=sp'.length=sp.length∧∀(i:Nat)(h:i<sp.length)(h':i<sp'.length),sp'[i].lv=sp[i].lv∧sp'[i].ar=sp[i].ar∧sp'[i].sl.length=sp[i].sl.length
theorem cL.refl{sp:List Space}:cL sp sp:=⟨rfl,fun _ _ _=>⟨rfl,rfl,rfl⟩⟩
theorem cL.trans{a b c:List Space}(h1:cL a b)(h2:cL b c):cL a c:=by
 refine⟨h2.1.trans h1.1,fun i h h'=>?_⟩;have hb:i<b.length:=by rw[h1.1];exact h
 obtain⟨a1,a2,a3⟩:=h1.2 i h hb;obtain⟨b1,b2,b3⟩:=h2.2 i hb h';exact⟨b1.trans a1,b2.trans a2,b3.trans a3⟩
theorem alike.same{but:Int}{a b:List Space}(h:alike but a b):cL a b:=⟨h.1,fun i h1 h2=>⟨(h.2 i h1 h2).1,(h.2 i h1 h2).2.1,(h.2 i h1 h2).2.2.1⟩⟩
theorem v7{kd pl:Int}{f:Slot→Slot}{sp:List Space}:cL sp (aZ kd pl f sp):=⟨by simp[aZ],fun i h h'=>by simp[aZ]⟩
theorem eM{sp:List Space}{i j:Nat}{x:Slot}:cL sp (aH sp i j x):=by refine⟨by simp[aH],fun q h h'=>?_⟩;simp only[aH,List.getElem_modify];split<;>simp
theorem gX{m m':Mem}(w:Wf m){i j:Nat}(h:cX m i j=some m'):cL m.sp m'.sp:=by
 unfold cX at h;split at h
 ·cases h;exact eM
 ·simp only[Option.map_eq_some_iff]at h;obtain⟨m1,h1,h2⟩:=h;have ha:=(eQ w h1).same;split at h2
  ·subst h2;exact ha.trans eM
  ·subst h2;exact(ha.trans v7).trans eM
theorem iz{m m':Mem}(w:Wf m){i j:Nat}(hi:i<m.sp.length)(hj:j<m.sp[i].sl.length)(h:cX m i j=some m'):∃(hi':i<m'.sp.length)(hj':j<m'.sp[i].sl.length),m'.sp[i].sl[j].kd=1:=by
 have hs:=gX w h;have hi':i<m'.sp.length:=by rw[hs.1];exact hi
 have hj':j<m'.sp[i].sl.length:=by rw[(hs.2 i hi hi').2.2];exact hj
 refine⟨hi',hj',?_⟩;have key:∀(sp:List Space)(x:Slot)(h1:i< (aH sp i j x).length)(h2:j< (aH sp i j x)[i].sl.length),(aH sp i j x)[i].sl[j]=x:=fun sp x h1 h2=>by simp[aH]
 unfold cX at h;split at h
 ·rename_i c;cases h;simp only[key];exact c
 ·simp only[Option.map_eq_some_iff]at h;obtain⟨m1,h1,h2⟩:=h;split at h2
  ·subst h2;simp only[key]
  ·subst h2;simp only[key]
end Go.Qm
namespace Go.Cq.D
open Go.RowKit
section
variable{P:Prg}{n0:Nat}{ts:DTs}{H:DH}{n:Nat}{K:DT→DTs→DH→Nat→List Nat→Prop}{Q:Kc}
theorem gi(es:List Loc)(ms:List M)(ρ:List Nat)(J:JN){ts1:DTs}{H1:DH}{n1:Nat}{f:FuncId}{args:List Opd}{das cas:List DV}{Hc:DH}{Post:DT→DH→Prop}(he:dN es ts H n=(ts1,H1,n1))(h1:di ts1 args=some das)(h2:gD H1 ρ ms das=some cas)(h3:eh (fun g=>gC ρ g 0) H1 ρ 0=some Hc)(h4:(nodup ρ&&(nodup (given ms das)&&(cQ (given ms das) ρ&&(cQ (eF ms das) (given ms das)&&cQ (eF ms das) ρ))))=true)(hc:gq P.prog J f cas Hc ρ.length Post)(hJ:∀t p,J t=some p→∃g,ρ[t]?=some g∧P.J g=some p)(h:∀res H3,Post res H3→jj ρ.length H3=true∧∃H',cB (fun t=>ρ[t]?) H3 ρ 0 (fq (given ms das) H1)=some H'∧K (i6 (fun t=>ρ[t]?) res) ts1 H' n1 (given ms das++ρ))(hv:J.v=none∨J.v=P.J.v:=by first|exact .inl rfl|exact .inr rfl):OpP P (.call f args) ts H n K:=by simp only[Bool.and_eq_true]at h4;exact⟨aBM rfl es he (.inl ⟨[],das,h1,ms,ρ,cas,Hc,Post,J,h2,h3,h4.1,h4.2.1,h4.2.2.1,h4.2.2.2,⟨hc,hJ⟩,hv,h⟩)⟩
theorem aAV(ms:List M)(J:JN)(cs:List CV){f:FuncId}{args:List Opd}{das cas:List DV}(h1:di ts args=some das)(h2:gD H [] ms das=some cas)(h3:given ms das=[])(h4:eF ms das=[])(hc:gq P.prog J f cas [] 0 fun res H'=>∃t,res= .v (.one (.ptr t 0 0))∧aG H' t=some (.box (cs.map .sc)))(h:K (.v (.one (.ptr n 0 0))) ts ((n,.box (cs.map .sc))::H) (n+1) [])(hn:∀t,J t=none:=by intro;rfl)(hv:J.v=none∨J.v=P.J.v:=by first|exact .inl rfl|exact .inr rfl):OpP P (.call f args) ts H n K:=⟨mB (.inr ⟨das,h1,ms,cas,J,cs,h2,h3,h4,hc,hn,hv,h⟩)⟩
theorem x7(es:List Loc)(ms:List M)(ρ:List Nat)(J:JN){ts1:DTs}{H1:DH}{n1:Nat}{f:FuncId}{args:List Opd}{das cas:List DV}{Hc Hr H':DH}{r:DT}(he:dN es ts H n=(ts1,H1,n1))(h1:di ts1 args=some das)(h2:gD H1 ρ ms das=some cas)(h3:eh (fun g=>gC ρ g 0) H1 ρ 0=some Hc)(h4:(nodup ρ&&(nodup (given ms das)&&(cQ (given ms das) ρ&&(cQ (eF ms das) (given ms das)&&cQ (eF ms das) ρ))))=true)(hc:gq P.prog J f cas Hc ρ.length fun x H'=>x=r∧H'=Hr)(hJ:∀t p,J t=some p→∃g,ρ[t]?=some g∧P.J g=some p)(h5:jj ρ.length Hr=true)(h6:cB (fun t=>ρ[t]?) Hr ρ 0 (fq (given ms das) H1)=some H')(h:fDT (i6 (fun t=>ρ[t]?) r) fun x=>fTs ts1 fun ts1=>fDH H' fun H'=>K x ts1 H' n1 (given ms das++ρ))(hv:J.v=none∨J.v=P.J.v:=by first|exact .inl rfl|exact .inr rfl):OpP P (.call f args) ts H n K:=by simp only[va,lK,lW]at h;exact gi es ms ρ J he h1 h2 h3 h4 hc hJ (fun res H3 hp=>by obtain⟨rfl,rfl⟩:=hp;exact⟨h5,H',h6,h⟩) hv
theorem cC(ms:List M)(ρ:List Nat){f:FuncId}{args:List Opd}{das cas:List DV}{Hc Hr H':DH}{r:DT}(h1:di ts args=some das)(h2:gD H ρ ms das=some cas)(h3:eh (fun g=>gC ρ g 0) H ρ 0=some Hc)(h4:(nodup ρ&&(nodup (given ms das)&&(cQ (given ms das) ρ&&(cQ (eF ms das) (given ms das)&&cQ (eF ms das) ρ))))=true)(hc:eD P.prog f cas Hc ρ.length fun x H'=>x=r∧H'=Hr)(h5:jj ρ.length Hr=true)(h6:cB (fun t=>ρ[t]?) Hr ρ 0 (fq (given ms das) H)=some H')(h:fDT (i6 (fun t=>ρ[t]?) r) fun x=>fTs ts fun ts1=>fDH H' fun H'=>K x ts1 H' n (given ms das++ρ)):OpP P (.call f args) ts H n K:=x7 [] ms ρ noJ rfl h1 h2 h3 h4 hc.toJ (fun t p e=>by simp[noJ]at e) h5 h6 h
end
end Go.Cq.D
namespace Go.Qm
open Go.Cq Go.Cq.D Go.RowKit
def bm(l:List Space):Nat:=aQ (l.map fun s=>if s.lv then 1 else 0)
def ga(l:List Space):Int:=if bm l<l.length then(bm l:Int)else-1
theorem xT{l:List Space}{i:Nat}(h:i<l.length)(h0:l[i].lv=false):bm l≤i:=pN (by simpa using h) (by simp[h0])
theorem kb{l:List Space}(h:bm l<l.length):l[bm l].lv=false:=by have:=pL (l:=l.map fun s=>if s.lv then(1:Int)else 0) (by simpa [bm]using h);rw[List.getElem_map]at this;simpa [bm]using this
def gB(c:Prop) [Decidable c](p:Pages)(k:Nat):Pages:=if c then⟨p.tx,p.rf.set k (p.rf[k]?.getD 0+1)⟩else p
def arF(m:Mem)(i:Nat):List Area:=(m.sp[i]?.map (·.ar)).getD []
def shP(m:Mem)(i j:Nat):Bool:=gM (arF m i) (ae (arF m i) j)
def cE(m:Mem)(i:Nat):Nat→Mem×Bool
 |0=>(m,true)
 |j+1=>if(cE m i j).2&&(shP (cE m i j).1 i j&&decide ((aJ (cE m i j).1 i j).kd=0))then(match cX (cE m i j).1 i j with
  |some m2=>(m2,true)
  |none=>((cE m i j).1,false))else cE m i j
def oG(m:Mem)(i j:Nat):Mem:=
 ⟨gB ((aJ m i j).kd=1) m.ram (aJ m i j).pl.toNat,gB ((aJ m i j).kd=2) m.swp (aJ m i j).pl.toNat,
  aH m.sp i j (if shP m i j then aJ m i j else{aJ m i j with ow:=false}),m.hd⟩
def j6(m:Mem)(i:Nat):Nat→Mem
 |0=>m
 |j+1=>oG (j6 m i j) i j
def gz(m:Mem)(i:Nat):List Slot:=(m.sp[i]?.map (·.sl)).getD []
def iH(m:Mem)(i to:Nat):Mem:={m with sp:=m.sp.set to ⟨true,arF m i,gz m i⟩}
def ko(m:Mem)(i:Nat):Mem×Int:=
 if bm m.sp<m.sp.length then
  if(cE m i 16).2 then(iH (j6 (cE m i 16).1 i 16) i (bm m.sp),bm m.sp)else((cE m i 16).1, -1)
 else(m, -1)
theorem yw{m:Mem}(w:Wf m){i:Nat}(hi:i<m.sp.length):∀{j:Nat},j≤m.sp[i].sl.length→Wf (cE m i j).1∧cL m.sp (cE m i j).1.sp:=by
 intro j;induction j with
 |zero=>exact fun _=>⟨w,cL.refl⟩
 |succ j ih=>
  intro hj;obtain⟨w1,s1⟩:=ih (by omega);have hi1:i< (cE m i j).1.sp.length:=by rw[s1.1];exact hi
  have hj1:j< (cE m i j).1.sp[i].sl.length:=by rw[(s1.2 i hi hi1).2.2];omega
  simp only[cE];split
  ·cases hb:cX (cE m i j).1 i j with
   |none=>exact⟨w1,s1⟩
   |some m2=>exact⟨w1.lh hi1 hj1 hb,s1.trans (gX w1 hb)⟩
  ·exact⟨w1,s1⟩
theorem uX{m:Mem}{i j:Nat}(h:(cE m i j).2=false):∀k,cE m i (j+k)=cE m i j:=by
 intro k;induction k with
 |zero=>rfl
 |succ k ih=>rw[←Nat.add_assoc,cE,ih,h];rfl
structure Fk(m m':Mem)(i j:Nat):Prop where
 rt:m'.ram.tx=m.ram.tx
 rl:m'.ram.rf.length=m.ram.rf.length
 st:m'.swp.tx=m.swp.tx
 sl:m'.swp.rf.length=m.swp.rf.length
 sm:cL m.sp m'.sp
 hd:m'.hd=m.hd
 at_:∀k,j≤k→aJ m' i k=aJ m i k
 rb:∀x,x∈m'.ram.rf→0≤x∧x≤1000+j
 sb:∀x,x∈m'.swp.rf→0≤x∧x≤1000+j
theorem tF{c:Prop} [Decidable c]{p:Pages}{k:Nat}:(gB c p k).tx=p.tx:=by unfold gB;split<;>rfl
theorem qX{c:Prop} [Decidable c]{p:Pages}{k:Nat}:(gB c p k).rf.length=p.rf.length:=by unfold gB;split<;>simp
theorem qA{c:Prop} [Decidable c]{p:Pages}{k:Int}{f:Nat}(hc:c)(e:k=f)(h:f<p.rf.length):gB c p k.toNat=⟨p.tx,p.rf.set f (p.rf[f]+1)⟩:=by subst e;simp[gB,hc,h]
theorem iX{c:Prop} [Decidable c]{p:Pages}{k:Nat}(hc:¬c):gB c p k=p:=if_neg hc
theorem sV{c:Prop} [Decidable c]{p:Pages}{k:Nat}{j:Nat}(h:∀x,x∈p.rf→0≤x∧x≤1000+(j:Int)):∀x,x∈(gB c p k).rf→0≤x∧x≤1000+((j+1:Nat):Int):=by
 intro x hx;have key:0≤p.rf[k]?.getD 0∧p.rf[k]?.getD 0≤1000+(j:Int):=by
  cases e:p.rf[k]? with
  |none=>simp;omega
  |some y=>simpa using h y (List.mem_of_getElem? e)
 unfold gB at hx;split at hx
 ·rcases List.mem_or_eq_of_mem_set hx with hx|rfl
  ·have:=h x hx;omega
  ·omega
 ·have:=h x hx;omega
theorem pO{m:Mem}{r s:Pages}{h:Int}{i j k:Nat}{x:Slot}(hk:k≠j):aJ ⟨r,s,aH m.sp i j x,h⟩ i k=aJ m i k:=by
 simp only[aJ,aH,List.getElem?_modify,if_true];cases m.sp[i]? with
 |none=>rfl
 |some y=>simp[List.getElem?_set_ne (Ne.symm hk)]
theorem aAe{m:Mem}(h1:PgW m.ram)(h2:PgW m.swp){i:Nat}:∀{j:Nat},Fk m (j6 m i j) i j:=by
 intro j;induction j with
 |zero=>exact⟨rfl,rfl,rfl,rfl,cL.refl,rfl,fun _ _=>rfl,fun x hx=>by have:=h1.bd x hx;omega,fun x hx=>by have:=h2.bd x hx;omega⟩
 |succ j ih=>obtain⟨a1,a2,a3,a4,a5,a6,a7,a8,a9⟩:=ih;exact⟨tF.trans a1,qX.trans a2,tF.trans a3,qX.trans a4,a5.trans eM,a6,fun k hk=>(pO (by omega)).trans (a7 k (by omega)),sV a8,sV a9⟩
theorem vP{kd pl:Int}{f:Slot→Slot}{m:Mem}{r s:Pages}{h:Int}{i j:Nat}(hk:kd≠0):aJ ⟨r,s,aZ kd pl f m.sp,h⟩ i j=if(aJ m i j).kd=kd∧(aJ m i j).pl=pl then f (aJ m i j)else aJ m i j:=by
 have h0:¬(cr.kd=kd∧cr.pl=pl):=fun c=>hk c.1.symm
 simp only[aJ,aZ,List.getElem?_map];rcases Option.eq_none_or_eq_some (m.sp[i]?)with hs| ⟨y,hs⟩
 ·simp only[hs,Option.map_none,Option.bind_none,Option.getD_none];rw[if_neg h0]
 ·simp only[hs,Option.map_some,Option.bind_some,List.getElem?_map];rcases Option.eq_none_or_eq_some (y.sl[j]?)with ht| ⟨x,ht⟩
  ·simp only[ht,Option.map_none,Option.getD_none];rw[if_neg h0]
  ·simp only[ht,Option.map_some,Option.getD_some]
theorem ug{kd pl:Int}{f:Slot→Slot}{m:Mem}{r s:Pages}{h:Int}{i j:Nat}(hk:kd≠0)(hf:∀x:Slot,x.kd=kd→(f x).kd≠0):(aJ ⟨r,s,aZ kd pl f m.sp,h⟩ i j).kd=0↔(aJ m i j).kd=0:=by
 rw[vP hk];split
 ·rename_i c;have:=hf _ c.1;have:=c.1;omega
 ·exact Iff.rfl
theorem aBQ{m m':Mem}{but:Int}(h:clk m but= .inl m'){i j:Nat}:(aJ m' i j).kd=0↔(aJ m i j).kd=0:=by
 unfold clk at h;split at h
 ·cases h;exact Iff.rfl
 ·split at h
  ·cases h;exact ug (m:=m) (by decide) fun x hx=>by simp only[gI];omega
  ·cases h
theorem aBH{m m':Mem}{but:Int}(h:clk m but= .inr m'){i j:Nat}:(aJ m' i j).kd=0↔(aJ m i j).kd=0:=by
 unfold clk at h;split at h
 ·cases h
 ·split at h
  ·cases h
  ·cases h;exact(ug (m:=fx (fG m) m.hd) (f:=dE 2 _) (by decide) fun x hx=>by simp[dE]).trans (ug (m:=m) (f:=gI) (by decide) fun x hx=>by simp only[gI];omega)
theorem zi{but:Int}{i j:Nat}:∀{m:Mem},(aJ (de m but) i j).kd=0↔(aJ m i j).kd=0:=by
 have main:∀(k:Nat)(m:Mem),mu m but=k→((aJ (de m but) i j).kd=0↔(aJ m i j).kd=0):=by
  intro k;induction k using Nat.strongRecOn with
  |_ k ih=>
   intro m hk;cases hc:clk m but with
   |inl m'=>rw[jS hc];exact(ih _ (hk▸jz hc) m' rfl).trans (aBQ hc)
   |inr m'=>rw[ka hc];exact aBH hc
 exact fun{m}=>main _ m rfl
theorem zT{m m':Mem}{but:Int}(h:dL m but=some m'){i j:Nat}:(aJ m' i j).kd=0↔(aJ m i j).kd=0:=by
 unfold dL at h;split at h
 ·cases h;exact Iff.rfl
 ·split at h
  ·cases h;exact zi
  ·cases h
theorem aA0{a b:Mem}(h:cL a.sp b.sp){i:Nat}(hi:i<a.sp.length):arF b i=a.sp[i].ar:=by
 have hb:i<b.sp.length:=by rw[h.1];exact hi
 simp[arF,hb,(h.2 i hi hb).2.1]
theorem aAE{m:Mem}{r s:Pages}{h:Int}{i j:Nat}{x:Slot}:gz ⟨r,s,aH m.sp i j x,h⟩ i=(gz m i).set j x:=by simp only[gz,aH,List.getElem?_modify,if_true];cases m.sp[i]?<;>simp
theorem vn{m:Mem}{i:Nat}(hi:i<m.sp.length):gz m i=m.sp[i].sl:=by simp[gz,hi]
end Go.Qm
namespace Go.Qm
open Go.Cq Go.Cq.D Go.RowKit
theorem aBn{m m':Mem}{f:Nat}(hn:0≤m.hd)(h:clk m f= .inr m'):m'.ram.rf[f]?=m.ram.rf[f]?:=by
 unfold clk at h;split at h
 ·cases h
 ·rename_i c;split at h
  ·cases h
  ·cases h;have:¬m.hd.toNat=f:=by omega
   simp[fS,ao,fx,fG,List.getElem?_set_ne this]
theorem zo{f:Nat}:∀{m:Mem},Wf m→(de m f).ram.rf[f]?=m.ram.rf[f]?:=by
 have main:∀(k:Nat)(m:Mem),mu m f=k→Wf m→(de m f).ram.rf[f]?=m.ram.rf[f]?:=by
  intro k;induction k using Nat.strongRecOn with
  |_ k ih=>
   intro m hk h;cases hc:clk m f with
   |inl m'=>obtain⟨h1,h2, -⟩:=h.xa hc;rw[jS hc,ih _ (hk▸jz hc) m' rfl h1,h2]
   |inr m'=>rw[ka hc];exact aBn h.hd.1 hc
 exact fun{m}=>main _ m rfl
theorem yR{m m':Mem}{f:Nat}(w:Wf m)(h:dL m f=some m'):m'.ram.rf[f]?=m.ram.rf[f]?:=by
 unfold dL at h;split at h
 ·cases h;rfl
 ·split at h
  ·cases h;exact zo w
  ·cases h
theorem pA{p:Pages}{f:Nat}(h:1<p.rf[f]?.getD 0):dG p f=⟨p.tx,p.rf.set f (p.rf[f]?.getD 0-1)⟩:=by simp only[dG,if_neg (show¬p.rf[f]?.getD 0=1 by omega)]
theorem Wf.aDM{m:Mem}(w:Wf m){f:Nat}(h2:1<m.ram.rf[f]?.getD 0):Wf {m with ram:=dG m.ram f}:=by
 have hf:f<m.ram.rf.length:=by
  rcases Nat.lt_or_ge f m.ram.rf.length with c|c
  ·exact c
  ·rw[List.getElem?_eq_none c]at h2;simp at h2
 have hr:m.ram.rf[f]?.getD 0=m.ram.rf[f]:=by simp[hf]
 have hb:=w.ram.get (k:=f);rw[pA h2];refine⟨⟨w.ram.tx,by simp[w.ram.rf],fun x hx=>?_⟩,w.swp,w.sp,w.hd,w.sl,fun s hs x hx hk=>?_,w.at2,w.kd⟩
 ·rcases List.mem_or_eq_of_mem_set hx with hx|rfl
  ·exact w.ram.bd x hx
  ·omega
 ·obtain⟨k,e1,e2,e3,e4⟩:=w.at1 s hs x hx hk;refine⟨k,e1,e2,?_,e4⟩;by_cases c:f=k
  ·subst c;rw[List.getElem?_set_self hf];simp only[Option.getD_some];omega
  ·rw[List.getElem?_set_ne c];exact e3
theorem Wf.own{m m':Mem}(w:Wf m){i j:Nat}(hi:i<m.sp.length)(hj:j<m.sp[i].sl.length)(hk:(aJ m i j).kd=1)(h:je m i j=some m'):Wf m'∧cL m.sp m'.sp∧(aJ m' i j).kd=1:=by
 obtain⟨t1, -⟩:=w.slot hi hj;obtain⟨f,e1,e2,e3,e4⟩:=t1 hk;have key:∀{r s:Pages}{sp:List Space}{d:Int}{x:Slot}(hi:i<sp.length)(hj:j<sp[i].sl.length),aJ ⟨r,s,aH sp i j x,d⟩ i j=x:=fun{r s sp d x} hi hj=>by have h1:j<sp[i].sl.length:=hj;simp[aJ,aH,hi,h1]
 unfold je at h;split at h
 ·rename_i c;simp only[Option.map_eq_some_iff]at h;obtain⟨m1,h1,rfl⟩:=h;rw[e1,Int.toNat_natCast]at c;rw[e1]at h1;obtain⟨w1,hf⟩:=w.dL h1;have ha:=eQ w h1;obtain⟨hi1,hj1,ex,ey⟩:=fo ha hi hj (.inr e1);have hrf:=yR w h1;obtain⟨g,q1,q2,q3,q4⟩:=(w1.slot hi1 hj1).1 (by rw[ey];exact hk);obtain rfl:g=f:=by rw[ey,e1]at q1;omega
  have hne:aQ m1.ram.rf≠g:=fun e=>by have:=et (l:=m1.ram.rf) (by rw[w1.ram.rf];exact hf);rw[e,hrf]at this;omega
  have wt:=w1.take hf (t:=m1.ram.tx[g]?.getD []) (n:=1) (by decide);have hgt:1< (ao m1.ram (aQ m1.ram.rf) (m1.ram.tx[g]?.getD []) 1).rf[g]?.getD 0:=by simp only[ao,List.getElem?_set_ne hne];rw[hrf];exact c.2
  have wg:=wt.aDM (f:=g) hgt;simp only[e1,Int.toNat_natCast];refine⟨wg.set (y:={aJ m i j with pl:=aQ m1.ram.rf,ow:=true}) (fun _=>?_) (fun e=>by simp only[hk]at e;omega) (.inr (.inl hk)),?_,?_⟩
  ·have hz:g<m1.ram.rf.length:=by rw[w1.ram.rf];exact e2
   have hF:aQ m1.ram.rf<m1.ram.rf.length:=by rw[w1.ram.rf];exact hf
   have hFt:aQ m1.ram.rf<m1.ram.tx.length:=by rw[w1.ram.tx];exact hf
   refine⟨aQ m1.ram.rf,rfl,hf,?_,?_⟩
   ·rw[pA hgt];simp only[ao];rw[List.getElem?_set_ne (Ne.symm hne),List.getElem?_set_self hF];simp
   ·rw[pA hgt];simp only[ao];rw[List.getElem?_set_self hFt];simpa using q4
  ·exact(ha.same).trans eM
  ·rw[key hi1 hj1];exact hk
 ·cases h;exact⟨w.set (fun _=>t1 hk) (fun e=>by simp only[hk]at e;omega) (.inr (.inl hk)),eM,by rw[key hi hj];exact hk⟩
end Go.Qm
namespace Go.Qm
open Go.Cq Go.Cq.D Go.RowKit
def hit(kd pl:Int)(x:Slot):Bool:=decide (x.kd=kd∧x.pl=pl)
def eH(kd pl:Int)(l:List Slot):Nat:=l.countP (hit kd pl)
def cnt(kd pl:Int):List Space→Nat
 | []=>0
 |s::l=>eH kd pl s.sl+cnt kd pl l
def one(b:Bool):Nat:=if b then 1 else 0
theorem ye{kd pl:Int}{y:Slot}:∀{l:List Slot}{j:Nat}(h:j<l.length),eH kd pl (l.set j y)+one (hit kd pl l[j])=eH kd pl l+one (hit kd pl y):=by
 intro l;induction l with
 |nil=>intro j h;simp at h
 |cons x l ih=>
  intro j h;cases j with
  |zero=>simp only[eH,List.set_cons_zero,List.countP_cons,List.getElem_cons_zero,one];omega
  |succ j=>have:=ih (j:=j) (by simpa using h);simp only[eH,List.set_cons_succ,List.countP_cons,List.getElem_cons_succ]at this ⊢;omega
theorem rm{kd pl:Int}{t:Space}:∀{sp:List Space}{i:Nat}(h:i<sp.length),cnt kd pl (sp.set i t)+eH kd pl sp[i].sl=cnt kd pl sp+eH kd pl t.sl:=by
 intro sp;induction sp with
 |nil=>intro i h;simp at h
 |cons s l ih=>
  intro i h;cases i with
  |zero=>simp only[List.set_cons_zero,cnt,List.getElem_cons_zero];omega
  |succ i=>have:=ih (i:=i) (by simpa using h);simp only[List.set_cons_succ,cnt,List.getElem_cons_succ]at this ⊢;omega
theorem mI{kd pl:Int}{y:Slot}{sp:List Space}{i j:Nat}(hi:i<sp.length)(hj:j<sp[i].sl.length):cnt kd pl (aH sp i j y)+one (hit kd pl sp[i].sl[j])=cnt kd pl sp+one (hit kd pl y):=by
 have e:aH sp i j y=sp.set i ⟨sp[i].lv,sp[i].ar,sp[i].sl.set j y⟩:=by rw[aH,iC (List.getElem?_eq_getElem hi)]
 have h1:=rm (kd:=kd) (pl:=pl) (t:=⟨sp[i].lv,sp[i].ar,sp[i].sl.set j y⟩) hi;have h2:=ye (kd:=kd) (pl:=pl) (y:=y) hj;rw[e];simp only at h1;omega
theorem wo{kd pl a:Int}:∀{l:List Slot},eH kd pl (l.map fun x=>if x.kd=1∧x.pl=a then gI x else x)=eH kd pl l:=by
 intro l;rw[eH,eH,List.countP_map];refine List.countP_congr fun x _=>?_
 simp only[Function.comp];split<;>rfl
theorem sS{kd pl a:Int}:∀{sp:List Space},cnt kd pl (aZ 1 a gI sp)=cnt kd pl sp:=by
 intro sp;induction sp with
 |nil=>rfl
 |cons s l ih=>simp only[aZ,List.map_cons,cnt]at ih ⊢;rw[ih,wo]
theorem xZ{k0 p0 k1 p1:Int}(hne:¬(k0=k1∧p0=p1)){kd pl:Int}:∀{l:List Slot},eH kd pl (l.map fun x=>if x.kd=k0∧x.pl=p0 then dE k1 p1 x else x)=if kd=k1∧pl=p1 then eH k1 p1 l+eH k0 p0 l else if kd=k0∧pl=p0 then 0 else eH kd pl l:=by
 intro l;induction l with
 |nil=>simp[eH]
 |cons x l ih=>
  simp only[eH,List.map_cons,List.countP_cons]at ih ⊢;rw[ih];simp only[hit,decide_eq_true_eq];have s1:(k1=kd∧p1=pl)↔(kd=k1∧pl=p1):=⟨fun h=>⟨h.1.symm,h.2.symm⟩,fun h=>⟨h.1.symm,h.2.symm⟩⟩;by_cases c0:x.kd=k0∧x.pl=p0
  ·rw[if_pos c0];simp only[dE,s1];obtain⟨rfl,rfl⟩:=c0;have s2:(x.kd=kd∧x.pl=pl)↔(kd=x.kd∧pl=x.pl):=⟨fun h=>⟨h.1.symm,h.2.symm⟩,fun h=>⟨h.1.symm,h.2.symm⟩⟩;simp only[s2,hne,if_false,and_self,if_true];by_cases c1:kd=k1∧pl=p1
   ·simp only[c1,and_self,if_true];omega
   ·simp only[c1,if_false];by_cases c2:kd=x.kd∧pl=x.pl
    ·simp only[c2,and_self,if_true]
    ·simp only[c2,if_false]
  ·rw[if_neg c0];by_cases c1:kd=k1∧pl=p1
   ·simp only[c1,and_self,if_true,c0,if_false];omega
   ·simp only[c1,if_false];by_cases c2:kd=k0∧pl=p0
    ·simp only[c2,and_self,if_true,c0,if_false]
    ·simp only[c2,if_false]
theorem lu{k0 p0 k1 p1:Int}(hne:¬(k0=k1∧p0=p1)){kd pl:Int}:∀{sp:List Space},cnt kd pl (aZ k0 p0 (dE k1 p1) sp)=if kd=k1∧pl=p1 then cnt k1 p1 sp+cnt k0 p0 sp else if kd=k0∧pl=p0 then 0 else cnt kd pl sp:=by
 intro sp;induction sp with
 |nil=>simp[cnt,aZ]
 |cons s l ih=>
  simp only[aZ,List.map_cons,cnt]at ih ⊢;rw[ih,xZ hne];split
  ·omega
  ·split<;>omega
theorem rF{kd pl:Int}{x:Slot}{s:Space}:∀{sp:List Space},s∈sp→x∈s.sl→x.kd=kd→x.pl=pl→0<cnt kd pl sp:=by
 intro sp;induction sp with
 |nil=>intro h;simp at h
 |cons s' l ih=>
  intro h hx h1 h2;simp only[cnt];rcases List.mem_cons.1 h with rfl|h
  ·have:0<eH kd pl s.sl:=List.countP_pos_iff.2 ⟨x,hx,by simp[hit,h1,h2]⟩;omega
  ·have:=ih h hx h1 h2;omega
theorem zj{kd pl:Int}{b:Nat}:∀{sp:List Space},(∀s,s∈sp→s.sl.length≤b)→cnt kd pl sp≤b*sp.length:=by
 intro sp;induction sp with
 |nil=>intro _;simp[cnt]
 |cons s l ih=>
  intro h;have h1:=ih fun t ht=>h t (List.mem_cons_of_mem _ ht)
  have h2:=h s (List.mem_cons_self ..);have h3:eH kd pl s.sl≤s.sl.length:=List.countP_le_length;simp only[cnt,List.length_cons,Nat.mul_add,Nat.mul_one];omega
structure Pl(p:Pages)(f:Nat→Nat):Prop where
 tx:p.tx.length=12
 rf:p.rf.length=12
 ct:∀k,k<12→p.rf[k]?.getD 0=(f k:Int)
 t4:∀k,k<12→f k≠0→(p.tx[k]?.getD []).length=4
theorem Pl.cg{p:Pages}{f g:Nat→Nat}(h:Pl p f)(e:∀k,k<12→g k=f k):Pl p g:=⟨h.tx,h.rf,fun k hk=>by rw[e k hk];exact h.ct k hk,fun k hk hg=>h.t4 k hk (by rw[←e k hk];exact hg)⟩
theorem Pl.take{p:Pages}{f g:Nat→Nat}(h:Pl p f){k:Nat}{t:Str}{n:Int}(hk:k<12)(e:∀j,j<12→j≠k→g j=f j)(hn:n=(g k:Int))(ht:g k≠0→t.length=4):Pl (ao p k t n) g:=by
 have hr:k<p.rf.length:=by rw[h.rf];exact hk
 have hx:k<p.tx.length:=by rw[h.tx];exact hk
 refine⟨by simp[ao,h.tx],by simp[ao,h.rf],fun j hj=>?_,fun j hj hg=>?_⟩
 ·by_cases c:j=k
  ·subst c;simp[ao,hr,hn]
  ·simp only[ao];rw[List.getElem?_set_ne (fun h=>c h.symm),e j hj c];exact h.ct j hj
 ·by_cases c:j=k
  ·subst c;simp[ao,hx,ht hg]
  ·simp only[ao];rw[List.getElem?_set_ne (fun h=>c h.symm)];exact h.t4 j hj (by rw[←e j hj c];exact hg)
theorem Pl.fI{p:Pages}{f g:Nat→Nat}(h:Pl p f){k:Nat}(hk:k<12)(e:∀j,j<12→j≠k→g j=f j)(hn:g k+1=f k):Pl (dG p k) g:=by
 have hr:k<p.rf.length:=by rw[h.rf];exact hk
 have hx:k<p.tx.length:=by rw[h.tx];exact hk
 have hc:=h.ct k hk;refine⟨by simp only[dG];split<;>simp[h.tx],by simp[dG,h.rf],fun j hj=>?_,fun j hj hg=>?_⟩
 ·by_cases c:j=k
  ·subst c;simp only[dG,List.getElem?_set_self hr,Option.getD_some];omega
  ·simp only[dG];rw[List.getElem?_set_ne (fun h=>c h.symm),e j hj c];exact h.ct j hj
 ·by_cases c:j=k
  ·subst c;simp only[dG];rw[if_neg (by omega)];exact h.t4 j hj (by omega)
  ·have:=h.t4 j hj (by rw[←e j hj c];exact hg);simp only[dG];split
   ·rw[List.getElem?_set_ne (fun h=>c h.symm)];exact this
   ·exact this
structure SpI(s:Space):Prop where
 lv:s.lv=true→aT s.ar=true∧s.sl.length=16
 dd:s.lv=false→s.ar=[]∧s.sl=[]
 sl:∀x,x∈s.sl→x.kd=0∨(x.kd=1∨x.kd=2)∧∃k:Nat,x.pl=k∧k<12
structure Inv(m:Mem):Prop where
 ram:Pl m.ram fun k=>cnt 1 k m.sp
 swp:Pl m.swp fun k=>cnt 2 k m.sp
 sp:m.sp.length=5
 hd:0≤m.hd∧m.hd≤11
 ss:∀s,s∈m.sp→SpI s
theorem SpI.l16{s:Space}(h:SpI s):s.sl.length≤16:=by
 cases e:s.lv with
 |true=>rw[(h.lv e).2];omega
 |false=>rw[(h.dd e).2];simp
theorem Pl.pgW{p:Pages}{f:Nat→Nat}(h:Pl p f)(hf:∀k,f k≤1000):PgW p:=by refine⟨h.tx,h.rf,fun x hx=>?_⟩;obtain⟨k,hk,rfl⟩:=List.getElem_of_mem hx;have:=h.ct k (by rw[←h.rf];exact hk);simp only[List.getElem?_eq_getElem hk,Option.getD_some]at this;have:=hf k;omega
theorem Inv.wf{m:Mem}(h:Inv m):Wf m:=by
 have hb:∀kd pl,cnt kd pl m.sp≤1000:=fun kd pl=>by
  have:=zj (kd:=kd) (pl:=pl) (sp:=m.sp) (b:=16) fun s hs=>(h.ss s hs).l16
  rw[h.sp]at this;omega
 have tell:∀{p:Pages}{kd:Int},Pl p (fun k=>cnt kd k m.sp)→∀s,s∈m.sp→∀x,x∈s.sl→kd≠0→x.kd=kd→d7 p x:=fun{p kd} hp s hs x hx h0 hk=>by
  rcases(h.ss s hs).sl x hx with c| ⟨-,k,e,hk12⟩
  ·exact absurd (hk.symm.trans c) h0
  ·have hc:=rF hs hx hk e;have:=hp.ct k hk12;exact⟨k,e,hk12,by omega,hp.t4 k hk12 (by omega)⟩
 exact⟨h.ram.pgW fun k=>hb _ _,h.swp.pgW fun k=>hb _ _,h.sp,h.hd,fun s hs=>(h.ss s hs).l16,fun s hs x hx hk=>tell h.ram s hs x hx (by decide) hk,fun s hs x hx hk=>tell h.swp s hs x hx (by decide) hk,fun s hs x hx=>((h.ss s hs).sl x hx).imp (fun h=>h) fun h=>h.1⟩
theorem Inv.hand{m:Mem}(h:Inv m):Inv (fG m):=⟨h.ram,h.swp,h.sp,by have:=h.hd;simp only[fG];omega,h.ss⟩
theorem SpI.map{m:Mem}(h:∀s,s∈m.sp→SpI s){kd pl:Int}{f:Slot→Slot}(hf:∀x:Slot,x.kd=kd→x.pl=pl→(x.kd=0∨(x.kd=1∨x.kd=2)∧∃k:Nat,x.pl=k∧k<12)→(f x).kd=0∨((f x).kd=1∨(f x).kd=2)∧∃k:Nat,(f x).pl=k∧k<12):∀s,s∈aZ kd pl f m.sp→SpI s:=by
 intro s' hs';simp only[aZ,List.mem_map]at hs';obtain⟨s,hs,rfl⟩:=hs';have i:=h s hs;refine⟨fun e=>⟨(i.lv e).1,by simpa using(i.lv e).2⟩,fun e=>⟨(i.dd e).1,by simp[(i.dd e).2]⟩,fun x' hx'=>?_⟩;simp only[List.mem_map]at hx';obtain⟨x,hx,rfl⟩:=hx';split
 ·rename_i c;exact hf x c.1 c.2 (i.sl x hx)
 ·exact i.sl x hx
theorem Inv.calm{m:Mem}(h:Inv m)(pl:Int):Inv (fx m pl):=⟨h.ram.cg fun k _=>sS,h.swp.cg fun k _=>sS,by simp[fx,aZ,h.sp],h.hd,SpI.map h.ss fun x _ _ c=>c⟩
theorem Inv.zP{m:Mem}(h:Inv m){a:Nat}(ha:a<12)(hf:aQ m.swp.rf<12):Inv (fS m a):=by
 have hz:=et (l:=m.swp.rf) (by rw[h.swp.rf];exact hf);have hc:=h.swp.ct _ hf;have hne:¬((1:Int)=2∧(a:Int)=(aQ m.swp.rf:Int)):=by omega
 have hr:=h.ram.ct a ha;have hE:∀p,aQ m.swp.rf=p→fS m a=⟨ao m.ram a [] 0,ao m.swp p (m.ram.tx[a]?.getD []) (m.ram.rf[a]?.getD 0),aZ 1 a (dE 2 p) m.sp,m.hd⟩:=fun p hp=>by rw[fS,hp]
 rw[hE _ rfl];clear hE;generalize aQ m.swp.rf=p at*;have e1:∀k:Nat,cnt 1 k (aZ 1 a (dE 2 p) m.sp)=if k=a then 0 else cnt 1 k m.sp:=fun k=>by
  rw[lu hne,if_neg (by omega)];by_cases c:k=a
  ·rw[if_pos ⟨rfl,by omega⟩,if_pos c]
  ·rw[if_neg (by omega),if_neg c]
 have e2:∀k:Nat,cnt 2 k (aZ 1 a (dE 2 p) m.sp)=if k=p then cnt 1 a m.sp else cnt 2 k m.sp:=fun k=>by
  rw[lu hne];by_cases c:k=p
  ·rw[if_pos ⟨rfl,by omega⟩,if_pos c];omega
  ·rw[if_neg (by omega),if_neg (by omega),if_neg c]
 refine⟨h.ram.take ha (fun j _ hj=>by simp only[e1,if_neg hj]) (by simp[e1]) (fun c=>absurd (by simp[e1]) c),h.swp.take hf (fun j _ hj=>by simp only[e2,if_neg hj]) (by simp[e2,hr]) (fun c=>?_),by simp[aZ,h.sp],h.hd,SpI.map h.ss fun x _ _ _=>.inr ⟨.inr rfl,p,rfl,hf⟩⟩;simp only[e2,if_true]at c;exact h.ram.t4 a ha c
theorem Inv.xa{m m':Mem}{but:Int}(h:Inv m)(hc:clk m but= .inl m'):Inv m':=by
 unfold clk at hc;split at hc
 ·simp only[Sum.inl.injEq]at hc;subst hc;exact h.hand
 ·split at hc
  ·simp only[Sum.inl.injEq]at hc;subst hc;exact h.hand.calm _
  ·simp at hc
theorem Inv.aCX{m m':Mem}{but:Int}(h:Inv m)(hf:aQ m.swp.rf<12)(hc:clk m but= .inr m'):Inv m':=by
 unfold clk at hc;split at hc
 ·simp at hc
 ·split at hc
  ·simp at hc
  ·simp only[Sum.inr.injEq]at hc;subst hc;exact(h.hand.calm _).zP (by have:=h.hd;omega) hf
theorem Inv.de{but:Int}:∀{m:Mem},Inv m→aQ m.swp.rf<12→Inv (de m but):=by
 have main:∀(k:Nat)(m:Mem),mu m but=k→Inv m→aQ m.swp.rf<12→Inv (Go.Qm.de m but):=by
  intro k;induction k using Nat.strongRecOn with
  |_ k ih=>
   intro m hk h hf;cases hc:clk m but with
   |inl m'=>obtain⟨-, -,h3⟩:=h.wf.xa hc;rw[jS hc];exact ih _ (hk▸jz hc) m' rfl (h.xa hc) (by rw[h3];exact hf)
   |inr m'=>rw[ka hc];exact h.aCX hf hc
 exact fun{m}=>main _ m rfl
theorem Inv.dL{m m':Mem}{but:Int}(h:Inv m)(hr:dL m but=some m'):Inv m':=by
 unfold Go.Qm.dL at hr;split at hr
 ·cases hr;exact h
 ·split at hr
  ·rename_i c;cases hr;exact h.de (by rw[h.swp.rf]at c;exact c)
  ·simp at hr
def slI(x:Slot):Prop:=x.kd=0∨(x.kd=1∨x.kd=2)∧∃k:Nat,x.pl=k∧k<12
theorem SpI.set{sp:List Space}(h:∀s,s∈sp→SpI s){i j:Nat}{y:Slot}(hy:slI y):∀s,s∈aH sp i j y→SpI s:=by
 intro s' hs';rw[aH]at hs';obtain⟨k,hk,rfl⟩:=List.getElem_of_mem hs';rw[List.length_modify]at hk;have i1:=h _ (List.getElem_mem hk);rw[List.getElem_modify];split
 ·refine⟨fun e=>⟨(i1.lv e).1,by simpa using(i1.lv e).2⟩,fun e=>⟨(i1.dd e).1,by simp[(i1.dd e).2]⟩,fun x hx=>?_⟩;rcases List.mem_or_eq_of_mem_set hx with hx|rfl
  ·exact i1.sl x hx
  ·exact hy
 ·exact i1
theorem oe{kd pl:Int}{y:Slot}{sp:List Space}{i j:Nat}(hi:i<sp.length)(hj:j<sp[i].sl.length)(h1:y.kd=sp[i].sl[j].kd)(h2:y.pl=sp[i].sl[j].pl):cnt kd pl (aH sp i j y)=cnt kd pl sp:=by
 have:=mI (kd:=kd) (pl:=pl) (y:=y) hi hj;have e:hit kd pl y=hit kd pl sp[i].sl[j]:=by simp[hit,h1,h2]
 rw[e]at this;omega
theorem Inv.same{m:Mem}(h:Inv m){i j:Nat}{y:Slot}(hi:i<m.sp.length)(hj:j<m.sp[i].sl.length)(h1:y.kd=m.sp[i].sl[j].kd)(h2:y.pl=m.sp[i].sl[j].pl):Inv {m with sp:=aH m.sp i j y}:=by refine⟨h.ram.cg fun k _=>oe hi hj h1 h2,h.swp.cg fun k _=>oe hi hj h1 h2,by simp[aH,h.sp],h.hd,SpI.set h.ss ?_⟩;have:=(h.ss _ (List.getElem_mem hi)).sl _ (List.getElem_mem hj);rw[slI,h1,h2];exact this
theorem Inv.lh{m m':Mem}(h:Inv m){i j:Nat}(hi:i<m.sp.length)(hj:j<m.sp[i].sl.length)(hr:cX m i j=some m'):Inv m':=by
 have ex:=bf hi hj;unfold cX at hr;split at hr
 ·rename_i c;cases hr;exact h.same hi hj (by rw[ex]) (by rw[ex])
 ·rename_i c;simp only[Option.map_eq_some_iff]at hr;obtain⟨m1,hm,hr⟩:=hr;have w:=h.dL hm;obtain⟨-,hf⟩:=h.wf.dL hm;have ha:=eQ h.wf hm;have hi1:i<m1.sp.length:=by rw[ha.1];exact hi
  have hj1:j<m1.sp[i].sl.length:=by rw[(ha.2 i hi hi1).2.2.1];exact hj
  have ex1:=bf hi1 hj1;have hz:=et (l:=m1.ram.rf) (by rw[w.ram.rf];exact hf);have hc:=w.ram.ct _ hf;have hc0:cnt 1 (aQ m1.ram.rf) m1.sp=0:=by rw[hz]at hc;omega
  split at hr
  ·rename_i c0;subst hr;generalize aQ m1.ram.rf=p at*;have z0:(aJ m1 i j).kd=0:=(zT hm).2 c0;rw[ex1]at z0;have key:=fun kd pl=>mI (kd:=kd) (pl:=pl) (y:=⟨1,p,true,true⟩) hi1 hj1
   have ho:∀kd pl:Int,kd≠0→one (hit kd pl m1.sp[i].sl[j])=0:=fun kd pl hk=>by simp[one,hit,z0,hk.symm]
   refine⟨w.ram.take hf (fun k _ hk=>?_) ?_ (fun _=>rfl),w.swp.cg fun k _=>?_,by simp[aH,w.sp],w.hd,SpI.set w.ss (.inr ⟨.inl rfl,p,rfl,hf⟩)⟩
   ·have:=key 1 k;rw[ho 1 k (by decide),show one (hit 1 k ⟨1,p,true,true⟩)=0 by simp[one,hit];omega]at this;exact this
   ·have:=key 1 p;rw[ho 1 p (by decide),show one (hit 1 p ⟨1,p,true,true⟩)=1 by simp[one,hit]]at this;show(1:Int)=(cnt 1 p (aH m1.sp i j ⟨1,p,true,true⟩):Int);omega
   ·have:=key 2 k;rw[ho 2 k (by decide),show one (hit 2 k ⟨1,p,true,true⟩)=0 by simp[one,hit]]at this;exact this
  ·rename_i c0;have hk2:(aJ m i j).kd=2:=by have:=h.wf.kd _ (List.getElem_mem hi) _ (List.getElem_mem hj);rw[←ex]at this;omega
   obtain⟨f,e1,e2,e3,e4⟩:=w.wf.aAQ ha hi hj hk2;obtain⟨_,_,es, -⟩:=fo ha hi hj (.inl (by omega));have hcf:=w.swp.ct f e2;rw[e1,Int.toNat_natCast]at hr;subst hr;generalize aQ m1.ram.rf=p at*;have hne:¬((2:Int)=1∧(f:Int)=(p:Int)):=by omega
   have k1:∀k:Nat,cnt 1 k (aZ 2 f (dE 1 p) m1.sp)=if k=p then cnt 2 f m1.sp else cnt 1 k m1.sp:=fun k=>by
    rw[lu hne];by_cases c:k=p
    ·rw[if_pos ⟨rfl,by omega⟩,if_pos c];omega
    ·rw[if_neg (by omega),if_neg (by omega),if_neg c]
   have k2:∀k:Nat,cnt 2 k (aZ 2 f (dE 1 p) m1.sp)=if k=f then 0 else cnt 2 k m1.sp:=fun k=>by
    rw[lu hne,if_neg (by omega)];by_cases c:k=f
    ·rw[if_pos ⟨rfl,by omega⟩,if_pos c]
    ·rw[if_neg (by omega),if_neg c]
   have w2:Inv ⟨ao m1.ram p (m1.swp.tx[f]?.getD []) (m1.swp.rf[f]?.getD 0),ao m1.swp f [] 0,aZ 2 f (dE 1 p) m1.sp,m1.hd⟩:=⟨w.ram.take hf (fun k _ hk=>by simp only[k1,if_neg hk]) (by simp[k1,hcf]) (fun _=>e4),w.swp.take e2 (fun k _ hk=>by simp only[k2,if_neg hk]) (by simp[k2]) (fun c=>absurd (by simp[k2]) c),by simp[aZ,w.sp],w.hd,SpI.map w.ss fun x _ _ _=>.inr ⟨.inl rfl,p,rfl,hf⟩⟩;have hi2:i< (aZ 2 f (dE 1 p) m1.sp).length:=by simp[aZ];exact hi1
   have hj2:j< (aZ 2 f (dE 1 p) m1.sp)[i].sl.length:=by simp[aZ];exact hj1
   have hs2:(aZ 2 f (dE 1 p) m1.sp)[i].sl[j]=dE 1 p (aJ m i j):=by simp only[aZ,List.getElem_map,es,hk2,e1,and_self,if_true]
   exact w2.same (y:=⟨1,p,(aJ m i j).ow,true⟩) hi2 hj2 (by rw[hs2];rfl) (by rw[hs2];rfl)
theorem iA{kd pl:Int}{x:Slot}(h:x.kd≠kd∨x.pl≠pl):one (hit kd pl x)=0:=by
 have:hit kd pl x=false:=by simp only[hit,decide_eq_false_iff_not];rintro⟨a,b⟩;exact h.elim (fun h=>h a) fun h=>h b
 rw[this];rfl
theorem sq{kd pl:Int}{x:Slot}(h1:x.kd=kd)(h2:x.pl=pl):one (hit kd pl x)=1:=by simp[one,hit,h1,h2]
theorem Inv.aDe{m:Mem}(h:Inv m){i j:Nat}(hi:i<m.sp.length)(hj:j<m.sp[i].sl.length):Inv (il m i j):=by
 have e:(m.sp[i]?.bind fun s=>s.sl[j]?)=some m.sp[i].sl[j]:=by simp[hi,hj]
 have key:=fun kd pl=>mI (kd:=kd) (pl:=pl) (y:=cr) hi hj
 have hx:=(h.ss _ (List.getElem_mem hi)).sl _ (List.getElem_mem hj);simp only[il,e];generalize m.sp[i].sl[j]=x at*;have z:∀kd pl:Int,kd≠0→one (hit kd pl cr)=0:=fun kd pl hk=>iA (.inl fun e=>hk e.symm)
 have hs:∀s,s∈aH m.sp i j cr→SpI s:=SpI.set h.ss (.inl rfl);rcases hx with c| ⟨c|c,k,e1,e2⟩
 ·rw[if_neg (by omega),if_neg (by omega)];refine⟨h.ram.cg fun k _=>?_,h.swp.cg fun k _=>?_,by simp[aH,h.sp],h.hd,hs⟩
  ·have:=key 1 k;rw[z 1 k (by decide),iA (.inl (by omega))]at this;exact this
  ·have:=key 2 k;rw[z 2 k (by decide),iA (.inl (by omega))]at this;exact this
 ·rw[if_pos c,if_neg (by omega),e1,Int.toNat_natCast];refine⟨h.ram.fI e2 (fun q _ hq=>?_) ?_,h.swp.cg fun q _=>?_,by simp[aH,h.sp],h.hd,hs⟩
  ·have:=key 1 q;rw[z 1 q (by decide),iA (.inr (by omega))]at this;exact this
  ·have:=key 1 k;rw[z 1 k (by decide),sq c e1]at this;exact this
  ·have:=key 2 q;rw[z 2 q (by decide),iA (.inl (by omega))]at this;exact this
 ·rw[if_neg (by omega),if_pos c,e1,Int.toNat_natCast];refine⟨h.ram.cg fun q _=>?_,h.swp.fI e2 (fun q _ hq=>?_) ?_,by simp[aH,h.sp],h.hd,hs⟩
  ·have:=key 1 q;rw[z 1 q (by decide),iA (.inl (by omega))]at this;exact this
  ·have:=key 2 q;rw[z 2 q (by decide),iA (.inr (by omega))]at this;exact this
  ·have:=key 2 k;rw[z 2 k (by decide),sq c e1]at this;exact this
theorem aAJ{kd pl:Int}{f:Space→Space}(hf:∀s,(f s).sl=s.sl):∀{sp:List Space}{i:Nat},cnt kd pl (sp.modify i f)=cnt kd pl sp:=by
 intro sp;induction sp with
 |nil=>intro i;simp
 |cons s l ih=>
  intro i;cases i with
  |zero=>simp[cnt,hf]
  |succ i=>simp[cnt,ih]
theorem Inv.bH{m:Mem}(h:Inv m){i:Nat}{l:List Area}(hi:i<m.sp.length)(hlv:m.sp[i].lv=true)(hl:aT l=true):Inv (bH m i l):=by
 refine⟨h.ram.cg fun k _=>aAJ (f:=fun s=>{s with ar:=l}) fun _=>rfl,h.swp.cg fun k _=>aAJ (f:=fun s=>{s with ar:=l}) fun _=>rfl,by simp[Go.Qm.bH,h.sp],h.hd,fun s' hs'=>?_⟩;simp only[Go.Qm.bH]at hs';obtain⟨k,hk,rfl⟩:=List.getElem_of_mem hs';rw[List.length_modify]at hk;have i1:=h.ss _ (List.getElem_mem hk);rw[List.getElem_modify];split
 ·rename_i e;subst e;exact⟨fun e=>⟨hl,(i1.lv e).2⟩,fun e=>by simp only at e;rw[hlv]at e;simp at e,i1.sl⟩
 ·exact i1
theorem Inv.ls{m:Mem}(h:Inv m){i:Nat}(hi:i<m.sp.length)(hlv:m.sp[i].lv=true)(fr:Nat):LsOk m i fr 0:=by
 have w:=h.wf;have pg:∀{p:Pages}{f:Nat→Nat},Pl p f→(∀k,f k≤80)→PgOk p 0:=fun{p f} hp hf=>by refine⟨hp.tx,hp.rf,fun x hx=>?_⟩;obtain⟨k,hk,rfl⟩:=List.getElem_of_mem hx;have:=hp.ct k (by rw[←hp.rf];exact hk);simp only[List.getElem?_eq_getElem hk,Option.getD_some]at this;have:=hf k;omega
 have hb:∀kd pl,cnt kd pl m.sp≤80:=fun kd pl=>by
  have:=zj (kd:=kd) (pl:=pl) (sp:=m.sp) (b:=16) fun s hs=>(h.ss s hs).l16
  rw[h.sp]at this;exact this
 refine⟨pg h.ram fun k=>hb _ _,pg h.swp fun k=>hb _ _,hi,((h.ss _ (List.getElem_mem hi)).lv hlv).2,fun j hj _=>?_⟩;rcases(h.ss _ (List.getElem_mem hi)).sl _ (List.getElem_mem hj)with c| ⟨-,k,e,hk⟩
 ·simp[gL,c]
 ·simp only[gL,inB,Bool.or_eq_true,Bool.and_eq_true,decide_eq_true_eq];right;omega
theorem aBE{m:Mem}{i j:Nat}:cL m.sp (il m i j).sp:=by
 unfold il;split
 ·exact cL.refl
 ·exact eM
theorem Inv.cZ{m:Mem}(h:Inv m){i fr:Nat}(hi:i<m.sp.length)(hlv:m.sp[i].lv=true):∀{t:Nat},fr+t≤16→Inv (cZ m i fr t)∧cL m.sp (cZ m i fr t).sp:=by
 intro t;induction t with
 |zero=>intro _;exact⟨h,cL.refl⟩
 |succ t ih=>
  intro ht;obtain⟨h1,s1⟩:=ih (by omega);have hi1:i< (Go.Qm.cZ m i fr t).sp.length:=by rw[s1.1];exact hi
  have hl:=(s1.2 i hi hi1).2.2;have h16:=((h.ss _ (List.getElem_mem hi)).lv hlv).2;exact⟨h1.aDe hi1 (by omega),s1.trans aBE⟩
theorem Inv.put{m:Mem}(h:Inv m){i:Nat}{t:Space}(hi:i<m.sp.length)(ht:SpI t)(h0:∀kd pl:Int,kd≠0→eH kd pl t.sl=eH kd pl m.sp[i].sl):Inv {m with sp:=m.sp.set i t}:=by
 have key:∀kd pl:Int,kd≠0→cnt kd pl (m.sp.set i t)=cnt kd pl m.sp:=fun kd pl hk=>by have:=rm (kd:=kd) (pl:=pl) (t:=t) hi;rw[h0 kd pl hk]at this;omega
 refine⟨h.ram.cg fun k _=>key 1 k (by decide),h.swp.cg fun k _=>key 2 k (by decide),by simp[h.sp],h.hd,fun s hs=>?_⟩;rcases List.mem_or_eq_of_mem_set hs with hs|rfl
 ·exact h.ss s hs
 ·exact ht
theorem qP{kd pl:Int}(hk:kd≠0){l:List Slot}(h:∀x,x∈l→x.kd=0):eH kd pl l=0:=by rw[eH,List.countP_eq_zero];intro x hx;simp only[hit,decide_eq_true_eq];rintro⟨a, -⟩;exact hk (a.symm.trans (h x hx))
theorem Pl.inc{p:Pages}{f g:Nat→Nat}(h:Pl p f){k:Nat}(hk:k<12)(e:∀j,j<12→j≠k→g j=f j)(hn:g k=f k+1)(h0:f k≠0):Pl ⟨p.tx,p.rf.set k (p.rf[k]?.getD 0+1)⟩ g:=by
 have hr:k<p.rf.length:=by rw[h.rf];exact hk
 have hc:=h.ct k hk;refine⟨h.tx,by simp[h.rf],fun j hj=>?_,fun j hj hg=>?_⟩
 ·by_cases c:j=k
  ·subst c;simp only[List.getElem?_set_self hr,Option.getD_some];omega
  ·simp only;rw[List.getElem?_set_ne (fun h=>c h.symm),e j hj c];exact h.ct j hj
 ·by_cases c:j=k
  ·subst c;exact h.t4 j hj h0
  ·exact h.t4 j hj (by rw[←e j hj c];exact hg)
structure FI(m:Mem)(i j:Nat):Prop where
 ram:Pl m.ram fun k=>cnt 1 k m.sp+eH 1 k ((gz m i).take j)
 swp:Pl m.swp fun k=>cnt 2 k m.sp+eH 2 k ((gz m i).take j)
 sp:m.sp.length=5
 hd:0≤m.hd∧m.hd≤11
 ss:∀s,s∈m.sp→SpI s
theorem Inv.fi{m:Mem}(h:Inv m)(i:Nat):FI m i 0:=⟨h.ram.cg fun k _=>by simp[eH],h.swp.cg fun k _=>by simp[eH],h.sp,h.hd,h.ss⟩
theorem FI.step{m:Mem}{i j:Nat}(h:FI m i j)(hi:i<m.sp.length)(hj:j<m.sp[i].sl.length):FI (oG m i j) i (j+1):=by
 have ex:=bf hi hj;have hx:=(h.ss _ (List.getElem_mem hi)).sl _ (List.getElem_mem hj);obtain⟨y,hy⟩:∃y,(if shP m i j then aJ m i j else{aJ m i j with ow:=false})=y:=⟨_,rfl⟩;have y1:y.kd=m.sp[i].sl[j].kd:=by rw[←hy,←ex];split<;>rfl
 have y2:y.pl=m.sp[i].sl[j].pl:=by rw[←hy,←ex];split<;>rfl
 have pos:∀kd pl:Int,m.sp[i].sl[j].kd=kd→m.sp[i].sl[j].pl=pl→0<cnt kd pl m.sp:=fun kd pl=>rF (List.getElem_mem hi) (List.getElem_mem hj)
 have hsame:∀kd pl,cnt kd pl (aH m.sp i j y)=cnt kd pl m.sp:=fun kd pl=>oe hi hj y1 y2
 have htk:∀kd pl,eH kd pl (((gz m i).set j y).take (j+1))=eH kd pl ((gz m i).take j)+one (hit kd pl y):=fun kd pl=>by
  have hl:j< ((gz m i).set j y).length:=by rw[List.length_set,vn hi];exact hj
  rw[List.take_succ_eq_append_getElem hl,List.take_set_of_le (Nat.le_refl j),List.getElem_set_self];simp only[eH,List.countP_append,List.countP_cons,List.countP_nil,one];omega
 have hss:∀s,s∈aH m.sp i j y→SpI s:=SpI.set h.ss (by rw[slI,y1,y2];exact hx);have hF:oG m i j=⟨gB (y.kd=1) m.ram y.pl.toNat,gB (y.kd=2) m.swp y.pl.toNat,aH m.sp i j y,m.hd⟩:=by unfold oG;rw[hy];simp only[ex,y1,y2]
 rw[hF];have hso:∀{r s:Pages},gz ⟨r,s,aH m.sp i j y,m.hd⟩ i=(gz m i).set j y:=aAE;rw[←y1,←y2]at hx;have nxt:∀{p:Pages}{kd:Int},Pl p (fun k=>cnt kd k m.sp+eH kd k ((gz m i).take j))→kd≠0→Pl (gB (y.kd=kd) p y.pl.toNat) fun k=>cnt kd k (aH m.sp i j y)+eH kd k (((gz m i).set j y).take (j+1)):=fun{p kd} hp h0=>by
  by_cases c:y.kd=kd
  ·rcases hx with c0| ⟨-,f,e1,e2⟩
   ·exact absurd (c.symm.trans c0) h0
   rw[gB,if_pos c,e1,Int.toNat_natCast];refine hp.inc e2 (fun q _ hq=>?_) ?_ ?_
   ·rw[hsame,htk,iA (.inr (by omega))];omega
   ·rw[hsame,htk,sq c e1];omega
   ·have:=pos kd f (by rw[←y1];exact c) (by rw[←y2];exact e1);omega
  ·rw[iX c];exact hp.cg fun k _=>by rw[hsame,htk,iA (.inl c)];omega
 exact⟨by simp only[hso];exact nxt h.ram (by decide),by simp only[hso];exact nxt h.swp (by decide),by simp[aH,h.sp],h.hd,hss⟩
theorem FI.steps{m:Mem}{i:Nat}(h:Inv m)(hi:i<m.sp.length):∀{j:Nat},j≤m.sp[i].sl.length→FI (j6 m i j) i j∧cL m.sp (j6 m i j).sp:=by
 intro j;induction j with
 |zero=>intro _;exact⟨h.fi i,cL.refl⟩
 |succ j ih=>
  intro hj;obtain⟨h1,s1⟩:=ih (by omega);have hi1:i< (j6 m i j).sp.length:=by rw[s1.1];exact hi
  have hl:=(s1.2 i hi hi1).2.2;exact⟨h1.step hi1 (by omega),s1.trans eM⟩
theorem Inv.cE{m:Mem}(h:Inv m){i:Nat}(hi:i<m.sp.length):∀{j:Nat},j≤m.sp[i].sl.length→Inv (cE m i j).1∧cL m.sp (cE m i j).1.sp:=by
 intro j;induction j with
 |zero=>intro _;exact⟨h,cL.refl⟩
 |succ j ih=>
  intro hj;obtain⟨h1,s1⟩:=ih (by omega);have hi1:i< (Go.Qm.cE m i j).1.sp.length:=by rw[s1.1];exact hi
  have hl:=(s1.2 i hi hi1).2.2;simp only[Go.Qm.cE];split
  ·split
   ·rename_i m2 hm2;exact⟨h1.lh hi1 (by omega) hm2,s1.trans (gX h1.wf hm2)⟩
   ·exact⟨h1,s1⟩
  ·exact⟨h1,s1⟩
theorem Inv.ko{m:Mem}(h:Inv m){i:Nat}(hi:i<m.sp.length)(hlv:m.sp[i].lv=true):0≤(ko m i).2→Inv (ko m i).1:=by
 have h16:=((h.ss _ (List.getElem_mem hi)).lv hlv).2;unfold Go.Qm.ko;split
 ·rename_i c;split
  ·intro _;obtain⟨h1,s1⟩:=h.cE hi (j:=16) (by omega);generalize (Go.Qm.cE m i 16).1=m1 at h1 s1;have hi1:i<m1.sp.length:=by rw[s1.1];exact hi
   obtain⟨-, -,l1⟩:=s1.2 i hi hi1;obtain⟨h2,s2⟩:=FI.steps h1 hi1 (j:=16) (by omega);have hi2:i< (j6 m1 i 16).sp.length:=by rw[s2.1];exact hi1
   have s3:=s1.trans s2;generalize j6 m1 i 16=m2 at h2 s2 s3 hi2;have hz:bm m.sp<m2.sp.length:=by rw[s3.1];exact c
   obtain⟨v1, -,v3⟩:=s3.2 _ c hz;rw[kb c]at v1;generalize bm m.sp=Z at c hz v1 v3 ⊢;obtain⟨u1,u2,u3⟩:=s3.2 i hi hi2;have hd:=(h2.ss _ (List.getElem_mem hz)).dd v1;have hiS:=h2.ss _ (List.getElem_mem hi2);have hsl:gz m2 i=m2.sp[i].sl:=vn hi2;have har:arF m2 i=m2.sp[i].ar:=by simp[arF,hi2]
   have htk:(gz m2 i).take 16=m2.sp[i].sl:=by rw[hsl];exact List.take_of_length_le (by omega)
   have key:∀kd pl,cnt kd pl (m2.sp.set Z ⟨true,arF m2 i,gz m2 i⟩)=cnt kd pl m2.sp+eH kd pl ((gz m2 i).take 16):=fun kd pl=>by have:=rm (kd:=kd) (pl:=pl) (t:=⟨true,arF m2 i,gz m2 i⟩) hz;rw[hd.2]at this;simp only[eH,List.countP_nil]at this;rw[htk,eH];simp only[hsl]at this ⊢;omega
   refine⟨h2.ram.cg fun k _=>key 1 k,h2.swp.cg fun k _=>key 2 k,by simp[iH,h2.sp],h2.hd,fun s hs=>?_⟩;rcases List.mem_or_eq_of_mem_set hs with hs|rfl
   ·exact h2.ss s hs
   ·exact⟨fun _=>⟨by rw[har];exact(hiS.lv (u1.trans hlv)).1,by show(gz m2 i).length=16;rw[hsl];omega⟩,fun e=>by simp at e,by rw[hsl];exact hiS.sl⟩
  ·intro e;simp at e
 ·intro e;simp at e
theorem Inv.own{m m':Mem}(h:Inv m){i j:Nat}(hi:i<m.sp.length)(hj:j<m.sp[i].sl.length)(hk:(aJ m i j).kd=1)(hr:je m i j=some m'):Inv m':=by
 have ex:=bf hi hj;obtain⟨f,e1,e2,e3,e4⟩:=(h.wf.slot hi hj).1 hk;unfold je at hr;split at hr
 ·rename_i c;simp only[Option.map_eq_some_iff]at hr;obtain⟨m1,hm,hr⟩:=hr;have w:=h.dL hm;obtain⟨-,hf⟩:=h.wf.dL hm;have ha:=eQ h.wf hm;obtain⟨hi1,hj1,es, -⟩:=fo ha hi hj (.inr rfl);have hz:=et (l:=m1.ram.rf) (by rw[w.ram.rf];exact hf);have hc:=w.ram.ct _ hf;have hc0:cnt 1 (aQ m1.ram.rf) m1.sp=0:=by rw[hz]at hc;omega
  have hpos:0<cnt 1 f m1.sp:=rF (List.getElem_mem hi1) (List.getElem_mem hj1) (by rw[es];exact hk) (by rw[es];exact e1);rw[e1,Int.toNat_natCast]at hr;subst hr;generalize aQ m1.ram.rf=p at*;have hpf:¬p=f:=fun e=>by rw[e]at hc0;omega
  have key:=fun kd pl=>mI (kd:=kd) (pl:=pl) (y:=⟨(aJ m i j).kd,p,true,(aJ m i j).us⟩) hi1 hj1
  rw[es]at key;have t1:Pl (ao m1.ram p (m1.ram.tx[f]?.getD []) 1) fun k=>if k=p then 1 else cnt 1 k m1.sp:=w.ram.take hf (fun k _ hk=>if_neg hk) (by simp) fun _=>w.ram.t4 f e2 (by omega)
  refine⟨t1.fI e2 (fun k _ hkf=>?_) ?_,w.swp.cg fun k _=>?_,by simp[aH,w.sp],w.hd,SpI.set w.ss (.inr ⟨.inl hk,p,rfl,hf⟩)⟩
  ·have:=key 1 k;rw[iA (x:=aJ m i j) (.inr (by omega))]at this;by_cases c2:k=p
   ·rw[if_pos c2];rw[sq (x:=⟨(aJ m i j).kd,p,true,(aJ m i j).us⟩) hk (by show(p:Int)=k;omega)]at this;subst c2;show cnt 1 k (aH m1.sp i j _)=1;omega
   ·rw[if_neg c2];rw[iA (x:=⟨(aJ m i j).kd,p,true,(aJ m i j).us⟩) (.inr (by show(p:Int)≠k;omega))]at this;exact this
  ·have:=key 1 f;rw[sq hk e1,iA (x:=⟨(aJ m i j).kd,p,true,(aJ m i j).us⟩) (.inr (by show(p:Int)≠f;omega))]at this;rw[if_neg (fun e=>hpf e.symm)];exact this
  ·have:=key 2 k;rw[iA (x:=aJ m i j) (.inl (by omega)),iA (x:=⟨(aJ m i j).kd,p,true,(aJ m i j).us⟩) (.inl (by show(aJ m i j).kd≠2;omega))]at this;exact this
 ·cases hr;exact h.same hi hj (by rw[ex]) (by rw[ex])
theorem Inv.text{m:Mem}(h:Inv m){k:Nat}{t:Str}(ht:t.length=(m.ram.tx[k]?.getD []).length):Inv {m with ram:=⟨m.ram.tx.set k t,m.ram.rf⟩}:=by
 refine⟨⟨by simp[h.ram.tx],h.ram.rf,h.ram.ct,fun j hj hg=>?_⟩,h.swp,h.sp,h.hd,h.ss⟩;have:=h.ram.t4 j hj hg;by_cases c:j=k
 ·subst c;have hx:j<m.ram.tx.length:=by rw[h.ram.tx];exact hj
  simp only[List.getElem?_set_self hx,Option.getD_some];omega
 ·simp only;rw[List.getElem?_set_ne (fun h=>c h.symm)];exact this
end Go.Qm
namespace Go.Qm
open Go.Cq Go.Cq.D Go.RowKit
structure PgO(p:Pages):Prop where
 tx:p.tx.length=12
 rf:p.rf.length=12
 ok:∀k,k<12→0≤p.rf[k]?.getD 0∧p.rf[k]?.getD 0≤99∧(p.tx[k]?.getD []).length=if p.rf[k]?.getD 0=0 then 0 else 4
structure MO(m:Mem):Prop where
 ram:PgO m.ram
 swp:PgO m.swp
end Go.Qm
namespace Go.Qm
open Go.Cq Go.Cq.D Go.RowKit
def dA(l:List Area)(a:Area)(q:Nat):List Area:=l.take q++a::l.drop q
def dY(a:Area):List Area→Nat
 | []=>0
 |x::l=>if a.fr≤x.fr then 0 else dY a l+1
def iS(l:List Area)(a:Area):List Area:=dA l a (dY a l)
def fe(l:List Area)(a:Area):Nat→Nat
 |0=>0
 |j+1=>if a.fr< (l[j]?.getD aAF).fr then fe l a j else j+1
def kl(l:List Area)(a:Area):List Area:=dA l a (fe l a l.length)
def eo(l:List Area)(a:Area):Option (List Area):=if aT l&&az a then(if aT (iS l a)then some (iS l a)else none)else none
theorem nb{a:Area}:∀{l:List Area},dY a l≤l.length:=by
 intro l;induction l with
 |nil=>exact Nat.le_refl 0
 |cons x l ih=>simp only[dY];split<;>simp;exact ih
theorem vp{a:Area}:∀{l:List Area}{i:Nat}(h:i<dY a l),(l[i]'(Nat.lt_of_lt_of_le h nb)).fr<a.fr:=by
 intro l;induction l with
 |nil=>intro i h;simp[dY]at h
 |cons x l ih=>
  intro i h;have h':=h;simp only[dY]at h';split at h'
  ·omega
  ·cases i with
   |zero=>simp;omega
   |succ i=>simpa using ih (i:=i) (by omega)
theorem wM{a:Area}:∀{l:List Area}(h:dY a l<l.length),a.fr≤l[dY a l].fr:=by
 intro l;induction l with
 |nil=>intro h;simp at h
 |cons x l ih=>
  intro h;by_cases c:a.fr≤x.fr
  ·simp[dY,c]
  ·have:dY a (x::l)=dY a l+1:=by simp[dY,c]
   simp only[this,List.getElem_cons_succ];exact ih (by rw[this]at h;simpa using h)
theorem aB9{l:List Area}{a:Area}:∀{n:Nat},fe l a n≤n:=by
 intro n;induction n with
 |zero=>exact Nat.le_refl 0
 |succ n ih=>simp only[fe];split<;>omega
theorem aBU{l:List Area}{a:Area}:∀{n:Nat},n≤l.length→∀(k:Nat)(h:k<l.length),fe l a n≤k→k<n→a.fr<l[k].fr:=by
 intro n;induction n with
 |zero=>intro _ k h _ h3;omega
 |succ n ih=>
  intro hn k h h2 h3;simp only[fe]at h2;split at h2
  ·rename_i c;by_cases e:k=n
   ·subst e;simpa [h]using c
   ·exact ih (by omega) k h h2 (by omega)
  ·omega
theorem aBG{l:List Area}{a:Area}:∀{n:Nat},n≤l.length→∀(k:Nat)(h:k<l.length),fe l a n=k+1→l[k].fr≤a.fr:=by
 intro n;induction n with
 |zero=>intro _ k h h2;simp[fe]at h2
 |succ n ih=>
  intro hn k h h2;simp only[fe]at h2;split at h2
  ·exact ih (by omega) k h h2
  ·rename_i c;have:k=n:=by omega
   subst this;simp[h]at c;exact c
theorem pY:∀{l:List Area}{p:Option Area},dC p l=true→∀(i:Nat)(h:i+1<l.length),l[i].fr+l[i].mn≤l[i+1].fr:=by
 intro l;induction l with
 |nil=>intro p _ i h;simp at h
 |cons b l ih=>
  intro p h i hi;have h2:dC (some b) l=true:=by cases p<;>simp only[dC,Bool.and_eq_true]at h<;>exact h.2
  cases i with
  |zero=>
   cases l with
   |nil=>simp at hi
   |cons c l=>simp only[dC,Bool.and_eq_true,decide_eq_true_eq]at h2;exact h2.1.2
  |succ i=>exact ih h2 i (by simpa using hi)
theorem iL{l:List Area}(h:aT l=true)(i:Nat)(hi:i+1<l.length):l[i].fr+l[i].mn≤l[i+1].fr:=by simp only[aT,Bool.and_eq_true]at h;exact pY h.1 i hi
theorem l7{l:List Area}(h:aT l=true):∀{i j:Nat}(_:i≤j)(hj:j<l.length),(l[i]'(by omega)).fr≤l[j].fr:=by
 intro i j hij;induction j with
 |zero=>
      intro hj;have:i=0:=by omega
      subst this;exact Int.le_refl _
 |succ j ih=>
  intro hj;by_cases e:i=j+1
  ·subst e;exact Int.le_refl _
  ·have h1:=ih (by omega) (by omega);have h2:=iL h j hj;have h3:=bz.1 (cx h _ (List.getElem_mem (show j<l.length by omega)));omega
theorem bh{l:List Area}{a:Area}{q:Nat}:(dA l a q).length=l.length+1:=by simp[dA];omega
theorem n8{l:List Area}{a:Area}{q:Nat}(h:q≤l.length):(dA l a q)[q]'(by rw[bh];omega)=a:=by simp[dA,List.getElem_append_right,Nat.min_eq_left h]
theorem lg{l:List Area}{a:Area}{q k:Nat}(h:q≤l.length)(hk:k<q):(dA l a q)[k]'(by rw[bh];omega)=l[k]:=by simp only[dA];rw[List.getElem_append_left (by simp;omega),List.getElem_take]
theorem wW{l:List Area}{a:Area}{q k:Nat}(hk:q≤k)(h:k<l.length):(dA l a q)[k+1]'(by rw[bh];omega)=l[k]:=by simp only[dA];rw[List.getElem_append_right (by simp;omega)];simp only[List.length_take,Nat.min_eq_left (show q≤l.length by omega),show k+1-q=(k-q)+1 by omega,List.getElem_cons_succ,List.getElem_drop];congr 1;omega
theorem aBt{l:List Area}{a:Area}(hl:aT l=true)(ha:az a=true):aT (kl l a)=aT (iS l a)∧(aT (iS l a)=true→kl l a=iS l a):=by
 have hb:=bz.1 ha;have hq:=aB9 (l:=l) (a:=a) (n:=l.length);have hp:=nb (a:=a) (l:=l);by_cases e:dY a l=fe l a l.length
 ·unfold kl iS;rw[e];exact⟨rfl,fun _=>rfl⟩
 ·have hlt:dY a l<fe l a l.length:=by
   rcases Nat.lt_or_ge (dY a l) (fe l a l.length)with h|h
   ·exact h
   ·have h1:=vp (a:=a) (l:=l) (i:=fe l a l.length) (by omega);have h2:=aBU (l:=l) (a:=a) (Nat.le_refl _) (fe l a l.length) (by omega) (Nat.le_refl _) (by omega);omega
  have hpl:dY a l<l.length:=by omega
  have h1:=wM (a:=a) (l:=l) hpl;have h2:=aBG (l:=l) (a:=a) (Nat.le_refl _) (fe l a l.length-1) (by omega) (by omega);have h3:=l7 hl (i:=dY a l) (j:=fe l a l.length-1) (by omega) (by omega);have n1:aT (iS l a)=false:=by rw[Bool.eq_false_iff];intro h;have:=iL h (dY a l) (by unfold iS;rw[bh];omega);simp only[iS,n8 hp,wW (Nat.le_refl _) hpl]at this;omega
  have n2:aT (kl l a)=false:=by rw[Bool.eq_false_iff];intro h;have:=iL h (fe l a l.length-1) (by unfold kl;rw[bh];omega);simp only[kl,lg hq (show fe l a l.length-1<fe l a l.length by omega),show fe l a l.length-1+1=fe l a l.length by omega,n8 hq]at this;have hm:=bz.1 (cx hl _ (List.getElem_mem (show fe l a l.length-1<l.length by omega)));omega
  rw[n1,n2];exact⟨rfl,fun h=>by simp at h⟩
end Go.Qm
namespace Go.Qm
open Go.Cq Go.Cq.D Go.RowKit
def cov(p:Int)(a:Area):Bool:=decide (a.fr≤p∧p<a.fr+a.mn)
theorem ki{p:Int}{a:Area}:cov p a=true↔a.fr≤p∧p<a.fr+a.mn:=by simp[cov]
theorem aBN{p:Int}{c:Area}:∀{l:List Area}{i:Int},0≤i→l.find? (cov p)=some c→i≤dk p l i∧l[(dk p l i-i).toNat]?=some c:=by
 intro l;induction l with
 |nil=>intro i _ h;simp at h
 |cons b l ih=>
  intro i hi h;rw[List.find?_cons]at h;simp only[dk];by_cases e:cov p b=true
  ·rw[e]at h;rw[if_pos (ki.1 e)];simp only[Int.sub_self];exact⟨Int.le_refl _,h⟩
  ·have e':cov p b=false:=by simpa using e
   rw[e']at h;rw[if_neg fun h=>e (ki.2 h)];obtain⟨h1,h2⟩:=ih (i:=i+1) (by omega) h;refine⟨by omega,?_⟩;rw[show(dk p l (i+1)-i).toNat=(dk p l (i+1)-(i+1)).toNat+1 by omega];exact h2
theorem aBZ{p:Int}:∀{l:List Area}{i:Int},l.find? (cov p)=none→dk p l i= -1:=by
 intro l;induction l with
 |nil=>intro i _;rfl
 |cons b l ih=>
  intro i h;rw[List.find?_cons]at h;simp only[dk];by_cases e:cov p b=true
  ·rw[e]at h;cases h
  ·have e':cov p b=false:=by simpa using e
   rw[e']at h;rw[if_neg fun h=>e (ki.2 h)];exact ih h
theorem qz{l:List Area}{p:Int}{c:Area}(h:l.find? (cov p)=some c):0≤ae l p∧gM l (ae l p)=c.sh:=by obtain⟨h1,h2⟩:=aBN (Int.le_refl 0) h;rw[Int.sub_zero]at h2;exact⟨h1,by simp[gM,ae,h1,h2]⟩
theorem wY{l:List Area}{p:Int}(h:0≤ae l p):∃c,l.find? (cov p)=some c:=by
 cases e:l.find? (cov p)with
 |some c=>exact⟨c,rfl⟩
 |none=>rw[ae,aBZ e]at h;omega
theorem nK{l:List Area}(h:aT l=true){i j:Nat}(hij:i<j)(hj:j<l.length):(l[i]'(by omega)).fr+(l[i]'(by omega)).mn≤l[j].fr:=by have h1:=iL h i (by omega);have h2:=l7 h (i:=i+1) (j:=j) hij hj;omega
theorem wF{l:List Area}{a c:Area}{q:Nat}{p:Int}(hq:q≤l.length)(hl:aT (dA l a q)=true)(hc:c∈l)(h:cov p c=true):cov p a=false:=by
 rw[Bool.eq_false_iff];intro ha;have ha:=ki.1 ha;have h:=ki.1 h;obtain⟨k,hk,rfl⟩:=List.getElem_of_mem hc;have e0:=n8 (l:=l) (a:=a) hq;by_cases e:k<q
 ·have e1:=lg (l:=l) (a:=a) hq e;have:=nK hl e (by rw[bh];omega);rw[e0,e1]at this;omega
 ·have e1:=wW (l:=l) (a:=a) (q:=q) (by omega) hk;have:=nK hl (show q<k+1 by omega) (by rw[bh];omega);rw[e0,e1]at this;omega
theorem yZ{l:List Area}{a c:Area}{q:Nat}{p:Int}(hq:q≤l.length)(hl:aT (dA l a q)=true)(h:l.find? (cov p)=some c):(dA l a q).find? (cov p)=some c:=by have hn:=wF hq hl (List.mem_of_find?_eq_some h) (List.find?_some h);rw[dA,List.find?_append,List.find?_cons,hn];rw[←List.take_append_drop q l,List.find?_append]at h;exact h
theorem aAr{l:List Area}{a:Area}{q:Nat}{p:Int}(hq:q≤l.length)(hl:aT (dA l a q)=true)(h:cov p a=true):ae l p<0∧0≤ae (dA l a q) p:=by
 constructor
 ·rcases Int.lt_or_le (ae l p) 0 with c|c
  ·exact c
  ·obtain⟨c,hc⟩:=wY c;have:=wF hq hl (List.mem_of_find?_eq_some hc) (List.find?_some hc);rw[h]at this;cases this
 ·cases e:(dA l a q).find? (cov p)with
  |some c=>exact(qz e).1
  |none=>have:=List.find?_eq_none.1 e a (by simp[dA]);exact absurd h this
theorem oV{ar ar':List Area}(h:∀j x,cA ar j x=true→cA ar' j x=true):∀{l:List Slot}{i:Nat},bR ar i l=true→bR ar' i l=true:=by
 intro l;induction l with
 |nil=>intro i _;rfl
 |cons x l ih=>intro i h1;simp only[bR,Bool.and_eq_true]at h1 ⊢;exact⟨h _ _ h1.1,ih h1.2⟩
theorem sM{ar:List Area}:∀{l:List Slot}{i:Nat},bR ar i l=true→∀(j:Nat)(h:j<l.length),cA ar (i+j) l[j]=true:=by
 intro l;induction l with
 |nil=>intro i _ j h;simp at h
 |cons x l ih=>
  intro i h1 j hj;simp only[bR,Bool.and_eq_true]at h1;cases j with
  |zero=>exact h1.1
  |succ j=>have:=ih h1.2 j (by simpa using hj);rw[show i+(j+1)=i+1+j by omega];simpa using this
theorem aAp{ar ar':List Area}{kd pl:Int}(hk:kd≠0)(e:∀j:Nat,0≤ae ar j→gM ar (ae ar j)=gM ar' (ae ar' j)):∀{l:List Slot}{i:Nat},bR ar i l=true→eb ar' kd pl i l=eb ar kd pl i l:=by
 intro l;induction l with
 |nil=>intro i _;rfl
 |cons x l ih=>
  intro i h1;simp only[bR,Bool.and_eq_true]at h1;simp only[eb,ih h1.2];split
  ·rename_i c;have h2:=h1.1;rw[cA,if_neg (by omega)]at h2;simp only[Bool.and_eq_true,decide_eq_true_eq]at h2;rw[e i h2.1]
  ·rfl
theorem vg{kd pl:Int}{f:Space→Space}:∀{sp:List Space}{i:Nat},(∀h:i<sp.length,eb (f sp[i]).ar kd pl 0 (f sp[i]).sl=eb sp[i].ar kd pl 0 sp[i].sl)→tel kd pl (sp.modify i f)=tel kd pl sp:=by
 intro sp;induction sp with
 |nil=>intro i _;simp
 |cons s l ih=>
  intro i h;cases i with
  |zero=>simp only[List.modify_zero_cons,tel];rw[show eb (f s).ar kd pl 0 (f s).sl=_ from h (by simp)];rfl
  |succ i=>simp only[List.modify_succ_cons,tel];rw[ih fun h'=>h (by simpa using h')]
theorem qC{kd:Int}{sp sp':List Space}(h:∀pl,tel kd pl sp'=tel kd pl sp):∀{l:List Int}{i:Nat},cG kd sp' i l=cG kd sp i l:=by
 intro l;induction l with
 |nil=>intro i;rfl
 |cons n l ih=>intro i;simp only[cG,gH,h,ih]
theorem sT{l0 l:List Area}{a:Area}(h:eo l0 a=some l):aT l0=true∧∃q,q≤l0.length∧l=dA l0 a q∧aT (dA l0 a q)=true:=by
 unfold eo at h;split at h
 ·rename_i h1;simp only[Bool.and_eq_true]at h1;split at h
  ·rename_i h2;cases h;exact⟨h1.1,_,nb,rfl,h2⟩
  ·cases h
 ·cases h
theorem nU{m:Mem}{i:Nat}(h:b9 m=true)(hi:i<m.sp.length)(hlv:m.sp[i].lv=true):bR m.sp[i].ar 0 m.sp[i].sl=true:=by simp only[b9,Bool.and_eq_true,decide_eq_true_eq]at h;have hs:=List.all_eq_true.1 h.1.1.2 _ (List.getElem_mem hi);simp only[Bool.and_eq_true]at hs;have:=hs.1;rw[bV,if_pos hlv]at this;simp only[Bool.and_eq_true]at this;exact this.2.2
theorem pr{m:Mem}{i:Nat}{l:List Area}{a:Area}(h:b9 m=true)(hi:i<m.sp.length)(hlv:m.sp[i].lv=true)(he:eo m.sp[i].ar a=some l):b9 (bH m i l)=true:=by
 obtain⟨-,q,hq,rfl,hl⟩:=sT he;have hso:=nU h hi hlv;have e:∀j:Nat,0≤ae m.sp[i].ar j→0≤ae (dA m.sp[i].ar a q) j∧gM m.sp[i].ar (ae m.sp[i].ar j)=gM (dA m.sp[i].ar a q) (ae (dA m.sp[i].ar a q) j):=fun j hj=>by obtain⟨c,hc⟩:=wY hj;obtain⟨h1,h2⟩:=qz (yZ hq hl hc);exact⟨h1,by rw[h2,(qz hc).2]⟩
 have hT:∀kd pl,kd≠0→tel kd pl (bH m i (dA m.sp[i].ar a q)).sp=tel kd pl m.sp:=fun kd pl hk=>vg fun _=>aAp hk (fun j hj=>(e j hj).2) hso
 simp only[b9,Bool.and_eq_true,decide_eq_true_eq]at h ⊢;obtain⟨⟨⟨⟨⟨⟨⟨⟨h1,h2⟩,h3⟩,h4⟩,h5⟩,h6⟩,h7⟩,h8⟩,h9⟩:=h;refine⟨⟨⟨⟨⟨⟨⟨⟨h1,h2⟩,h3⟩,h4⟩,by simpa [bH]using h5⟩,h6⟩,?_⟩,(qC fun pl=>hT 1 pl (by decide)).trans h8⟩,(qC fun pl=>hT 2 pl (by decide)).trans h9⟩;refine List.all_eq_true.2 fun s hs=>?_
 simp only[bH]at hs;obtain⟨k,hk,rfl⟩:=List.getElem_of_mem hs;rw[List.length_modify]at hk;have h0:=List.all_eq_true.1 h7 _ (List.getElem_mem hk);rw[List.getElem_modify];split
 ·rename_i c;subst c;simp only[Bool.and_eq_true,bV,if_pos hlv,decide_eq_true_eq]at h0 ⊢;refine⟨⟨hl,h0.1.2.1,oV (fun j x hx=>?_) hso⟩,h0.2⟩;unfold cA at hx ⊢;split
  ·rename_i c;rw[if_pos c]at hx;exact hx
  ·rename_i c;rw[if_neg c]at hx;simp only[Bool.and_eq_true,decide_eq_true_eq]at hx ⊢;obtain⟨e1,e2⟩:=e j hx.1;rw[←e2];exact⟨e1,hx.2⟩
 ·exact h0
theorem add_zero{m:Mem}{i p:Nat}{l:List Area}{a:Area}(h:b9 m=true)(hi:i<m.sp.length)(hlv:m.sp[i].lv=true)(he:eo m.sp[i].ar a=some l)(hp:cov p a=true)(h16:p<m.sp[i].sl.length):0≤ae l p∧m.sp[i].sl[p]=cr:=by
 obtain⟨-,q,hq,rfl,hl⟩:=sT he;obtain⟨h1,h2⟩:=aAr hq hl hp;refine⟨h2,?_⟩;have:=sM (nU h hi hlv) p h16;rw[Nat.zero_add,cA]at this;split at this
 ·simpa using this
 ·simp only[Bool.and_eq_true,decide_eq_true_eq]at this;omega
end Go.Qm
namespace Go.Qm
open Go.Cq Go.Cq.D Go.RowKit
end Go.Qm
namespace Go.Qm
open Go.Cq Go.Cq.D Go.RowKit
def jI(m:Mem)(x:Slot):Str:=if x.kd=1 then m.ram.tx[x.pl.toNat]?.getD []else if x.kd=2 then m.swp.tx[x.pl.toNat]?.getD []else jo
end Go.Qm
namespace Go.Cq.D
open Go.RowKit
def mY:CV→CV
 |.sl id b l lim=>if 2000<l then .sl id (b+0) (2000-0) (lim.map (· -0))else .sl id b l lim
 |c=>c
theorem RoR.mY{h:Heap}{N:Nat→Prop}{es:List (List PV)}{c:CV}(hr:RoR h N (.sl 1 es) c):RoR h N (.sl 1 (es.take 2000)) (mY c):=by
 cases hr with
 |nil=>exact .nil
 |sl hN hrow hc=>
  rename_i id base lim cf;simp only[D.mY];split
  ·rename_i hl;have e:(2000-0:Nat)=(es.take 2000).length:=by rw[List.length_take];omega
   rw[e];refine .sl hN (cf:=cf) ?_ fun i row k p h1 h2=>?_
   ·obtain⟨b,e1,e2,e3,e4⟩:=hrow.blk;refine⟨⟨b,e1,e2,?_,fun i row k p h1 h2=>?_⟩,hrow.ne,fun i row h1=>?_⟩
    ·rw[List.length_take];omega
    ·rw[List.getElem?_take]at h1;split at h1
     ·exact e4 i row k p h1 h2
     ·simp at h1
    ·rw[List.getElem?_take]at h1;split at h1
     ·exact hrow.len i row h1
     ·simp at h1
   ·rw[List.getElem?_take]at h1;split at h1
    ·exact hc i row k p h1 h2
    ·simp at h1
  ·rename_i hl;rw[List.take_of_length_le (by omega)];exact .sl hN hrow hc
def uH(es:List (List PV))(c:CV):Prop:=(es=[]∧∃z,c= .nils z)∨∃id base lim,c= .sl id base es.length lim
theorem yY{P:Program}{g:FuncId}{b:Bool}{es:List (List PV)}{args:List DV}{H:DH}{n:Nat}{Post:DT→DH→Prop}(hc:∀c,uH es c→gq P ⟨fun _=>none,some (mY c,es.take 2000)⟩ g (.one (.sc c)::args) H n Post):eD P g (.one (.ro b 1 es)::args) H n Post:=by
 intro N I Fp cargs h c U hU hr hlen;obtain⟨v,h1,h2⟩:=hr.cell (.t 0 0 0) (.ro b 1 es) (by simp) rfl;have h2:RoR h (N true) (.sl 1 es) v:=by
  cases b with
  |true=>exact h2
  |false=>exact h2.local fun id hid=>⟨rfl,hr.le id hid⟩
 have hsc:mU v=true:=by rcases h2.len with⟨z,rfl, -⟩| ⟨id,base,lim,cf,rfl, -⟩<;>rfl
 refine hc v ?_ N I Fp cargs h c U ⟨fun g p e=>by simp at e,fun c' es' e=>?_⟩ hU ?_ hlen
 ·rcases h2.len with⟨z,e1,e2⟩| ⟨id,base,lim,cf,e1, -⟩
  ·exact .inl ⟨e2,z,e1⟩
  ·exact .inr ⟨id,base,lim,e1⟩
 ·cases e;exact h2.mY
 ·have hl0:∀t x,aj (fE (DV.one (.sc v)::args) 0) t=some x→(t=0∧x= .v (.one (.sc v)))∨(t≠0∧aj (fE (DV.one (.ro b 1 es)::args) 0) t=some x):=fun t x hx=>by
   simp only[fE,bG]at hx ⊢;by_cases e:t=0
   ·rw[if_pos e]at hx;simp only[Option.some.injEq]at hx;exact .inl ⟨e,hx.symm⟩
   ·rw[if_neg e]at hx;rw[if_neg e];exact .inr ⟨e,hx⟩
  refine hr.sub (fun t x hx=>?_) (fun s j k x hx=>?_) (fun s j k x g hx hg=>?_) (fun _ _ h=>h) (fun _ _ h=>h) (fun _ _ _ _=>rfl)
  ·rcases hl0 t x hx with⟨rfl,rfl⟩| ⟨-,hx⟩
   ·obtain⟨y,e1,e2⟩:=hr.tsh 0 _ rfl;exact⟨y,e1,by cases y with|v z=>cases z<;>exact e2|_=>exact e2⟩
   ·exact hr.tsh t x hx
  ·simp only[aW,Option.bind_eq_some_iff]at hx;obtain⟨y,e1,e2⟩:=hx;rcases hl0 s y e1 with⟨rfl,rfl⟩| ⟨-,hy⟩
   ·simp only[DT.cell]at e2;split at e2
    ·rename_i ej;subst ej;simp only[DV.cell]at e2;split at e2
     ·rename_i ek;subst ek;cases e2;exact⟨v,h1,hsc,rfl⟩
     ·simp at e2
    ·simp at e2
   ·exact hr.cell (.t s j k) x (by simp) (by simp only[aW,hy,Option.bind_some];exact e2)
  ·simp only[aW,Option.bind_eq_some_iff]at hx;obtain⟨y,e1,e2⟩:=hx;rcases hl0 s y e1 with⟨rfl,rfl⟩| ⟨-,hy⟩
   ·simp only[DT.cell]at e2;split at e2
    ·simp only[DV.cell]at e2;split at e2
     ·cases e2;simp[DC.tags]at hg
     ·simp at e2
    ·simp at e2
   ·exact hr.tags (.t s j k) x g (by simp only[aW,hy,Option.bind_some];exact e2) hg
section
variable{P:Prg}{n0:Nat}{ts:DTs}{H:DH}{n:Nat}{K:DT→DTs→DH→Nat→List Nat→Prop}
theorem vz{f:FOp}{r r':DV}(hf:FlV P.J ts f r)(ht:Told P.J H r r')(h:K (.v r') ts H n []):exec P (.fl f) ts H n K:=by
 cases f with
 |cmpNil neg x=>cases hf
 |_=>exact⟨r,r',.inr hf,ht,h⟩
theorem kP{x:Opd}{a b l:Nat}{lim:Option Nat}(hx:cJ ts x=some (.sc (.sl a b l lim)))(h:K (.v (.one (.sc (.int .i64 l)))) ts H n []):OpP P (.fl (.len x)) ts H n K:=⟨vz (.lenC hx) .same h⟩
theorem vi{x:Opd}{z:Nat}(hx:cJ ts x=some (.sc (.nils z)))(h:K (.v (.one (.sc (.int .i64 0)))) ts H n []):OpP P (.fl (.len x)) ts H n K:=⟨vz (.lenN hx) .same h⟩
theorem rN{x i:Opd}{c:CV}{es:List (List PV)}{k:Nat}(hx:cJ ts x=some (.sc c))(hi:eC ts i=some (k:Int))(hv:P.J.v=some (c,es))(hk:k<es.length)(h:K (.v (.one (.rp true 1 es k 0))) ts H n []):OpP P (.fl (.idxAddr x i 1)) ts H n K:=⟨vz (.idx hx hi hv hk) .same h⟩
theorem aBJ{x y:Opd}{id b l:Nat}{lim:Option Nat}{m b' l':Nat}{lim':Option Nat}{es:List (List PV)}(hx:cJ ts x=some (.sc (.sl id b l lim)))(hy:eC ts y=some (m:Int))(hv:P.J.v=some (.sl id b' l' lim',es))(hm:m≤l)(h:K (.v (.one (.sc (.sl id (b+0) (m-0) (lim.map (· -0)))))) ts H n []):OpP P (.fl (.sliceL x none (some y) 1)) ts H n K:=⟨vz (.cut hx hy hv hm) .same h⟩
theorem rQ{x y:Opd}{k:IntKind}{a b:Int}(hx:evS ts x=some (.int k a))(hy:evS ts y=some (.int k b))(hb:b≠0)(h:K (.v (.one (.sc (.int k (a.tmod b))))) ts H n []):OpP P (.fl (.bin .rem x y)) ts H n K:=f0 (by simp[dfl,hx,hy,oy,Go.Tq.nL,hb,rD,mU]) h
theorem aA1{x y:Opd}{k:IntKind}{a b:Int}(hx:evS ts x=some (.int k a))(hy:evS ts y=some (.int k b))(hb:b≠0)(h:K (.v (.one (.sc (.int k (k.wrap (a.tdiv b)))))) ts H n []):OpP P (.fl (.bin .quo x y)) ts H n K:=f0 (by simp[dfl,hx,hy,oy,Go.Tq.nL,hb,rD,mU]) h
end
end Go.Cq.D

