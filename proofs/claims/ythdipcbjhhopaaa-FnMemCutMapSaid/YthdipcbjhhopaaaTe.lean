import Derived.Test.YthdipcbjhhopaaaTd
namespace Go.Qm
open Go.Cq Go.Cq.D Go.RowKit
def dL(f:Slot→Slot)(sp:List Space)(i k:Nat):List Space:=sp.mapIdx fun i' s=>{s with sl:=s.sl.mapIdx fun j x=>if i'<i∨i'=i∧j<k then f x else x}
theorem dz{f:Slot→Slot}{sp:List Space}{i k:Nat}:(dL f sp i k).length=sp.length:=by simp[dL]
theorem ez{f:Slot→Slot}{sp:List Space}{i k q:Nat}(h:q<sp.length):(dL f sp i k)[q]'(by rw[dz];exact h)={sp[q]with sl:=sp[q].sl.mapIdx fun j x=>if q<i∨q=i∧j<k then f x else x}:=by simp[dL]
theorem xQ{a b:Space}(h1:a.lv=b.lv)(h2:a.ar=b.ar)(h3:a.sl=b.sl):a=b:=by cases a;cases b;simp_all
theorem iC{f:Slot→Slot}{sp l:List Space}{i k:Nat}(hl:l.length=sp.length)(h:∀(q:Nat)(hq:q<sp.length)(hq':q<l.length),l[q].lv=sp[q].lv∧l[q].ar=sp[q].ar∧∀j,l[q].sl[j]?=(sp[q].sl[j]?).map fun x=>if q<i∨q=i∧j<k then f x else x):dL f sp i k=l:=by
 refine List.ext_getElem (by rw[dz,hl]) fun q h1 h2=>?_
 have hq:q<sp.length:=by rw[←hl];exact h2
 obtain⟨e1,e2,e3⟩:=h q hq h2;rw[ez hq];refine xQ e1.symm e2.symm (List.ext_getElem? fun j=>?_);rw[e3,List.getElem?_mapIdx]
theorem nM{f:Slot→Slot}{sp:List Space}:dL f sp 0 0=sp:=iC rfl fun q hq _=>⟨rfl,rfl,fun j=>by simp⟩
theorem pr{f:Slot→Slot}{sp:List Space}{i:Nat}(hi:i<sp.length):dL f sp i sp[i].sl.length=dL f sp (i+1) 0:=by
 refine iC dz fun q hq hq'=>?_
 rw[ez hq];refine⟨rfl,rfl,fun j=>?_⟩;rw[List.getElem?_mapIdx];cases h:sp[q].sl[j]? with
 |none=>rfl
 |some x=>
  simp only[Option.map_some,Option.some.injEq];have hj:=(List.getElem?_eq_some_iff.1 h).1;by_cases c:q<i
  ·rw[if_pos (by omega),if_pos (by omega)]
  ·by_cases c2:q=i
   ·subst c2;rw[if_pos (by omega),if_pos (by omega)]
   ·rw[if_neg (by omega),if_neg (by omega)]
theorem ou{f:Slot→Slot}{sp:List Space}:dL f sp sp.length 0=sp.map fun s=>{s with sl:=s.sl.map f}:=by
 refine iC (by simp) fun q hq hq'=>?_
 simp only[List.getElem_map,true_and];intro j;rw[List.getElem?_map];congr 1;funext x;rw[if_pos (by omega)]
theorem qo{f:Slot→Slot}{sp:List Space}{i k:Nat}(hi:i<sp.length):((dL f sp i k)[i]'(by rw[dz];exact hi)).sl.length=sp[i].sl.length:=by rw[ez hi];simp
theorem yS{f:Slot→Slot}{sp:List Space}{i k:Nat}(hi:i<sp.length)(hk:k<sp[i].sl.length):((dL f sp i k)[i]'(by rw[dz];exact hi)).sl[k]'(by rw[qo hi];exact hk)=sp[i].sl[k]:=by simp only[ez hi,List.getElem_mapIdx];rw[if_neg (by omega)]
theorem vF{f:Slot→Slot}{sp:List Space}{i k:Nat}(hi:i<sp.length)(hk:k<sp[i].sl.length):aH (dL f sp i k) i k (f sp[i].sl[k])=dL f sp i (k+1):=by
 refine(iC (by simp[aH,dz]) fun q hq hq'=>?_).symm;simp only[aH,List.getElem_modify];by_cases c:i=q
 ·subst c;simp only[if_true];rw[ez hi];refine⟨rfl,rfl,fun j=>?_⟩;simp only[List.getElem?_set,List.length_mapIdx,List.getElem?_mapIdx];by_cases c2:k=j
  ·subst c2;simp[hk]
  ·rw[if_neg c2];cases h:sp[i].sl[j]? with
   |none=>rfl
   |some x=>
    simp only[Option.map_some,Option.some.injEq];by_cases c3:j<k
    ·have c4:j<k+1:=by omega
     simp[c3,c4]
    ·have c4:¬j<k+1:=by omega
     simp[c3,c4]
 ·rw[if_neg c,ez hq];refine⟨rfl,rfl,fun j=>?_⟩;rw[List.getElem?_mapIdx];cases h:sp[q].sl[j]? with
  |none=>rfl
  |some x=>
   simp only[Option.map_some,Option.some.injEq];by_cases c3:q<i
   ·rw[if_pos (by omega),if_pos (by omega)]
   ·rw[if_neg (by omega),if_neg (by omega)]
theorem tz{f:Slot→Slot}{sp:List Space}{i k:Nat}(hi:i<sp.length)(hk:k<sp[i].sl.length)(hf:f sp[i].sl[k]=sp[i].sl[k]):dL f sp i k=dL f sp i (k+1):=by
 refine iC dz fun q hq hq'=>?_
 rw[ez hq];refine⟨rfl,rfl,fun j=>?_⟩;rw[List.getElem?_mapIdx];cases h:sp[q].sl[j]? with
 |none=>rfl
 |some x=>
  simp only[Option.map_some,Option.some.injEq];by_cases c3:q<i∨q=i∧j<k
  ·rw[if_pos (by omega),if_pos c3]
  ·rw[if_neg c3];by_cases c4:q=i∧j=k
   ·obtain⟨rfl,rfl⟩:=c4;rw[if_pos (by omega)];have:x=sp[q].sl[j]:=by rw[List.getElem?_eq_getElem hk]at h;exact(Option.some.inj h).symm
    rw[this,hf]
   ·rw[if_neg (by omega)]
def gC(kd pl:Int)(sp:List Space)(i k:Nat):Bool:=(((sp[i]?.map (·.sl)).getD []).drop k).any (fun x=>decide (x.kd=kd∧x.pl=pl)&&x.us)||dw kd pl (sp.drop (i+1))
theorem r6{kd pl:Int}{sp:List Space}{i:Nat}(hi:i<sp.length):dw kd pl (sp.drop i)=gC kd pl sp i 0:=by rw[List.drop_eq_getElem_cons hi,dw,List.any_cons];simp[gC,dw,hi]
theorem sR{kd pl:Int}{sp:List Space}{i:Nat}(hi:i<sp.length):gC kd pl sp i sp[i].sl.length=dw kd pl (sp.drop (i+1)):=by simp[gC,hi]
theorem qI{kd pl:Int}{sp:List Space}{i k:Nat}(hi:i<sp.length)(hk:k<sp[i].sl.length):gC kd pl sp i k=(decide (sp[i].sl[k].kd=kd∧sp[i].sl[k].pl=pl)&&sp[i].sl[k].us||gC kd pl sp i (k+1)):=by simp only[gC,List.getElem?_eq_getElem hi,Option.map_some,Option.getD_some];rw[List.drop_eq_getElem_cons hk,List.any_cons,Bool.or_assoc]
def jG:List Int→Nat
 | []=>0
 |x::l=>(if x=0 then 1 else 0)+jG l
theorem oh:∀{l:List Int},0<jG l↔aR l<l.length:=by
 intro l;induction l with
 |nil=>simp[jG,aR]
 |cons x l ih=>
  by_cases c:x=0
  ·simp[jG,aR,c];omega
  ·simp only[jG,aR,c,if_false,List.length_cons,Nat.zero_add];rw[ih];omega
theorem aCE:∀{l:List Int},jG l≤l.length:=by
 intro l;induction l with
 |nil=>exact Nat.le_refl 0
 |cons x l ih=>simp only[jG,List.length_cons];split<;>omega
theorem yI{l:List Int}{i:Nat}(h:i<l.length):jG (l.take (i+1))=jG (l.take i)+if l[i]=0 then 1 else 0:=by
 rw[List.take_succ_eq_append_getElem h];have:∀(a:List Int)(x:Int),jG (a++[x])=jG a+if x=0 then 1 else 0:=by
  intro a x;induction a with
  |nil=>simp[jG]
  |cons y a ih=>simp only[List.cons_append,jG,ih];omega
 exact this _ _
end Go.Qm
namespace Go.Qm
open Go.Cq Go.Cq.D Go.RowKit
theorem aAp{ar:List Area}{kd pl:Int}{x:Slot}(h1:x.kd=kd)(h2:x.pl=pl):∀{l:List Slot}{i:Nat},x∈l→0< (ei ar kd pl i l).length:=by
 intro l;induction l with
 |nil=>intro i h;simp at h
 |cons y l ih=>
  intro i h;simp only[ei];rcases List.mem_cons.1 h with rfl|h
  ·rw[if_pos ⟨h1,h2⟩];simp
  ·have:=ih (i:=i+1) h;split
   ·simp
   ·exact this
theorem aBU{kd pl:Int}{x:Slot}(h1:x.kd=kd)(h2:x.pl=pl):∀{sp:List Space}{s:Space},s∈sp→x∈s.sl→0< (tel kd pl sp).length:=by
 intro sp;induction sp with
 |nil=>intro s h;simp at h
 |cons y l ih=>
  intro s h hx;simp only[tel,List.length_append];rcases List.mem_cons.1 h with rfl|h
  ·have:=aAp (ar:=s.ar) h1 h2 (i:=0) hx;omega
  ·have:=ih h hx;omega
theorem vL{kd:Int}{sp:List Space}:∀{l:List Int}{i:Nat},cO kd sp i l=true→∀(k:Nat)(h:k<l.length),gH kd sp (i+k) l[k]=true:=by
 intro l;induction l with
 |nil=>intro i _ k h;simp at h
 |cons n l ih=>
  intro i h k hk;simp only[cO,Bool.and_eq_true]at h;cases k with
  |zero=>exact h.1
  |succ k=>have:=ih h.2 k (by simpa using hk);rw[show i+(k+1)=i+1+k by omega];simpa using this
theorem tN:∀{ts:List Str}{ns:List Int},e9 ts ns=true→∀(k:Nat)(h1:k<ts.length)(h2:k<ns.length),eJ ts[k] ns[k]=true:=by
 intro ts;induction ts with
 |nil=>intro ns _ k h;simp at h
 |cons t ts ih=>
  intro ns h k h1 h2;cases ns with
  |nil=>simp at h2
  |cons n ns=>
   simp only[e9,Bool.and_eq_true]at h;cases k with
   |zero=>exact h.1
   |succ k=>simpa using ih h.2 k (by simpa using h1) (by simpa using h2)
theorem qB{ar:List Area}{x:Slot}:∀{l:List Slot}{i:Nat},bW ar i l=true→x∈l→∃j,cF ar j x=true:=by
 intro l;induction l with
 |nil=>intro i _ h;simp at h
 |cons y l ih=>
  intro i h hx;simp only[bW,Bool.and_eq_true]at h;rcases List.mem_cons.1 hx with rfl|hx
  ·exact⟨i,h.1⟩
  ·exact ih h.2 hx
theorem aBB{p:Pages}(h:cR p=true)(hl:p.rf.length=12):PgW p∧∀(k:Nat)(h1:k<p.tx.length)(h2:k<p.rf.length),p.rf[k]≠0→p.tx[k].length=4:=by
 simp only[cR,Bool.and_eq_true,decide_eq_true_eq]at h;have hg:=tN h.2;refine⟨⟨by omega,hl,fun x hx=>?_⟩,fun k h1 h2 h3=>?_⟩
 ·obtain⟨k,hk,rfl⟩:=List.getElem_of_mem hx;have:=hg k (by omega) hk;simp only[eJ,inB,Bool.and_eq_true,decide_eq_true_eq]at this;omega
 ·have:=hg k h1 h2;simp only[eJ,Bool.and_eq_true,decide_eq_true_eq,if_neg h3]at this;omega
theorem pL{m:Mem}(h:b7 m=true):Wf m:=by
 simp only[b7,Bool.and_eq_true,decide_eq_true_eq]at h;obtain⟨⟨⟨⟨⟨⟨⟨⟨h1,h2⟩,h3⟩,h4⟩,h5⟩,h6⟩,h7⟩,h8⟩,h9⟩:=h;obtain⟨r1,r2⟩:=aBB h1 h3;obtain⟨s1,s2⟩:=aBB h2 h4;have sp:∀s,s∈m.sp→s.sl.length≤16∧∀x,x∈s.sl→(x.kd=0∨x.kd=1∨x.kd=2)∧gZ x=true:=fun s hs=>by
  have:=List.all_eq_true.1 h7 s hs;simp only[Bool.and_eq_true]at this;obtain⟨k1,k2⟩:=this;unfold bY at k1;split at k1
  ·simp only[Bool.and_eq_true,decide_eq_true_eq]at k1;refine⟨by omega,fun x hx=>⟨?_,List.all_eq_true.1 k2 x hx⟩⟩;obtain⟨j,hj⟩:=qB k1.2.2 hx;unfold cF at hj;split at hj
   ·exact .inl ‹_›
   ·simp only[inB,Bool.and_eq_true,decide_eq_true_eq]at hj;omega
  ·simp only[Bool.and_eq_true,decide_eq_true_eq]at k1;refine⟨by omega,fun x hx=>?_⟩;rw[List.length_eq_zero_iff.1 k1.2]at hx;simp at hx
 have told:∀(kd:Int)(p:Pages),kd≠0→PgW p→(∀(k:Nat)(h1:k<p.tx.length)(h2:k<p.rf.length),p.rf[k]≠0→p.tx[k].length=4)→cO kd m.sp 0 p.rf=true→∀s,s∈m.sp→∀x,x∈s.sl→x.kd=kd→dh p x:=fun kd p hk0 w ht hr s hs x hx hk=>by
  have hp:=((sp s hs).2 x hx).2;obtain⟨k,e1,e2⟩:=r9 hp (by omega);have h2:k<p.rf.length:=by rw[w.rf];exact e2
  have h1:k<p.tx.length:=by rw[w.tx];exact e2
  have:=vL hr k h2;simp only[gH,Nat.zero_add,Bool.and_eq_true,decide_eq_true_eq]at this;have hpos:=aBU hk (show x.pl=(k:Int)from e1) hs hx;have hn:p.rf[k]≠0:=by omega
  exact⟨k,e1,e2,by simpa [h2]using hn,by simpa [h1]using ht k h1 h2 hn⟩
 exact⟨r1,s1,h5,by simpa [inB]using h6,fun s hs=>(sp s hs).1,told 1 _ (by decide) r1 r2 h8,told 2 _ (by decide) s1 s2 h9,fun s hs x hx=>((sp s hs).2 x hx).1⟩
def cY(sp sp':List Space):Prop:=sp'.length=sp.length∧∀(i:Nat)(h:i<sp.length)(h':i<sp'.length),sp'[i].lv=sp[i].lv∧sp'[i].ar=sp[i].ar∧sp'[i].sl.length=sp[i].sl.length
theorem cY.refl{sp:List Space}:cY sp sp:=⟨rfl,fun _ _ _=>⟨rfl,rfl,rfl⟩⟩
theorem cY.trans{a b c:List Space}(h1:cY a b)(h2:cY b c):cY a c:=by
 refine⟨h2.1.trans h1.1,fun i h h'=>?_⟩;have hb:i<b.length:=by rw[h1.1];exact h
 obtain⟨a1,a2,a3⟩:=h1.2 i h hb;obtain⟨b1,b2,b3⟩:=h2.2 i hb h';exact⟨b1.trans a1,b2.trans a2,b3.trans a3⟩
theorem alike.same{but:Int}{a b:List Space}(h:alike but a b):cY a b:=⟨h.1,fun i h1 h2=>⟨(h.2 i h1 h2).1,(h.2 i h1 h2).2.1,(h.2 i h1 h2).2.2.1⟩⟩
theorem vX{kd pl:Int}{f:Slot→Slot}{sp:List Space}:cY sp (ae kd pl f sp):=⟨by simp[ae],fun i h h'=>by simp[ae]⟩
theorem eR{sp:List Space}{i j:Nat}{x:Slot}:cY sp (aH sp i j x):=by refine⟨by simp[aH],fun q h h'=>?_⟩;simp only[aH,List.getElem_modify];split<;>simp
theorem gb{m m':Mem}(w:Wf m){i j:Nat}(h:cm m i j=some m'):cY m.sp m'.sp:=by
 unfold cm at h;split at h
 ·cases h;exact eR
 ·simp only[Option.map_eq_some_iff]at h;obtain⟨m1,h1,h2⟩:=h;have ha:=(eP w h1).same;split at h2
  ·subst h2;exact ha.trans eR
  ·subst h2;exact(ha.trans vX).trans eR
theorem jP{m m':Mem}(w:Wf m){i j:Nat}(hi:i<m.sp.length)(hj:j<m.sp[i].sl.length)(h:cm m i j=some m'):∃(hi':i<m'.sp.length)(hj':j<m'.sp[i].sl.length),m'.sp[i].sl[j].kd=1:=by
 have hs:=gb w h;have hi':i<m'.sp.length:=by rw[hs.1];exact hi
 have hj':j<m'.sp[i].sl.length:=by rw[(hs.2 i hi hi').2.2];exact hj
 refine⟨hi',hj',?_⟩;have key:∀(sp:List Space)(x:Slot)(h1:i< (aH sp i j x).length)(h2:j< (aH sp i j x)[i].sl.length),(aH sp i j x)[i].sl[j]=x:=fun sp x h1 h2=>by simp[aH]
 unfold cm at h;split at h
 ·rename_i c;cases h;simp only[key];exact c
 ·simp only[Option.map_eq_some_iff]at h;obtain⟨m1,h1,h2⟩:=h;split at h2
  ·subst h2;simp only[key]
  ·subst h2;simp only[key]
end Go.Qm
namespace Go.Cq.D
open Go.RowKit
section
variable{P:Prg}{n0:Nat}{ts:DTs}{H:DH}{n:Nat}{K:DT→DTs→DH→Nat→List Nat→Prop}{Q:Kc}
theorem il(es:List Loc)(ms:List M)(ρ:List Nat)(J:JN){ts1:DTs}{H1:DH}{n1:Nat}{f:FuncId}{args:List Opd}{das cas:List DV}{Hc:DH}{Post:DT→DH→Prop}(he:dS es ts H n=(ts1,H1,n1))(h1:dn ts1 args=some das)(h2:gI H1 ρ ms das=some cas)(h3:et (fun g=>gE ρ g 0) H1 ρ 0=some Hc)(h4:(nodup ρ&&(nodup (given ms das)&&(cX (given ms das) ρ&&(cX (eN ms das) (given ms das)&&cX (eN ms das) ρ))))=true)(hc:gq P.prog J f cas Hc ρ.length Post)(hJ:∀t p,J t=some p→∃g,ρ[t]?=some g∧P.J g=some p)(h:∀res H3,Post res H3→kT ρ.length H3=true∧∃H',bS (fun t=>ρ[t]?) H3 ρ 0 (gR (given ms das) H1)=some H'∧K (ik (fun t=>ρ[t]?) res) ts1 H' n1 (given ms das++ρ))(hv:J.v=none∨J.v=P.J.v:=by first|exact .inl rfl|exact .inr rfl):OpP P (.call f args) ts H n K:=by simp only[Bool.and_eq_true]at h4;exact⟨aBe rfl es he (.inl ⟨[],das,h1,ms,ρ,cas,Hc,Post,J,h2,h3,h4.1,h4.2.1,h4.2.2.1,h4.2.2.2,⟨hc,hJ⟩,hv,h⟩)⟩
theorem aAF(ms:List M)(J:JN)(cs:List CV){f:FuncId}{args:List Opd}{das cas:List DV}(h1:dn ts args=some das)(h2:gI H [] ms das=some cas)(h3:given ms das=[])(h4:eN ms das=[])(hc:gq P.prog J f cas [] 0 fun res H'=>∃t,res= .v (.one (.ptr t 0 0))∧aG H' t=some (.box (cs.map .sc)))(h:K (.v (.one (.ptr n 0 0))) ts ((n,.box (cs.map .sc))::H) (n+1) [])(hn:∀t,J t=none:=by intro;rfl)(hv:J.v=none∨J.v=P.J.v:=by first|exact .inl rfl|exact .inr rfl):OpP P (.call f args) ts H n K:=⟨mP (.inr ⟨das,h1,ms,cas,J,cs,h2,h3,h4,hc,hn,hv,h⟩)⟩
theorem yb(es:List Loc)(ms:List M)(ρ:List Nat)(J:JN){ts1:DTs}{H1:DH}{n1:Nat}{f:FuncId}{args:List Opd}{das cas:List DV}{Hc Hr H':DH}{r:DT}(he:dS es ts H n=(ts1,H1,n1))(h1:dn ts1 args=some das)(h2:gI H1 ρ ms das=some cas)(h3:et (fun g=>gE ρ g 0) H1 ρ 0=some Hc)(h4:(nodup ρ&&(nodup (given ms das)&&(cX (given ms das) ρ&&(cX (eN ms das) (given ms das)&&cX (eN ms das) ρ))))=true)(hc:gq P.prog J f cas Hc ρ.length fun x H'=>x=r∧H'=Hr)(hJ:∀t p,J t=some p→∃g,ρ[t]?=some g∧P.J g=some p)(h5:kT ρ.length Hr=true)(h6:bS (fun t=>ρ[t]?) Hr ρ 0 (gR (given ms das) H1)=some H')(h:fDT (ik (fun t=>ρ[t]?) r) fun x=>fTs ts1 fun ts1=>fDH H' fun H'=>K x ts1 H' n1 (given ms das++ρ))(hv:J.v=none∨J.v=P.J.v:=by first|exact .inl rfl|exact .inr rfl):OpP P (.call f args) ts H n K:=by simp only[uw,l5,lP]at h;exact il es ms ρ J he h1 h2 h3 h4 hc hJ (fun res H3 hp=>by obtain⟨rfl,rfl⟩:=hp;exact⟨h5,H',h6,h⟩) hv
theorem cJ(ms:List M)(ρ:List Nat){f:FuncId}{args:List Opd}{das cas:List DV}{Hc Hr H':DH}{r:DT}(h1:dn ts args=some das)(h2:gI H ρ ms das=some cas)(h3:et (fun g=>gE ρ g 0) H ρ 0=some Hc)(h4:(nodup ρ&&(nodup (given ms das)&&(cX (given ms das) ρ&&(cX (eN ms das) (given ms das)&&cX (eN ms das) ρ))))=true)(hc:di P.prog f cas Hc ρ.length fun x H'=>x=r∧H'=Hr)(h5:kT ρ.length Hr=true)(h6:bS (fun t=>ρ[t]?) Hr ρ 0 (gR (given ms das) H)=some H')(h:fDT (ik (fun t=>ρ[t]?) r) fun x=>fTs ts fun ts1=>fDH H' fun H'=>K x ts1 H' n (given ms das++ρ)):OpP P (.call f args) ts H n K:=yb [] ms ρ noJ rfl h1 h2 h3 h4 hc.toJ (fun t p e=>by simp[noJ]at e) h5 h6 h
end
end Go.Cq.D
namespace Go.Qm
open Go.Cq Go.Cq.D Go.RowKit
def bu(l:List Space):Nat:=aR (l.map fun s=>if s.lv then 1 else 0)
def gv(l:List Space):Int:=if bu l<l.length then(bu l:Int)else-1
theorem xl{l:List Space}{i:Nat}(h:i<l.length)(h0:l[i].lv=false):bu l≤i:=oX (by simpa using h) (by simp[h0])
theorem kj{l:List Space}(h:bu l<l.length):l[bu l].lv=false:=by have:=oY (l:=l.map fun s=>if s.lv then(1:Int)else 0) (by simpa [bu]using h);rw[List.getElem_map]at this;simpa [bu]using this
def gQ(c:Prop) [Decidable c](p:Pages)(k:Nat):Pages:=if c then⟨p.tx,p.rf.set k (p.rf[k]?.getD 0+1)⟩else p
def arF(m:Mem)(i:Nat):List Area:=(m.sp[i]?.map (·.ar)).getD []
def shP(m:Mem)(i j:Nat):Bool:=gW (arF m i) (ah (arF m i) j)
def cI(m:Mem)(i:Nat):Nat→Mem×Bool
 |0=>(m,true)
 |j+1=>if(cI m i j).2&&(shP (cI m i j).1 i j&&decide ((aJ (cI m i j).1 i j).kd=0))then(match cm (cI m i j).1 i j with
  |some m2=>(m2,true)
  |none=>((cI m i j).1,false))else cI m i j
def pB(m:Mem)(i j:Nat):Mem:=
 ⟨gQ ((aJ m i j).kd=1) m.ram (aJ m i j).pl.toNat,gQ ((aJ m i j).kd=2) m.swp (aJ m i j).pl.toNat,
  aH m.sp i j (if shP m i j then aJ m i j else{aJ m i j with ow:=false}),m.hd⟩
def ja(m:Mem)(i:Nat):Nat→Mem
 |0=>m
 |j+1=>pB (ja m i j) i j
def iL(m:Mem)(i:Nat):List Slot:=(m.sp[i]?.map (·.sl)).getD []
def iT(m:Mem)(i to:Nat):Mem:={m with sp:=m.sp.set to ⟨true,arF m i,iL m i⟩}
def lG(m:Mem)(i:Nat):Mem×Int:=
 if bu m.sp<m.sp.length then
  if(cI m i 16).2 then(iT (ja (cI m i 16).1 i 16) i (bu m.sp),bu m.sp)else((cI m i 16).1, -1)
 else(m, -1)
theorem zN{m:Mem}(w:Wf m){i:Nat}(hi:i<m.sp.length):∀{j:Nat},j≤m.sp[i].sl.length→Wf (cI m i j).1∧cY m.sp (cI m i j).1.sp:=by
 intro j;induction j with
 |zero=>exact fun _=>⟨w,cY.refl⟩
 |succ j ih=>
  intro hj;obtain⟨w1,s1⟩:=ih (by omega);have hi1:i< (cI m i j).1.sp.length:=by rw[s1.1];exact hi
  have hj1:j< (cI m i j).1.sp[i].sl.length:=by rw[(s1.2 i hi hi1).2.2];omega
  simp only[cI];split
  ·cases hb:cm (cI m i j).1 i j with
   |none=>exact⟨w1,s1⟩
   |some m2=>exact⟨w1.mX hi1 hj1 hb,s1.trans (gb w1 hb)⟩
  ·exact⟨w1,s1⟩
theorem vQ{m:Mem}{i j:Nat}(h:(cI m i j).2=false):∀k,cI m i (j+k)=cI m i j:=by
 intro k;induction k with
 |zero=>rfl
 |succ k ih=>rw[←Nat.add_assoc,cI,ih,h];rfl
structure Fk(m m':Mem)(i j:Nat):Prop where
 rt:m'.ram.tx=m.ram.tx
 rl:m'.ram.rf.length=m.ram.rf.length
 st:m'.swp.tx=m.swp.tx
 sl:m'.swp.rf.length=m.swp.rf.length
 sm:cY m.sp m'.sp
 hd:m'.hd=m.hd
 at_:∀k,j≤k→aJ m' i k=aJ m i k
 rb:∀x,x∈m'.ram.rf→0≤x∧x≤1000+j
 sb:∀x,x∈m'.swp.rf→0≤x∧x≤1000+j
theorem uG{c:Prop} [Decidable c]{p:Pages}{k:Nat}:(gQ c p k).tx=p.tx:=by unfold gQ;split<;>rfl
theorem qO{c:Prop} [Decidable c]{p:Pages}{k:Nat}:(gQ c p k).rf.length=p.rf.length:=by unfold gQ;split<;>simp
theorem rG{c:Prop} [Decidable c]{p:Pages}{k:Int}{f:Nat}(hc:c)(e:k=f)(h:f<p.rf.length):gQ c p k.toNat=⟨p.tx,p.rf.set f (p.rf[f]+1)⟩:=by subst e;simp[gQ,hc,h]
theorem iv{c:Prop} [Decidable c]{p:Pages}{k:Nat}(hc:¬c):gQ c p k=p:=if_neg hc
theorem u9{c:Prop} [Decidable c]{p:Pages}{k:Nat}{j:Nat}(h:∀x,x∈p.rf→0≤x∧x≤1000+(j:Int)):∀x,x∈(gQ c p k).rf→0≤x∧x≤1000+((j+1:Nat):Int):=by
 intro x hx;have key:0≤p.rf[k]?.getD 0∧p.rf[k]?.getD 0≤1000+(j:Int):=by
  cases e:p.rf[k]? with
  |none=>simp;omega
  |some y=>simpa using h y (List.mem_of_getElem? e)
 unfold gQ at hx;split at hx
 ·rcases List.mem_or_eq_of_mem_set hx with hx|rfl
  ·have:=h x hx;omega
  ·omega
 ·have:=h x hx;omega
theorem oZ{m:Mem}{r s:Pages}{h:Int}{i j k:Nat}{x:Slot}(hk:k≠j):aJ ⟨r,s,aH m.sp i j x,h⟩ i k=aJ m i k:=by
 simp only[aJ,aH,List.getElem?_modify,if_true];cases m.sp[i]? with
 |none=>rfl
 |some y=>simp[List.getElem?_set_ne (Ne.symm hk)]
theorem zU{m:Mem}(h1:PgW m.ram)(h2:PgW m.swp){i:Nat}:∀{j:Nat},Fk m (ja m i j) i j:=by
 intro j;induction j with
 |zero=>exact⟨rfl,rfl,rfl,rfl,cY.refl,rfl,fun _ _=>rfl,fun x hx=>by have:=h1.bd x hx;omega,fun x hx=>by have:=h2.bd x hx;omega⟩
 |succ j ih=>obtain⟨a1,a2,a3,a4,a5,a6,a7,a8,a9⟩:=ih;exact⟨uG.trans a1,qO.trans a2,uG.trans a3,qO.trans a4,a5.trans eR,a6,fun k hk=>(oZ (by omega)).trans (a7 k (by omega)),u9 a8,u9 a9⟩
theorem vz{kd pl:Int}{f:Slot→Slot}{m:Mem}{r s:Pages}{h:Int}{i j:Nat}(hk:kd≠0):aJ ⟨r,s,ae kd pl f m.sp,h⟩ i j=if(aJ m i j).kd=kd∧(aJ m i j).pl=pl then f (aJ m i j)else aJ m i j:=by
 have h0:¬(cQ.kd=kd∧cQ.pl=pl):=fun c=>hk c.1.symm
 simp only[aJ,ae,List.getElem?_map];rcases Option.eq_none_or_eq_some (m.sp[i]?)with hs| ⟨y,hs⟩
 ·simp only[hs,Option.map_none,Option.bind_none,Option.getD_none];rw[if_neg h0]
 ·simp only[hs,Option.map_some,Option.bind_some,List.getElem?_map];rcases Option.eq_none_or_eq_some (y.sl[j]?)with ht| ⟨x,ht⟩
  ·simp only[ht,Option.map_none,Option.getD_none];rw[if_neg h0]
  ·simp only[ht,Option.map_some,Option.getD_some]
theorem vk{kd pl:Int}{f:Slot→Slot}{m:Mem}{r s:Pages}{h:Int}{i j:Nat}(hk:kd≠0)(hf:∀x:Slot,x.kd=kd→(f x).kd≠0):(aJ ⟨r,s,ae kd pl f m.sp,h⟩ i j).kd=0↔(aJ m i j).kd=0:=by
 rw[vz hk];split
 ·rename_i c;have:=hf _ c.1;have:=c.1;omega
 ·exact Iff.rfl
theorem aCB{m m':Mem}{but:Int}(h:clk m but= .inl m'){i j:Nat}:(aJ m' i j).kd=0↔(aJ m i j).kd=0:=by
 unfold clk at h;split at h
 ·cases h;exact Iff.rfl
 ·split at h
  ·cases h;exact vk (m:=m) (by decide) fun x hx=>by simp only[gN];omega
  ·cases h
theorem aCK{m m':Mem}{but:Int}(h:clk m but= .inr m'){i j:Nat}:(aJ m' i j).kd=0↔(aJ m i j).kd=0:=by
 unfold clk at h;split at h
 ·cases h
 ·split at h
  ·cases h
  ·cases h;exact(vk (m:=gG (fR m) m.hd) (f:=dM 2 _) (by decide) fun x hx=>by simp[dM]).trans (vk (m:=m) (f:=gN) (by decide) fun x hx=>by simp only[gN];omega)
theorem z9{but:Int}{i j:Nat}:∀{m:Mem},(aJ (dj m but) i j).kd=0↔(aJ m i j).kd=0:=by
 have main:∀(k:Nat)(m:Mem),mu m but=k→((aJ (dj m but) i j).kd=0↔(aJ m i j).kd=0):=by
  intro k;induction k using Nat.strongRecOn with
  |_ k ih=>
   intro m hk;cases hc:clk m but with
   |inl m'=>rw[jS hc];exact(ih _ (hk▸jz hc) m' rfl).trans (aCB hc)
   |inr m'=>rw[kg hc];exact aCK hc
 exact fun{m}=>main _ m rfl
theorem zQ{m m':Mem}{but:Int}(h:dP m but=some m'){i j:Nat}:(aJ m' i j).kd=0↔(aJ m i j).kd=0:=by
 unfold dP at h;split at h
 ·cases h;exact Iff.rfl
 ·split at h
  ·cases h;exact z9
  ·cases h
theorem yz{a b:Mem}(h:cY a.sp b.sp){i:Nat}(hi:i<a.sp.length):arF b i=a.sp[i].ar:=by
 have hb:i<b.sp.length:=by rw[h.1];exact hi
 simp[arF,hb,(h.2 i hi hb).2.1]
theorem zq{m:Mem}{r s:Pages}{h:Int}{i j:Nat}{x:Slot}:iL ⟨r,s,aH m.sp i j x,h⟩ i=(iL m i).set j x:=by simp only[iL,aH,List.getElem?_modify,if_true];cases m.sp[i]?<;>simp
theorem wz{m:Mem}{i:Nat}(hi:i<m.sp.length):iL m i=m.sp[i].sl:=by simp[iL,hi]
end Go.Qm
namespace Go.Qm
open Go.Cq Go.Cq.D Go.RowKit
theorem aBR{m m':Mem}{f:Nat}(hn:0≤m.hd)(h:clk m f= .inr m'):m'.ram.rf[f]?=m.ram.rf[f]?:=by
 unfold clk at h;split at h
 ·cases h
 ·rename_i c;split at h
  ·cases h
  ·cases h;have:¬m.hd.toNat=f:=by omega
   simp[f0,ax,gG,fR,List.getElem?_set_ne this]
theorem aAJ{f:Nat}:∀{m:Mem},Wf m→(dj m f).ram.rf[f]?=m.ram.rf[f]?:=by
 have main:∀(k:Nat)(m:Mem),mu m f=k→Wf m→(dj m f).ram.rf[f]?=m.ram.rf[f]?:=by
  intro k;induction k using Nat.strongRecOn with
  |_ k ih=>
   intro m hk h;cases hc:clk m f with
   |inl m'=>obtain⟨h1,h2, -⟩:=h.yD hc;rw[jS hc,ih _ (hk▸jz hc) m' rfl h1,h2]
   |inr m'=>rw[kg hc];exact aBR h.hd.1 hc
 exact fun{m}=>main _ m rfl
theorem zD{m m':Mem}{f:Nat}(w:Wf m)(h:dP m f=some m'):m'.ram.rf[f]?=m.ram.rf[f]?:=by
 unfold dP at h;split at h
 ·cases h;rfl
 ·split at h
  ·cases h;exact aAJ w
  ·cases h
theorem pZ{p:Pages}{f:Nat}(h:1<p.rf[f]?.getD 0):cS p f=⟨p.tx,p.rf.set f (p.rf[f]?.getD 0-1)⟩:=by simp only[cS,if_neg (show¬p.rf[f]?.getD 0=1 by omega)]
theorem Wf.aD7{m:Mem}(w:Wf m){f:Nat}(h2:1<m.ram.rf[f]?.getD 0):Wf {m with ram:=cS m.ram f}:=by
 have hf:f<m.ram.rf.length:=by
  rcases Nat.lt_or_ge f m.ram.rf.length with c|c
  ·exact c
  ·rw[List.getElem?_eq_none c]at h2;simp at h2
 have hr:m.ram.rf[f]?.getD 0=m.ram.rf[f]:=by simp[hf]
 have hb:=w.ram.get (k:=f);rw[pZ h2];refine⟨⟨w.ram.tx,by simp[w.ram.rf],fun x hx=>?_⟩,w.swp,w.sp,w.hd,w.sl,fun s hs x hx hk=>?_,w.at2,w.kd⟩
 ·rcases List.mem_or_eq_of_mem_set hx with hx|rfl
  ·exact w.ram.bd x hx
  ·omega
 ·obtain⟨k,e1,e2,e3,e4⟩:=w.at1 s hs x hx hk;refine⟨k,e1,e2,?_,e4⟩;by_cases c:f=k
  ·subst c;rw[List.getElem?_set_self hf];simp only[Option.getD_some];omega
  ·rw[List.getElem?_set_ne c];exact e3
theorem Wf.own{m m':Mem}(w:Wf m){i j:Nat}(hi:i<m.sp.length)(hj:j<m.sp[i].sl.length)(hk:(aJ m i j).kd=1)(h:jk m i j=some m'):Wf m'∧cY m.sp m'.sp∧(aJ m' i j).kd=1:=by
 obtain⟨t1, -⟩:=w.slot hi hj;obtain⟨f,e1,e2,e3,e4⟩:=t1 hk;have key:∀{r s:Pages}{sp:List Space}{d:Int}{x:Slot}(hi:i<sp.length)(hj:j<sp[i].sl.length),aJ ⟨r,s,aH sp i j x,d⟩ i j=x:=fun{r s sp d x} hi hj=>by have h1:j<sp[i].sl.length:=hj;simp[aJ,aH,hi,h1]
 unfold jk at h;split at h
 ·rename_i c;simp only[Option.map_eq_some_iff]at h;obtain⟨m1,h1,rfl⟩:=h;rw[e1,Int.toNat_natCast]at c;rw[e1]at h1;obtain⟨w1,hf⟩:=w.dP h1;have ha:=eP w h1;obtain⟨hi1,hj1,ex,ey⟩:=gA ha hi hj (.inr e1);have hrf:=zD w h1;obtain⟨g,q1,q2,q3,q4⟩:=(w1.slot hi1 hj1).1 (by rw[ey];exact hk);obtain rfl:g=f:=by rw[ey,e1]at q1;omega
  have hne:aR m1.ram.rf≠g:=fun e=>by have:=fF (l:=m1.ram.rf) (by rw[w1.ram.rf];exact hf);rw[e,hrf]at this;omega
  have wt:=w1.take hf (t:=m1.ram.tx[g]?.getD []) (n:=1) (by decide);have hgt:1< (ax m1.ram (aR m1.ram.rf) (m1.ram.tx[g]?.getD []) 1).rf[g]?.getD 0:=by simp only[ax,List.getElem?_set_ne hne];rw[hrf];exact c.2
  have wg:=wt.aD7 (f:=g) hgt;simp only[e1,Int.toNat_natCast];refine⟨wg.set (y:={aJ m i j with pl:=aR m1.ram.rf,ow:=true}) (fun _=>?_) (fun e=>by simp only[hk]at e;omega) (.inr (.inl hk)),?_,?_⟩
  ·have hz:g<m1.ram.rf.length:=by rw[w1.ram.rf];exact e2
   have hF:aR m1.ram.rf<m1.ram.rf.length:=by rw[w1.ram.rf];exact hf
   have hFt:aR m1.ram.rf<m1.ram.tx.length:=by rw[w1.ram.tx];exact hf
   refine⟨aR m1.ram.rf,rfl,hf,?_,?_⟩
   ·rw[pZ hgt];simp only[ax];rw[List.getElem?_set_ne (Ne.symm hne),List.getElem?_set_self hF];simp
   ·rw[pZ hgt];simp only[ax];rw[List.getElem?_set_self hFt];simpa using q4
  ·exact(ha.same).trans eR
  ·rw[key hi1 hj1];exact hk
 ·cases h;exact⟨w.set (fun _=>t1 hk) (fun e=>by simp only[hk]at e;omega) (.inr (.inl hk)),eR,by rw[key hi hj];exact hk⟩
end Go.Qm
namespace Go.Qm
open Go.Cq Go.Cq.D Go.RowKit
def hit(kd pl:Int)(x:Slot):Bool:=decide (x.kd=kd∧x.pl=pl)
def eO(kd pl:Int)(l:List Slot):Nat:=l.countP (hit kd pl)
def cnt(kd pl:Int):List Space→Nat
 | []=>0
 |s::l=>eO kd pl s.sl+cnt kd pl l
def one(b:Bool):Nat:=if b then 1 else 0
theorem aAB{kd pl:Int}{y:Slot}:∀{l:List Slot}{j:Nat}(h:j<l.length),eO kd pl (l.set j y)+one (hit kd pl l[j])=eO kd pl l+one (hit kd pl y):=by
 intro l;induction l with
 |nil=>intro j h;simp at h
 |cons x l ih=>
  intro j h;cases j with
  |zero=>simp only[eO,List.set_cons_zero,List.countP_cons,List.getElem_cons_zero,one];omega
  |succ j=>have:=ih (j:=j) (by simpa using h);simp only[eO,List.set_cons_succ,List.countP_cons,List.getElem_cons_succ]at this ⊢;omega
theorem so{kd pl:Int}{t:Space}:∀{sp:List Space}{i:Nat}(h:i<sp.length),cnt kd pl (sp.set i t)+eO kd pl sp[i].sl=cnt kd pl sp+eO kd pl t.sl:=by
 intro sp;induction sp with
 |nil=>intro i h;simp at h
 |cons s l ih=>
  intro i h;cases i with
  |zero=>simp only[List.set_cons_zero,cnt,List.getElem_cons_zero];omega
  |succ i=>have:=ih (i:=i) (by simpa using h);simp only[List.set_cons_succ,cnt,List.getElem_cons_succ]at this ⊢;omega
theorem mL{kd pl:Int}{y:Slot}{sp:List Space}{i j:Nat}(hi:i<sp.length)(hj:j<sp[i].sl.length):cnt kd pl (aH sp i j y)+one (hit kd pl sp[i].sl[j])=cnt kd pl sp+one (hit kd pl y):=by
 have e:aH sp i j y=sp.set i ⟨sp[i].lv,sp[i].ar,sp[i].sl.set j y⟩:=by rw[aH,iW (List.getElem?_eq_getElem hi)]
 have h1:=so (kd:=kd) (pl:=pl) (t:=⟨sp[i].lv,sp[i].ar,sp[i].sl.set j y⟩) hi;have h2:=aAB (kd:=kd) (pl:=pl) (y:=y) hj;rw[e];simp only at h1;omega
theorem yY{kd pl a:Int}:∀{l:List Slot},eO kd pl (l.map fun x=>if x.kd=1∧x.pl=a then gN x else x)=eO kd pl l:=by
 intro l;rw[eO,eO,List.countP_map];refine List.countP_congr fun x _=>?_
 simp only[Function.comp];split<;>rfl
theorem ug{kd pl a:Int}:∀{sp:List Space},cnt kd pl (ae 1 a gN sp)=cnt kd pl sp:=by
 intro sp;induction sp with
 |nil=>rfl
 |cons s l ih=>simp only[ae,List.map_cons,cnt]at ih ⊢;rw[ih,yY]
theorem yJ{k0 p0 k1 p1:Int}(hne:¬(k0=k1∧p0=p1)){kd pl:Int}:∀{l:List Slot},eO kd pl (l.map fun x=>if x.kd=k0∧x.pl=p0 then dM k1 p1 x else x)=if kd=k1∧pl=p1 then eO k1 p1 l+eO k0 p0 l else if kd=k0∧pl=p0 then 0 else eO kd pl l:=by
 intro l;induction l with
 |nil=>simp[eO]
 |cons x l ih=>
  simp only[eO,List.map_cons,List.countP_cons]at ih ⊢;rw[ih];simp only[hit,decide_eq_true_eq];have s1:(k1=kd∧p1=pl)↔(kd=k1∧pl=p1):=⟨fun h=>⟨h.1.symm,h.2.symm⟩,fun h=>⟨h.1.symm,h.2.symm⟩⟩;by_cases c0:x.kd=k0∧x.pl=p0
  ·rw[if_pos c0];simp only[dM,s1];obtain⟨rfl,rfl⟩:=c0;have s2:(x.kd=kd∧x.pl=pl)↔(kd=x.kd∧pl=x.pl):=⟨fun h=>⟨h.1.symm,h.2.symm⟩,fun h=>⟨h.1.symm,h.2.symm⟩⟩;simp only[s2,hne,if_false,and_self,if_true];by_cases c1:kd=k1∧pl=p1
   ·simp only[c1,and_self,if_true];omega
   ·simp only[c1,if_false];by_cases c2:kd=x.kd∧pl=x.pl
    ·simp only[c2,and_self,if_true]
    ·simp only[c2,if_false]
  ·rw[if_neg c0];by_cases c1:kd=k1∧pl=p1
   ·simp only[c1,and_self,if_true,c0,if_false];omega
   ·simp only[c1,if_false];by_cases c2:kd=k0∧pl=p0
    ·simp only[c2,and_self,if_true,c0,if_false]
    ·simp only[c2,if_false]
theorem mK{k0 p0 k1 p1:Int}(hne:¬(k0=k1∧p0=p1)){kd pl:Int}:∀{sp:List Space},cnt kd pl (ae k0 p0 (dM k1 p1) sp)=if kd=k1∧pl=p1 then cnt k1 p1 sp+cnt k0 p0 sp else if kd=k0∧pl=p0 then 0 else cnt kd pl sp:=by
 intro sp;induction sp with
 |nil=>simp[cnt,ae]
 |cons s l ih=>
  simp only[ae,List.map_cons,cnt]at ih ⊢;rw[ih,yJ hne];split
  ·omega
  ·split<;>omega
theorem sj{kd pl:Int}{x:Slot}{s:Space}:∀{sp:List Space},s∈sp→x∈s.sl→x.kd=kd→x.pl=pl→0<cnt kd pl sp:=by
 intro sp;induction sp with
 |nil=>intro h;simp at h
 |cons s' l ih=>
  intro h hx h1 h2;simp only[cnt];rcases List.mem_cons.1 h with rfl|h
  ·have:0<eO kd pl s.sl:=List.countP_pos_iff.2 ⟨x,hx,by simp[hit,h1,h2]⟩;omega
  ·have:=ih h hx h1 h2;omega
theorem zt{kd pl:Int}{b:Nat}:∀{sp:List Space},(∀s,s∈sp→s.sl.length≤b)→cnt kd pl sp≤b*sp.length:=by
 intro sp;induction sp with
 |nil=>intro _;simp[cnt]
 |cons s l ih=>
  intro h;have h1:=ih fun t ht=>h t (List.mem_cons_of_mem _ ht)
  have h2:=h s (List.mem_cons_self ..);have h3:eO kd pl s.sl≤s.sl.length:=List.countP_le_length;simp only[cnt,List.length_cons,Nat.mul_add,Nat.mul_one];omega
structure Pl(p:Pages)(f:Nat→Nat):Prop where
 tx:p.tx.length=12
 rf:p.rf.length=12
 ct:∀k,k<12→p.rf[k]?.getD 0=(f k:Int)
 t4:∀k,k<12→f k≠0→(p.tx[k]?.getD []).length=4
theorem Pl.cg{p:Pages}{f g:Nat→Nat}(h:Pl p f)(e:∀k,k<12→g k=f k):Pl p g:=⟨h.tx,h.rf,fun k hk=>by rw[e k hk];exact h.ct k hk,fun k hk hg=>h.t4 k hk (by rw[←e k hk];exact hg)⟩
theorem Pl.take{p:Pages}{f g:Nat→Nat}(h:Pl p f){k:Nat}{t:Str}{n:Int}(hk:k<12)(e:∀j,j<12→j≠k→g j=f j)(hn:n=(g k:Int))(ht:g k≠0→t.length=4):Pl (ax p k t n) g:=by
 have hr:k<p.rf.length:=by rw[h.rf];exact hk
 have hx:k<p.tx.length:=by rw[h.tx];exact hk
 refine⟨by simp[ax,h.tx],by simp[ax,h.rf],fun j hj=>?_,fun j hj hg=>?_⟩
 ·by_cases c:j=k
  ·subst c;simp[ax,hr,hn]
  ·simp only[ax];rw[List.getElem?_set_ne (fun h=>c h.symm),e j hj c];exact h.ct j hj
 ·by_cases c:j=k
  ·subst c;simp[ax,hx,ht hg]
  ·simp only[ax];rw[List.getElem?_set_ne (fun h=>c h.symm)];exact h.t4 j hj (by rw[←e j hj c];exact hg)
theorem Pl.fS{p:Pages}{f g:Nat→Nat}(h:Pl p f){k:Nat}(hk:k<12)(e:∀j,j<12→j≠k→g j=f j)(hn:g k+1=f k):Pl (cS p k) g:=by
 have hr:k<p.rf.length:=by rw[h.rf];exact hk
 have hx:k<p.tx.length:=by rw[h.tx];exact hk
 have hc:=h.ct k hk;refine⟨by simp only[cS];split<;>simp[h.tx],by simp[cS,h.rf],fun j hj=>?_,fun j hj hg=>?_⟩
 ·by_cases c:j=k
  ·subst c;simp only[cS,List.getElem?_set_self hr,Option.getD_some];omega
  ·simp only[cS];rw[List.getElem?_set_ne (fun h=>c h.symm),e j hj c];exact h.ct j hj
 ·by_cases c:j=k
  ·subst c;simp only[cS];rw[if_neg (by omega)];exact h.t4 j hj (by omega)
  ·have:=h.t4 j hj (by rw[←e j hj c];exact hg);simp only[cS];split
   ·rw[List.getElem?_set_ne (fun h=>c h.symm)];exact this
   ·exact this
structure SpI(s:Space):Prop where
 lv:s.lv=true→aO s.ar=true∧s.sl.length=16
 dd:s.lv=false→s.ar=[]∧s.sl=[]
 sl:∀x,x∈s.sl→x.kd=0∨(x.kd=1∨x.kd=2)∧∃k:Nat,x.pl=k∧k<12
structure Inv(m:Mem):Prop where
 ram:Pl m.ram fun k=>cnt 1 k m.sp
 swp:Pl m.swp fun k=>cnt 2 k m.sp
 sp:m.sp.length=5
 hd:0≤m.hd∧m.hd≤11
 ss:∀s,s∈m.sp→SpI s
theorem SpI.l16{s:Space}(h:SpI s):s.sl.length≤16:=by
 cases e:s.lv with
 |true=>rw[(h.lv e).2];omega
 |false=>rw[(h.dd e).2];simp
theorem Pl.pgW{p:Pages}{f:Nat→Nat}(h:Pl p f)(hf:∀k,f k≤1000):PgW p:=by refine⟨h.tx,h.rf,fun x hx=>?_⟩;obtain⟨k,hk,rfl⟩:=List.getElem_of_mem hx;have:=h.ct k (by rw[←h.rf];exact hk);simp only[List.getElem?_eq_getElem hk,Option.getD_some]at this;have:=hf k;omega
theorem Inv.wf{m:Mem}(h:Inv m):Wf m:=by
 have hb:∀kd pl,cnt kd pl m.sp≤1000:=fun kd pl=>by
  have:=zt (kd:=kd) (pl:=pl) (sp:=m.sp) (b:=16) fun s hs=>(h.ss s hs).l16
  rw[h.sp]at this;omega
 have tell:∀{p:Pages}{kd:Int},Pl p (fun k=>cnt kd k m.sp)→∀s,s∈m.sp→∀x,x∈s.sl→kd≠0→x.kd=kd→dh p x:=fun{p kd} hp s hs x hx h0 hk=>by
  rcases(h.ss s hs).sl x hx with c| ⟨-,k,e,hk12⟩
  ·exact absurd (hk.symm.trans c) h0
  ·have hc:=sj hs hx hk e;have:=hp.ct k hk12;exact⟨k,e,hk12,by omega,hp.t4 k hk12 (by omega)⟩
 exact⟨h.ram.pgW fun k=>hb _ _,h.swp.pgW fun k=>hb _ _,h.sp,h.hd,fun s hs=>(h.ss s hs).l16,fun s hs x hx hk=>tell h.ram s hs x hx (by decide) hk,fun s hs x hx hk=>tell h.swp s hs x hx (by decide) hk,fun s hs x hx=>((h.ss s hs).sl x hx).imp (fun h=>h) fun h=>h.1⟩
theorem Inv.hand{m:Mem}(h:Inv m):Inv (fR m):=⟨h.ram,h.swp,h.sp,by have:=h.hd;simp only[fR];omega,h.ss⟩
theorem SpI.map{m:Mem}(h:∀s,s∈m.sp→SpI s){kd pl:Int}{f:Slot→Slot}(hf:∀x:Slot,x.kd=kd→x.pl=pl→(x.kd=0∨(x.kd=1∨x.kd=2)∧∃k:Nat,x.pl=k∧k<12)→(f x).kd=0∨((f x).kd=1∨(f x).kd=2)∧∃k:Nat,(f x).pl=k∧k<12):∀s,s∈ae kd pl f m.sp→SpI s:=by
 intro s' hs';simp only[ae,List.mem_map]at hs';obtain⟨s,hs,rfl⟩:=hs';have i:=h s hs;refine⟨fun e=>⟨(i.lv e).1,by simpa using(i.lv e).2⟩,fun e=>⟨(i.dd e).1,by simp[(i.dd e).2]⟩,fun x' hx'=>?_⟩;simp only[List.mem_map]at hx';obtain⟨x,hx,rfl⟩:=hx';split
 ·rename_i c;exact hf x c.1 c.2 (i.sl x hx)
 ·exact i.sl x hx
theorem Inv.calm{m:Mem}(h:Inv m)(pl:Int):Inv (gG m pl):=⟨h.ram.cg fun k _=>ug,h.swp.cg fun k _=>ug,by simp[gG,ae,h.sp],h.hd,SpI.map h.ss fun x _ _ c=>c⟩
theorem Inv.aAu{m:Mem}(h:Inv m){a:Nat}(ha:a<12)(hf:aR m.swp.rf<12):Inv (f0 m a):=by
 have hz:=fF (l:=m.swp.rf) (by rw[h.swp.rf];exact hf);have hc:=h.swp.ct _ hf;have hne:¬((1:Int)=2∧(a:Int)=(aR m.swp.rf:Int)):=by omega
 have hr:=h.ram.ct a ha;have hE:∀p,aR m.swp.rf=p→f0 m a=⟨ax m.ram a [] 0,ax m.swp p (m.ram.tx[a]?.getD []) (m.ram.rf[a]?.getD 0),ae 1 a (dM 2 p) m.sp,m.hd⟩:=fun p hp=>by rw[f0,hp]
 rw[hE _ rfl];clear hE;generalize aR m.swp.rf=p at*;have e1:∀k:Nat,cnt 1 k (ae 1 a (dM 2 p) m.sp)=if k=a then 0 else cnt 1 k m.sp:=fun k=>by
  rw[mK hne,if_neg (by omega)];by_cases c:k=a
  ·rw[if_pos ⟨rfl,by omega⟩,if_pos c]
  ·rw[if_neg (by omega),if_neg c]
 have e2:∀k:Nat,cnt 2 k (ae 1 a (dM 2 p) m.sp)=if k=p then cnt 1 a m.sp else cnt 2 k m.sp:=fun k=>by
  rw[mK hne];by_cases c:k=p
  ·rw[if_pos ⟨rfl,by omega⟩,if_pos c];omega
  ·rw[if_neg (by omega),if_neg (by omega),if_neg c]
 refine⟨h.ram.take ha (fun j _ hj=>by simp only[e1,if_neg hj]) (by simp[e1]) (fun c=>absurd (by simp[e1]) c),h.swp.take hf (fun j _ hj=>by simp only[e2,if_neg hj]) (by simp[e2,hr]) (fun c=>?_),by simp[ae,h.sp],h.hd,SpI.map h.ss fun x _ _ _=>.inr ⟨.inr rfl,p,rfl,hf⟩⟩;simp only[e2,if_true]at c;exact h.ram.t4 a ha c
theorem Inv.yD{m m':Mem}{but:Int}(h:Inv m)(hc:clk m but= .inl m'):Inv m':=by
 unfold clk at hc;split at hc
 ·simp only[Sum.inl.injEq]at hc;subst hc;exact h.hand
 ·split at hc
  ·simp only[Sum.inl.injEq]at hc;subst hc;exact h.hand.calm _
  ·simp at hc
theorem Inv.aCu{m m':Mem}{but:Int}(h:Inv m)(hf:aR m.swp.rf<12)(hc:clk m but= .inr m'):Inv m':=by
 unfold clk at hc;split at hc
 ·simp at hc
 ·split at hc
  ·simp at hc
  ·simp only[Sum.inr.injEq]at hc;subst hc;exact(h.hand.calm _).aAu (by have:=h.hd;omega) hf
theorem Inv.dj{but:Int}:∀{m:Mem},Inv m→aR m.swp.rf<12→Inv (dj m but):=by
 have main:∀(k:Nat)(m:Mem),mu m but=k→Inv m→aR m.swp.rf<12→Inv (Go.Qm.dj m but):=by
  intro k;induction k using Nat.strongRecOn with
  |_ k ih=>
   intro m hk h hf;cases hc:clk m but with
   |inl m'=>obtain⟨-, -,h3⟩:=h.wf.yD hc;rw[jS hc];exact ih _ (hk▸jz hc) m' rfl (h.yD hc) (by rw[h3];exact hf)
   |inr m'=>rw[kg hc];exact h.aCu hf hc
 exact fun{m}=>main _ m rfl
theorem Inv.dP{m m':Mem}{but:Int}(h:Inv m)(hr:dP m but=some m'):Inv m':=by
 unfold Go.Qm.dP at hr;split at hr
 ·cases hr;exact h
 ·split at hr
  ·rename_i c;cases hr;exact h.dj (by rw[h.swp.rf]at c;exact c)
  ·simp at hr
def slI(x:Slot):Prop:=x.kd=0∨(x.kd=1∨x.kd=2)∧∃k:Nat,x.pl=k∧k<12
theorem SpI.set{sp:List Space}(h:∀s,s∈sp→SpI s){i j:Nat}{y:Slot}(hy:slI y):∀s,s∈aH sp i j y→SpI s:=by
 intro s' hs';rw[aH]at hs';obtain⟨k,hk,rfl⟩:=List.getElem_of_mem hs';rw[List.length_modify]at hk;have i1:=h _ (List.getElem_mem hk);rw[List.getElem_modify];split
 ·refine⟨fun e=>⟨(i1.lv e).1,by simpa using(i1.lv e).2⟩,fun e=>⟨(i1.dd e).1,by simp[(i1.dd e).2]⟩,fun x hx=>?_⟩;rcases List.mem_or_eq_of_mem_set hx with hx|rfl
  ·exact i1.sl x hx
  ·exact hy
 ·exact i1
theorem oO{kd pl:Int}{y:Slot}{sp:List Space}{i j:Nat}(hi:i<sp.length)(hj:j<sp[i].sl.length)(h1:y.kd=sp[i].sl[j].kd)(h2:y.pl=sp[i].sl[j].pl):cnt kd pl (aH sp i j y)=cnt kd pl sp:=by
 have:=mL (kd:=kd) (pl:=pl) (y:=y) hi hj;have e:hit kd pl y=hit kd pl sp[i].sl[j]:=by simp[hit,h1,h2]
 rw[e]at this;omega
theorem Inv.same{m:Mem}(h:Inv m){i j:Nat}{y:Slot}(hi:i<m.sp.length)(hj:j<m.sp[i].sl.length)(h1:y.kd=m.sp[i].sl[j].kd)(h2:y.pl=m.sp[i].sl[j].pl):Inv {m with sp:=aH m.sp i j y}:=by refine⟨h.ram.cg fun k _=>oO hi hj h1 h2,h.swp.cg fun k _=>oO hi hj h1 h2,by simp[aH,h.sp],h.hd,SpI.set h.ss ?_⟩;have:=(h.ss _ (List.getElem_mem hi)).sl _ (List.getElem_mem hj);rw[slI,h1,h2];exact this
theorem Inv.mX{m m':Mem}(h:Inv m){i j:Nat}(hi:i<m.sp.length)(hj:j<m.sp[i].sl.length)(hr:cm m i j=some m'):Inv m':=by
 have ex:=bp hi hj;unfold cm at hr;split at hr
 ·rename_i c;cases hr;exact h.same hi hj (by rw[ex]) (by rw[ex])
 ·rename_i c;simp only[Option.map_eq_some_iff]at hr;obtain⟨m1,hm,hr⟩:=hr;have w:=h.dP hm;obtain⟨-,hf⟩:=h.wf.dP hm;have ha:=eP h.wf hm;have hi1:i<m1.sp.length:=by rw[ha.1];exact hi
  have hj1:j<m1.sp[i].sl.length:=by rw[(ha.2 i hi hi1).2.2.1];exact hj
  have ex1:=bp hi1 hj1;have hz:=fF (l:=m1.ram.rf) (by rw[w.ram.rf];exact hf);have hc:=w.ram.ct _ hf;have hc0:cnt 1 (aR m1.ram.rf) m1.sp=0:=by rw[hz]at hc;omega
  split at hr
  ·rename_i c0;subst hr;generalize aR m1.ram.rf=p at*;have z0:(aJ m1 i j).kd=0:=(zQ hm).2 c0;rw[ex1]at z0;have key:=fun kd pl=>mL (kd:=kd) (pl:=pl) (y:=⟨1,p,true,true⟩) hi1 hj1
   have ho:∀kd pl:Int,kd≠0→one (hit kd pl m1.sp[i].sl[j])=0:=fun kd pl hk=>by simp[one,hit,z0,hk.symm]
   refine⟨w.ram.take hf (fun k _ hk=>?_) ?_ (fun _=>rfl),w.swp.cg fun k _=>?_,by simp[aH,w.sp],w.hd,SpI.set w.ss (.inr ⟨.inl rfl,p,rfl,hf⟩)⟩
   ·have:=key 1 k;rw[ho 1 k (by decide),show one (hit 1 k ⟨1,p,true,true⟩)=0 by simp[one,hit];omega]at this;exact this
   ·have:=key 1 p;rw[ho 1 p (by decide),show one (hit 1 p ⟨1,p,true,true⟩)=1 by simp[one,hit]]at this;show(1:Int)=(cnt 1 p (aH m1.sp i j ⟨1,p,true,true⟩):Int);omega
   ·have:=key 2 k;rw[ho 2 k (by decide),show one (hit 2 k ⟨1,p,true,true⟩)=0 by simp[one,hit]]at this;exact this
  ·rename_i c0;have hk2:(aJ m i j).kd=2:=by have:=h.wf.kd _ (List.getElem_mem hi) _ (List.getElem_mem hj);rw[←ex]at this;omega
   obtain⟨f,e1,e2,e3,e4⟩:=w.wf.aAE ha hi hj hk2;obtain⟨_,_,es, -⟩:=gA ha hi hj (.inl (by omega));have hcf:=w.swp.ct f e2;rw[e1,Int.toNat_natCast]at hr;subst hr;generalize aR m1.ram.rf=p at*;have hne:¬((2:Int)=1∧(f:Int)=(p:Int)):=by omega
   have k1:∀k:Nat,cnt 1 k (ae 2 f (dM 1 p) m1.sp)=if k=p then cnt 2 f m1.sp else cnt 1 k m1.sp:=fun k=>by
    rw[mK hne];by_cases c:k=p
    ·rw[if_pos ⟨rfl,by omega⟩,if_pos c];omega
    ·rw[if_neg (by omega),if_neg (by omega),if_neg c]
   have k2:∀k:Nat,cnt 2 k (ae 2 f (dM 1 p) m1.sp)=if k=f then 0 else cnt 2 k m1.sp:=fun k=>by
    rw[mK hne,if_neg (by omega)];by_cases c:k=f
    ·rw[if_pos ⟨rfl,by omega⟩,if_pos c]
    ·rw[if_neg (by omega),if_neg c]
   have w2:Inv ⟨ax m1.ram p (m1.swp.tx[f]?.getD []) (m1.swp.rf[f]?.getD 0),ax m1.swp f [] 0,ae 2 f (dM 1 p) m1.sp,m1.hd⟩:=⟨w.ram.take hf (fun k _ hk=>by simp only[k1,if_neg hk]) (by simp[k1,hcf]) (fun _=>e4),w.swp.take e2 (fun k _ hk=>by simp only[k2,if_neg hk]) (by simp[k2]) (fun c=>absurd (by simp[k2]) c),by simp[ae,w.sp],w.hd,SpI.map w.ss fun x _ _ _=>.inr ⟨.inl rfl,p,rfl,hf⟩⟩;have hi2:i< (ae 2 f (dM 1 p) m1.sp).length:=by simp[ae];exact hi1
   have hj2:j< (ae 2 f (dM 1 p) m1.sp)[i].sl.length:=by simp[ae];exact hj1
   have hs2:(ae 2 f (dM 1 p) m1.sp)[i].sl[j]=dM 1 p (aJ m i j):=by simp only[ae,List.getElem_map,es,hk2,e1,and_self,if_true]
   exact w2.same (y:=⟨1,p,(aJ m i j).ow,true⟩) hi2 hj2 (by rw[hs2];rfl) (by rw[hs2];rfl)
theorem iX{kd pl:Int}{x:Slot}(h:x.kd≠kd∨x.pl≠pl):one (hit kd pl x)=0:=by
 have:hit kd pl x=false:=by simp only[hit,decide_eq_false_iff_not];rintro⟨a,b⟩;exact h.elim (fun h=>h a) fun h=>h b
 rw[this];rfl
theorem t6{kd pl:Int}{x:Slot}(h1:x.kd=kd)(h2:x.pl=pl):one (hit kd pl x)=1:=by simp[one,hit,h1,h2]
theorem Inv.aEF{m:Mem}(h:Inv m){i j:Nat}(hi:i<m.sp.length)(hj:j<m.sp[i].sl.length):Inv (gD m i j):=by
 have e:(m.sp[i]?.bind fun s=>s.sl[j]?)=some m.sp[i].sl[j]:=by simp[hi,hj]
 have key:=fun kd pl=>mL (kd:=kd) (pl:=pl) (y:=cQ) hi hj
 have hx:=(h.ss _ (List.getElem_mem hi)).sl _ (List.getElem_mem hj);simp only[gD,e];generalize m.sp[i].sl[j]=x at*;have z:∀kd pl:Int,kd≠0→one (hit kd pl cQ)=0:=fun kd pl hk=>iX (.inl fun e=>hk e.symm)
 have hs:∀s,s∈aH m.sp i j cQ→SpI s:=SpI.set h.ss (.inl rfl);rcases hx with c| ⟨c|c,k,e1,e2⟩
 ·rw[if_neg (by omega),if_neg (by omega)];refine⟨h.ram.cg fun k _=>?_,h.swp.cg fun k _=>?_,by simp[aH,h.sp],h.hd,hs⟩
  ·have:=key 1 k;rw[z 1 k (by decide),iX (.inl (by omega))]at this;exact this
  ·have:=key 2 k;rw[z 2 k (by decide),iX (.inl (by omega))]at this;exact this
 ·rw[if_pos c,if_neg (by omega),e1,Int.toNat_natCast];refine⟨h.ram.fS e2 (fun q _ hq=>?_) ?_,h.swp.cg fun q _=>?_,by simp[aH,h.sp],h.hd,hs⟩
  ·have:=key 1 q;rw[z 1 q (by decide),iX (.inr (by omega))]at this;exact this
  ·have:=key 1 k;rw[z 1 k (by decide),t6 c e1]at this;exact this
  ·have:=key 2 q;rw[z 2 q (by decide),iX (.inl (by omega))]at this;exact this
 ·rw[if_neg (by omega),if_pos c,e1,Int.toNat_natCast];refine⟨h.ram.cg fun q _=>?_,h.swp.fS e2 (fun q _ hq=>?_) ?_,by simp[aH,h.sp],h.hd,hs⟩
  ·have:=key 1 q;rw[z 1 q (by decide),iX (.inl (by omega))]at this;exact this
  ·have:=key 2 q;rw[z 2 q (by decide),iX (.inr (by omega))]at this;exact this
  ·have:=key 2 k;rw[z 2 k (by decide),t6 c e1]at this;exact this
theorem yt{kd pl:Int}{f:Space→Space}(hf:∀s,(f s).sl=s.sl):∀{sp:List Space}{i:Nat},cnt kd pl (sp.modify i f)=cnt kd pl sp:=by
 intro sp;induction sp with
 |nil=>intro i;simp
 |cons s l ih=>
  intro i;cases i with
  |zero=>simp[cnt,hf]
  |succ i=>simp[cnt,ih]
theorem Inv.ag{m:Mem}(h:Inv m){i:Nat}{l:List Area}(hi:i<m.sp.length)(hlv:m.sp[i].lv=true)(hl:aO l=true):Inv (ag m i l):=by
 refine⟨h.ram.cg fun k _=>yt (f:=fun s=>{s with ar:=l}) fun _=>rfl,h.swp.cg fun k _=>yt (f:=fun s=>{s with ar:=l}) fun _=>rfl,by simp[Go.Qm.ag,h.sp],h.hd,fun s' hs'=>?_⟩;simp only[Go.Qm.ag]at hs';obtain⟨k,hk,rfl⟩:=List.getElem_of_mem hs';rw[List.length_modify]at hk;have i1:=h.ss _ (List.getElem_mem hk);rw[List.getElem_modify];split
 ·rename_i e;subst e;exact⟨fun e=>⟨hl,(i1.lv e).2⟩,fun e=>by simp only at e;rw[hlv]at e;simp at e,i1.sl⟩
 ·exact i1
theorem Inv.ls{m:Mem}(h:Inv m){i:Nat}(hi:i<m.sp.length)(hlv:m.sp[i].lv=true)(fr:Nat):LsOk m i fr 0:=by
 have w:=h.wf;have pg:∀{p:Pages}{f:Nat→Nat},Pl p f→(∀k,f k≤80)→PgOk p 0:=fun{p f} hp hf=>by refine⟨hp.tx,hp.rf,fun x hx=>?_⟩;obtain⟨k,hk,rfl⟩:=List.getElem_of_mem hx;have:=hp.ct k (by rw[←hp.rf];exact hk);simp only[List.getElem?_eq_getElem hk,Option.getD_some]at this;have:=hf k;omega
 have hb:∀kd pl,cnt kd pl m.sp≤80:=fun kd pl=>by
  have:=zt (kd:=kd) (pl:=pl) (sp:=m.sp) (b:=16) fun s hs=>(h.ss s hs).l16
  rw[h.sp]at this;exact this
 refine⟨pg h.ram fun k=>hb _ _,pg h.swp fun k=>hb _ _,hi,((h.ss _ (List.getElem_mem hi)).lv hlv).2,fun j hj _=>?_⟩;rcases(h.ss _ (List.getElem_mem hi)).sl _ (List.getElem_mem hj)with c| ⟨-,k,e,hk⟩
 ·simp[gZ,c]
 ·simp only[gZ,inB,Bool.or_eq_true,Bool.and_eq_true,decide_eq_true_eq];right;omega
theorem aCM{m:Mem}{i j:Nat}:cY m.sp (gD m i j).sp:=by
 unfold gD;split
 ·exact cY.refl
 ·exact eR
theorem Inv.bG{m:Mem}(h:Inv m){i fr:Nat}(hi:i<m.sp.length)(hlv:m.sp[i].lv=true):∀{t:Nat},fr+t≤16→Inv (bG m i fr t)∧cY m.sp (bG m i fr t).sp:=by
 intro t;induction t with
 |zero=>intro _;exact⟨h,cY.refl⟩
 |succ t ih=>
  intro ht;obtain⟨h1,s1⟩:=ih (by omega);have hi1:i< (Go.Qm.bG m i fr t).sp.length:=by rw[s1.1];exact hi
  have hl:=(s1.2 i hi hi1).2.2;have h16:=((h.ss _ (List.getElem_mem hi)).lv hlv).2;exact⟨h1.aEF hi1 (by omega),s1.trans aCM⟩
theorem Inv.put{m:Mem}(h:Inv m){i:Nat}{t:Space}(hi:i<m.sp.length)(ht:SpI t)(h0:∀kd pl:Int,kd≠0→eO kd pl t.sl=eO kd pl m.sp[i].sl):Inv {m with sp:=m.sp.set i t}:=by
 have key:∀kd pl:Int,kd≠0→cnt kd pl (m.sp.set i t)=cnt kd pl m.sp:=fun kd pl hk=>by have:=so (kd:=kd) (pl:=pl) (t:=t) hi;rw[h0 kd pl hk]at this;omega
 refine⟨h.ram.cg fun k _=>key 1 k (by decide),h.swp.cg fun k _=>key 2 k (by decide),by simp[h.sp],h.hd,fun s hs=>?_⟩;rcases List.mem_or_eq_of_mem_set hs with hs|rfl
 ·exact h.ss s hs
 ·exact ht
theorem rE{kd pl:Int}(hk:kd≠0){l:List Slot}(h:∀x,x∈l→x.kd=0):eO kd pl l=0:=by rw[eO,List.countP_eq_zero];intro x hx;simp only[hit,decide_eq_true_eq];rintro⟨a, -⟩;exact hk (a.symm.trans (h x hx))
theorem Pl.inc{p:Pages}{f g:Nat→Nat}(h:Pl p f){k:Nat}(hk:k<12)(e:∀j,j<12→j≠k→g j=f j)(hn:g k=f k+1)(h0:f k≠0):Pl ⟨p.tx,p.rf.set k (p.rf[k]?.getD 0+1)⟩ g:=by
 have hr:k<p.rf.length:=by rw[h.rf];exact hk
 have hc:=h.ct k hk;refine⟨h.tx,by simp[h.rf],fun j hj=>?_,fun j hj hg=>?_⟩
 ·by_cases c:j=k
  ·subst c;simp only[List.getElem?_set_self hr,Option.getD_some];omega
  ·simp only;rw[List.getElem?_set_ne (fun h=>c h.symm),e j hj c];exact h.ct j hj
 ·by_cases c:j=k
  ·subst c;exact h.t4 j hj h0
  ·exact h.t4 j hj (by rw[←e j hj c];exact hg)
structure FI(m:Mem)(i j:Nat):Prop where
 ram:Pl m.ram fun k=>cnt 1 k m.sp+eO 1 k ((iL m i).take j)
 swp:Pl m.swp fun k=>cnt 2 k m.sp+eO 2 k ((iL m i).take j)
 sp:m.sp.length=5
 hd:0≤m.hd∧m.hd≤11
 ss:∀s,s∈m.sp→SpI s
theorem Inv.fi{m:Mem}(h:Inv m)(i:Nat):FI m i 0:=⟨h.ram.cg fun k _=>by simp[eO],h.swp.cg fun k _=>by simp[eO],h.sp,h.hd,h.ss⟩
theorem FI.step{m:Mem}{i j:Nat}(h:FI m i j)(hi:i<m.sp.length)(hj:j<m.sp[i].sl.length):FI (pB m i j) i (j+1):=by
 have ex:=bp hi hj;have hx:=(h.ss _ (List.getElem_mem hi)).sl _ (List.getElem_mem hj);obtain⟨y,hy⟩:∃y,(if shP m i j then aJ m i j else{aJ m i j with ow:=false})=y:=⟨_,rfl⟩;have y1:y.kd=m.sp[i].sl[j].kd:=by rw[←hy,←ex];split<;>rfl
 have y2:y.pl=m.sp[i].sl[j].pl:=by rw[←hy,←ex];split<;>rfl
 have pos:∀kd pl:Int,m.sp[i].sl[j].kd=kd→m.sp[i].sl[j].pl=pl→0<cnt kd pl m.sp:=fun kd pl=>sj (List.getElem_mem hi) (List.getElem_mem hj)
 have hsame:∀kd pl,cnt kd pl (aH m.sp i j y)=cnt kd pl m.sp:=fun kd pl=>oO hi hj y1 y2
 have htk:∀kd pl,eO kd pl (((iL m i).set j y).take (j+1))=eO kd pl ((iL m i).take j)+one (hit kd pl y):=fun kd pl=>by
  have hl:j< ((iL m i).set j y).length:=by rw[List.length_set,wz hi];exact hj
  rw[List.take_succ_eq_append_getElem hl,List.take_set_of_le (Nat.le_refl j),List.getElem_set_self];simp only[eO,List.countP_append,List.countP_cons,List.countP_nil,one];omega
 have hss:∀s,s∈aH m.sp i j y→SpI s:=SpI.set h.ss (by rw[slI,y1,y2];exact hx);have hF:pB m i j=⟨gQ (y.kd=1) m.ram y.pl.toNat,gQ (y.kd=2) m.swp y.pl.toNat,aH m.sp i j y,m.hd⟩:=by unfold pB;rw[hy];simp only[ex,y1,y2]
 rw[hF];have hso:∀{r s:Pages},iL ⟨r,s,aH m.sp i j y,m.hd⟩ i=(iL m i).set j y:=zq;rw[←y1,←y2]at hx;have nxt:∀{p:Pages}{kd:Int},Pl p (fun k=>cnt kd k m.sp+eO kd k ((iL m i).take j))→kd≠0→Pl (gQ (y.kd=kd) p y.pl.toNat) fun k=>cnt kd k (aH m.sp i j y)+eO kd k (((iL m i).set j y).take (j+1)):=fun{p kd} hp h0=>by
  by_cases c:y.kd=kd
  ·rcases hx with c0| ⟨-,f,e1,e2⟩
   ·exact absurd (c.symm.trans c0) h0
   rw[gQ,if_pos c,e1,Int.toNat_natCast];refine hp.inc e2 (fun q _ hq=>?_) ?_ ?_
   ·rw[hsame,htk,iX (.inr (by omega))];omega
   ·rw[hsame,htk,t6 c e1];omega
   ·have:=pos kd f (by rw[←y1];exact c) (by rw[←y2];exact e1);omega
  ·rw[iv c];exact hp.cg fun k _=>by rw[hsame,htk,iX (.inl c)];omega
 exact⟨by simp only[hso];exact nxt h.ram (by decide),by simp only[hso];exact nxt h.swp (by decide),by simp[aH,h.sp],h.hd,hss⟩
theorem FI.steps{m:Mem}{i:Nat}(h:Inv m)(hi:i<m.sp.length):∀{j:Nat},j≤m.sp[i].sl.length→FI (ja m i j) i j∧cY m.sp (ja m i j).sp:=by
 intro j;induction j with
 |zero=>intro _;exact⟨h.fi i,cY.refl⟩
 |succ j ih=>
  intro hj;obtain⟨h1,s1⟩:=ih (by omega);have hi1:i< (ja m i j).sp.length:=by rw[s1.1];exact hi
  have hl:=(s1.2 i hi hi1).2.2;exact⟨h1.step hi1 (by omega),s1.trans eR⟩
theorem Inv.cI{m:Mem}(h:Inv m){i:Nat}(hi:i<m.sp.length):∀{j:Nat},j≤m.sp[i].sl.length→Inv (cI m i j).1∧cY m.sp (cI m i j).1.sp:=by
 intro j;induction j with
 |zero=>intro _;exact⟨h,cY.refl⟩
 |succ j ih=>
  intro hj;obtain⟨h1,s1⟩:=ih (by omega);have hi1:i< (Go.Qm.cI m i j).1.sp.length:=by rw[s1.1];exact hi
  have hl:=(s1.2 i hi hi1).2.2;simp only[Go.Qm.cI];split
  ·split
   ·rename_i m2 hm2;exact⟨h1.mX hi1 (by omega) hm2,s1.trans (gb h1.wf hm2)⟩
   ·exact⟨h1,s1⟩
  ·exact⟨h1,s1⟩
theorem Inv.lG{m:Mem}(h:Inv m){i:Nat}(hi:i<m.sp.length)(hlv:m.sp[i].lv=true):0≤(lG m i).2→Inv (lG m i).1:=by
 have h16:=((h.ss _ (List.getElem_mem hi)).lv hlv).2;unfold Go.Qm.lG;split
 ·rename_i c;split
  ·intro _;obtain⟨h1,s1⟩:=h.cI hi (j:=16) (by omega);generalize (Go.Qm.cI m i 16).1=m1 at h1 s1;have hi1:i<m1.sp.length:=by rw[s1.1];exact hi
   obtain⟨-, -,l1⟩:=s1.2 i hi hi1;obtain⟨h2,s2⟩:=FI.steps h1 hi1 (j:=16) (by omega);have hi2:i< (ja m1 i 16).sp.length:=by rw[s2.1];exact hi1
   have s3:=s1.trans s2;generalize ja m1 i 16=m2 at h2 s2 s3 hi2;have hz:bu m.sp<m2.sp.length:=by rw[s3.1];exact c
   obtain⟨v1, -,v3⟩:=s3.2 _ c hz;rw[kj c]at v1;generalize bu m.sp=Z at c hz v1 v3 ⊢;obtain⟨u1,u2,u3⟩:=s3.2 i hi hi2;have hd:=(h2.ss _ (List.getElem_mem hz)).dd v1;have hiS:=h2.ss _ (List.getElem_mem hi2);have hsl:iL m2 i=m2.sp[i].sl:=wz hi2;have har:arF m2 i=m2.sp[i].ar:=by simp[arF,hi2]
   have htk:(iL m2 i).take 16=m2.sp[i].sl:=by rw[hsl];exact List.take_of_length_le (by omega)
   have key:∀kd pl,cnt kd pl (m2.sp.set Z ⟨true,arF m2 i,iL m2 i⟩)=cnt kd pl m2.sp+eO kd pl ((iL m2 i).take 16):=fun kd pl=>by have:=so (kd:=kd) (pl:=pl) (t:=⟨true,arF m2 i,iL m2 i⟩) hz;rw[hd.2]at this;simp only[eO,List.countP_nil]at this;rw[htk,eO];simp only[hsl]at this ⊢;omega
   refine⟨h2.ram.cg fun k _=>key 1 k,h2.swp.cg fun k _=>key 2 k,by simp[iT,h2.sp],h2.hd,fun s hs=>?_⟩;rcases List.mem_or_eq_of_mem_set hs with hs|rfl
   ·exact h2.ss s hs
   ·exact⟨fun _=>⟨by rw[har];exact(hiS.lv (u1.trans hlv)).1,by show(iL m2 i).length=16;rw[hsl];omega⟩,fun e=>by simp at e,by rw[hsl];exact hiS.sl⟩
  ·intro e;simp at e
 ·intro e;simp at e
theorem Inv.own{m m':Mem}(h:Inv m){i j:Nat}(hi:i<m.sp.length)(hj:j<m.sp[i].sl.length)(hk:(aJ m i j).kd=1)(hr:jk m i j=some m'):Inv m':=by
 have ex:=bp hi hj;obtain⟨f,e1,e2,e3,e4⟩:=(h.wf.slot hi hj).1 hk;unfold jk at hr;split at hr
 ·rename_i c;simp only[Option.map_eq_some_iff]at hr;obtain⟨m1,hm,hr⟩:=hr;have w:=h.dP hm;obtain⟨-,hf⟩:=h.wf.dP hm;have ha:=eP h.wf hm;obtain⟨hi1,hj1,es, -⟩:=gA ha hi hj (.inr rfl);have hz:=fF (l:=m1.ram.rf) (by rw[w.ram.rf];exact hf);have hc:=w.ram.ct _ hf;have hc0:cnt 1 (aR m1.ram.rf) m1.sp=0:=by rw[hz]at hc;omega
  have hpos:0<cnt 1 f m1.sp:=sj (List.getElem_mem hi1) (List.getElem_mem hj1) (by rw[es];exact hk) (by rw[es];exact e1);rw[e1,Int.toNat_natCast]at hr;subst hr;generalize aR m1.ram.rf=p at*;have hpf:¬p=f:=fun e=>by rw[e]at hc0;omega
  have key:=fun kd pl=>mL (kd:=kd) (pl:=pl) (y:=⟨(aJ m i j).kd,p,true,(aJ m i j).us⟩) hi1 hj1
  rw[es]at key;have t1:Pl (ax m1.ram p (m1.ram.tx[f]?.getD []) 1) fun k=>if k=p then 1 else cnt 1 k m1.sp:=w.ram.take hf (fun k _ hk=>if_neg hk) (by simp) fun _=>w.ram.t4 f e2 (by omega)
  refine⟨t1.fS e2 (fun k _ hkf=>?_) ?_,w.swp.cg fun k _=>?_,by simp[aH,w.sp],w.hd,SpI.set w.ss (.inr ⟨.inl hk,p,rfl,hf⟩)⟩
  ·have:=key 1 k;rw[iX (x:=aJ m i j) (.inr (by omega))]at this;by_cases c2:k=p
   ·rw[if_pos c2];rw[t6 (x:=⟨(aJ m i j).kd,p,true,(aJ m i j).us⟩) hk (by show(p:Int)=k;omega)]at this;subst c2;show cnt 1 k (aH m1.sp i j _)=1;omega
   ·rw[if_neg c2];rw[iX (x:=⟨(aJ m i j).kd,p,true,(aJ m i j).us⟩) (.inr (by show(p:Int)≠k;omega))]at this;exact this
  ·have:=key 1 f;rw[t6 hk e1,iX (x:=⟨(aJ m i j).kd,p,true,(aJ m i j).us⟩) (.inr (by show(p:Int)≠f;omega))]at this;rw[if_neg (fun e=>hpf e.symm)];exact this
  ·have:=key 2 k;rw[iX (x:=aJ m i j) (.inl (by omega)),iX (x:=⟨(aJ m i j).kd,p,true,(aJ m i j).us⟩) (.inl (by show(aJ m i j).kd≠2;omega))]at this;exact this
 ·cases hr;exact h.same hi hj (by rw[ex]) (by rw[ex])
theorem Inv.text{m:Mem}(h:Inv m){k:Nat}{t:Str}(ht:t.length=(m.ram.tx[k]?.getD []).length):Inv {m with ram:=⟨m.ram.tx.set k t,m.ram.rf⟩}:=by
 refine⟨⟨by simp[h.ram.tx],h.ram.rf,h.ram.ct,fun j hj hg=>?_⟩,h.swp,h.sp,h.hd,h.ss⟩;have:=h.ram.t4 j hj hg;by_cases c:j=k
 ·subst c;have hx:j<m.ram.tx.length:=by rw[h.ram.tx];exact hj
  simp only[List.getElem?_set_self hx,Option.getD_some];omega
 ·simp only;rw[List.getElem?_set_ne (fun h=>c h.symm)];exact this
end Go.Qm
namespace Go.Qm
open Go.Cq Go.Cq.D Go.RowKit
structure PgO(p:Pages):Prop where
 tx:p.tx.length=12
 rf:p.rf.length=12
 ok:∀k,k<12→0≤p.rf[k]?.getD 0∧p.rf[k]?.getD 0≤99∧(p.tx[k]?.getD []).length=if p.rf[k]?.getD 0=0 then 0 else 4
structure MO(m:Mem):Prop where
 ram:PgO m.ram
 swp:PgO m.swp
end Go.Qm
namespace Go.Qm
open Go.Cq Go.Cq.D Go.RowKit
def dK(l:List Area)(a:Area)(q:Nat):List Area:=l.take q++a::l.drop q
def d8(a:Area):List Area→Nat
 | []=>0
 |x::l=>if a.fr≤x.fr then 0 else d8 a l+1
def i6(l:List Area)(a:Area):List Area:=dK l a (d8 a l)
def fw(l:List Area)(a:Area):Nat→Nat
 |0=>0
 |j+1=>if a.fr< (l[j]?.getD zH).fr then fw l a j else j+1
def kx(l:List Area)(a:Area):List Area:=dK l a (fw l a l.length)
def fD(l:List Area)(a:Area):Option (List Area):=if aO l&&an a then(if aO (i6 l a)then some (i6 l a)else none)else none
theorem oF{a:Area}:∀{l:List Area},d8 a l≤l.length:=by
 intro l;induction l with
 |nil=>exact Nat.le_refl 0
 |cons x l ih=>simp only[d8];split<;>simp;exact ih
theorem w8{a:Area}:∀{l:List Area}{i:Nat}(h:i<d8 a l),(l[i]'(Nat.lt_of_lt_of_le h oF)).fr<a.fr:=by
 intro l;induction l with
 |nil=>intro i h;simp[d8]at h
 |cons x l ih=>
  intro i h;have h':=h;simp only[d8]at h';split at h'
  ·omega
  ·cases i with
   |zero=>simp;omega
   |succ i=>simpa using ih (i:=i) (by omega)
theorem wq{a:Area}:∀{l:List Area}(h:d8 a l<l.length),a.fr≤l[d8 a l].fr:=by
 intro l;induction l with
 |nil=>intro h;simp at h
 |cons x l ih=>
  intro h;by_cases c:a.fr≤x.fr
  ·simp[d8,c]
  ·have:d8 a (x::l)=d8 a l+1:=by simp[d8,c]
   simp only[this,List.getElem_cons_succ];exact ih (by rw[this]at h;simpa using h)
theorem aBQ{l:List Area}{a:Area}:∀{n:Nat},fw l a n≤n:=by
 intro n;induction n with
 |zero=>exact Nat.le_refl 0
 |succ n ih=>simp only[fw];split<;>omega
theorem aCP{l:List Area}{a:Area}:∀{n:Nat},n≤l.length→∀(k:Nat)(h:k<l.length),fw l a n≤k→k<n→a.fr<l[k].fr:=by
 intro n;induction n with
 |zero=>intro _ k h _ h3;omega
 |succ n ih=>
  intro hn k h h2 h3;simp only[fw]at h2;split at h2
  ·rename_i c;by_cases e:k=n
   ·subst e;simpa [h]using c
   ·exact ih (by omega) k h h2 (by omega)
  ·omega
theorem aCO{l:List Area}{a:Area}:∀{n:Nat},n≤l.length→∀(k:Nat)(h:k<l.length),fw l a n=k+1→l[k].fr≤a.fr:=by
 intro n;induction n with
 |zero=>intro _ k h h2;simp[fw]at h2
 |succ n ih=>
  intro hn k h h2;simp only[fw]at h2;split at h2
  ·exact ih (by omega) k h h2
  ·rename_i c;have:k=n:=by omega
   subst this;simp[h]at c;exact c
theorem px:∀{l:List Area}{p:Option Area},cA p l=true→∀(i:Nat)(h:i+1<l.length),l[i].fr+l[i].mn≤l[i+1].fr:=by
 intro l;induction l with
 |nil=>intro p _ i h;simp at h
 |cons b l ih=>
  intro p h i hi;have h2:cA (some b) l=true:=by cases p<;>simp only[cA,Bool.and_eq_true]at h<;>exact h.2
  cases i with
  |zero=>
   cases l with
   |nil=>simp at hi
   |cons c l=>simp only[cA,Bool.and_eq_true,decide_eq_true_eq]at h2;exact h2.1.2
  |succ i=>exact ih h2 i (by simpa using hi)
theorem iR{l:List Area}(h:aO l=true)(i:Nat)(hi:i+1<l.length):l[i].fr+l[i].mn≤l[i+1].fr:=by simp only[aO,Bool.and_eq_true]at h;exact px h.1 i hi
theorem lV{l:List Area}(h:aO l=true):∀{i j:Nat}(_:i≤j)(hj:j<l.length),(l[i]'(by omega)).fr≤l[j].fr:=by
 intro i j hij;induction j with
 |zero=>
      intro hj;have:i=0:=by omega
      subst this;exact Int.le_refl _
 |succ j ih=>
  intro hj;by_cases e:i=j+1
  ·subst e;exact Int.le_refl _
  ·have h1:=ih (by omega) (by omega);have h2:=iR h j hj;have h3:=au.1 (cr h _ (List.getElem_mem (show j<l.length by omega)));omega
theorem br{l:List Area}{a:Area}{q:Nat}:(dK l a q).length=l.length+1:=by simp[dK];omega
theorem ny{l:List Area}{a:Area}{q:Nat}(h:q≤l.length):(dK l a q)[q]'(by rw[br];omega)=a:=by simp[dK,List.getElem_append_right,Nat.min_eq_left h]
theorem lz{l:List Area}{a:Area}{q k:Nat}(h:q≤l.length)(hk:k<q):(dK l a q)[k]'(by rw[br];omega)=l[k]:=by simp only[dK];rw[List.getElem_append_left (by simp;omega),List.getElem_take]
theorem wU{l:List Area}{a:Area}{q k:Nat}(hk:q≤k)(h:k<l.length):(dK l a q)[k+1]'(by rw[br];omega)=l[k]:=by simp only[dK];rw[List.getElem_append_right (by simp;omega)];simp only[List.length_take,Nat.min_eq_left (show q≤l.length by omega),show k+1-q=(k-q)+1 by omega,List.getElem_cons_succ,List.getElem_drop];congr 1;omega
theorem aBg{l:List Area}{a:Area}(hl:aO l=true)(ha:an a=true):aO (kx l a)=aO (i6 l a)∧(aO (i6 l a)=true→kx l a=i6 l a):=by
 have hb:=au.1 ha;have hq:=aBQ (l:=l) (a:=a) (n:=l.length);have hp:=oF (a:=a) (l:=l);by_cases e:d8 a l=fw l a l.length
 ·unfold kx i6;rw[e];exact⟨rfl,fun _=>rfl⟩
 ·have hlt:d8 a l<fw l a l.length:=by
   rcases Nat.lt_or_ge (d8 a l) (fw l a l.length)with h|h
   ·exact h
   ·have h1:=w8 (a:=a) (l:=l) (i:=fw l a l.length) (by omega);have h2:=aCP (l:=l) (a:=a) (Nat.le_refl _) (fw l a l.length) (by omega) (Nat.le_refl _) (by omega);omega
  have hpl:d8 a l<l.length:=by omega
  have h1:=wq (a:=a) (l:=l) hpl;have h2:=aCO (l:=l) (a:=a) (Nat.le_refl _) (fw l a l.length-1) (by omega) (by omega);have h3:=lV hl (i:=d8 a l) (j:=fw l a l.length-1) (by omega) (by omega);have n1:aO (i6 l a)=false:=by rw[Bool.eq_false_iff];intro h;have:=iR h (d8 a l) (by unfold i6;rw[br];omega);simp only[i6,ny hp,wU (Nat.le_refl _) hpl]at this;omega
  have n2:aO (kx l a)=false:=by rw[Bool.eq_false_iff];intro h;have:=iR h (fw l a l.length-1) (by unfold kx;rw[br];omega);simp only[kx,lz hq (show fw l a l.length-1<fw l a l.length by omega),show fw l a l.length-1+1=fw l a l.length by omega,ny hq]at this;have hm:=au.1 (cr hl _ (List.getElem_mem (show fw l a l.length-1<l.length by omega)));omega
  rw[n1,n2];exact⟨rfl,fun h=>by simp at h⟩
end Go.Qm
namespace Go.Qm
open Go.Cq Go.Cq.D Go.RowKit
def cov(p:Int)(a:Area):Bool:=decide (a.fr≤p∧p<a.fr+a.mn)
theorem ka{p:Int}{a:Area}:cov p a=true↔a.fr≤p∧p<a.fr+a.mn:=by simp[cov]
theorem aCQ{p:Int}{c:Area}:∀{l:List Area}{i:Int},0≤i→l.find? (cov p)=some c→i≤dt p l i∧l[(dt p l i-i).toNat]?=some c:=by
 intro l;induction l with
 |nil=>intro i _ h;simp at h
 |cons b l ih=>
  intro i hi h;rw[List.find?_cons]at h;simp only[dt];by_cases e:cov p b=true
  ·rw[e]at h;rw[if_pos (ka.1 e)];simp only[Int.sub_self];exact⟨Int.le_refl _,h⟩
  ·have e':cov p b=false:=by simpa using e
   rw[e']at h;rw[if_neg fun h=>e (ka.2 h)];obtain⟨h1,h2⟩:=ih (i:=i+1) (by omega) h;refine⟨by omega,?_⟩;rw[show(dt p l (i+1)-i).toNat=(dt p l (i+1)-(i+1)).toNat+1 by omega];exact h2
theorem aBy{p:Int}:∀{l:List Area}{i:Int},l.find? (cov p)=none→dt p l i= -1:=by
 intro l;induction l with
 |nil=>intro i _;rfl
 |cons b l ih=>
  intro i h;rw[List.find?_cons]at h;simp only[dt];by_cases e:cov p b=true
  ·rw[e]at h;cases h
  ·have e':cov p b=false:=by simpa using e
   rw[e']at h;rw[if_neg fun h=>e (ka.2 h)];exact ih h
theorem sJ{l:List Area}{p:Int}{c:Area}(h:l.find? (cov p)=some c):0≤ah l p∧gW l (ah l p)=c.sh:=by obtain⟨h1,h2⟩:=aCQ (Int.le_refl 0) h;rw[Int.sub_zero]at h2;exact⟨h1,by simp[gW,ah,h1,h2]⟩
theorem xC{l:List Area}{p:Int}(h:0≤ah l p):∃c,l.find? (cov p)=some c:=by
 cases e:l.find? (cov p)with
 |some c=>exact⟨c,rfl⟩
 |none=>rw[ah,aBy e]at h;omega
theorem nN{l:List Area}(h:aO l=true){i j:Nat}(hij:i<j)(hj:j<l.length):(l[i]'(by omega)).fr+(l[i]'(by omega)).mn≤l[j].fr:=by have h1:=iR h i (by omega);have h2:=lV h (i:=i+1) (j:=j) hij hj;omega
theorem xD{l:List Area}{a c:Area}{q:Nat}{p:Int}(hq:q≤l.length)(hl:aO (dK l a q)=true)(hc:c∈l)(h:cov p c=true):cov p a=false:=by
 rw[Bool.eq_false_iff];intro ha;have ha:=ka.1 ha;have h:=ka.1 h;obtain⟨k,hk,rfl⟩:=List.getElem_of_mem hc;have e0:=ny (l:=l) (a:=a) hq;by_cases e:k<q
 ·have e1:=lz (l:=l) (a:=a) hq e;have:=nN hl e (by rw[br];omega);rw[e0,e1]at this;omega
 ·have e1:=wU (l:=l) (a:=a) (q:=q) (by omega) hk;have:=nN hl (show q<k+1 by omega) (by rw[br];omega);rw[e0,e1]at this;omega
theorem aAC{l:List Area}{a c:Area}{q:Nat}{p:Int}(hq:q≤l.length)(hl:aO (dK l a q)=true)(h:l.find? (cov p)=some c):(dK l a q).find? (cov p)=some c:=by have hn:=xD hq hl (List.mem_of_find?_eq_some h) (List.find?_some h);rw[dK,List.find?_append,List.find?_cons,hn];rw[←List.take_append_drop q l,List.find?_append]at h;exact h
theorem aCH{l:List Area}{a:Area}{q:Nat}{p:Int}(hq:q≤l.length)(hl:aO (dK l a q)=true)(h:cov p a=true):ah l p<0∧0≤ah (dK l a q) p:=by
 constructor
 ·rcases Int.lt_or_le (ah l p) 0 with c|c
  ·exact c
  ·obtain⟨c,hc⟩:=xC c;have:=xD hq hl (List.mem_of_find?_eq_some hc) (List.find?_some hc);rw[h]at this;cases this
 ·cases e:(dK l a q).find? (cov p)with
  |some c=>exact(sJ e).1
  |none=>have:=List.find?_eq_none.1 e a (by simp[dK]);exact absurd h this
theorem oL{ar ar':List Area}(h:∀j x,cF ar j x=true→cF ar' j x=true):∀{l:List Slot}{i:Nat},bW ar i l=true→bW ar' i l=true:=by
 intro l;induction l with
 |nil=>intro i _;rfl
 |cons x l ih=>intro i h1;simp only[bW,Bool.and_eq_true]at h1 ⊢;exact⟨h _ _ h1.1,ih h1.2⟩
theorem tI{ar:List Area}:∀{l:List Slot}{i:Nat},bW ar i l=true→∀(j:Nat)(h:j<l.length),cF ar (i+j) l[j]=true:=by
 intro l;induction l with
 |nil=>intro i _ j h;simp at h
 |cons x l ih=>
  intro i h1 j hj;simp only[bW,Bool.and_eq_true]at h1;cases j with
  |zero=>exact h1.1
  |succ j=>have:=ih h1.2 j (by simpa using hj);rw[show i+(j+1)=i+1+j by omega];simpa using this
theorem aBs{ar ar':List Area}{kd pl:Int}(hk:kd≠0)(e:∀j:Nat,0≤ah ar j→gW ar (ah ar j)=gW ar' (ah ar' j)):∀{l:List Slot}{i:Nat},bW ar i l=true→ei ar' kd pl i l=ei ar kd pl i l:=by
 intro l;induction l with
 |nil=>intro i _;rfl
 |cons x l ih=>
  intro i h1;simp only[bW,Bool.and_eq_true]at h1;simp only[ei,ih h1.2];split
  ·rename_i c;have h2:=h1.1;rw[cF,if_neg (by omega)]at h2;simp only[Bool.and_eq_true,decide_eq_true_eq]at h2;rw[e i h2.1]
  ·rfl
theorem ux{kd pl:Int}{f:Space→Space}:∀{sp:List Space}{i:Nat},(∀h:i<sp.length,ei (f sp[i]).ar kd pl 0 (f sp[i]).sl=ei sp[i].ar kd pl 0 sp[i].sl)→tel kd pl (sp.modify i f)=tel kd pl sp:=by
 intro sp;induction sp with
 |nil=>intro i _;simp
 |cons s l ih=>
  intro i h;cases i with
  |zero=>simp only[List.modify_zero_cons,tel];rw[show ei (f s).ar kd pl 0 (f s).sl=_ from h (by simp)];rfl
  |succ i=>simp only[List.modify_succ_cons,tel];rw[ih fun h'=>h (by simpa using h')]
theorem qL{kd:Int}{sp sp':List Space}(h:∀pl,tel kd pl sp'=tel kd pl sp):∀{l:List Int}{i:Nat},cO kd sp' i l=cO kd sp i l:=by
 intro l;induction l with
 |nil=>intro i;rfl
 |cons n l ih=>intro i;simp only[cO,gH,h,ih]
theorem tW{l0 l:List Area}{a:Area}(h:fD l0 a=some l):aO l0=true∧∃q,q≤l0.length∧l=dK l0 a q∧aO (dK l0 a q)=true:=by
 unfold fD at h;split at h
 ·rename_i h1;simp only[Bool.and_eq_true]at h1;split at h
  ·rename_i h2;cases h;exact⟨h1.1,_,oF,rfl,h2⟩
  ·cases h
 ·cases h
theorem na{m:Mem}{i:Nat}(h:b7 m=true)(hi:i<m.sp.length)(hlv:m.sp[i].lv=true):bW m.sp[i].ar 0 m.sp[i].sl=true:=by simp only[b7,Bool.and_eq_true,decide_eq_true_eq]at h;have hs:=List.all_eq_true.1 h.1.1.2 _ (List.getElem_mem hi);simp only[Bool.and_eq_true]at hs;have:=hs.1;rw[bY,if_pos hlv]at this;simp only[Bool.and_eq_true]at this;exact this.2.2
theorem xY{m:Mem}{i:Nat}{l:List Area}{a:Area}(h:b7 m=true)(hi:i<m.sp.length)(hlv:m.sp[i].lv=true)(he:fD m.sp[i].ar a=some l):b7 (ag m i l)=true:=by
 obtain⟨-,q,hq,rfl,hl⟩:=tW he;have hso:=na h hi hlv;have e:∀j:Nat,0≤ah m.sp[i].ar j→0≤ah (dK m.sp[i].ar a q) j∧gW m.sp[i].ar (ah m.sp[i].ar j)=gW (dK m.sp[i].ar a q) (ah (dK m.sp[i].ar a q) j):=fun j hj=>by obtain⟨c,hc⟩:=xC hj;obtain⟨h1,h2⟩:=sJ (aAC hq hl hc);exact⟨h1,by rw[h2,(sJ hc).2]⟩
 have hT:∀kd pl,kd≠0→tel kd pl (ag m i (dK m.sp[i].ar a q)).sp=tel kd pl m.sp:=fun kd pl hk=>ux fun _=>aBs hk (fun j hj=>(e j hj).2) hso
 simp only[b7,Bool.and_eq_true,decide_eq_true_eq]at h ⊢;obtain⟨⟨⟨⟨⟨⟨⟨⟨h1,h2⟩,h3⟩,h4⟩,h5⟩,h6⟩,h7⟩,h8⟩,h9⟩:=h;refine⟨⟨⟨⟨⟨⟨⟨⟨h1,h2⟩,h3⟩,h4⟩,by simpa [ag]using h5⟩,h6⟩,?_⟩,(qL fun pl=>hT 1 pl (by decide)).trans h8⟩,(qL fun pl=>hT 2 pl (by decide)).trans h9⟩;refine List.all_eq_true.2 fun s hs=>?_
 simp only[ag]at hs;obtain⟨k,hk,rfl⟩:=List.getElem_of_mem hs;rw[List.length_modify]at hk;have h0:=List.all_eq_true.1 h7 _ (List.getElem_mem hk);rw[List.getElem_modify];split
 ·rename_i c;subst c;simp only[Bool.and_eq_true,bY,if_pos hlv,decide_eq_true_eq]at h0 ⊢;refine⟨⟨hl,h0.1.2.1,oL (fun j x hx=>?_) hso⟩,h0.2⟩;unfold cF at hx ⊢;split
  ·rename_i c;rw[if_pos c]at hx;exact hx
  ·rename_i c;rw[if_neg c]at hx;simp only[Bool.and_eq_true,decide_eq_true_eq]at hx ⊢;obtain⟨e1,e2⟩:=e j hx.1;rw[←e2];exact⟨e1,hx.2⟩
 ·exact h0
theorem add_zero{m:Mem}{i p:Nat}{l:List Area}{a:Area}(h:b7 m=true)(hi:i<m.sp.length)(hlv:m.sp[i].lv=true)(he:fD m.sp[i].ar a=some l)(hp:cov p a=true)(h16:p<m.sp[i].sl.length):0≤ah l p∧m.sp[i].sl[p]=cQ:=by
 obtain⟨-,q,hq,rfl,hl⟩:=tW he;obtain⟨h1,h2⟩:=aCH hq hl hp;refine⟨h2,?_⟩;have:=tI (na h hi hlv) p h16;rw[Nat.zero_add,cF]at this;split at this
 ·simpa using this
 ·simp only[Bool.and_eq_true,decide_eq_true_eq]at this;omega
end Go.Qm
namespace Go.Qm
open Go.Cq Go.Cq.D Go.RowKit
end Go.Qm
namespace Go.Qm
open Go.Cq Go.Cq.D Go.RowKit
def jQ(m:Mem)(x:Slot):Str:=if x.kd=1 then m.ram.tx[x.pl.toNat]?.getD []else if x.kd=2 then m.swp.tx[x.pl.toNat]?.getD []else kE
end Go.Qm
namespace Go.Cq.D
open Go.RowKit
def mq:CV→CV
 |.sl id b l lim=>if 2000<l then .sl id (b+0) (2000-0) (lim.map (· -0))else .sl id b l lim
 |c=>c
theorem RoR.mq{h:Heap}{N:Nat→Prop}{es:List (List PV)}{c:CV}(hr:RoR h N (.sl 1 es) c):RoR h N (.sl 1 (es.take 2000)) (mq c):=by
 cases hr with
 |nil=>exact .nil
 |sl hN hrow hc=>
  rename_i id base lim cf;simp only[D.mq];split
  ·rename_i hl;have e:(2000-0:Nat)=(es.take 2000).length:=by rw[List.length_take];omega
   rw[e];refine .sl hN (cf:=cf) ?_ fun i row k p h1 h2=>?_
   ·obtain⟨b,e1,e2,e3,e4⟩:=hrow.blk;refine⟨⟨b,e1,e2,?_,fun i row k p h1 h2=>?_⟩,hrow.ne,fun i row h1=>?_⟩
    ·rw[List.length_take];omega
    ·rw[List.getElem?_take]at h1;split at h1
     ·exact e4 i row k p h1 h2
     ·simp at h1
    ·rw[List.getElem?_take]at h1;split at h1
     ·exact hrow.len i row h1
     ·simp at h1
   ·rw[List.getElem?_take]at h1;split at h1
    ·exact hc i row k p h1 h2
    ·simp at h1
  ·rename_i hl;rw[List.take_of_length_le (by omega)];exact .sl hN hrow hc
def uQ(es:List (List PV))(c:CV):Prop:=(es=[]∧∃z,c= .nils z)∨∃id base lim,c= .sl id base es.length lim
theorem aA2{P:Program}{g:FuncId}{b:Bool}{es:List (List PV)}{args:List DV}{H:DH}{n:Nat}{Post:DT→DH→Prop}(hc:∀c,uQ es c→gq P ⟨fun _=>none,some (mq c,es.take 2000)⟩ g (.one (.sc c)::args) H n Post):di P g (.one (.ro b 1 es)::args) H n Post:=by
 intro N I Fp cargs h c U hU hr hlen;obtain⟨v,h1,h2⟩:=hr.cell (.t 0 0 0) (.ro b 1 es) (by simp) rfl;have h2:RoR h (N true) (.sl 1 es) v:=by
  cases b with
  |true=>exact h2
  |false=>exact h2.local fun id hid=>⟨rfl,hr.le id hid⟩
 have hsc:me v=true:=by rcases h2.len with⟨z,rfl, -⟩| ⟨id,base,lim,cf,rfl, -⟩<;>rfl
 refine hc v ?_ N I Fp cargs h c U ⟨fun g p e=>by simp at e,fun c' es' e=>?_⟩ hU ?_ hlen
 ·rcases h2.len with⟨z,e1,e2⟩| ⟨id,base,lim,cf,e1, -⟩
  ·exact .inl ⟨e2,z,e1⟩
  ·exact .inr ⟨id,base,lim,e1⟩
 ·cases e;exact h2.mq
 ·have hl0:∀t x,ao (fO (DV.one (.sc v)::args) 0) t=some x→(t=0∧x= .v (.one (.sc v)))∨(t≠0∧ao (fO (DV.one (.ro b 1 es)::args) 0) t=some x):=fun t x hx=>by
   simp only[fO,bK]at hx ⊢;by_cases e:t=0
   ·rw[if_pos e]at hx;simp only[Option.some.injEq]at hx;exact .inl ⟨e,hx.symm⟩
   ·rw[if_neg e]at hx;rw[if_neg e];exact .inr ⟨e,hx⟩
  refine hr.sub (fun t x hx=>?_) (fun s j k x hx=>?_) (fun s j k x g hx hg=>?_) (fun _ _ h=>h) (fun _ _ h=>h) (fun _ _ _ _=>rfl)
  ·rcases hl0 t x hx with⟨rfl,rfl⟩| ⟨-,hx⟩
   ·obtain⟨y,e1,e2⟩:=hr.tsh 0 _ rfl;exact⟨y,e1,by cases y with|v z=>cases z<;>exact e2|_=>exact e2⟩
   ·exact hr.tsh t x hx
  ·simp only[aY,Option.bind_eq_some_iff]at hx;obtain⟨y,e1,e2⟩:=hx;rcases hl0 s y e1 with⟨rfl,rfl⟩| ⟨-,hy⟩
   ·simp only[DT.cell]at e2;split at e2
    ·rename_i ej;subst ej;simp only[DV.cell]at e2;split at e2
     ·rename_i ek;subst ek;cases e2;exact⟨v,h1,hsc,rfl⟩
     ·simp at e2
    ·simp at e2
   ·exact hr.cell (.t s j k) x (by simp) (by simp only[aY,hy,Option.bind_some];exact e2)
  ·simp only[aY,Option.bind_eq_some_iff]at hx;obtain⟨y,e1,e2⟩:=hx;rcases hl0 s y e1 with⟨rfl,rfl⟩| ⟨-,hy⟩
   ·simp only[DT.cell]at e2;split at e2
    ·simp only[DV.cell]at e2;split at e2
     ·cases e2;simp[DC.tags]at hg
     ·simp at e2
    ·simp at e2
   ·exact hr.tags (.t s j k) x g (by simp only[aY,hy,Option.bind_some];exact e2) hg
section
variable{P:Prg}{n0:Nat}{ts:DTs}{H:DH}{n:Nat}{K:DT→DTs→DH→Nat→List Nat→Prop}
theorem wT{f:FOp}{r r':DV}(hf:FlV P.J ts f r)(ht:Told P.J H r r')(h:K (.v r') ts H n []):exec P (.fl f) ts H n K:=by
 cases f with
 |cmpNil neg x=>cases hf
 |_=>exact⟨r,r',.inr hf,ht,h⟩
theorem kh{x:Opd}{a b l:Nat}{lim:Option Nat}(hx:cK ts x=some (.sc (.sl a b l lim)))(h:K (.v (.one (.sc (.int .i64 l)))) ts H n []):OpP P (.fl (.len x)) ts H n K:=⟨wT (.lenC hx) .same h⟩
theorem wx{x:Opd}{z:Nat}(hx:cK ts x=some (.sc (.nils z)))(h:K (.v (.one (.sc (.int .i64 0)))) ts H n []):OpP P (.fl (.len x)) ts H n K:=⟨wT (.lenN hx) .same h⟩
theorem ri{x i:Opd}{c:CV}{es:List (List PV)}{k:Nat}(hx:cK ts x=some (.sc c))(hi:eG ts i=some (k:Int))(hv:P.J.v=some (c,es))(hk:k<es.length)(h:K (.v (.one (.rp true 1 es k 0))) ts H n []):OpP P (.fl (.idxAddr x i 1)) ts H n K:=⟨wT (.idx hx hi hv hk) .same h⟩
theorem aBP{x y:Opd}{id b l:Nat}{lim:Option Nat}{m b' l':Nat}{lim':Option Nat}{es:List (List PV)}(hx:cK ts x=some (.sc (.sl id b l lim)))(hy:eG ts y=some (m:Int))(hv:P.J.v=some (.sl id b' l' lim',es))(hm:m≤l)(h:K (.v (.one (.sc (.sl id (b+0) (m-0) (lim.map (· -0)))))) ts H n []):OpP P (.fl (.sliceL x none (some y) 1)) ts H n K:=⟨wT (.cut hx hy hv hm) .same h⟩
theorem sM{x y:Opd}{k:IntKind}{a b:Int}(hx:evS ts x=some (.int k a))(hy:evS ts y=some (.int k b))(hb:b≠0)(h:K (.v (.one (.sc (.int k (a.tmod b))))) ts H n []):OpP P (.fl (.bin .rem x y)) ts H n K:=fo (by simp[dfl,hx,hy,pH,Go.Tq.nO,hb,rv,me]) h
theorem aAM{x y:Opd}{k:IntKind}{a b:Int}(hx:evS ts x=some (.int k a))(hy:evS ts y=some (.int k b))(hb:b≠0)(h:K (.v (.one (.sc (.int k (k.wrap (a.tdiv b)))))) ts H n []):OpP P (.fl (.bin .quo x y)) ts H n K:=fo (by simp[dfl,hx,hy,pH,Go.Tq.nO,hb,rv,me]) h
end
end Go.Cq.D

