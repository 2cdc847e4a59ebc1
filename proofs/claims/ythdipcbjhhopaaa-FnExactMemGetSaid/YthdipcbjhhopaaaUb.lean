import Derived.Test.YthdipcbjhhopaaaUa
namespace Go.Qm
open Go.Cq Go.Cq.D Go.RowKit Go.Proofs
set_option maxRecDepth 10000
def kD(kd pl:Int):Nat→List Slot→List Nat
 |_,[]=>[]
 |j,x::l=>(if x.kd=kd∧x.pl=pl then [j]else [])++kD kd pl (j+1) l
theorem aAr{D:Nat×Nat}{kd pl:Int}:∀{l:List Slot}{j:Nat},ky D kd pl j l=(kD kd pl j l).map (tk D):=by
 intro l;induction l with
 |nil=>intro j;rfl
 |cons x l ih=>intro j;simp only[ky,kD,List.map_append,ih];split<;>rfl
theorem wa{kd pl:Int}{k:Nat}:∀{l:List Slot}{j:Nat},k∈kD kd pl j l↔j≤k∧∃x,l[k-j]?=some x∧x.kd=kd∧x.pl=pl:=by
 intro l;induction l with
 |nil=>intro j;simp[kD]
 |cons x l ih=>
  intro j;simp only[kD,List.mem_append,ih];constructor
  ·rintro(h| ⟨h1,y,h2,h3⟩)
   ·split at h
    ·rename_i c;simp only[List.mem_singleton]at h;subst h;exact⟨Nat.le_refl _,x,by simp,c⟩
    ·simp at h
   ·refine⟨by omega,y,?_,h3⟩;rw[show k-j=(k-(j+1))+1 by omega,List.getElem?_cons_succ];exact h2
  ·rintro⟨h1,y,h2,h3⟩;by_cases c:k=j
   ·subst c;simp only[Nat.sub_self,List.getElem?_cons_zero,Option.some.injEq]at h2;subst h2;rw[if_pos h3];exact .inl (by simp)
   ·rw[show k-j=(k-(j+1))+1 by omega,List.getElem?_cons_succ]at h2;exact .inr ⟨by omega,y,h2,h3⟩
def iy(S:Nat→List Slot)(kd pl:Int):Nat→List (Nat×Nat)
 |0=>[]
 |i+1=>iy S kd pl i++(kD kd pl 0 (S i)).map fun j=>(i,j)
def tkP(Js:Nat→Nat×Nat)(p:Nat×Nat):List PV:=tk (Js p.1) p.2
theorem mz{Js:Nat→Nat×Nat}{S:Nat→List Slot}{kd pl:Int}:∀{n:Nat},o7 Js S kd pl [] n=(iy S kd pl n).map (tkP Js):=by
 intro n;induction n with
 |zero=>rfl
 |succ n ih=>simp only[o7,iy,ih,aAr,List.map_append,List.map_map];rfl
theorem lM{S:Nat→List Slot}{kd pl:Int}{i j:Nat}:∀{n:Nat},(i,j)∈iy S kd pl n↔i<n∧∃x,(S i)[j]?=some x∧x.kd=kd∧x.pl=pl:=by
 intro n;induction n with
 |zero=>simp[iy]
 |succ n ih=>
  simp only[iy,List.mem_append,ih,List.mem_map,Prod.mk.injEq,wa];constructor
  ·rintro(⟨h1,h2⟩| ⟨k,⟨-,h2⟩,h3,h4⟩)
   ·exact⟨by omega,h2⟩
   ·subst h3 h4;exact⟨by omega,h2⟩
  ·rintro⟨h1,h2⟩;by_cases c:i=n
   ·subst c;exact .inr ⟨j,⟨Nat.zero_le _,h2⟩,rfl,rfl⟩
   ·exact .inl ⟨by omega,h2⟩
def eP(f:Slot→Slot)(S:Nat→List Slot)(L:List (Nat×Nat)):Nat→List Slot:=fun t=>(S t).mapIdx fun j x=>if(t,j)∈L then f x else x
def qb(S:Nat→List Slot)(i j:Nat)(y:Slot):Nat→List Slot:=fun t=>if t=i then(S t).set j y else S t
theorem oi{f:Slot→Slot}{S:Nat→List Slot}:eP f S []=S:=by
 funext t;refine List.ext_getElem? fun k=>?_
 simp only[eP,List.getElem?_mapIdx,List.not_mem_nil,if_false];cases (S t)[k]?<;>rfl
theorem hZ{f:Slot→Slot}{S:Nat→List Slot}{L:List (Nat×Nat)}{i j:Nat}{x:Slot}(h:(S i)[j]?=some x):(eP f S L i)[j]?=some (if(i,j)∈L then f x else x):=by simp only[eP,List.getElem?_mapIdx,h,Option.map_some]
theorem sE{f:Slot→Slot}{S:Nat→List Slot}{L:List (Nat×Nat)}{t:Nat}:(eP f S L t).length=(S t).length:=by simp[eP]
theorem la{f:Slot→Slot}{S:Nat→List Slot}{L:List (Nat×Nat)}{q i j:Nat}{x:Slot}(hq:q<L.length)(he:L[q]=(i,j))(hx:(S i)[j]?=some x):eP f S (L.take (q+1))=qb (eP f S (L.take q)) i j (f x):=by
 funext t;rw[List.take_succ_eq_append_getElem hq,he];refine List.ext_getElem? fun k=>?_
 simp only[eP,qb,List.mem_append,List.mem_singleton,Prod.mk.injEq,List.getElem?_mapIdx];by_cases c:t=i
 ·subst c;rw[if_pos rfl,List.getElem?_set];by_cases c2:j=k
  ·subst c2;obtain⟨hj,hx'⟩:=List.getElem?_eq_some_iff.1 hx;simp[hj,hx']
  ·have c3:¬k=j:=fun e=>c2 e.symm
   simp[c2,c3,List.getElem?_mapIdx]
 ·simp[c,List.getElem?_mapIdx]
theorem yg{f:Slot→Slot}{S:Nat→List Slot}{kd pl:Int}(h0:∀t,5≤t→S t=[]):eP f S (iy S kd pl 5)=fun t=>(S t).map fun x=>if x.kd=kd∧x.pl=pl then f x else x:=by
 funext t;refine List.ext_getElem? fun k=>?_
 simp only[eP,List.getElem?_mapIdx,List.getElem?_map,lM];cases e:(S t)[k]? with
 |none=>rfl
 |some x=>
  have ht:t<5:=by
   rcases Nat.lt_or_ge t 5 with c|c
   ·exact c
   ·rw[h0 t c]at e;simp at e
  simp only[Option.map_some,Option.some.injEq];by_cases c:x.kd=kd∧x.pl=pl
  ·rw[if_pos ⟨ht,x,rfl,c⟩,if_pos c]
  ·rw[if_neg c,if_neg (by rintro⟨-,y,h2,h3⟩;rw[Option.some.injEq]at h2;subst h2;exact c h3)]
def pz(S:Nat→List Slot)(L:List (Nat×Nat)):Bool:=L.any fun p=>((S p.1)[p.2]?.map (·.us)).getD false
theorem vJ{S:Nat→List Slot}{L:List (Nat×Nat)}{q i j:Nat}{x:Slot}(hq:q<L.length)(he:L[q]=(i,j))(hx:(S i)[j]?=some x):pz S (L.take (q+1))=(pz S (L.take q)||(if(i,j)∈L.take q then eO x else x).us):=by
 rw[List.take_succ_eq_append_getElem hq,he];simp only[pz,List.any_append,List.any_cons,List.any_nil,Bool.or_false,hx,Option.map_some,Option.getD_some];by_cases c:(i,j)∈L.take q
 ·rw[if_pos c];show _=(_||false);rw[Bool.or_false];cases hu:x.us with
  |false=>rw[Bool.or_false]
  |true=>have:(L.take q).any (fun p=>((S p.1)[p.2]?.map (·.us)).getD false)=true:=List.any_eq_true.2 ⟨(i,j),c,by simp[hx,hu]⟩;rw[this];rfl
 ·rw[if_neg c]
def spS(sp:List Space):Nat→List Slot:=fun t=>(sp[t]?.map (·.sl)).getD []
theorem iM{sp:List Space}{i:Nat}(h:i<sp.length):spS sp i=sp[i].sl:=by simp[spS,h]
theorem nD{sp:List Space}{i:Nat}(h:sp.length≤i):spS sp i=[]:=by simp[spS,h]
theorem rG{kd pl:Int}{f:Slot→Slot}{sp:List Space}:spS (au kd pl f sp)=fun t=>(spS sp t).map fun x=>if x.kd=kd∧x.pl=pl then f x else x:=by funext t;simp only[spS,au,List.getElem?_map];cases sp[t]?<;>rfl
theorem oL{kd pl:Int}{f:Slot→Slot}{sp:List Space}(h:sp.length=5):eP f (spS sp) (iy (spS sp) kd pl 5)=spS (au kd pl f sp):=by rw[rG,yg fun t ht=>nD (by omega)]
theorem yu{kd pl:Int}{sp:List Space}(h:sp.length=5):pz (spS sp) (iy (spS sp) kd pl 5)=cr kd pl sp:=by
 rw[Bool.eq_iff_iff];simp only[pz,cr,List.any_eq_true,Bool.and_eq_true,decide_eq_true_eq];constructor
 ·rintro⟨⟨i,j⟩,h1,h2⟩;obtain⟨hi,x,hx,hk⟩:=lM.1 h1;have hi':i<sp.length:=by omega
  simp only[hx,Option.map_some,Option.getD_some]at h2;rw[iM hi']at hx;exact⟨sp[i],List.getElem_mem hi',x,List.mem_of_getElem? hx,hk,h2⟩
 ·rintro⟨s,hs,x,hx,hk,hu⟩;obtain⟨i,hi,rfl⟩:=List.getElem_of_mem hs;obtain⟨j,hj,rfl⟩:=List.getElem_of_mem hx;have e:(spS sp i)[j]?=some sp[i].sl[j]:=by rw[iM hi,List.getElem?_eq_getElem hj]
  exact⟨(i,j),lM.2 ⟨by omega,_,e,hk⟩,by simp only[e,Option.map_some,Option.getD_some];exact hu⟩
theorem wE{sp:List Space}{i j:Nat}{y:Slot}:spS (aX sp i j y)=qb (spS sp) i j y:=by
 funext t;simp only[spS,aX,qb,List.getElem?_modify];by_cases c:t=i
 ·subst c;simp only[if_true];cases sp[t]?<;>rfl
 ·have c':¬i=t:=fun e=>c e.symm
  simp only[c,c',if_false];cases sp[t]?<;>rfl
theorem aAU{S:Nat→List Slot}{i j:Nat}{y:Slot}:ovS (qb S i j y)=ovS S:=by
 have:∀t,(qb S i j y t).length=(S t).length:=fun t=>by unfold qb;split<;>simp
 simp only[ovS,this]
theorem nE{E:List (List PV)}{T W:Pages}{hd:Int}{S:Nat→List Slot}{i j:Nat}{y:Slot}(hi:i<5):c8 (2+i) (.arr 4 (((S i).set j y).map rL) []) (oH E T W hd S)=oH E T W hd (qb S i j y):=by
 have hc:i=0∨i=1∨i=2∨i=3∨i=4:=by omega
 unfold oH;rw[aAU];rcases hc with rfl|rfl|rfl|rfl|rfl<;>rfl
end Go.Qm
namespace Go.Qm
open Go.Cq Go.Cq.D Go.RowKit Go.Proofs
set_option maxRecDepth 10000
def j8(l:List Int):Int:=if aO l<l.length then(aO l:Int)else-1
theorem rM(b1 b2:Bool)(p:Pages)(hl:p.rf.length≤1048576):ab Try.prog 150 [.agg [.ro b1 1 (p.tx.map rS),.ro b2 1 (p.rf.map rI)]] (.v (.one (dI (j8 p.rf)))):=by
 refine aH hmix Try.func150 ok150 ?_;conv=>whnf
 refine aU (fun i:Nat=>[(6,.v (.one (.ro b2 1 (p.rf.map rI)))),(7,.v (.one (dI p.rf.length))),(8,.v (.one (dI i)))]) (fun _=>[]) (fun _=>0)
  (fun i=>i≤p.rf.length∧i≤aO p.rf) (fun i=>p.rf.length-i) 0 (by omega) (by simp[dI]) rfl rfl fun i hi=>?_
 conv=>whnf
 refine CondP.mk (fun h=>?_) (fun h=>?_)<;>conv=>whnf
 ·have hlt:i<p.rf.length:=by simpa using h
  refine aG (k:=i) rfl rfl (by simpa using hlt) ?_;conv=>whnf
  refine aC rfl (r:=.one (dI p.rf[i])) (by simp[aV,rI,hlt,eI,dI]) ?_;conv=>whnf
  refine CondP.mk (fun h1=>?_) (fun h1=>?_)<;>conv=>whnf
  ·have h1:p.rf[i]=0:=by simpa using h1
   have e:aO p.rf=i:=by have:=nN hlt h1;omega
   refine⟨?_,rfl⟩;rw[j8,e,if_pos hlt];rfl
  ·have h1:¬p.rf[i]=0:=by simpa using h1
   refine⟨i+1,by omega,⟨by omega,?_⟩,?_,rfl,rfl⟩
   ·rcases Nat.lt_or_ge i (aO p.rf)with c|c
    ·omega
    ·have e:aO p.rf=i:=by omega
     have:=nR (l:=p.rf) (by omega);simp only[e]at this;exact absurd this h1
   ·rw[up hlt (by omega)];rfl
 ·have:¬i<p.rf.length:=by simpa using h
  refine⟨?_,rfl⟩;rw[j8,if_neg (by omega)];rfl
end Go.Qm
namespace Go.Qm
open Go.Cq Go.Cq.D Go.RowKit Go.Proofs
set_option maxRecDepth 10000
theorem NJ.same{J:Nm}{Js:Nat→Nat×Nat}{S S':Nat→List Slot}(h:NJ J Js S)(hl:∀t,(S' t).length=(S t).length):NJ J Js S':=⟨h.lt,fun i hi hne=>h.at5 i hi fun e=>hne (List.eq_nil_of_length_eq_zero (by rw[hl,e];rfl))⟩
def oHm(E:List (List PV))(m:Mem):DH:=oH E m.ram m.swp m.hd (spS m.sp)
theorem aBV{J:Nm}{E:List (List PV)}{m:Mem}(h1:∀g p,J g=some p→g<7)(h2:∀g sz es ov,aD (oHm E m) g=some (.arr sz es ov)→es≠[]→∃id base,J g=some (id,base,sz)):∃Js,NJ J Js (spS m.sp):=by
 have:∀i,∃D:Nat×Nat,i<5→spS m.sp i≠[]→J (2+i)=some (D.1,D.2,4):=fun i=>by
  by_cases c:i<5∧spS m.sp i≠[]
  ·have hg:aD (oHm E m) (2+i)=some (.arr 4 ((spS m.sp i).map rL) []):=by
    have hc:i=0∨i=1∨i=2∨i=3∨i=4:=by omega
    rcases hc with rfl|rfl|rfl|rfl|rfl<;>rfl
   obtain⟨id,base,e⟩:=h2 _ _ _ _ hg (by simpa using c.2);exact⟨(id,base),fun _ _=>e⟩
  ·exact⟨(0,0),fun a b=>absurd ⟨a,b⟩ c⟩
 obtain⟨Js,hJ⟩:=Classical.axiomOfChoice this;exact⟨Js,h1,hJ⟩
theorem xX{kd pl:Int}{g:Slot→Slot}(hg:∀x,(g x).kd=x.kd∧(g x).pl=x.pl):∀{l:List Slot}{j:Nat},kD kd pl j (l.map g)=kD kd pl j l:=by
 intro l;induction l with
 |nil=>intro j;rfl
 |cons x l ih=>intro j;simp only[List.map_cons,kD,ih,(hg x).1,(hg x).2]
theorem zE{S:Nat→List Slot}{kd pl:Int}{g:Slot→Slot}(hg:∀x,(g x).kd=x.kd∧(g x).pl=x.pl):∀{n:Nat},iy (fun t=>(S t).map g) kd pl n=iy S kd pl n:=by
 intro n;induction n with
 |zero=>rfl
 |succ n ih=>simp only[iy,ih,xX hg]
theorem wb{m:Mem}{kd pl p:Int}{n:Nat}:iy (spS (dR m p).sp) kd pl n=iy (spS m.sp) kd pl n:=by simp only[dR,rG];exact zE fun x=>by split<;>exact⟨rfl,rfl⟩
theorem yp{J:Nm}{Js:Nat→Nat×Nat}{S:Nat→List Slot}{L:List (Nat×Nat)}{kd pl:Int}{P:Program}(nj:NJ J Js S)(hL:iy S kd pl 5=L)(q:Nat)(hq:q<L.length):∃i j x,L[q]=(i,j)∧i<5∧(S i)[j]?=some x∧(Prg.mk P J).J (2+i)=some ((Js i).1,(Js i).2,4):=by
 have hm:=List.getElem_mem hq;cases hp:L[q]with
 |mk i j=>rw[hp,←hL,lM]at hm;obtain⟨h1,x,h2, -⟩:=hm;exact⟨i,j,x,rfl,h1,h2,nj.at5 i h1 fun e=>by rw[e]at h2;simp at h2⟩
theorem di{α β:Type}{f:α→β}{l:List α}(h:l.length=12):(l.map f).take 12=l.map f:=List.take_of_length_le (by simp[h])
def mW(m:Mem)(but:Int):Int:=match cT m but with
 |some m'=>aO m'.ram.rf
 |none=> -1
set_option maxHeartbeats 4000000 in
theorem vc(E:List (List PV))(m:Mem)(but:Int)(w:Wf m)(hE:E.length=5)(hr:∀row,row∈E→row.length=3):
  dK Try.prog 92 [.one (.ptr 0 0 0),.one (dI but)] (oHm E m) 7
  fun x H'=>x= .tup [.one (dI (mW m but)),.one (dB (cT m but).isSome)]∧H'=oHm E ((cT m but).getD m):=by
 refine py hmix Try.func92 ok92 fun J hJ1 hJ2=>?_
 obtain⟨Js,nj⟩:=aBV hJ1 hJ2;clear hJ1 hJ2;have l:=w.L;conv=>whnf
 refine aB (cas:=[.agg [.ro true 1 (m.ram.tx.map rS),.ro true 1 (m.ram.rf.map rI)]]) [.lend] rfl (by show some [DV.agg [DC.ro true 1 (List.take _ (List.drop 0 _)),DC.ro true 1 (List.take _ (List.drop 0 _))]]=_;simp only[List.drop_zero,List.take_length]) rfl (rM true true m.ram (by rw[l.rr];omega)) rfl ?_;conv=>whnf
 have hfi:∀p:Pages,decide (0≤j8 p.rf)=decide (aO p.rf<p.rf.length):=fun p=>by
  unfold j8;split
  ·rename_i c;rw[decide_eq_true c,decide_eq_true (by omega)]
  ·rename_i c;rw[decide_eq_false c,decide_eq_false (by omega)]
 simp only[List.drop_zero,List.take_length];refine CondP.mk (fun h=>?_) (fun h=>?_)<;>conv=>whnf
 ·have h:aO m.ram.rf<m.ram.rf.length:=by rw[hfi]at h;simpa using h
  have e:cT m but=some m:=by rw[cT,if_pos h]
  rw[mW,e,j8,if_pos h];exact⟨rfl,rfl⟩
 have h:¬aO m.ram.rf<m.ram.rf.length:=by rw[hfi]at h;simpa using h
 refine aB (cas:=[.agg [.ro true 1 (m.swp.tx.map rS),.ro true 1 (m.swp.rf.map rI)]]) [.lend] rfl (by show some [DV.agg [DC.ro true 1 (List.take _ (List.drop 0 _)),DC.ro true 1 (List.take _ (List.drop 0 _))]]=_;simp only[List.drop_zero,List.take_length]) rfl (rM true true m.swp (by rw[l.sr];omega)) rfl ?_;conv=>whnf
 have hfl:∀p:Pages,decide (j8 p.rf<0)= !decide (aO p.rf<p.rf.length):=fun p=>by
  unfold j8;split
  ·rename_i c;rw[decide_eq_true c,decide_eq_false (by omega)];rfl
  ·rename_i c;rw[decide_eq_false c,decide_eq_true (by omega)];rfl
 simp only[List.drop_zero,List.take_length];refine CondP.mk (fun h2=>?_) (fun h2=>?_)<;>conv=>whnf
 ·have h2:¬aO m.swp.rf<m.swp.rf.length:=by rw[hfl]at h2;simpa using h2
  have e:cT m but=none:=by rw[cT,if_neg h,if_neg h2]
  rw[mW,e];exact⟨rfl,rfl⟩
 have h2:aO m.swp.rf<m.swp.rf.length:=by rw[hfl]at h2;simpa using h2
 have e:cT m but=some (eQ m but):=by rw[cT,if_neg h,if_pos h2]
 rw[mW,e,j8,if_pos h2];simp only[Option.getD_some,Option.isSome_some];rw[w.swp.rf]at h2;obtain⟨F,hF⟩:∃F,aO m.swp.rf=F:=⟨_,rfl⟩;rw[hF]at h2 ⊢;refine aU (fun s:Mem×DTs=>(0,.v (.one (.ptr 0 0 0)))::(1,.v (.one (dI but)))::(7,.v (.one (dI F)))::s.2) (fun s=>oHm E s.1) (fun _=>7)
  (fun s=>Wf s.1∧aO s.1.swp.rf=F∧eQ s.1 but=eQ m but∧∀t,(spS s.1.sp t).length=(spS m.sp t).length) (fun s=>mu s.1 but) (m,_) ⟨w,hF,rfl,fun _=>rfl⟩ rfl rfl rfl fun s hs=>?_
 clear l w h e hF;obtain⟨s,rest⟩:=s;obtain⟨ws,hf,hr2,hlS⟩:=hs;simp only at ws hf hr2 hlS;obtain⟨a,ha⟩:=Int.eq_ofNat_of_zero_le ws.hd.1;have ha12:a<12:=by have:=ws.hd;omega
 conv=>whnf
 refine dS rfl ?_;conv=>whnf
 simp only[qL ws.hd];refine CondP.mk (fun h3=>?_) (fun h3=>?_)<;>conv=>whnf
 ·have h3:s.hd=but:=by simpa using h3
  have hc:clk s but= .inl (dE s):=by rw[clk,if_pos h3]
  exact⟨(dE s,_),kS hc,⟨ws.hand,hf,by rw[←hr2,jg hc],hlS⟩,rfl,rfl,rfl⟩
 have h3:¬s.hd=but:=by simpa using h3
 have nj1:=nj.same hlS;have hS16:∀i,(spS s.sp i).length≤16:=fun i=>by
  rcases Nat.lt_or_ge i s.sp.length with c|c
  ·rw[iM c];exact ws.sl _ (List.getElem_mem c)
  ·rw[nD c];exact Nat.zero_le _
 refine gw [] [.pass,.pass,.pass] [0,1,2,3,4,5,6] J rfl rfl rfl rfl rfl (aB4 E s.ram s.swp ((s.hd+1) % 12) (spS s.sp) Js 1 s.hd hE hr hS16 (by decide) J nj1) (nj1.of (lt7 ⟨rfl,rfl,rfl,rfl,rfl,rfl,rfl⟩)) rfl
  ((cA rfl rfl (by rfl) rfl).trans ((nV rfl rfl (by rfl) rfl).trans ((aN rfl rfl (by rfl)).trans ((aN rfl rfl (by rfl)).trans ((aN rfl rfl (by rfl)).trans ((aN rfl rfl (by rfl)).trans ((aN rfl rfl (by rfl)).trans rfl))))))) ?_
 conv=>whnf
 simp only[List.drop_zero,List.take_length,mz];obtain⟨S,hSe⟩:∃S,spS s.sp=S:=⟨_,rfl⟩;rw[hSe]at nj1 hS16;simp only[hSe];obtain⟨L,hL⟩:∃L,iy S 1 s.hd 5=L:=⟨_,rfl⟩;simp only[hL,List.length_map];obtain⟨N,hN⟩:∃N,L.length=N:=⟨_,rfl⟩;simp only[hN];have hN80:N≤1000:=by have:=nI (Js:=Js) (kd:=1) (pl:=s.hd) hS16 (i:=5);rw[mz,hL,List.length_map,hN]at this;omega
 refine aU (fun z:Nat×Bool=>[(0,.v (.one (.ptr 0 0 0))),(1,.v (.one (dI but))),(7,.v (.one (dI F))),(8,.v (.one (dI s.hd))),(9,.v (.one (.sl 7 0 N))),(10,.v (.one (dB z.2))),(49,.v (.one (.sl 7 0 N))),(50,.v (.one (dI N))),(51,.v (.one (dI z.1)))])
  (fun z=>(7,.arr 1 (L.map (tkP Js)) [])::oH E s.ram s.swp ((s.hd+1) % 12) (eP eO S (L.take z.1))) (fun _=>8)
  (fun z=>z.1≤N∧z.2=pz S (L.take z.1)) (fun z=>N-z.1) (0,false) ⟨Nat.zero_le _,rfl⟩ rfl (by rw[List.take_zero,oi];rfl) rfl fun z hz=>?_
 obtain⟨q,u⟩:=z;obtain⟨hqN,hu⟩:=hz;simp only at hqN hu;conv=>whnf
 refine CondP.mk (fun h4=>?_) (fun h4=>?_)<;>conv=>whnf
 ·have hq:q<L.length:=by
                 have:(q:Int)< (N:Int):=by simpa using h4
                 omega
  obtain⟨i,j,x,he,hi5,hx,hJ⟩:=yp (P:=Try.prog) nj1 hL q hq;have hrow:(L.map (tkP Js))[q]?=some (tk (Js i) j):=by simp[hq,he,tkP]
  have hst:c8 (2+i) (.arr 4 (((eP eO S (L.take q) i).map rL).modify j (fun row=>row.set 3 (.sc (.bool false)))) []) (oH E s.ram s.swp ((s.hd+1) % 12) (eP eO S (L.take q)))=oH E s.ram s.swp ((s.hd+1) % 12) (eP eO S (L.take (q+1))):=by rw[la hq he hx,←nE hi5,aY (bB (f:=rL) (hZ hx)),←map_set];split<;>rfl
  have hx':=hZ (f:=eO) (L:=L.take q) hx;have hu':=vJ hq he hx;rw[←hu]at hu';obtain⟨S',hS'⟩:∃S',eP eO S (L.take q)=S':=⟨_,rfl⟩;obtain⟨x',hxe⟩:∃x',(if(i,j)∈L.take q then eO x else x)=x':=⟨_,rfl⟩;rw[hS']at hst hx';rw[hxe]at hx' hu';simp only[hS'];obtain⟨D,hD⟩:∃D,Js i=D:=⟨_,rfl⟩;rw[hD]at hrow hJ;have hjl:j< (S' i).length:=(List.getElem?_eq_some_iff.1 hx').1;have nextq:IntKind.wrap .i64 ((q:Int)+1)=((q+1:Nat):Int):=wrap64 (by omega) (by omega);refine aJ (k:=q) rfl rfl rfl (by omega) ?_;conv=>whnf
  refine d8 rfl rfl rfl (aq hrow rfl rfl rfl) rfl ?_;conv=>whnf
  have hc:i=0∨i=1∨i=2∨i=3∨i=4:=by omega
  clear hx hD he hxe hS' hi5;cases u
  ·(conv=>whnf)<;>repeat' first|(refine aE ?_;conv=>whnf)|(refine aF ?_;conv=>whnf)
   rcases hc with rfl|rfl|rfl|rfl|rfl
   all_goals
    refine fS (i:=j) rfl rfl hJ rfl ?_
    (conv=>whnf)<;>repeat' first|(refine aE ?_;conv=>whnf)|(refine aF ?_;conv=>whnf)
    refine d8 rfl rfl rfl (aq (bB (f:=rL) hx') rfl rfl rfl) rfl ?_;conv=>whnf
    refine fS (i:=j) rfl rfl hJ rfl ?_;conv=>whnf
    refine aI rfl rfl rfl (by simpa using hjl) (by decide) ?_;conv=>whnf
    refine⟨(q+1,x'.us),by show N-(q+1)<N-q;omega,⟨by show q+1≤N;omega,by rw[hu'];rfl⟩,?_,by rw[←hst];rfl,rfl⟩;rw[nextq];rfl
  ·(conv=>whnf)<;>repeat' first|(refine aE ?_;conv=>whnf)|(refine aF ?_;conv=>whnf)
   rcases hc with rfl|rfl|rfl|rfl|rfl
   all_goals
    refine fS (i:=j) rfl rfl hJ rfl ?_;conv=>whnf
    refine aI rfl rfl rfl (by simpa using hjl) (by decide) ?_;conv=>whnf
    refine⟨(q+1,true),by show N-(q+1)<N-q;omega,⟨by show q+1≤N;omega,by rw[hu'];rfl⟩,?_,by rw[←hst];rfl,rfl⟩;rw[nextq];rfl
 have hqe:q=N:=by
             have:¬(q:Int)< (N:Int):=by simpa using h4
             omega
 subst hqe;have w2:=ws.hand.calm s.hd;have l2:=w2.L;have hSc:eP eO S (L.take q)=spS (dR (dE s) s.hd).sp:=by rw[List.take_of_length_le (by omega),←hL,←hSe];exact oL ws.sp
 have huc:u=cr 1 s.hd s.sp:=by rw[hu,List.take_of_length_le (by omega),←hL,←hSe];exact yu ws.sp
 simp only[hSc];refine CondP.mk (fun h5=>?_) (fun h5=>?_)<;>conv=>whnf
 ·have hc:clk s but= .inl (dR (dE s) s.hd):=by rw[clk,if_neg h3,if_pos (huc.symm.trans h5)]
  refine⟨(dR (dE s) s.hd,_),kS hc,⟨w2,hf,by rw[←hr2,jg hc],fun t=>?_⟩,rfl,rfl,rfl⟩;show(spS (dR (dE s) s.hd).sp t).length=_;rw[←hSc,sE,←hlS,hSe]
 have hc:clk s but= .inr (eJ (dR (dE s) s.hd) s.hd.toNat):=by rw[clk,if_neg h3,if_neg (by rw[←huc];exact fun c=>by rw[h5]at c;exact absurd c (by decide))]
 rw[←hr2,mq hc];have wev:=(w2.aB3 ha12 (by show aO s.swp.rf<12;omega));have hto:s.hd.toNat=a:=by omega
 rw[hto];have e1:s.ram=(dR (dE s) s.hd).ram:=rfl;have e2:s.swp=(dR (dE s) s.hd).swp:=rfl;have e3:(s.hd+1) % 12=(dR (dE s) s.hd).hd:=rfl;have hlS2:∀t,(spS (dR (dE s) s.hd).sp t).length=(spS m.sp t).length:=fun t=>by rw[←hSc,sE,←hlS,hSe]
 rw[e2]at hf;have hL2:iy (spS (dR (dE s) s.hd).sp) 1 a 5=L:=by rw[wb,←ha,←hL,←hSe];rfl
 simp only[e1,e2,ha];rw[←ha];generalize hs2:dR (dE s) s.hd=s2 at*;have hq:(List.take q (List.drop 0 (List.map (tkP Js) L)))=L.map (tkP Js):=by rw[List.drop_zero,List.take_of_length_le (by simp;omega)]
 simp only[hq,ha,List.length_map,l2.rt,l2.st,l2.sr];refine aJ (k:=a) rfl rfl rfl ha12 ?_;conv=>whnf
 obtain⟨tx,htx⟩:∃tx,s2.ram.tx[a]?=some tx:=⟨_,List.getElem?_eq_getElem (by rw[l2.rt];exact ha12)⟩;obtain⟨rf,hrf⟩:∃rf,s2.ram.rf[a]?=some rf:=⟨_,List.getElem?_eq_getElem (by rw[l2.rr];exact ha12)⟩;refine d8 rfl rfl rfl (aq (bB (f:=rS) htx) rfl rfl rfl) rfl ?_;conv=>whnf
 simp only[List.length_map,l2.rr];refine aJ (k:=a) rfl rfl rfl ha12 ?_;conv=>whnf
 refine d8 rfl rfl rfl (aq (bB (f:=rI) hrf) rfl rfl rfl) rfl ?_;conv=>whnf
 refine aJ (k:=F) rfl rfl rfl h2 ?_;conv=>whnf
 refine aI rfl rfl rfl (by simpa [l2.st]using h2) (by decide) ?_;conv=>whnf
 refine aJ (k:=F) rfl rfl rfl h2 ?_;conv=>whnf
 refine aI rfl rfl rfl (by simpa [l2.sr]using h2) (by decide) ?_;conv=>whnf
 have hhd:((a:Int)+1) % 12=s2.hd:=by rw[←ha];exact e3
 rw[kX (by rw[l2.st];exact h2),kK (by rw[l2.sr];exact h2),hhd];simp only[List.drop_zero,di l2.rt,di l2.rr,di (show(s2.swp.tx.set F tx).length=12 by simp[l2.st]),di (show(s2.swp.rf.set F rf).length=12 by simp[l2.sr]),List.length_map,l2.rt,l2.rr];refine aJ (k:=a) rfl rfl rfl ha12 ?_;conv=>whnf
 refine aI rfl rfl rfl (by simpa [l2.rt]using ha12) (by decide) ?_;conv=>whnf
 refine aJ (k:=a) rfl rfl rfl ha12 ?_;conv=>whnf
 refine aI rfl rfl rfl (by simpa [l2.rr]using ha12) (by decide) ?_;conv=>whnf
 rw[kX (by rw[l2.rt];exact ha12),kK (by rw[l2.rr];exact ha12)];simp only[List.drop_zero,di (show(s2.ram.tx.set a []).length=12 by simp[l2.rt]),di (show(s2.ram.rf.set a 0).length=12 by simp[l2.rr]),List.length_map];rw[List.take_of_length_le (l:=List.map (tkP Js) L) (by simp)];have hN80:L.length≤1000:=by omega
 obtain⟨N,hN⟩:∃N,L.length=N:=⟨_,rfl⟩;rw[hN]at hN80;simp only[hN];have nj2:=nj.same hlS2;obtain⟨S2,hS2⟩:∃S2,spS s2.sp=S2:=⟨_,rfl⟩;rw[hS2]at hL2 nj2;simp only[hS2];refine aU (fun q:Nat=>[(0,.v (.one (.ptr 0 0 0))),(7,.v (.one (dI F))),(111,.v (.one (.own 1 (L.map (tkP Js))))),(112,.v (.one (dI N))),(113,.v (.one (dI q)))])
  (fun q=>oH E (aZ s2.ram a [] 0) (aZ s2.swp F tx rf) s2.hd (eP (bp 2 F) S2 (L.take q))) (fun _=>7)
  (fun q=>q≤N) (fun q=>N-q) 0 (Nat.zero_le _) rfl (by rw[List.take_zero,oi];rfl) rfl fun q hqN=>?_
 conv=>whnf
 refine CondP.mk (fun h6=>?_) (fun h6=>?_)<;>conv=>whnf
 ·have hq:q<L.length:=by
                 have:(q:Int)< (N:Int):=by simpa using h6
                 omega
  obtain⟨i,j,x,he,hi5,hx,hJ⟩:=yp (P:=Try.prog) nj2 hL2 q hq;have hrow:(L.map (tkP Js))[q]?=some (tk (Js i) j):=by simp[hq,he,tkP]
  have hst:c8 (2+i) (.arr 4 ((((eP (bp 2 F) S2 (L.take q) i).map rL).modify j (fun row=>row.set 0 (.sc (.int .i64 2)))).modify j (fun row=>row.set 1 (.sc (.int .i64 F)))) []) (oH E (aZ s2.ram a [] 0) (aZ s2.swp F tx rf) s2.hd (eP (bp 2 F) S2 (L.take q)))=oH E (aZ s2.ram a [] 0) (aZ s2.swp F tx rf) s2.hd (eP (bp 2 F) S2 (L.take (q+1))):=by have hx':=hZ (f:=bp 2 F) (L:=L.take q) hx;have hjl:=(List.getElem?_eq_some_iff.1 hx').1;rw[la hq he hx,←nE hi5,aY (bB (f:=rL) hx'),aY (List.getElem?_set_self (by simpa using hjl)),List.set_set,←map_set];split<;>rfl
  have hjl:j< (eP (bp 2 F) S2 (L.take q) i).length:=(List.getElem?_eq_some_iff.1 (hZ (f:=bp 2 F) (L:=L.take q) hx)).1;obtain⟨S',hS'⟩:∃S',eP (bp 2 F) S2 (L.take q)=S':=⟨_,rfl⟩;rw[hS']at hst hjl;simp only[hS'];obtain⟨D,hD⟩:∃D,Js i=D:=⟨_,rfl⟩;rw[hD]at hrow hJ;have nextq:IntKind.wrap .i64 ((q:Int)+1)=((q+1:Nat):Int):=wrap64 (by omega) (by omega);simp only[List.length_map,hN];refine aJ (k:=q) rfl rfl rfl (by omega) ?_;conv=>whnf
  refine d8 rfl rfl rfl (aq hrow rfl rfl rfl) rfl ?_;conv=>whnf
  have hc:i=0∨i=1∨i=2∨i=3∨i=4:=by omega
  clear hx hD he hS' hi5;rcases hc with rfl|rfl|rfl|rfl|rfl
  all_goals
   refine fS (i:=j) rfl rfl hJ rfl ?_;conv=>whnf
   refine aI rfl rfl rfl (by simpa using hjl) (by decide) ?_;conv=>whnf
   refine fS (i:=j) rfl rfl hJ rfl ?_;conv=>whnf
   refine aI rfl rfl rfl (by simpa using hjl) (by decide) ?_;conv=>whnf
   refine⟨q+1,by omega,by omega,?_,by rw[←hst];rfl,rfl⟩;rw[nextq,List.take_of_length_le (by simp;omega)];rfl
 have hqe:q=N:=by
             have:¬(q:Int)< (N:Int):=by simpa using h6
             omega
 subst hqe;have hSt:eP (bp 2 F) S2 (L.take q)=spS (eJ s2 a).sp:=by rw[List.take_of_length_le (by omega),←hL2,←hS2,←hf];exact oL w2.sp
 simp only[hSt];have hrl:(aZ s2.ram a [] 0).rf.length=12:=by simp[aZ,l2.rr]
 refine aB (cas:=[.agg [.ro true 1 ((aZ s2.ram a [] 0).tx.map rS),.ro true 1 ((aZ s2.ram a [] 0).rf.map rI)]]) [.lend] rfl (by show some [DV.agg [DC.ro true 1 (List.take _ (List.drop 0 _)),DC.ro true 1 (List.take _ (List.drop 0 _))]]=_;simp only[List.drop_zero,List.take_length]) rfl (rM true true (aZ s2.ram a [] 0) (by omega)) rfl ?_;conv=>whnf
 simp only[List.drop_zero,List.take_length];have hfr:j8 (aZ s2.ram a [] 0).rf=(aO (eJ s2 a).ram.rf:Int):=by rw[j8,if_pos (by rw[hrl];exact wev.2)];rfl
 have heq:eJ s2 a=⟨aZ s2.ram a [] 0,aZ s2.swp F tx rf,(eJ s2 a).sp,s2.hd⟩:=by simp only[eJ,hf,htx,hrf,Option.getD_some]
 rw[hfr];refine⟨rfl,?_⟩;rw[heq];rfl
end Go.Qm
namespace Go.Qm
open Go.Cq Go.Cq.D Go.RowKit Go.Proofs
set_option maxRecDepth 10000
theorem tc{sp:List Space}{i j:Nat}{x y:Slot}:aX (aX sp i j x) i j y=aX sp i j y:=by
 simp only[aX];refine List.ext_getElem (by simp) fun q h1 h2=>?_
 simp only[List.getElem_modify];split<;>simp
theorem aCF{l:List Slot}{j:Nat}{b:Bool}(h:j<l.length):(l.map rL).modify j (fun row=>row.set 3 (.sc (.bool b)))=(l.map rL).set j (rL {l[j]with us:=b}):=by rw[aY (bB (f:=rL) (List.getElem?_eq_getElem h))];rfl
theorem v5{sp:List Space}{i j:Nat}{x:Slot}(hi:i<sp.length)(hj:j<sp[i].sl.length):∃(h1:i< (aX sp i j x).length)(h2:j< (aX sp i j x)[i].sl.length),(aX sp i j x)[i].sl[j]=x:=⟨by simpa [aX]using hi,by simpa [aX]using hj,by simp[aX]⟩
theorem rC{S:List Space}{i j:Nat}{b:Bool}(hi:i<S.length)(hj:j<S[i].sl.length):(S.map rP).modify i (fun row=>row.set 2 (.sl 4 ((((S[i].sl.map rL).modify j (fun row=>row.set 3 (.sc (.bool b)))).drop 0).take S[i].sl.length)))=(aX S i j {S[i].sl[j]with us:=b}).map rP:=by rw[List.drop_zero,List.take_of_length_le (by simp),aCF hj];exact fq hi
set_option maxHeartbeats 8000000 in
theorem vI(m:Mem)(i j:Nat)(w:Wf m)(hi:i<m.sp.length)(hj:j<m.sp[i].sl.length):dK Try.prog 147 [.agg (cW m.hd),.one (dI i),.one (dI j)] (hM m) 5
  fun x H'=>x= .tup [.agg (cW ((b7 m i j).getD m).hd),.one (dB (b7 m i j).isSome)]∧H'=hM ((b7 m i j).getD m):=by
 refine aH hmix Try.func147 ok147 ?_;have l:=w.L;have hi5:i<5:=by rw[←l.sp];exact hi
 have hg:=bB (f:=rP) (List.getElem?_eq_getElem hi);have hx:=ea hi hj;conv=>whnf
 refine aJ (k:=i) rfl rfl rfl hi5 ?_;conv=>whnf
 refine eM (i:=i) (k:=2) (sz':=4) (es':=m.sp[i].sl.map rL) m.sp[i].sl.length rfl rfl rfl (aq hg rfl rfl rfl) rfl (by simp) ?_;conv=>whnf
 refine aJ (k:=j) rfl rfl rfl hj ?_;conv=>whnf
 refine vH (row:=rL (bG m i j)) rfl rfl rfl (by rw[hx];simp[hj]) (fv _) rfl rfl ?_;conv=>whnf
 refine bU (i:=i) (k:=2) (g':=7) (lo:=0) (len:=m.sp[i].sl.length) (es2:=m.sp.map rP) (ov2:=[]) rfl (cJ hg (by simp[rP]) (by simp only[az,if_true];rfl)) rfl rfl (by rw[List.drop_zero,bz];exact fK hi) (by simp only[bW,if_true];rfl) ?_;conv=>whnf
 obtain⟨s1,s2⟩:=w.slot hi hj;have skd:(bG m i j).kd=0∨(bG m i j).kd=1∨(bG m i j).kd=2:=by rw[hx];exact w.kd _ (List.getElem_mem hi) _ (List.getElem_mem hj)
 refine CondP.mk (fun c1=>?_) (fun c1=>?_)<;>conv=>whnf
 ·have c1:¬(bG m i j).kd=1:=by simpa using c1
  have hcall:=xQ m (-1) w;cases hr:cT m (-1)with
  |none=>
   have hb:b7 m i j=none:=by rw[b7,if_neg c1,hr];rfl
   rw[hr]at hcall;refine dC (r:=.tup [.agg (cW m.hd),.one (dB false)]) (Hr:=hM m) [.pass,.pass] [0,1,2,3,4] rfl rfl rfl rfl hcall rfl (zU l l rfl) ?_
   (conv=>whnf)<;>repeat' first|(refine aE ?_;conv=>whnf)|(refine aF ?_;conv=>whnf)
   rw[hb];exact⟨rfl,rfl⟩
  |some m1=>
   obtain⟨w1,hf⟩:=w.cT hr;have l1:=w1.L;have ha:=eD w hr;obtain⟨hi1,hj1,ex, -⟩:=kf ha hi hj (.inl c1);have hg1:=bB (f:=rP) (List.getElem?_eq_getElem hi1);rw[hr]at hcall;refine dC (r:=.tup [.agg (cW m1.hd),.one (dB true)]) (Hr:=hM m1) [.pass,.pass] [0,1,2,3,4] rfl rfl rfl rfl hcall rfl (zU l l1 rfl) ?_
   (conv=>whnf)<;>repeat' first|(refine aE ?_;conv=>whnf)|(refine aF ?_;conv=>whnf)
   refine CondP.mk (fun c0=>?_) (fun c0=>?_)<;>conv=>whnf
   ·have c0:(bG m i j).kd=0:=by simpa using c0
    have hb:b7 m i j=some {m1 with ram:=aZ m1.ram (aO m1.ram.rf) ir 1,sp:=aX m1.sp i j ⟨1,aO m1.ram.rf,true,true⟩}:=by rw[b7,if_neg c1,hr,Option.map_some,if_pos c0]
    refine aB [] rfl rfl rfl wo rfl ?_;conv=>whnf
    refine dC [.pass,.pass] [0,1] rfl rfl rfl rfl (qd m1.ram ir l1.rt l1.rr hf) rfl ((aN (sz:=1) (es:=(aZ m1.ram (aO m1.ram.rf) ir 1).tx.map rS) (es0:=m1.ram.tx.map rS) (ov0:=[]) rfl rfl (by simp[aZ])).trans ((aN (sz:=1) (es:=(aZ m1.ram (aO m1.ram.rf) ir 1).rf.map rI) (es0:=m1.ram.rf.map rI) (ov0:=[]) rfl rfl (by simp[aZ])).trans rfl)) ?_;conv=>whnf
    refine aJ (k:=i) rfl rfl rfl hi5 ?_;conv=>whnf
    refine eM (i:=i) (k:=2) (sz':=4) (es':=m1.sp[i].sl.map rL) m1.sp[i].sl.length rfl rfl rfl (aq hg1 rfl rfl rfl) rfl (by simp) ?_;conv=>whnf
    refine aJ (k:=j) rfl rfl rfl hj1 ?_;conv=>whnf
    refine ez (row':=rL ⟨1,aO m1.ram.rf,true,false⟩) rfl rfl rfl (by simpa using hj1) (oT (fun _=>rfl)) (fv _) rfl rfl rfl ?_;conv=>whnf
    refine bU (i:=i) (k:=2) (g':=7) (lo:=0) (len:=m1.sp[i].sl.length) (es2:=(aX m1.sp i j ⟨1,aO m1.ram.rf,true,false⟩).map rP) (ov2:=[]) rfl (cJ hg1 (by simp[rP]) (by simp only[az,if_true];rfl)) rfl rfl (by rw[List.drop_zero,List.take_of_length_le (by simp)];exact fq hi1) (by simp only[bW,if_true];rfl) ?_;conv=>whnf
    obtain⟨hi2,hj2,e2⟩:=v5 (x:=⟨1,aO m1.ram.rf,true,false⟩) hi1 hj1;have hg2:=bB (f:=rP) (List.getElem?_eq_getElem hi2);refine aJ (k:=i) rfl rfl rfl hi5 ?_;conv=>whnf
    refine eM (i:=i) (k:=2) (sz':=4) (es':=(aX m1.sp i j ⟨1,aO m1.ram.rf,true,false⟩)[i].sl.map rL) (aX m1.sp i j ⟨1,aO m1.ram.rf,true,false⟩)[i].sl.length rfl rfl rfl (aq hg2 rfl rfl rfl) rfl (by simp) ?_;conv=>whnf
    refine aJ (k:=j) rfl rfl rfl hj2 ?_;conv=>whnf
    refine aI rfl rfl rfl (by simpa using hj2) (by decide) ?_;conv=>whnf
    refine bU (i:=i) (k:=2) (g':=7) (lo:=0) (len:=(aX m1.sp i j ⟨1,aO m1.ram.rf,true,false⟩)[i].sl.length) (es2:=(aX m1.sp i j ⟨1,aO m1.ram.rf,true,true⟩).map rP) (ov2:=[]) rfl (cJ hg2 (by simp[rP]) (by simp only[az,if_true];rfl)) rfl rfl (by rw[rC hi2 hj2,e2,tc]) (by simp only[bW,if_true];rfl) ?_;conv=>whnf
    rw[hb];exact⟨rfl,rfl⟩
   ·have c0:¬(bG m i j).kd=0:=by simpa using c0
    have hk2:(bG m i j).kd=2:=by omega
    obtain⟨f,e1,hf12,e3,e4⟩:=w1.aAP ha hi hj hk2;have hft:f<m1.swp.tx.length:=by rw[l1.st];exact hf12
    have hfr:f<m1.swp.rf.length:=by rw[l1.sr];exact hf12
    have gt:m1.swp.tx[f]?.getD []=m1.swp.tx[f]:=by simp[hft]
    have gr:m1.swp.rf[f]?.getD 0=m1.swp.rf[f]:=by simp[hfr]
    have hb:b7 m i j=some ⟨aZ m1.ram (aO m1.ram.rf) m1.swp.tx[f] m1.swp.rf[f],aZ m1.swp f [] 0,aX (au 2 f (bp 1 (aO m1.ram.rf)) m1.sp) i j ⟨1,aO m1.ram.rf,(bG m i j).ow,true⟩,m1.hd⟩:=by rw[b7,if_neg c1,hr,Option.map_some,if_neg c0,e1,Int.toNat_natCast,gt,gr]
    refine aJ (k:=f) rfl rfl (by show some _=some _;rw[e1]) hf12 ?_;conv=>whnf
    refine d8 rfl rfl rfl (aq (row:=rS m1.swp.tx[f]) (by simp[hft]) rfl rfl rfl) rfl ?_;conv=>whnf
    refine dC [.pass,.pass] [0,1] rfl rfl rfl rfl (qd m1.ram m1.swp.tx[f] l1.rt l1.rr hf) rfl ((aN (sz:=1) (es:=(aZ m1.ram (aO m1.ram.rf) m1.swp.tx[f] 1).tx.map rS) (es0:=m1.ram.tx.map rS) (ov0:=[]) rfl rfl (by simp[aZ])).trans ((aN (sz:=1) (es:=(aZ m1.ram (aO m1.ram.rf) m1.swp.tx[f] 1).rf.map rI) (es0:=m1.ram.rf.map rI) (ov0:=[]) rfl rfl (by simp[aZ])).trans rfl)) ?_;conv=>whnf
    refine aJ (k:=f) rfl rfl (by show some _=some _;rw[e1]) hf12 ?_;conv=>whnf
    refine d8 rfl rfl rfl (aq (row:=rI m1.swp.rf[f]) (by simp[hfr]) rfl rfl rfl) rfl ?_;conv=>whnf
    refine aJ (k:=aO m1.ram.rf) rfl rfl rfl hf ?_;conv=>whnf
    refine aI rfl rfl rfl (by simpa [aZ,l1.rr]using hf) (by decide) ?_;conv=>whnf
    rw[take_set (by rw[l1.rr];exact hf)];have l3:Lw ⟨aZ m1.ram (aO m1.ram.rf) m1.swp.tx[f] m1.swp.rf[f],m1.swp,m1.sp,m1.hd⟩:=⟨by simp[aZ,l1.rt],by simp[aZ,l1.rr],l1.st,l1.sr,l1.sp⟩;have l4:Lw ⟨aZ m1.ram (aO m1.ram.rf) m1.swp.tx[f] m1.swp.rf[f],m1.swp,au 2 f (bp 1 (aO m1.ram.rf)) m1.sp,m1.hd⟩:=⟨l3.rt,l3.rr,l3.st,l3.sr,by simp[au,l1.sp]⟩;simp only[e1];refine dC [.pass,.pass,.pass,.pass,.pass] [0,1,2,3,4] rfl rfl rfl rfl (vd ⟨aZ m1.ram (aO m1.ram.rf) m1.swp.tx[f] m1.swp.rf[f],m1.swp,m1.sp,m1.hd⟩ 2 f 1 (aO m1.ram.rf) l3 w1.sl) rfl (zU l3 l4 rfl) ?_;conv=>whnf
    refine aJ (k:=f) rfl rfl rfl hf12 ?_;conv=>whnf
    refine aI rfl rfl rfl (by simpa using hfr) (by decide) ?_;conv=>whnf
    refine aJ (k:=f) rfl rfl rfl hf12 ?_;conv=>whnf
    refine aI rfl rfl rfl (by simpa using hft) (by decide) ?_;conv=>whnf
    rw[kK hfr,kX hft];obtain⟨S,hS⟩:∃S,au 2 f (bp 1 (aO m1.ram.rf)) m1.sp=S:=⟨_,rfl⟩;have hi2:i<S.length:=by rw[←hS];simpa [au]using hi1
    have hj2:j<S[i].sl.length:=by simp only[←hS];simpa [au]using hj1
    have e2:S[i].sl[j]=bp 1 (aO m1.ram.rf) (bG m i j):=by simp only[←hS,au,List.getElem_map,ex];rw[if_pos ⟨hk2,e1⟩]
    rw[hS]at hb ⊢;have hg2:=bB (f:=rP) (List.getElem?_eq_getElem hi2);refine aJ (k:=i) rfl rfl rfl hi5 ?_;conv=>whnf
    refine eM (i:=i) (k:=2) (sz':=4) (es':=S[i].sl.map rL) S[i].sl.length rfl rfl rfl (aq hg2 rfl rfl rfl) rfl (by simp) ?_;conv=>whnf
    refine aJ (k:=j) rfl rfl rfl hj2 ?_;conv=>whnf
    refine aI rfl rfl rfl (by simpa using hj2) (by decide) ?_;conv=>whnf
    refine bU (i:=i) (k:=2) (g':=7) (lo:=0) (len:=S[i].sl.length) (es2:=(aX S i j ⟨1,aO m1.ram.rf,(bG m i j).ow,true⟩).map rP) (ov2:=[]) rfl (cJ hg2 (by simp[rP]) (by simp only[az,if_true];rfl)) rfl rfl (by rw[rC hi2 hj2,e2];rfl) (by simp only[bW,if_true];rfl) ?_;conv=>whnf
    rw[hb];exact⟨rfl,rfl⟩
 ·have c1:(bG m i j).kd=1:=by simpa using c1
  have hb:b7 m i j=some {m with sp:=aX m.sp i j {bG m i j with us:=true}}:=by rw[b7,if_pos c1]
  refine aJ (k:=i) rfl rfl rfl hi5 ?_;conv=>whnf
  refine eM (i:=i) (k:=2) (sz':=4) (es':=m.sp[i].sl.map rL) m.sp[i].sl.length rfl rfl rfl (aq hg rfl rfl rfl) rfl (by simp) ?_;conv=>whnf
  refine aJ (k:=j) rfl rfl rfl hj ?_;conv=>whnf
  refine aI rfl rfl rfl (by simpa using hj) (by decide) ?_;conv=>whnf
  refine bU (i:=i) (k:=2) (g':=9) (lo:=0) (len:=m.sp[i].sl.length) (es2:=(aX m.sp i j {bG m i j with us:=true}).map rP) (ov2:=[]) rfl (cJ hg (by simp[rP]) (by simp only[az,if_true];rfl)) rfl rfl (by rw[hx];exact rC hi hj) (by simp only[bW,if_true];rfl) ?_;conv=>whnf
  rw[hb];exact⟨rfl,rfl⟩
end Go.Qm
namespace Go.Qm
open Go.Cq Go.Cq.D Go.RowKit Go.Proofs
set_option maxRecDepth 10000
theorem aBh{E:List (List PV)}{T W:Pages}{hd:Int}{S:Nat→List Slot}{i j:Nat}{x y:Slot}{f:List PV→List PV}(hi:i<5)(hx:(S i)[j]?=some x)(hf:f (rL x)=rL y):c8 (2+i) (.arr 4 (((S i).map rL).modify j f) []) (oH E T W hd S)=oH E T W hd (qb S i j y):=by rw[←nE hi,aY (bB (f:=rL) hx),hf,map_set]
theorem aB7{E:List (List PV)}{T W:Pages}{hd:Int}{sp:List Space}{i j:Nat}{x:Slot}(hi:i<5)(hx:(spS sp i)[j]?=some x):c8 (2+i) (.arr 4 (((spS sp i).map rL).modify j (fun row=>row.set 3 (.sc (.bool true)))) []) (oH E T W hd (spS sp))=oH E T W hd (spS (aX sp i j {x with us:=true})):=by rw[wE];exact aBh hi hx rfl
theorem aBz{E:List (List PV)}{T W:Pages}{hd:Int}{sp:List Space}{i j:Nat}{x:Slot}{kd pl:Int}{ow:Bool}(hi:i<5)(hx:(spS sp i)[j]?=some x):c8 (2+i) (.arr 4 ((((spS sp i).map rL).set j (rL ⟨kd,pl,ow,false⟩)).modify j (fun row=>row.set 3 (.sc (.bool true)))) []) (oH E T W hd (spS sp))=oH E T W hd (spS (aX sp i j ⟨kd,pl,ow,true⟩)):=by have hj:=(List.getElem?_eq_some_iff.1 hx).1;rw[wE,←nE hi,aY (List.getElem?_set_self (by simpa using hj)),List.set_set,←map_set];rfl
theorem wB{but:Int}{sp sp':List Space}(h:alike but sp sp')(t:Nat):(spS sp' t).length=(spS sp t).length:=by
 obtain⟨h1,h2⟩:=h;rcases Nat.lt_or_ge t sp.length with c|c
 ·have c':t<sp'.length:=by omega
  rw[iM c,iM c'];exact(h2 t c c').2.2.1
 ·rw[nD c,nD (by omega)]
theorem pI{E:List (List PV)}{m m1:Mem}(hl:∀t,(spS m1.sp t).length=(spS m.sp t).length):aw (fun t=>([0,1,2,3,4,5,6]:List Nat)[t]?) (oHm E m1) [0,1,2,3,4,5,6] 0 (oHm E m)=some (oHm E m1):=(cA rfl rfl (by rfl) rfl).trans ((nV rfl rfl (by rfl) rfl).trans ((aN rfl rfl (by simp[hl])).trans ((aN rfl rfl (by simp[hl])).trans ((aN rfl rfl (by simp[hl])).trans ((aN rfl rfl (by simp[hl])).trans ((aN rfl rfl (by simp[hl])).trans rfl))))))
set_option maxHeartbeats 8000000 in
theorem aAQ(E:List (List PV))(m:Mem)(i j:Nat)(w:Wf m)(hE:E.length=5)(hr:∀row,row∈E→row.length=3)(hi:i<m.sp.length)(hj:j<m.sp[i].sl.length):
  dK Try.prog 78 [.one (.ptr 0 0 0),.one (dI i),.one (dI j)] (oHm E m) 7
  fun x H'=>x= .v (.one (dB (b7 m i j).isSome))∧H'=oHm E ((b7 m i j).getD m):=by
 refine py hmix Try.func78 ok78 fun J hJ1 hJ2=>?_
 obtain⟨Js,nj⟩:=aBV hJ1 hJ2;clear hJ1 hJ2;have l:=w.L;have hi5:i<5:=by rw[←l.sp];exact hi
 have hx:=ea hi hj;have hxS:(spS m.sp i)[j]?=some (bG m i j):=by rw[iM hi,hx];exact List.getElem?_eq_getElem hj
 have hjS:j< (spS m.sp i).length:=by rw[iM hi];exact hj
 obtain⟨row,hrow,hrl⟩:∃row,E[i]?=some row∧2<row.length:=⟨E[i]'(by omega),List.getElem?_eq_getElem (by omega),by rw[hr _ (List.getElem_mem _)];omega⟩;obtain⟨I,hI⟩:∃I:Int,(i:Int)=I:=⟨_,rfl⟩;obtain⟨s1,s2⟩:=w.slot hi hj;have skd:(bG m i j).kd=0∨(bG m i j).kd=1∨(bG m i j).kd=2:=by rw[hx];exact w.kd _ (List.getElem_mem hi) _ (List.getElem_mem hj)
 rw[hI];conv=>whnf
 refine aJ (k:=i) rfl rfl (by show some I=_;rw[←hI]) hi5 ?_;conv=>whnf
 have hc:i=0∨i=1∨i=2∨i=3∨i=4:=by omega
 obtain⟨x,hxe⟩:∃x,bG m i j=x:=⟨_,rfl⟩;rw[hxe]at hx hxS s1 s2 skd;have hnone:¬x.kd=1→cT m (-1)=none→b7 m i j=none:=fun c1 hrm=>by rw[b7,hxe,if_neg c1,hrm];rfl
 have hsome:¬x.kd=1→∀m1,cT m (-1)=some m1→(spS m1.sp i)[j]?=some x∧j< (spS m1.sp i).length:=fun c1 m1 hrm=>by
  obtain⟨hi1,hj1,ex, -⟩:=kf (eD w hrm) hi hj (.inl (by rw[hxe];exact c1));have:(spS m1.sp i)[j]?=some x:=by rw[iM hi1,List.getElem?_eq_getElem hj1,ex,hxe]
  exact⟨this,(List.getElem?_eq_some_iff.1 this).1⟩
 have hb0:x.kd=0→∀m1,cT m (-1)=some m1→b7 m i j=some {m1 with ram:=aZ m1.ram (aO m1.ram.rf) ir 1,sp:=aX m1.sp i j ⟨1,aO m1.ram.rf,true,true⟩}:=fun c0 m1 hrm=>by rw[b7,hxe,if_neg (by omega),hrm,Option.map_some,if_pos c0]
 have hb1:x.kd=1→b7 m i j=some {m with sp:=aX m.sp i j {x with us:=true}}:=fun c1=>by rw[b7,hxe,if_pos c1]
 have hb2:x.kd=2→∀m1,cT m (-1)=some m1→∃f:Nat,x.pl=f∧f<12∧(spS (au 2 f (bp 1 (aO m1.ram.rf)) m1.sp) i)[j]?=some (bp 1 (aO m1.ram.rf) x)∧b7 m i j=some ⟨aZ m1.ram (aO m1.ram.rf) (m1.swp.tx[f]?.getD []) (m1.swp.rf[f]?.getD 0),aZ m1.swp f [] 0,aX (au 2 f (bp 1 (aO m1.ram.rf)) m1.sp) i j ⟨1,aO m1.ram.rf,x.ow,true⟩,m1.hd⟩:=fun c2 m1 hrm=>by
  obtain⟨f,e1,hf12, -⟩:=(w.cT hrm).1.aAP (eD w hrm) hi hj (by rw[hxe];exact c2);rw[hxe]at e1;refine⟨f,e1,hf12,?_,?_⟩
  ·rw[rG];simp only[List.getElem?_map,(hsome (by omega) m1 hrm).1,Option.map_some];rw[if_pos ⟨c2,e1⟩]
  ·rw[b7,hxe,if_neg (by omega),hrm,Option.map_some,if_neg (by omega),e1,Int.toNat_natCast]
 rcases hc with rfl|rfl|rfl|rfl|rfl
 all_goals
  refine d8 rfl rfl rfl (cJ hrow hrl rfl) rfl ?_;conv=>whnf
  refine aJ (k:=j) rfl rfl rfl hjS ?_;conv=>whnf
  refine d8 rfl rfl rfl (aq (bB (f:=rL) hxS) rfl rfl rfl) rfl ?_;conv=>whnf
  refine CondP.mk (fun c0=>?_) (fun c0=>?_)<;>conv=>whnf
  ·have c0:x.kd=0:=by simpa using c0
   have c1:¬x.kd=1:=by omega
   have hcall:=vc E m (-1) w hE hr;cases hrm:cT m (-1)with
   |none=>
    rw[mW,hrm]at hcall;have hb:=hnone c1 hrm;refine dC (r:=.tup [.one (dI (-1)),.one (dB false)]) (Hr:=oHm E m) [.pass,.pass] [0,1,2,3,4,5,6] rfl rfl rfl rfl hcall rfl (pI (E:=E) (m:=m) (m1:=m) fun _=>rfl) ?_
    (conv=>whnf)<;>repeat' first|(refine aE ?_;conv=>whnf)|(refine aF ?_;conv=>whnf)
    rw[hb];exact⟨rfl,rfl⟩
   |some m1=>
    rw[mW,hrm]at hcall;obtain⟨w1,hf⟩:=w.cT hrm;have l1:=w1.L;have ha:=eD w hrm;have hlS:=wB ha;obtain⟨hxS1,hjS1⟩:=hsome c1 m1 hrm;refine dC (r:=.tup [.one (dI (aO m1.ram.rf)),.one (dB true)]) (Hr:=oHm E m1) [.pass,.pass] [0,1,2,3,4,5,6] rfl rfl rfl rfl hcall rfl (pI (E:=E) (m:=m) (m1:=m1) hlS) ?_
    (conv=>whnf)<;>repeat' first|(refine aE ?_;conv=>whnf)|(refine aF ?_;conv=>whnf)
    refine oa rfl rfl (m:=4) (c:=4) rfl rfl (by decide) (by decide) (by decide) ?_;conv=>whnf
    refine ob rfl rfl (bs:=ir) rfl ?_;conv=>whnf
    simp only[List.length_map,l1.rt,l1.rr];refine aJ (k:=aO m1.ram.rf) rfl rfl rfl hf ?_;conv=>whnf
    refine aI rfl rfl rfl (by simpa [l1.rt]using hf) (by decide) ?_;conv=>whnf
    refine aJ (k:=aO m1.ram.rf) rfl rfl rfl hf ?_;conv=>whnf
    refine aI rfl rfl rfl (by simpa [l1.rr]using hf) (by decide) ?_;conv=>whnf
    refine ez (row':=rL ⟨1,aO m1.ram.rf,true,false⟩) rfl rfl rfl (by simpa using hjS1) (oT (fun _=>rfl)) (fv _) rfl rfl rfl ?_;conv=>whnf
    refine aI rfl rfl rfl (by simpa using hjS1) (by decide) ?_;conv=>whnf
    rw[hb0 c0 m1 hrm,kX (by rw[l1.rt];exact hf),kK (by rw[l1.rr];exact hf)];simp only[List.drop_zero,di (show(m1.ram.tx.set (aO m1.ram.rf) ir).length=12 by simp[l1.rt]),di (show(m1.ram.rf.set (aO m1.ram.rf) 1).length=12 by simp[l1.rr])];refine⟨rfl,?_⟩;show _=oH E (aZ m1.ram (aO m1.ram.rf) ir 1) m1.swp m1.hd (spS (aX m1.sp _ j _));rw[←aBz hi5 hxS1];rfl
  ·have c0:¬x.kd=0:=by simpa using c0
   refine CondP.mk (fun c2=>?_) (fun c2=>?_)<;>conv=>whnf
   ·have c2:x.kd=2:=by simpa using c2
    have c1:¬x.kd=1:=by omega
    have hcall:=vc E m (-1) w hE hr;cases hrm:cT m (-1)with
    |none=>
     rw[mW,hrm]at hcall;have hb:=hnone c1 hrm;refine dC (r:=.tup [.one (dI (-1)),.one (dB false)]) (Hr:=oHm E m) [.pass,.pass] [0,1,2,3,4,5,6] rfl rfl rfl rfl hcall rfl (pI (E:=E) (m:=m) (m1:=m) fun _=>rfl) ?_
     (conv=>whnf)<;>repeat' first|(refine aE ?_;conv=>whnf)|(refine aF ?_;conv=>whnf)
     rw[hb];exact⟨rfl,rfl⟩
    |some m1=>
     rw[mW,hrm]at hcall;obtain⟨w1,hf⟩:=w.cT hrm;have l1:=w1.L;have ha:=eD w hrm;have hlS:=wB ha;obtain⟨hxS1,hjS1⟩:=hsome c1 m1 hrm;refine dC (r:=.tup [.one (dI (aO m1.ram.rf)),.one (dB true)]) (Hr:=oHm E m1) [.pass,.pass] [0,1,2,3,4,5,6] rfl rfl rfl rfl hcall rfl (pI (E:=E) (m:=m) (m1:=m1) hlS) ?_
     (conv=>whnf)<;>repeat' first|(refine aE ?_;conv=>whnf)|(refine aF ?_;conv=>whnf)
     obtain⟨f,e1,hf12,hx2,hb⟩:=hb2 c2 m1 hrm;obtain⟨tx,htx⟩:∃tx,m1.swp.tx[f]?=some tx:=⟨_,List.getElem?_eq_getElem (by rw[l1.st];exact hf12)⟩;obtain⟨rf,hrf⟩:∃rf,m1.swp.rf[f]?=some rf:=⟨_,List.getElem?_eq_getElem (by rw[l1.sr];exact hf12)⟩;rw[htx,hrf]at hb;simp only[Option.getD_some]at hb;rw[hb];generalize aO m1.ram.rf=F at*;refine d8 rfl rfl rfl (aq (bB (f:=rL) hxS1) rfl rfl rfl) rfl ?_;conv=>whnf
     simp only[e1,List.length_map,l1.rt,l1.rr,l1.st];refine aJ (k:=f) rfl rfl rfl hf12 ?_;conv=>whnf
     refine d8 rfl rfl rfl (aq (bB (f:=rS) htx) rfl rfl rfl) rfl ?_;conv=>whnf
     simp only[List.length_map,l1.sr];refine aJ (k:=f) rfl rfl rfl hf12 ?_;conv=>whnf
     refine d8 rfl rfl rfl (aq (bB (f:=rI) hrf) rfl rfl rfl) rfl ?_;conv=>whnf
     refine aJ (k:=F) rfl rfl rfl hf ?_;conv=>whnf
     refine aI rfl rfl rfl (by simpa [l1.rt]using hf) (by decide) ?_;conv=>whnf
     refine aJ (k:=F) rfl rfl rfl hf ?_;conv=>whnf
     refine aI rfl rfl rfl (by simpa [l1.rr]using hf) (by decide) ?_;conv=>whnf
     rw[kX (by rw[l1.rt];exact hf),kK (by rw[l1.rr];exact hf)];simp only[List.drop_zero,di l1.st,di l1.sr,di (show(m1.ram.tx.set F tx).length=12 by simp[l1.rt]),di (show(m1.ram.rf.set F rf).length=12 by simp[l1.rr]),List.length_map,l1.st,l1.sr];refine aJ (k:=f) rfl rfl rfl hf12 ?_;conv=>whnf
     refine aI rfl rfl rfl (by simpa [l1.st]using hf12) (by decide) ?_;conv=>whnf
     refine aJ (k:=f) rfl rfl rfl hf12 ?_;conv=>whnf
     refine aI rfl rfl rfl (by simpa [l1.sr]using hf12) (by decide) ?_;conv=>whnf
     rw[kX (by rw[l1.st];exact hf12),kK (by rw[l1.sr];exact hf12)];simp only[List.drop_zero,di (show(m1.swp.tx.set f []).length=12 by simp[l1.st]),di (show(m1.swp.rf.set f 0).length=12 by simp[l1.sr])];have nj1:=nj.same hlS;have hS16:∀i,(spS m1.sp i).length≤16:=fun i=>by
      rcases Nat.lt_or_ge i m1.sp.length with c|c
      ·rw[iM c];exact w1.sl _ (List.getElem_mem c)
      ·rw[nD c];exact Nat.zero_le _
     refine gw [] [.pass,.pass,.pass] [0,1,2,3,4,5,6] J rfl rfl rfl rfl rfl (aB4 E (aZ m1.ram F tx rf) (aZ m1.swp f [] 0) m1.hd (spS m1.sp) Js 2 f hE hr hS16 (by decide) J nj1) (nj1.of (lt7 ⟨rfl,rfl,rfl,rfl,rfl,rfl,rfl⟩)) rfl
      ((cA rfl rfl (by rfl) rfl).trans ((nV rfl rfl (by rfl) rfl).trans ((aN rfl rfl (by rfl)).trans ((aN rfl rfl (by rfl)).trans ((aN rfl rfl (by rfl)).trans ((aN rfl rfl (by rfl)).trans ((aN rfl rfl (by rfl)).trans rfl))))))) ?_
     conv=>whnf
     simp only[List.drop_zero,List.take_length,mz];obtain⟨S,hSe⟩:∃S,spS m1.sp=S:=⟨_,rfl⟩;rw[hSe]at nj1 hS16;simp only[hSe];obtain⟨L,hL⟩:∃L,iy S 2 f 5=L:=⟨_,rfl⟩;simp only[hL,List.length_map];obtain⟨N,hN⟩:∃N,L.length=N:=⟨_,rfl⟩;have hN80:N≤1000:=by have:=nI (Js:=Js) (kd:=2) (pl:=f) hS16 (i:=5);rw[mz,hL,List.length_map,hN]at this;omega
     simp only[hN];refine aU (fun q:Nat=>[(7,.v (.one (.ptr _ j 0))),(10,.v (.one (dI F))),(117,.v (.one (.own 1 (L.map (tkP Js))))),(118,.v (.one (dI N))),(119,.v (.one (dI q)))])
      (fun q=>oH E (aZ m1.ram F tx rf) (aZ m1.swp f [] 0) m1.hd (eP (bp 1 F) S (L.take q))) (fun _=>7)
      (fun q=>q≤N) (fun q=>N-q) 0 (Nat.zero_le _) rfl (by rw[List.take_zero,oi];rfl) rfl fun q hqN=>?_
     conv=>whnf
     refine CondP.mk (fun h6=>?_) (fun h6=>?_)<;>conv=>whnf
     ·have hq:q<L.length:=by
                     have:(q:Int)< (N:Int):=by simpa using h6
                     omega
      obtain⟨i',j',y,he,hi5',hy,hJ⟩:=yp (P:=Try.prog) nj1 hL q hq;have hrow':(L.map (tkP Js))[q]?=some (tk (Js i') j'):=by simp[hq,he,tkP]
      have hst:c8 (2+i') (.arr 4 ((((eP (bp 1 F) S (L.take q) i').map rL).modify j' (fun row=>row.set 0 (.sc (.int .i64 1)))).modify j' (fun row=>row.set 1 (.sc (.int .i64 F)))) []) (oH E (aZ m1.ram F tx rf) (aZ m1.swp f [] 0) m1.hd (eP (bp 1 F) S (L.take q)))=oH E (aZ m1.ram F tx rf) (aZ m1.swp f [] 0) m1.hd (eP (bp 1 F) S (L.take (q+1))):=by have hx':=hZ (f:=bp 1 F) (L:=L.take q) hy;have hjl:=(List.getElem?_eq_some_iff.1 hx').1;rw[la hq he hy,←nE hi5',aY (bB (f:=rL) hx'),aY (List.getElem?_set_self (by simpa using hjl)),List.set_set,←map_set];split<;>rfl
      have hjl:j'< (eP (bp 1 F) S (L.take q) i').length:=(List.getElem?_eq_some_iff.1 (hZ (f:=bp 1 F) (L:=L.take q) hy)).1;obtain⟨S',hS'⟩:∃S',eP (bp 1 F) S (L.take q)=S':=⟨_,rfl⟩;rw[hS']at hst hjl;simp only[hS'];obtain⟨D,hD⟩:∃D,Js i'=D:=⟨_,rfl⟩;rw[hD]at hrow' hJ;have nextq:IntKind.wrap .i64 ((q:Int)+1)=((q+1:Nat):Int):=wrap64 (by omega) (by omega);simp only[List.length_map,hN];refine aJ (k:=q) rfl rfl rfl (by omega) ?_;conv=>whnf
      refine d8 rfl rfl rfl (aq hrow' rfl rfl rfl) rfl ?_;conv=>whnf
      have hc':i'=0∨i'=1∨i'=2∨i'=3∨i'=4:=by omega
      clear hy hD he hS' hi5';rcases hc' with rfl|rfl|rfl|rfl|rfl
      all_goals
       refine fS (i:=j') rfl rfl hJ rfl ?_;conv=>whnf
       refine aI rfl rfl rfl (by simpa using hjl) (by decide) ?_;conv=>whnf
       refine fS (i:=j') rfl rfl hJ rfl ?_;conv=>whnf
       refine aI rfl rfl rfl (by simpa using hjl) (by decide) ?_;conv=>whnf
       refine⟨q+1,by omega,by omega,?_,by rw[←hst];rfl,rfl⟩;rw[nextq,List.take_of_length_le (by simp;omega)];rfl
     ·have hqe:q=N:=by
                  have:¬(q:Int)< (N:Int):=by simpa using h6
                  omega
      subst hqe;have hSt:eP (bp 1 F) S (L.take q)=spS (au 2 f (bp 1 F) m1.sp):=by rw[List.take_of_length_le (by omega),←hL,←hSe];exact oL w1.sp
      simp only[hSt];refine aI rfl rfl rfl (by simpa using(List.getElem?_eq_some_iff.1 hx2).1) (by decide) ?_;conv=>whnf
      refine⟨rfl,?_⟩;show _=oH E (aZ m1.ram F tx rf) (aZ m1.swp f [] 0) m1.hd (spS (aX (au 2 f (bp 1 F) m1.sp) _ j {bp 1 F x with us:=true}));rw[←aB7 hi5 hx2];rfl
   ·have c2:¬x.kd=2:=by simpa using c2
    have c1:x.kd=1:=by omega
    refine aI rfl rfl rfl (by simpa using hjS) (by decide) ?_;conv=>whnf
    rw[hb1 c1];refine⟨rfl,?_⟩;show _=oH E m.ram m.swp m.hd (spS (aX m.sp _ j _));rw[←aB7 hi5 hxS];rfl
end Go.Qm
namespace Go.Qm
open Go.Cq Go.Cq.D Go.RowKit Go.Proofs
set_option maxRecDepth 10000
theorem tN{P:Prg}{ts:DTs}{H:DH}{n:Nat}{K:DT→DTs→DH→Nat→List Nat→Prop}{x y:Opd}{s:Str}{k:Nat}(hx:evS ts x=some (.str s))(hy:fC ts y=some (k:Int))(hk:k<s.length)(h:K (.v (.one (.sc (.int .u8 (s[k].toNat:Int))))) ts H n []):OpP P (.fl (.index x y)) ts H n K:=by refine dS ?_ h;simp only[dfl,hx,hy];rw[if_pos (by omega)];simp[hk]
theorem wm(a:Int):ab Try.prog 79 [.one (dI a)] (.v (.one (dB (inB a 0 63)))):=by
 refine aH hmix Try.func79 ok79 ?_;conv=>whnf
 refine aB [.pass,.pass,.pass] rfl rfl rfl (gp _ _ _) rfl ?_;conv=>whnf
 exact⟨rfl,rfl⟩
def byteOf(t:Str)(k:Nat):Int:=((t[k]?.getD 0).toNat:Int)
def getM(m:Mem)(i:Nat)(a:Nat):Mem×Int×Int:=
 if bE (yw m i) (a / 4:Nat)<0 then(m, -1,2)else match b7 m i (a / 4)with
  |none=>(m, -1,4)
  |some m'=>(m',byteOf (m'.ram.tx[(bG m' i (a / 4)).pl.toNat]?.getD []) (a % 4),0)
theorem aA5{a:Nat}(h:a≤1000):IntKind.wrap .i64 ((a:Int).tdiv 4)=((a / 4:Nat):Int):=by rw[Int.tdiv_eq_ediv_of_nonneg (by omega),wrap64 (by omega) (by omega)];omega
theorem aCj{a:Nat}:(a:Int).tmod 4=((a % 4:Nat):Int):=by rw[Int.tmod_eq_emod_of_nonneg (by omega)];omega
theorem px{b:UInt8}:IntKind.wrap .i64 (b.toNat:Int)=(b.toNat:Int):=by have:=b.toNat_lt;exact wrap64 (by omega) (by omega)
set_option maxHeartbeats 4000000 in
theorem yD(m:Mem)(i a:Nat)(w:Wf m)(hi:i<m.sp.length)(har:∀x,x∈m.sp[i].ar→bc x=true)(hal:m.sp[i].ar.length≤1048576)(hsl:m.sp[i].sl.length=16)(ha:a≤63)(h:m.fits 1048576):
  ab Try.prog 80 [oM m,.one (dI i),.one (dI a)] (.tup [oM (getM m i a).1,.one (dI (getM m i a).2.1),.one (dI (getM m i a).2.2)]):=by
 refine aH hmix Try.func80 ok80 ?_;have hae:yw m i=m.sp[i].ar:=by simp[yw,hi]
 have hj:a / 4<m.sp[i].sl.length:=by omega
 conv=>whnf
 refine dS rfl ?_;conv=>whnf
 simp only[aA5 (show a≤1000 by omega),List.drop_zero,List.take_length];have hg:=bB (f:=rP) (List.getElem?_eq_getElem hi);refine aJ (k:=i) rfl rfl rfl (by simpa using hi) ?_;conv=>whnf
 refine eM (i:=i) (k:=1) (sz':=4) (es':=m.sp[i].ar.map rA) m.sp[i].ar.length rfl rfl rfl (aq hg rfl rfl rfl) rfl (by simp) ?_;conv=>whnf
 refine aB [.lend,.pass] rfl (by show some [DV.one (DC.ro true 4 (List.take _ (List.drop 0 _))),_]=_;rw[List.drop_zero,bz];rfl) rfl (qo true m.sp[i].ar ((a / 4:Nat):Int) (by omega) har) rfl ?_;conv=>whnf
 have hback:(m.sp.map rP).modify i (fun row=>row.set 1 (.sl 4 (m.sp[i].ar.map rA)))=m.sp.map rP:=by rw[aY hg];exact tj hg
 refine bU (i:=i) (k:=1) (g':=8) (lo:=0) (len:=m.sp[i].ar.length) (es2:=m.sp.map rP) (ov2:=[]) rfl (cJ hg (by simp[rP]) (by simp only[az,if_true];rfl)) rfl rfl (by rw[List.drop_zero,bz];exact hback) (by simp only[bW,if_true];rfl) ?_;conv=>whnf
 simp only[List.drop_zero,List.take_length];refine CondP.mk (fun c1=>?_) (fun c1=>?_)<;>conv=>whnf
 ·have c1:bE m.sp[i].ar ((a / 4:Nat):Int)<0:=by simpa using c1
  refine⟨?_,rfl⟩;rw[getM,hae,if_pos c1];simp[oM,dI]
 have c1:¬bE m.sp[i].ar ((a / 4:Nat):Int)<0:=by simpa using c1
 simp only[List.drop_zero,List.take_length];refine aB (cas:=[aM true true true true true m]) [.lend] rfl (by show some [DV.agg [DC.ro true 1 (List.take _ (List.drop 0 _)),DC.ro true 1 (List.take _ (List.drop 0 _)),DC.ro true 1 (List.take _ (List.drop 0 _)),DC.ro true 1 (List.take _ (List.drop 0 _)),DC.ro true 3 (List.take _ (List.drop 0 _)),_]]=_;simp only[List.drop_zero,List.take_length];rfl) rfl (qI true true true true true m h) rfl ?_;conv=>whnf
 have l:=w.L;have hcall:=vI m i (a / 4) w hi hj;have hcas:some [DV.agg [DC.sl 0 0 (m.ram.tx.map rS).length,.sl 1 0 (m.ram.rf.map rI).length,.sl 2 0 (m.swp.tx.map rS).length,.sl 3 0 (m.swp.rf.map rI).length,.sl 4 0 (m.sp.map rP).length,dI m.hd],.one (dI i),.one (dI ((a / 4:Nat):Int))]=some [.agg (cW m.hd),.one (dI i),.one (dI ((a / 4:Nat):Int))]:=by simp only[List.length_map,l.rt,l.rr,l.st,l.sr,l.sp];rfl
 cases hb:b7 m i (a / 4)with
 |none=>
  have hget:getM m i a=(m, -1,4):=by rw[getM,hae,if_neg c1,hb]
  rw[hb]at hcall;refine dC (r:=.tup [.agg (cW m.hd),.one (dB false)]) (Hr:=hM m) [.pass,.pass,.pass] [12,13,14,15,16] rfl hcas rfl rfl hcall rfl (aCk l l rfl rfl rfl rfl rfl rfl) ?_
  (conv=>whnf)<;>repeat' first|(refine aE ?_;conv=>whnf)|(refine aF ?_;conv=>whnf)
  rw[hget];refine⟨?_,rfl⟩;simp[oM,dI]
 |some m'=>
  have w':=w.zo hi hj hb;have l':=w'.L;obtain⟨hi',hj',hk1⟩:=n9 w hi hj hb;obtain⟨k,e1,hk12, -,e4⟩:=w'.at1 _ (List.getElem_mem hi') _ (List.getElem_mem hj') hk1;have hkt:k<m'.ram.tx.length:=by rw[l'.rt];exact hk12
  have e4:m'.ram.tx[k].length=4:=by simpa [hkt]using e4
  have hb4:a % 4<m'.ram.tx[k].length:=by omega
  have hget:getM m i a=(m',(m'.ram.tx[k][a % 4].toNat:Int),0):=by rw[getM,hae,if_neg c1,hb];simp only[ea hi' hj',e1,Int.toNat_natCast,byteOf];simp[hkt,hb4]
  rw[hb]at hcall;refine dC (r:=.tup [.agg (cW m'.hd),.one (dB true)]) (Hr:=hM m') [.pass,.pass,.pass] [12,13,14,15,16] rfl hcas rfl rfl hcall rfl (aCk l l' rfl rfl rfl rfl rfl rfl) ?_
  (conv=>whnf)<;>repeat' first|(refine aE ?_;conv=>whnf)|(refine aF ?_;conv=>whnf)
  have t0:(m'.ram.tx.map rS).take 12=m'.ram.tx.map rS:=List.take_of_length_le (by simp[l'.rt]);have t1:(m'.ram.rf.map rI).take 12=m'.ram.rf.map rI:=List.take_of_length_le (by simp[l'.rr]);have t2:(m'.swp.tx.map rS).take 12=m'.swp.tx.map rS:=List.take_of_length_le (by simp[l'.st]);have t3:(m'.swp.rf.map rI).take 12=m'.swp.rf.map rI:=List.take_of_length_le (by simp[l'.sr]);have t4:(m'.sp.map rP).take 5=m'.sp.map rP:=List.take_of_length_le (by simp[l'.sp]);have hg':=bB (f:=rP) (List.getElem?_eq_getElem hi');simp only[List.drop_zero,t0,t1,t2,t3,t4];refine aJ (k:=i) rfl rfl rfl (by simpa using hi') ?_;conv=>whnf
  refine eM (i:=i) (k:=2) (sz':=4) (es':=m'.sp[i].sl.map rL) m'.sp[i].sl.length rfl rfl rfl (aq hg' rfl rfl rfl) rfl (by simp) ?_;conv=>whnf
  refine aJ (k:=a / 4) rfl rfl rfl hj' ?_;conv=>whnf
  refine d8 rfl rfl rfl (aq (row:=rL m'.sp[i].sl[a / 4]) (by simp[hj']) rfl rfl rfl) rfl ?_;conv=>whnf
  refine aJ (k:=k) rfl rfl (by show some _=some _;rw[e1]) (by simpa using hkt) ?_;conv=>whnf
  refine d8 rfl rfl rfl (aq (row:=rS m'.ram.tx[k]) (by simp[hkt]) rfl rfl rfl) rfl ?_;conv=>whnf
  refine dS rfl ?_;conv=>whnf
  refine tN rfl (by show some ((a:Int).tmod 4)=_;rw[aCj]) hb4 ?_;conv=>whnf
  refine bU (i:=i) (k:=2) (g':=23) (lo:=0) (len:=m'.sp[i].sl.length) (es2:=m'.sp.map rP) (ov2:=[]) rfl (cJ hg' (by simp[rP]) (by simp only[az,if_true];rfl)) rfl rfl (by rw[List.drop_zero,bz];exact fK hi') (by simp only[bW,if_true];rfl) ?_;conv=>whnf
  rw[hget,px];refine⟨?_,rfl⟩;simp[oM,dI]
end Go.Qm
namespace Go.Qm
open Go.Cq Go.Cq.D Go.RowKit Go.Proofs
set_option maxRecDepth 10000
def de(m:Mem)(who a:Int):Mem×Int×Int:=if c6 m&&(ff m.sp who&&inB a 0 63)then getM m who.toNat a.toNat else(jt, -1,1)
set_option maxHeartbeats 1000000 in
theorem vL(m:Mem)(who a:Int)(h:m.fits 1048576):ab Try.prog 31 [oM m,.one (dI who),.one (dI a)] (.tup [oM (de m who a).1,.one (dI (de m who a).2.1),.one (dI (de m who a).2.2)]):=by
 refine aH hmix Try.func31 ok31 ?_;conv=>whnf
 simp only[List.drop_zero,List.take_length];refine aB (cas:=[aM true true true true true m]) [.lend] rfl (by show some [DV.agg [DC.ro true 1 (List.take _ (List.drop 0 _)),DC.ro true 1 (List.take _ (List.drop 0 _)),DC.ro true 1 (List.take _ (List.drop 0 _)),DC.ro true 1 (List.take _ (List.drop 0 _)),DC.ro true 3 (List.take _ (List.drop 0 _)),_]]=_;simp only[List.drop_zero,List.take_length];rfl) rfl (wh true true true true true m (h.mono (by decide))) rfl ?_;conv=>whnf
 refine CondP.mk (fun h1=>?_) (fun h1=>?_)<;>rw[h1]<;>(conv=>whnf)<;>repeat' first|(refine aE ?_;conv=>whnf)|(refine aF ?_;conv=>whnf)
 ·refine⟨?_,rfl⟩;have h1:c6 m=false:=by simpa using h1
  simp[de,h1,oM,jt,dI]
 have h1:c6 m=true:=by simpa using h1
 simp only[List.drop_zero,List.take_length];refine aB (cas:=[aM true true true true true m,.one (dI who)]) [.lend,.pass] rfl (by show some [DV.agg [DC.ro true 1 (List.take _ (List.drop 0 _)),DC.ro true 1 (List.take _ (List.drop 0 _)),DC.ro true 1 (List.take _ (List.drop 0 _)),DC.ro true 1 (List.take _ (List.drop 0 _)),DC.ro true 3 (List.take _ (List.drop 0 _)),_],_]=_;simp only[List.drop_zero,List.take_length];rfl) rfl (xz true true true true true m who (by have:=h.sp;omega)) rfl ?_
 (conv=>whnf)<;>repeat' first|(refine aE ?_;conv=>whnf)|(refine aF ?_;conv=>whnf)
 refine CondP.mk (fun h2=>?_) (fun h2=>?_)<;>rw[h2]<;>(conv=>whnf)<;>repeat' first|(refine aE ?_;conv=>whnf)|(refine aF ?_;conv=>whnf)
 ·refine⟨?_,rfl⟩;have h2:ff m.sp who=false:=by simpa using h2
  simp[de,h2,oM,jt,dI]
 have h2:ff m.sp who=true:=by simpa using h2
 refine aB [.pass] rfl rfl rfl (wm a) rfl ?_
 (conv=>whnf)<;>repeat' first|(refine aE ?_;conv=>whnf)|(refine aF ?_;conv=>whnf)
 refine CondP.mk (fun h3=>?_) (fun h3=>?_)<;>conv=>whnf
 ·refine⟨?_,rfl⟩;have h3:inB a 0 63=false:=by simpa using h3
  simp[de,h3,oM,jt,dI]
 have h3:inB a 0 63=true:=by simpa using h3
 have h4:=h3;simp only[inB,Bool.and_eq_true,decide_eq_true_eq]at h4;obtain⟨c,rfl⟩:=Int.eq_ofNat_of_zero_le h4.1;obtain⟨i,rfl,hi,hlv⟩:=ke h2;obtain⟨ha,hal,hsl⟩:=n8 h1 hi hlv;simp only[List.drop_zero,List.take_length];refine aB (cas:=[aM true true true true true m]) [.lend] rfl (by show some [DV.agg [DC.ro true 1 (List.take _ (List.drop 0 _)),DC.ro true 1 (List.take _ (List.drop 0 _)),DC.ro true 1 (List.take _ (List.drop 0 _)),DC.ro true 1 (List.take _ (List.drop 0 _)),DC.ro true 3 (List.take _ (List.drop 0 _)),_]]=_;simp only[List.drop_zero,List.take_length];rfl) rfl (qI true true true true true m h) rfl ?_;conv=>whnf
 refine aB [.give,.pass,.pass] rfl rfl rfl (by simpa [oM,dI]using yD m i c (nv h1) hi (gf ha) (by omega) hsl (by omega) h) rfl ?_;conv=>whnf
 refine⟨?_,rfl⟩;simp[de,h1,h2,h3,oM,dI]
end Go.Qm
namespace Go.Qm
open Go.Cq Go.Cq.D Go.RowKit Go.Proofs
set_option maxRecDepth 10000
theorem aBX{α:Type}{l:List α}(h:l.length=5):∃a b c d e,l=[a,b,c,d,e]:=
 match l,h with
 | [a,b,c,d,e],_=>⟨a,b,c,d,e,rfl⟩
theorem aAH{P:Prg}{ts:DTs}{H:DH}{n:Nat}{K:DT→DTs→DH→Nat→List Nat→Prop}(es:List Go.Cq.D.Loc)(ms:List M)(ρ:List Nat)(J:Nm){f:FuncId}{args:List Opd}{Hr:DH}{r:DT}(hJ:∀t p,J t=some p→∃g,ρ[t]?=some g∧P.J g=some p)(h5:gO ρ.length Hr=true)(h:wz es ts H n fun ts1 H1 n1=>∃das cas Hc H',dV ts1 args=some das∧f7 H1 ρ ms das=some cas∧dj (fun g=>fI ρ g 0) H1 ρ 0=some Hc∧(nodup ρ&&(nodup (given ms das)&&(bP (given ms das) ρ&&(bP (dO ms das) (given ms das)&&bP (dO ms das) ρ))))=true∧(il P.prog J f cas Hc ρ.length fun x H'=>x=r∧H'=Hr)∧
   aw (fun t=>ρ[t]?) Hr ρ 0 (ep (given ms das) H1)=some H'∧fDT (fp (fun t=>ρ[t]?) r) fun x=>fTs ts1 fun ts1=>fDH H' fun H'=>K x ts1 H' n1 (given ms das++ρ)):OpP P (.call f args) ts H n K:=by
 rw[rQ]at h;obtain⟨das,cas,Hc,H',h1,h2,h3,h4,hc,h6,h⟩:=h;exact gw es ms ρ J rfl h1 h2 h3 h4 hc hJ h5 h6 h
theorem gz{es:List (List PV)}{i:Nat}{s t:Space}(h:es[i]?=some (rP s))(h1:t.lv=s.lv)(h2:t.ar=s.ar):es.modify i (fun row=>row.set 2 (.sl 4 (((t.sl.map rL).drop 0).take t.sl.length)))=es.set i (rP t):=by rw[aY h,List.drop_zero,bz];simp only[rP,h1,h2];rfl
theorem ri{ram swp:Pages}{s0 s1 s2 s3 s4:Space}{hd:Int}{i j:Nat}(w:Wf ⟨ram,swp,[s0,s1,s2,s3,s4],hd⟩):∃(ram' swp':Pages)(t0 t1 t2 t3 t4:Space)(hd':Int),(b7 ⟨ram,swp,[s0,s1,s2,s3,s4],hd⟩ i j).getD ⟨ram,swp,[s0,s1,s2,s3,s4],hd⟩=⟨ram',swp',[t0,t1,t2,t3,t4],hd'⟩∧(t0.lv=s0.lv∧t0.ar=s0.ar∧t0.sl.length=s0.sl.length)∧(t1.lv=s1.lv∧t1.ar=s1.ar∧t1.sl.length=s1.sl.length)∧(t2.lv=s2.lv∧t2.ar=s2.ar∧t2.sl.length=s2.sl.length)∧(t3.lv=s3.lv∧t3.ar=s3.ar∧t3.sl.length=s3.sl.length)∧(t4.lv=s4.lv∧t4.ar=s4.ar∧t4.sl.length=s4.sl.length):=by
 cases hb:b7 ⟨ram,swp,[s0,s1,s2,s3,s4],hd⟩ i j with
 |none=>exact⟨_,_,_,_,_,_,_,_,rfl,⟨rfl,rfl,rfl⟩,⟨rfl,rfl,rfl⟩,⟨rfl,rfl,rfl⟩,⟨rfl,rfl,rfl⟩,⟨rfl,rfl,rfl⟩⟩
 |some m'=>obtain⟨h1,h2⟩:=i4 w hb;obtain⟨ram',swp',sp',hd'⟩:=m';obtain⟨t0,t1,t2,t3,t4,rfl⟩:=aBX (h1.trans rfl);exact⟨_,_,_,_,_,_,_,_,rfl,h2 0 (by simp) (by simp),h2 1 (by simp) (by simp),h2 2 (by simp) (by simp),h2 3 (by simp) (by simp),h2 4 (by simp) (by simp)⟩
theorem aBi{P:Prg}{ρ:List Nat}:∀t p,noJ t=some p→∃g,ρ[t]?=some g∧P.J g=some p:=fun t p e=>by simp[noJ]at e
set_option maxHeartbeats 4000000 in
theorem qC(hc:vM)(b1 b2 b3 b4 b5:Bool)(m:Mem)(who a:Int)(h:m.fits 1048576):ab Try.prog 30 [aM b1 b2 b3 b4 b5 m,.one (dI who),.one (dI a)] (.tup [oM (de m who a).1,.one (dI (de m who a).2.1),.one (dI (de m who a).2.2)]):=by
 refine aH hmix Try.func30 ok30 ?_;conv=>whnf
 refine aB [.pass] rfl rfl rfl (hc b1 b2 b3 b4 b5 m h) rfl ?_;conv=>whnf
 cases h1:c6 m with
 |false=>
  (conv=>whnf)<;>repeat' first|(refine aE ?_;conv=>whnf)|(refine aF ?_;conv=>whnf)
  refine⟨?_,rfl⟩;simp[de,h1,oM,jt,dI]
 |true=>
 (conv=>whnf)<;>repeat' first|(refine aE ?_;conv=>whnf)|(refine aF ?_;conv=>whnf)
 refine aB [.pass,.pass] rfl rfl rfl (aA8 b1 b2 b3 b4 b5 m who (by have:=h.sp;omega)) rfl ?_
 (conv=>whnf)<;>repeat' first|(refine aE ?_;conv=>whnf)|(refine aF ?_;conv=>whnf)
 cases h2:ff m.sp who with
 |false=>
  (conv=>whnf)<;>repeat' first|(refine aE ?_;conv=>whnf)|(refine aF ?_;conv=>whnf)
  refine⟨?_,rfl⟩;simp[de,h2,oM,jt,dI]
 |true=>
 (conv=>whnf)<;>repeat' first|(refine aE ?_;conv=>whnf)|(refine aF ?_;conv=>whnf)
 refine aB [.pass,.pass,.pass] rfl rfl rfl (jD a 0 63) rfl ?_
 (conv=>whnf)<;>repeat' first|(refine aE ?_;conv=>whnf)|(refine aF ?_;conv=>whnf)
 cases h3:inB a 0 63 with
 |false=>
  (conv=>whnf)<;>repeat' first|(refine aE ?_;conv=>whnf)|(refine aF ?_;conv=>whnf)
  refine⟨?_,rfl⟩;simp[de,h3,oM,jt,dI]
 |true=>
 have h4:=h3;simp only[inB,Bool.and_eq_true,decide_eq_true_eq]at h4;obtain⟨c,rfl⟩:=Int.eq_ofNat_of_zero_le h4.1;obtain⟨i,rfl,hi,hlv⟩:=ke h2;obtain⟨ha,hal,hsl⟩:=n8 h1 hi hlv;have hae:yw m i=m.sp[i].ar:=by simp[yw,hi]
 have hget:de m i c=getM m i c:=by simp[de,h1,h2,h3]
 have hat:cx m.sp[i].ar ((c / 4:Nat):Int)=bE m.sp[i].ar ((c / 4:Nat):Int):=by rw[cx,if_pos ha]
 rw[hget]
 (conv=>whnf)<;>repeat' first|(refine aE ?_;conv=>whnf)|(refine aF ?_;conv=>whnf)
 refine aB [.pass] rfl rfl rfl (mV b1 b2 b3 b4 b5 m h) rfl ?_;conv=>whnf
 refine aG (k:=i) rfl rfl (by simpa using hi) ?_;conv=>whnf
 refine aC rfl (r:=.one (.ro b5 4 (m.sp[i].ar.map rA))) (by simp[aV,rP,hi]) ?_;conv=>whnf
 refine dS rfl ?_;conv=>whnf
 simp only[aA5 (show c≤1000 by omega)];refine aB [.pass,.pass] rfl rfl rfl (kc b5 m.sp[i].ar ((c / 4:Nat):Int) (by omega)) rfl ?_;conv=>whnf
 rw[hat];refine CondP.mk (fun c1=>?_) (fun c1=>?_)<;>conv=>whnf
 ·have c1:bE m.sp[i].ar ((c / 4:Nat):Int)<0:=by simpa using c1
  refine⟨?_,rfl⟩;rw[getM,hae,if_pos c1];simp[oM,dI]
 have c1:¬bE m.sp[i].ar ((c / 4:Nat):Int)<0:=by simpa using c1
 have w:=nv h1;have hj:c / 4<m.sp[i].sl.length:=by omega
 refine dS rfl ?_;conv=>whnf
 simp only[aA5 (show c≤1000 by omega),List.drop_zero,List.take_length];obtain⟨ram,swp,sp,hd⟩:=m;obtain⟨s0,s1,s2,s3,s4,rfl⟩:=aBX w.sp;have hcall:=aAQ ([s0,s1,s2,s3,s4].map rP) ⟨ram,swp,[s0,s1,s2,s3,s4],hd⟩ i (c / 4) w rfl (by simp[rP]) hi hj;obtain⟨ram',swp',t0,t1,t2,t3,t4,hd',hm',p0,p1,p2,p3,p4⟩:=ri (i:=i) (j:=c / 4) w;rw[hm']at hcall;refine aAH (Hr:=oHm ([s0,s1,s2,s3,s4].map rP) ⟨ram',swp',[t0,t1,t2,t3,t4],hd'⟩) (r:=.v (.one (dB (b7 ⟨ram,swp,[s0,s1,s2,s3,s4],hd⟩ i (c / 4)).isSome))) [.h 2 0 4,.h 3 4 2,.h 3 3 2,.h 3 2 2,.h 3 1 2,.h 3 0 2] [.pass,.pass,.pass] [2,3,8,7,6,5,4] noJ aBi rfl ?_;conv=>whnf
 simp only[List.length_map];refine⟨_,_,_,_,rfl,rfl,rfl,rfl,hcall.toJ,(cA rfl rfl (by rfl) rfl).trans ((nV rfl rfl (by rfl) rfl).trans ((aN rfl rfl (by simp[spS,p0.2.2])).trans ((aN rfl rfl (by simp[spS,p1.2.2])).trans ((aN rfl rfl (by simp[spS,p2.2.2])).trans ((aN rfl rfl (by simp[spS,p3.2.2])).trans ((aN rfl rfl (by simp[spS,p4.2.2])).trans rfl)))))),?_⟩;conv=>whnf
 refine bU (lo:=0) (len:=t0.sl.length) rfl rfl rfl rfl (gz (t:=t0) rfl p0.1 p0.2.1) rfl ?_;conv=>whnf
 refine bU (lo:=0) (len:=t1.sl.length) rfl rfl rfl rfl (gz (t:=t1) rfl p1.1 p1.2.1) rfl ?_;conv=>whnf
 refine bU (lo:=0) (len:=t2.sl.length) rfl rfl rfl rfl (gz (t:=t2) rfl p2.1 p2.2.1) rfl ?_;conv=>whnf
 refine bU (lo:=0) (len:=t3.sl.length) rfl rfl rfl rfl (gz (t:=t3) rfl p3.1 p3.2.1) rfl ?_;conv=>whnf
 refine bU (lo:=0) (len:=t4.sl.length) (es2:=[t0,t1,t2,t3,t4].map rP) rfl rfl rfl rfl ((gz (t:=t4) rfl p4.1 p4.2.1).trans rfl) rfl ?_;conv=>whnf
 cases hb:b7 ⟨ram,swp,[s0,s1,s2,s3,s4],hd⟩ i (c / 4)with
 |none=>
  (conv=>whnf)<;>repeat' first|(refine aE ?_;conv=>whnf)|(refine aF ?_;conv=>whnf)
  refine aB [.pass] rfl rfl rfl (mV b1 b2 b3 b4 b5 ⟨ram,swp,[s0,s1,s2,s3,s4],hd⟩ h) rfl ?_;conv=>whnf
  refine⟨?_,rfl⟩;rw[getM,hae,if_neg c1,hb];simp[oM,dI]
 |some m'=>
  rw[hb,Option.getD_some]at hm';subst hm';obtain⟨hi',hj',hk1⟩:=n9 w hi hj hb
  (conv=>whnf)<;>repeat' first|(refine aE ?_;conv=>whnf)|(refine aF ?_;conv=>whnf)
  have ht5:List.take 5 (List.map rP [t0,t1,t2,t3,t4])=List.map rP [t0,t1,t2,t3,t4]:=rfl;dsimp only;simp only[List.drop_zero,ht5];have w':=w.zo hi hj hb;have l':=w'.L;obtain⟨k,e1,hk12, -,e4⟩:=w'.at1 _ (List.getElem_mem hi') _ (List.getElem_mem hj') hk1;have hkt:k<ram'.tx.length:=by rw[l'.rt];exact hk12
  have e4:ram'.tx[k].length=4:=by simpa [hkt]using e4
  have hb4:c % 4<ram'.tx[k].length:=by omega
  have hget:getM ⟨ram,swp,[s0,s1,s2,s3,s4],hd⟩ i c=(⟨ram',swp',[t0,t1,t2,t3,t4],hd'⟩,(ram'.tx[k][c % 4].toNat:Int),0):=by rw[getM,hae,if_neg c1,hb];simp only[ea hi' hj',e1,Int.toNat_natCast,byteOf];simp[hkt,hb4]
  rw[hget];clear p0 p1 p2 p3 p4 ht5 hcall hb hget w' l' hk1;generalize hsp':[t0,t1,t2,t3,t4]=sp' at*;dsimp only at hi' hj' e1;have hg':=bB (f:=rP) (List.getElem?_eq_getElem hi');refine aJ (k:=i) rfl rfl rfl (by simpa using hi') ?_;conv=>whnf
  refine eM (i:=i) (k:=2) (sz':=4) (es':=sp'[i].sl.map rL) sp'[i].sl.length rfl rfl rfl (aq hg' rfl rfl rfl) rfl (by simp) ?_;conv=>whnf
  refine dS rfl ?_;conv=>whnf
  simp only[aA5 (show c≤1000 by omega)];refine aJ (k:=c / 4) rfl rfl rfl hj' ?_;conv=>whnf
  refine d8 rfl rfl rfl (aq (row:=rL sp'[i].sl[c / 4]) (by simp[hj']) rfl rfl rfl) rfl ?_;conv=>whnf
  refine aJ (k:=k) rfl rfl (by show some _=some _;rw[e1]) (by simpa using hkt) ?_;conv=>whnf
  refine d8 rfl rfl rfl (aq (row:=rS ram'.tx[k]) (by simp[hkt]) rfl rfl rfl) rfl ?_;conv=>whnf
  refine dS rfl ?_;conv=>whnf
  refine tN rfl (by show some ((c:Int).tmod 4)=_;rw[aCj]) hb4 ?_;conv=>whnf
  refine bU (i:=i) (k:=2) (g':=8) (lo:=0) (len:=sp'[i].sl.length) (es2:=sp'.map rP) (ov2:=[]) rfl (cJ hg' (by simp[rP]) (by simp only[az,if_true];rfl)) rfl rfl (by rw[List.drop_zero,bz];exact fK hi') (by simp only[bW,if_true];rfl) ?_;conv=>whnf
  rw[px];refine⟨?_,rfl⟩;simp[oM,dI]
end Go.Qm
namespace Go.Qm
open Go.Cq Go.Cq.D Go.RowKit Go.Proofs
set_option maxRecDepth 10000
theorem Wf.small{m m':Mem}(w:Wf m')(hs:iQ m.sp m'.sp)(h:m.fits 16):m'.fits 16:=by
 refine⟨by rw[w.ram.tx];omega,by rw[w.ram.rf];omega,by rw[w.swp.tx];omega,by rw[w.swp.rf];omega,by rw[w.sp];omega,fun s hs'=>?_⟩;obtain⟨q,hq,rfl⟩:=List.getElem_of_mem hs';have hq':q<m.sp.length:=by rw[←hs.1];exact hq
 obtain⟨-,e2,e3⟩:=hs.2 q hq' hq;rw[e2,e3];exact h.ss _ (List.getElem_mem hq')
theorem vR:jt.fits 16:=⟨by simp[jt],by simp[jt],by simp[jt],by simp[jt],by simp[jt],fun s hs=>by simp[jt]at hs⟩
theorem qg{m:Mem}{who a:Int}:(de m who a).1.fits 16:=by
 unfold de;split
 ·rename_i h;simp only[Bool.and_eq_true]at h;have w:=nv h.1;have hs:=sb h.1;unfold getM;split
  ·exact hs
  ·split
   ·exact hs
   ·rename_i m' hb;obtain⟨i,hi,hi',hlv⟩:=ke h.2.1;have h4:=h.2.2;simp only[inB,Bool.and_eq_true,decide_eq_true_eq]at h4;rw[hi,Int.toNat_natCast]at hb;have hsl:=(n8 h.1 hi' hlv).2.2;exact(w.zo hi' (by omega) hb).small (i4 w hb) hs
 ·exact vR
set_option maxHeartbeats 4000000 in
theorem qy(hc:vM)(b1 b2 b3 b4 b5:Bool)(m:Mem)(who a:Int)(hw:m.inW):ab Try.prog 11 [aM b1 b2 b3 b4 b5 m,.one (dI who),.one (dI a)] (.v (.one (dB true))):=by
 refine aH hmix Try.func11 ok11 ?_
 conv=>whnf
 refine aB [.pass,.pass] rfl rfl rfl (yW b1 b2 b3 b4 b5 m 1048576 (by omega) (by omega) hw) rfl ?_
 conv=>whnf
 refine CondP.mk (fun h1=>?_) (fun h1=>?_)<;>conv=>whnf
 ·exact⟨rfl,rfl⟩
 have h1:0≤mD 1048576 m:=by simpa using h1
 obtain⟨hf,hwt⟩:=zm (by omega) h1 (by omega)
 refine aB [.pass] rfl rfl rfl (kj b1 b2 b3 b4 b5 m hf) rfl ?_
 conv=>whnf
 refine aB [.give,.pass,.pass] rfl rfl rfl (by simpa [oM,dI]using vL m who a hf) rfl ?_
 conv=>whnf
 generalize hr:de m who a=r
 have hsm:r.1.fits 16:=by rw[←hr];exact qg
 refine aB [.pass] rfl rfl rfl (kj b1 b2 b3 b4 b5 m hf) rfl ?_
 conv=>whnf
 simp only[List.drop_zero,List.take_length]
 have heq:ab Try.prog 26 [aM true true true true true r.1,aM true true true true true r.1] (.v (.one (dB true))):=by
  simpa using rZ true true true true true true true true true true r.1 r.1 (hsm.mono (by decide))
 refine aB (cas:=[aM true true true true true m,.one (dI who),.one (dI a)]) [.lend,.pass,.pass] rfl (by show some [DV.agg [DC.ro true 1 (List.take _ (List.drop 0 _)),DC.ro true 1 (List.take _ (List.drop 0 _)),DC.ro true 1 (List.take _ (List.drop 0 _)),DC.ro true 1 (List.take _ (List.drop 0 _)),DC.ro true 3 (List.take _ (List.drop 0 _)),_],_,_]=_;simp only[List.drop_zero,List.take_length];rfl) rfl (qC hc true true true true true m who a hf) rfl ?_
 conv=>whnf
 simp only[hr,List.drop_zero,List.take_length]
 refine aB (cas:=[aM true true true true true r.1,aM true true true true true r.1]) [.lend,.lend] rfl (by show some [DV.agg [DC.ro true 1 (List.take _ (List.drop 0 _)),DC.ro true 1 (List.take _ (List.drop 0 _)),DC.ro true 1 (List.take _ (List.drop 0 _)),DC.ro true 1 (List.take _ (List.drop 0 _)),DC.ro true 3 (List.take _ (List.drop 0 _)),_],DV.agg [DC.ro true 1 (List.take _ (List.drop 0 _)),DC.ro true 1 (List.take _ (List.drop 0 _)),DC.ro true 1 (List.take _ (List.drop 0 _)),DC.ro true 1 (List.take _ (List.drop 0 _)),DC.ro true 3 (List.take _ (List.drop 0 _)),_]]=_;simp only[List.drop_zero,List.take_length];rfl) rfl heq rfl ?_
 (conv=>whnf)<;>repeat' first|(refine aE ?_;conv=>whnf)|(refine aF ?_;conv=>whnf)
 repeat (simp only;(conv=>whnf)<;>repeat' first|(refine aE ?_;conv=>whnf)|(refine aF ?_;conv=>whnf))
 refine aB [.pass] rfl rfl rfl (kj b1 b2 b3 b4 b5 m hf) rfl ?_
 conv=>whnf
 have heq2:ab Try.prog 26 [aM true true true true true m,aM true true true true true m] (.v (.one (dB true))):=by
  simpa using rZ true true true true true true true true true true m m (hf.mono (by decide))
 simp only[List.drop_zero,List.take_length]
 refine aB (cas:=[aM true true true true true m,aM true true true true true m]) [.lend,.lend] rfl (by show some [DV.agg [DC.ro true 1 (List.take _ (List.drop 0 _)),DC.ro true 1 (List.take _ (List.drop 0 _)),DC.ro true 1 (List.take _ (List.drop 0 _)),DC.ro true 1 (List.take _ (List.drop 0 _)),DC.ro true 3 (List.take _ (List.drop 0 _)),_],DV.agg [DC.ro true 1 (List.take _ (List.drop 0 _)),DC.ro true 1 (List.take _ (List.drop 0 _)),DC.ro true 1 (List.take _ (List.drop 0 _)),DC.ro true 1 (List.take _ (List.drop 0 _)),DC.ro true 3 (List.take _ (List.drop 0 _)),_]]=_;simp only[List.drop_zero,List.take_length];rfl) rfl heq2 rfl ?_
 (conv=>whnf)<;>repeat' first|(refine aE ?_;conv=>whnf)|(refine aF ?_;conv=>whnf)
 simp only[List.drop_zero,List.take_length]
 simp only[List.length_map]
 refine eA [.pass,.pass] [24,25,26,27,28] rfl rfl rfl rfl (nr m 1 hf (by omega) (by omega)) fun res H3 hp=>?_
 obtain⟨rfl,rfl⟩:=hp
 refine⟨rfl,rfl,_,(aN rfl rfl (by simp[cn,bZ,ah])).trans ((aN rfl rfl (by simp[cn,bZ,ah])).trans ((aN rfl rfl (by simp[cn,bZ,ah])).trans ((aN rfl rfl (by simp[cn,bZ,ah])).trans ((aN rfl rfl (by simp[cn,bZ,ah])).trans rfl)))),?_⟩
 (conv=>whnf)<;>repeat' first|(refine aE ?_;conv=>whnf)|(refine aF ?_;conv=>whnf)
 refine aB (cas:=[aM true true true true true r.1,aM true true true true true r.1]) [.lend,.lend] rfl (by show some [DV.agg [DC.ro true 1 (List.take _ (List.drop 0 _)),DC.ro true 1 (List.take _ (List.drop 0 _)),DC.ro true 1 (List.take _ (List.drop 0 _)),DC.ro true 1 (List.take _ (List.drop 0 _)),DC.ro true 3 (List.take _ (List.drop 0 _)),_],DV.agg [DC.ro true 1 (List.take _ (List.drop 0 _)),DC.ro true 1 (List.take _ (List.drop 0 _)),DC.ro true 1 (List.take _ (List.drop 0 _)),DC.ro true 1 (List.take _ (List.drop 0 _)),DC.ro true 3 (List.take _ (List.drop 0 _)),_]]=_;simp only[List.drop_zero,List.take_length];rfl) rfl heq rfl ?_
 (conv=>whnf)<;>repeat' first|(refine aE ?_;conv=>whnf)|(refine aF ?_;conv=>whnf)
 repeat (simp only;(conv=>whnf)<;>repeat' first|(refine aE ?_;conv=>whnf)|(refine aF ?_;conv=>whnf))
 simp only[List.drop_zero,List.take_length]
 simp only[List.length_map]
 have hwr:=yI hsm
 refine eA [.pass,.pass] [24,25,26,27,28] rfl rfl rfl rfl (nr r.1 1 (hsm.mono (by decide)) (by omega) (by omega)) fun res H3 hp=>?_
 obtain⟨rfl,rfl⟩:=hp
 refine⟨rfl,rfl,_,(aN rfl rfl (by simp[cn,bZ,ah])).trans ((aN rfl rfl (by simp[cn,bZ,ah])).trans ((aN rfl rfl (by simp[cn,bZ,ah])).trans ((aN rfl rfl (by simp[cn,bZ,ah])).trans ((aN rfl rfl (by simp[cn,bZ,ah])).trans rfl)))),?_⟩
 conv=>whnf
 have e1:List.take r.1.ram.tx.length (List.map rS (cn 1 r.1).ram.tx)=List.map rS (cn 1 r.1).ram.tx:=List.take_of_length_le (by simp[cn,bZ,ah])
 have e2:List.take r.1.ram.rf.length (List.map rI (cn 1 r.1).ram.rf)=List.map rI (cn 1 r.1).ram.rf:=List.take_of_length_le (by simp[cn,bZ,ah])
 have e3:List.take r.1.swp.tx.length (List.map rS (cn 1 r.1).swp.tx)=List.map rS (cn 1 r.1).swp.tx:=List.take_of_length_le (by simp[cn,bZ,ah])
 have e4:List.take r.1.swp.rf.length (List.map rI (cn 1 r.1).swp.rf)=List.map rI (cn 1 r.1).swp.rf:=List.take_of_length_le (by simp[cn,bZ,ah])
 have e5:List.take r.1.sp.length (List.map rP (cn 1 r.1).sp)=List.map rP (cn 1 r.1).sp:=List.take_of_length_le (by simp[cn,bZ,ah])
 simp only[List.drop_zero,e1,e2,e3,e4,e5]
 generalize hg:cn 1 r.1=g at*
 have hgf:g.fits 1048576:=by rw[←hg];exact aA9.2 (hsm.mono (by decide))
 have hgw:g.wt=r.1.wt:=by rw[←hg];exact zG
 have hheld:ab Try.prog 28 [aM true true true true true g,.one (dI 1)] (.v (.one (dI (1+r.1.wt)))):=by
  have:=vZ true true true true true g 1 hgf (by omega) (by omega)
  rw[←hg,aCL]at this
  rw[←hg]
  exact this
 have ehd:r.1.hd=g.hd:=by rw[←hg];rfl
 simp only[ehd]
 refine aB (cas:=[aM true true true true true g,.one (dI 1)]) [.lend,.pass] rfl (by show some [DV.agg [DC.ro true 1 (List.take _ (List.drop 0 _)),DC.ro true 1 (List.take _ (List.drop 0 _)),DC.ro true 1 (List.take _ (List.drop 0 _)),DC.ro true 1 (List.take _ (List.drop 0 _)),DC.ro true 3 (List.take _ (List.drop 0 _)),_],_]=_;simp only[List.drop_zero,List.take_length];rfl) rfl hheld rfl ?_
 (conv=>whnf)<;>repeat' first|(refine aE ?_;conv=>whnf)|(refine aF ?_;conv=>whnf)
 refine CondP.mk (fun h=>by simp at h) (fun _=>?_)
 conv=>whnf
 refine aB [.pass] rfl rfl rfl (kj b1 b2 b3 b4 b5 m hf) rfl ?_
 conv=>whnf
 simp only[List.drop_zero,List.take_length]
 refine aB (cas:=[aM true true true true true m,.one (dI who),.one (dI a)]) [.lend,.pass,.pass] rfl (by show some [DV.agg [DC.ro true 1 (List.take _ (List.drop 0 _)),DC.ro true 1 (List.take _ (List.drop 0 _)),DC.ro true 1 (List.take _ (List.drop 0 _)),DC.ro true 1 (List.take _ (List.drop 0 _)),DC.ro true 3 (List.take _ (List.drop 0 _)),_],_,_]=_;simp only[List.drop_zero,List.take_length];rfl) rfl (qC hc true true true true true m who a hf) rfl ?_
 conv=>whnf
 simp only[hr,List.drop_zero,List.take_length]
 refine aB (cas:=[aM true true true true true r.1,aM true true true true true r.1]) [.lend,.lend] rfl (by show some [DV.agg [DC.ro true 1 (List.take _ (List.drop 0 _)),DC.ro true 1 (List.take _ (List.drop 0 _)),DC.ro true 1 (List.take _ (List.drop 0 _)),DC.ro true 1 (List.take _ (List.drop 0 _)),DC.ro true 3 (List.take _ (List.drop 0 _)),_],DV.agg [DC.ro true 1 (List.take _ (List.drop 0 _)),DC.ro true 1 (List.take _ (List.drop 0 _)),DC.ro true 1 (List.take _ (List.drop 0 _)),DC.ro true 1 (List.take _ (List.drop 0 _)),DC.ro true 3 (List.take _ (List.drop 0 _)),_]]=_;simp only[List.drop_zero,List.take_length,aM,ehd,dI]) rfl heq rfl ?_
 (conv=>whnf)<;>repeat' first|(refine aE ?_;conv=>whnf)|(refine aF ?_;conv=>whnf)
 repeat (simp only;(conv=>whnf)<;>repeat' first|(refine aE ?_;conv=>whnf)|(refine aF ?_;conv=>whnf))
 refine aB (cas:=[aM true true true true true g,.one (dI 1)]) [.lend,.pass] rfl (by show some [DV.agg [DC.ro true 1 (List.take _ (List.drop 0 _)),DC.ro true 1 (List.take _ (List.drop 0 _)),DC.ro true 1 (List.take _ (List.drop 0 _)),DC.ro true 1 (List.take _ (List.drop 0 _)),DC.ro true 3 (List.take _ (List.drop 0 _)),_],_]=_;simp only[List.drop_zero,List.take_length];rfl) rfl hheld rfl ?_
 (conv=>whnf)<;>repeat' first|(refine aE ?_;conv=>whnf)|(refine aF ?_;conv=>whnf)
 refine CondP.mk (fun h=>by simp at h) (fun _=>?_)
 conv=>whnf
 exact⟨rfl,rfl⟩
end Go.Qm

