import Derived.Test.YthdipcbjhhopaaaTb
namespace Go.Cq.D
def eP(I:Nm)(Fp:Loc→Nat→Prop)(g id:Nat):Prop:=(∃b s,I g=some (id,b,s))∨∃i k,Fp (.h g i k) id
def jx(g sz:Nat)(es:List (List PV)):DC→DC
 |.sl g' lo len=>cond (Nat.beq g' g) (.ro false sz ((es.drop lo).take len)) (.sl g' lo len)
 |.ptr g' i k=>cond (Nat.beq g' g) (.rp false sz es i k) (.ptr g' i k)
 |c=>c
def DV.map(f:DC→DC):DV→DV
 |.one c=>.one (f c)
 |.agg cs=>.agg (cs.map f)
def DT.map(f:DC→DC):DT→DT
 |.v x=>.v (x.map f)
 |.tup l=>.tup (l.map (DV.map f))
 |.gone=>.gone
def DB.map(f:DC→DC):DB→DB
 |.arr sz es ov=>.arr sz es (ov.map fun p=>(p.1,p.2.1,f p.2.2))
 |.box cs=>.box (cs.map f)
def pH(f:DC→DC):DTs→DTs
 | []=>[]
 | (t,x)::l=>(t,x.map f)::pH f l
def qN(f:DC→DC):DH→DH
 | []=>[]
 | (g,d)::l=>(g,d.map f)::qN f l
def freeze(g:Nat)(ts:DTs)(H:DH):DTs×DH:=match aG H g with
 |some (.arr sz es [])=>(pH (jx g sz es) ts,qN (jx g sz es) (eM g H))
 |_=>(ts,H)
theorem rE{f:DC→DC}{ts:DTs}{t:Nat}:an (pH f ts) t=(an ts t).map (DT.map f):=by
 induction ts with
 |nil=>rfl
 |cons p l ih=>obtain⟨k,x⟩:=p;simp only[pH,bK,ih];split<;>rfl
theorem mU{f:DC→DC}{H:DH}{g:Nat}:aG (qN f H) g=(aG H g).map (DB.map f):=by
 induction H with
 |nil=>rfl
 |cons p l ih=>obtain⟨k,x⟩:=p;simp only[qN,aW,ih];split<;>rfl
theorem DV.jK{f:DC→DC}{x:DV}{k:Nat}:(x.map f).cell k=(x.cell k).map f:=by
 cases x with
 |one c=>simp only[DV.map,DV.cell];split<;>rfl
 |agg cs=>simp only[DV.map,DV.cell,List.getElem?_map]
theorem DT.jK{f:DC→DC}{x:DT}{j k:Nat}:(x.map f).cell j k=(x.cell j k).map f:=by
 cases x with
 |v y=>
      simp only[DT.map,DT.cell];split
      ·exact DV.jK
      ·rfl
 |tup l=>
  simp only[DT.map,DT.cell,List.getElem?_map];cases l[j]? with
  |none=>rfl
  |some y=>simp only[Option.map_some,Option.bind_some];exact DV.jK
 |gone=>rfl
theorem xt{f:DC→DC}{ov:List (Nat×Nat×DC)}{i k:Nat}:ab (ov.map fun p=>(p.1,p.2.1,f p.2.2)) i k=(ab ov i k).map f:=by
 induction ov with
 |nil=>rfl
 |cons p l ih=>
  obtain⟨i0,k0,x⟩:=p;simp only[List.map_cons,ab,ih];cases Nat.beq k0 k with
  |true=>simp only[cond_true];split<;>rfl
  |false=>rfl
theorem DB.jK{f:DC→DC}(hf:∀p:PV,f p.dc=p.dc){x:DB}{i k:Nat}:(x.map f).cell i k=(x.cell i k).map f:=by
 cases x with
 |box cs=>simp only[DB.map,DB.cell,List.getElem?_map];split<;>rfl
 |arr sz es ov=>
  simp only[DB.map,DB.cell,xt];cases (es[i]?).bind (·[k]?)with
  |none=>rfl
  |some p=>
   simp only;cases ab ov i k with
   |none=>simp[hf]
   |some y=>rfl
theorem zT{f:DC→DC}(hf:∀p:PV,f p.dc=p.dc){ts:DTs}{H:DH}{ℓ:Loc}:aa (pH f ts) (qN f H) ℓ=(aa ts H ℓ).map f:=by
 cases ℓ with
 |t s j k=>
  simp only[aa,rE];cases an ts s with
  |none=>rfl
  |some x=>simp only[Option.map_some,Option.bind_some];exact DT.jK
 |h g i k=>
  simp only[aa,mU];cases aG H g with
  |none=>rfl
  |some x=>simp only[Option.map_some,Option.bind_some];exact DB.jK hf
theorem aCL(g sz:Nat)(es:List (List PV))(p:PV):jx g sz es p.dc=p.dc:=by cases p<;>rfl
theorem OwR.aEB{h:Heap}{N:Bool→Nat→Prop}{M:Nat→Prop}(hN:∀id,N false id→M id){p:PV}{c:CV}{F:Nat→Prop}(ho:OwR h N p c F):(∀id,F id→M id)→RoR h M p c:=by
 induction ho with
 |sc hv=>intro _;exact .sc hv
 |ro hr=>intro _;exact .ro (hr.local fun id hid=>⟨rfl,hN id hid⟩)
 |nil=>intro _;exact .nil
 |sl hF hr hc hs hd ih=>intro hFN;exact .sl (hFN _ hF) hr fun i row k p e1 e2=>ih i row k p e1 e2 fun id hid=>hFN id (hs _ _ _ hid).1
theorem tl{f:DC→DC}{x:DV}{y:V1}(h:fj x y):fj (x.map f) y:=by cases x<;>cases y<;>simp_all[fj,DV.map]
theorem aC7{f:DC→DC}{x:DT}{y:CVal}(h:tSh x y):tSh (x.map f) y:=by
 cases x with
 |v x=>cases y with
  |v y=>exact tl (x:=x) (y:=y) h
  |tup l=>exact h.elim
  |gone=>exact h.elim
 |tup l=>cases y with
  |v y=>exact h.elim
  |tup m=>
   refine⟨by simpa [DT.map]using h.1,fun j x y hx hy=>?_⟩;simp only[List.getElem?_map]at hx;cases hl:l[j]? with
   |none=>rw[hl]at hx;simp at hx
   |some z=>rw[hl]at hx;simp only[Option.map_some,Option.some.injEq]at hx;subst hx;exact tl (h.2 j z y hl hy)
  |gone=>exact h.elim
 |gone=>trivial
theorem zH{f:DC→DC}{h:Heap}{I:Nm}{g:Nat}{d:DB}(hb:eZ h I g d):eZ h I g (d.map f):=by
 cases d with
 |box cs=>obtain⟨id,b,h1,h2,h3⟩:=hb;exact⟨id,b,h1,h2,by simpa using h3⟩
 |arr sz es ov=>exact hb
theorem y8{g sz:Nat}{es:List (List PV)}{c:DC}{g':Nat}(h:g'∈(jx g sz es c).tags):g'∈c.tags:=by
 cases c with
 |sl a lo len=>simp only[jx]at h;cases hb:Nat.beq a g<;>rw[hb]at h<;>simp_all[DC.tags]
 |ptr a i k=>simp only[jx]at h;cases hb:Nat.beq a g<;>rw[hb]at h<;>simp_all[DC.tags]
 |_=>exact h
def ud(g:Nat)(Fp:Loc→Nat→Prop):Loc→Nat→Prop
 |.h g' i k=>if g'=g then fun _=>False else Fp (.h g' i k)
 |.t s j k=>Fp (.t s j k)
theorem R.freeze{N:Bool→Nat→Prop}{I:Nm}{Fp:Loc→Nat→Prop}{ts:DTs}{H:DH}{n:Nat}{cts:Ts}{h:Heap}{U:Nat→Prop}(hr:R none N I Fp ts H n cts h U){g sz:Nat}{es:List (List PV)}(hg:aG H g=some (.arr sz es [])):
  R none (fun b id=>N b id∨eP I Fp g id) I (ud g Fp) (pH (jx g sz es) ts) (qN (jx g sz es) (eM g H)) n cts h U:=by
 have hH:∀g' d',aG (qN (jx g sz es) (eM g H)) g'=some d'→g'≠g∧∃d,aG H g'=some d∧d'=d.map (jx g sz es):=fun g' d' hd=>by
  rw[mU,dF]at hd;split at hd
  ·simp at hd
  ·rename_i e;simp only[Option.map_eq_some_iff]at hd;obtain⟨d,h1,h2⟩:=hd;exact⟨e,d,h1,h2.symm⟩
 have hC:∀ℓ x',aa (pH (jx g sz es) ts) (qN (jx g sz es) (eM g H)) ℓ=some x'→∃x,aa ts H ℓ=some x∧x'=jx g sz es x∧(∀i k,ℓ≠ .h g i k):=fun ℓ x' hx=>by
  rw[zT (aCL g sz es)]at hx;simp only[Option.map_eq_some_iff]at hx;obtain⟨x,h1,h2⟩:=hx;cases ℓ with
  |t s j k=>exact⟨x,h1,h2.symm,fun _ _=>by simp⟩
  |h g' i k=>
   simp only[aa,dF]at h1;split at h1
   ·simp at h1
   ·rename_i e;exact⟨x,h1,h2.symm,fun i' k' e'=>by injection e' with e1;exact e e1⟩
 have hFle:∀ℓ id,ud g Fp ℓ id→Fp ℓ id∧∀i k,ℓ≠ .h g i k:=fun ℓ id hid=>by
  cases ℓ with
  |t s j k=>exact⟨hid,fun _ _=>by simp⟩
  |h g' i k=>
   simp only[ud]at hid;split at hid
   ·exact hid.elim
   ·rename_i e;exact⟨hid,fun i' k' e'=>by injection e' with e1;exact e e1⟩
 have hFge:∀ℓ id,Fp ℓ id→(∀i k,ℓ≠ .h g i k)→ud g Fp ℓ id:=fun ℓ id hid hne=>by
  cases ℓ with
  |t s j k=>exact hid
  |h g' i k=>
   have:g'≠g:=fun e=>hne i k (by rw[e])
   simp only[ud,this,if_false];exact hid
 refine⟨fun t x hx=>?_,fun g' d' hd=>?_,fun ℓ x' _ hx=>?_,fun ℓ x' g' hx hg'=>?_,fun g' d' hd=>?_,fun g1 g2 d1 d2 id b s b' s' h1 h2 e1 e2=>?_,fun ℓ g' d' id b s h1 h2 e=>?_,fun ℓ ℓ' id h1 h2=>?_,fun g' d' id b s h1 h2 e=>?_,fun ℓ id h1 h2=>?_,hr.hb,fun id hid=>?_,fun id hid=>hid.imp (hr.le id) fun h=>h,fun id b hb hbr=>?_⟩
 ·rw[rE]at hx;simp only[Option.map_eq_some_iff]at hx;obtain⟨y,h1,rfl⟩:=hx;obtain⟨z,h2,h3⟩:=hr.tsh t y h1;exact⟨z,h2,aC7 h3⟩
 ·obtain⟨-,d,h1,rfl⟩:=hH g' d' hd;exact zH (hr.bsh g' d h1)
 ·obtain⟨x,h1,rfl,hne⟩:=hC ℓ x' hx;obtain⟨v,h2,h3⟩:=hr.cell ℓ x (by simp) h1;refine⟨v,h2,?_⟩;have av:bG h (fun b id=>N b id∨eP I Fp g id) I (qN (jx g sz es) (eM g H)) x v (ud g Fp ℓ):=by
   refine h3.mono (fun b id hid=>⟨rfl,.inl hid⟩) (fun id hid=>⟨rfl,hFge ℓ id hid hne⟩) (fun g' sz' es' ov' _ hg'=>?_) (fun g' _ hg'=>?_)
   ·obtain⟨-,d,k1,k2⟩:=hH g' _ hg';cases d with
    |box cs=>simp[DB.map]at k2
    |arr sz2 es2 ov2=>simp only[DB.map,DB.arr.injEq]at k2;obtain⟨rfl,rfl, -⟩:=k2;exact⟨rfl,es',ov2,k1,Nat.le_refl _⟩
   ·obtain⟨d',hd'⟩:=Option.isSome_iff_exists.1 hg';obtain⟨-,d,k1, -⟩:=hH g' d' hd';exact⟨by rw[k1];rfl,rfl⟩
  have tree:∀lo len w,SlR I g es.length lo len w→RoR h (fun id=>N false id∨eP I Fp g id) (.sl sz ((es.drop lo).take len)) w:=fun lo len w hw=>by obtain⟨F,k1,k2⟩:=hr.tree hg (fun _ _=>by simp) hw;exact k1.aEB (fun id hid=>.inl hid) fun id hid=>.inr (k2 id hid)
  cases x with
  |sl a lo len=>
   simp only[jx];cases hb:Nat.beq a g with
   |false=>exact av
   |true=>have:=Nat.eq_of_beq_eq_true hb;subst this;exact tree lo len v (h3 sz es [] hg)
  |ptr a i k=>
   simp only[jx];cases hb:Nat.beq a g with
   |false=>exact av
   |true=>
    have:=Nat.eq_of_beq_eq_true hb;subst this;obtain⟨p,⟨id,base,sz',e1,e2⟩,rfl⟩:=h3 (by rw[hg];rfl);have hsl:SlR I a es.length 0 es.length (.sl id (base+0) es.length none):=⟨by omega,by rw[e1]⟩;have ht:=tree 0 es.length _ hsl;rcases hr.bsh a _ hg with⟨e3, -⟩| ⟨id2,base2,b2,e3, -, -, -, -, -⟩
    ·rw[e3]at e1;simp at e1
    ·rw[e3]at e1;cases e1;rw[List.drop_zero,List.take_length]at ht;rcases RoR.len ht with⟨z,e4, -⟩| ⟨id4,base4,lim4,cf,e4,e5,e6,e7⟩
     ·simp at e4
     ·simp only[CV.sl.injEq]at e4;obtain⟨rfl,rfl, -, -⟩:=e4;refine⟨_,_,cf,e5,e6,e7,?_⟩;rw[e2];rfl
  |_=>exact av
 ·obtain⟨x,h1,rfl, -⟩:=hC ℓ x' hx;exact hr.tags ℓ x g' h1 (y8 hg')
 ·obtain⟨-,d,h1, -⟩:=hH g' d' hd;exact hr.htag g' d h1
 ·obtain⟨-,y1,k1, -⟩:=hH g1 d1 h1;obtain⟨-,y2,k2, -⟩:=hH g2 d2 h2;exact hr.inj g1 g2 y1 y2 id b s b' s' k1 k2 e1 e2
 ·obtain⟨-,y,k1, -⟩:=hH g' d' h2;exact hr.sepT ℓ g' y id b s (hFle ℓ id h1).1 k1 e
 ·exact hr.sepF ℓ ℓ' id (hFle ℓ id h1).1 (hFle ℓ' id h2).1
 ·obtain⟨hne,y,k1, -⟩:=hH g' d' h2;rcases h1 with h1| ⟨b',s',e'⟩| ⟨i,k,h1⟩
  ·exact hr.roT g' y id b s h1 k1 e
  ·exact hne (hr.inj g' g y _ id b s b' s' k1 hg e e')
  ·exact hr.sepT _ g' y id b s h1 k1 e
 ·obtain⟨k1,k2⟩:=hFle ℓ id h2;rcases h1 with h1| ⟨b',s',e'⟩| ⟨i,k,h1⟩
  ·exact hr.roF ℓ id h1 k1
  ·exact hr.sepT ℓ g _ id b' s' k1 hg e'
  ·exact k2 i k (hr.sepF _ _ id k1 h1)
 ·rcases hid with(h1| ⟨b',s',e'⟩| ⟨i,k,h1⟩)| ⟨ℓ,h1⟩
  ·exact hr.lt id (.inl h1)
  ·rcases hr.bsh g _ hg with⟨e3, -⟩| ⟨id2,base2,b2,e3,e4, -⟩
   ·rw[e3]at e';simp at e'
   ·rw[e3]at e';simp only[Option.some.injEq,Prod.mk.injEq]at e';obtain⟨rfl, -, -⟩:=e';exact hr.hb _ _ e4
  ·exact hr.lt id (.inr ⟨_,h1⟩)
  ·exact hr.lt id (.inr ⟨ℓ,(hFle ℓ id h1).1⟩)
 ·obtain⟨k1,k2⟩:=hr.ro id b hb hbr;refine⟨.inl k1,fun h=>?_⟩;rcases h with h| ⟨b',s',e⟩| ⟨i,k,e⟩
  ·exact k2 h
  ·exact hr.roT g _ id b' s' k1 hg e
  ·exact hr.roF _ id k1 e
def di:List Nat→DTs→DH→DTs×DH
 | [],ts,H=>(ts,H)
 |g::l,ts,H=>match freeze g ts H with
  | (a,b)=>di l a b
theorem zP{f:DC→DC}(d:DB):au d (d.map f):=by
 cases d with
 |box cs=>simp[au,DB.map]
 |arr sz es ov=>simp[au,DB.map]
theorem R.di{I:Nm}{n:Nat}{cts:Ts}{h:Heap}{U:Nat→Prop}:∀(l:List Nat){N:Bool→Nat→Prop}{Fp:Loc→Nat→Prop}{ts:DTs}{H:DH},R none N I Fp ts H n cts h U→
  ∃N' Fp',R none N' I Fp' (D.di l ts H).1 (D.di l ts H).2 n cts h U∧(∀b id,N b id→N' b id)∧(∀b id,N' b id→N b id∨aV I Fp H id)∧(∀id,aV I Fp' (D.di l ts H).2 id→aV I Fp H id)∧
   (∀g d,aG (D.di l ts H).2 g=some d→∃d0,aG H g=some d0∧au d0 d)∧(∀g db id b s,aG H g=some db→I g=some (id,b,s)→((∃d,aG (D.di l ts H).2 g=some d)∨N' true id))∧∀id,N' true id→N true id∨N' false id:=by
 intro l;induction l with
 |nil=>intro N Fp ts H hr;exact⟨N,Fp,hr,fun _ _ h=>h,fun _ _ h=>.inl h,fun _ h=>h,fun g d h=>⟨d,h,au.refl d⟩,fun g db id b s h _=>.inl ⟨db,h⟩,fun _ h=>.inl h⟩
 |cons g l ih=>
  intro N Fp ts H hr;have one:∃N' Fp',R none N' I Fp' (D.freeze g ts H).1 (D.freeze g ts H).2 n cts h U∧(∀b id,N b id→N' b id)∧(∀b id,N' b id→N b id∨aV I Fp H id)∧(∀id,aV I Fp' (D.freeze g ts H).2 id→aV I Fp H id)∧
    (∀g' d,aG (D.freeze g ts H).2 g'=some d→∃d0,aG H g'=some d0∧au d0 d)∧(∀g' db id b s,aG H g'=some db→I g'=some (id,b,s)→(∃d,aG (D.freeze g ts H).2 g'=some d)∨N' true id)∧∀id,N' true id→N true id∨N' false id:=by
   unfold D.freeze;split
   ·rename_i sz es hg;have hle:∀ℓ id,ud g Fp ℓ id→Fp ℓ id:=fun ℓ id hid=>by
     cases ℓ with
     |t s j k=>exact hid
     |h g' i k=>
      simp only[ud]at hid;split at hid
      ·exact hid.elim
      ·exact hid
    have hget:∀g' d,aG (qN (jx g sz es) (eM g H)) g'=some d→∃d0,aG H g'=some d0∧au d0 d:=fun g' d hd=>by
     rw[mU,dF]at hd;split at hd
     ·simp at hd
     ·simp only[Option.map_eq_some_iff]at hd;obtain⟨d0,k1,rfl⟩:=hd;exact⟨d0,k1,zP d0⟩
    refine⟨_,_,hr.freeze hg,fun b id h=>.inl h,fun b id h=>h.imp (fun h=>h) fun h=>?_,fun id h=>?_,hget,fun g' db id b s h1 h2=>?_,fun id h=>h.imp (fun h=>h) .inr⟩
    ·rcases h with⟨b',s',e⟩| ⟨i,k,e⟩
     ·exact .inr ⟨g,_,b',s',hg,e⟩
     ·exact .inl ⟨_,e⟩
    ·rcases h with⟨ℓ,e⟩| ⟨g',d,b',s',e1,e2⟩
     ·exact .inl ⟨ℓ,hle ℓ id e⟩
     ·obtain⟨d0,k1, -⟩:=hget g' d e1;exact .inr ⟨g',d0,b',s',k1,e2⟩
    ·by_cases e:g'=g
     ·subst e;exact .inr (.inr (.inl ⟨b,s,h2⟩))
     ·refine .inl ⟨db.map (jx g sz es),?_⟩;rw[mU,dF,if_neg e,h1];rfl
   ·exact⟨N,Fp,hr,fun _ _ h=>h,fun _ _ h=>.inl h,fun _ h=>h,fun g d h=>⟨d,h,au.refl d⟩,fun g db id b s h _=>.inl ⟨db,h⟩,fun _ h=>.inl h⟩
  obtain⟨N1,F1,r1,a1,a2,a3,a4,a5,a6⟩:=one;obtain⟨N2,F2,r2,b1,b2,b3,b4,b5,b6⟩:=ih r1;refine⟨N2,F2,r2,fun b id h=>b1 b id (a1 b id h),fun b id h=>?_,fun id h=>a3 id (b3 id h),fun g' d hd=>?_,fun g' db id b s h1 h2=>?_,fun id h=>(b6 id h).elim (fun h=>(a6 id h).imp (fun h=>h) (b1 false id)) .inr⟩
  ·rcases b2 b id h with k|k
   ·exact a2 b id k
   ·exact .inr (a3 id k)
  ·obtain⟨d1,k1,k2⟩:=b4 g' d hd;obtain⟨d0,k3,k4⟩:=a4 g' d1 k1;exact⟨d0,k3,k4.trans k2⟩
  ·rcases a5 g' db id b s h1 h2 with⟨d,k⟩|k
   ·exact b5 g' d id b s k h2
   ·exact .inr (b1 true id k)
end Go.Cq.D
namespace Go.Cq.D
def DV.sw:DV→Nat→List (Nat×Nat)
 |.one _,j=>[(j,0)]
 |.agg cs,j=>(List.range cs.length).map fun k=>(j,k)
def xO:List DV→Nat→List (Nat×Nat)
 | [],_=>[]
 |x::l,j=>x.sw j++xO l (j+1)
def DT.sw:DT→List (Nat×Nat)
 |.v x=>x.sw 0
 |.tup l=>xO l 0
 |.gone=>[]
def dU:List Loc→DTs→DH→Nat→DTs×DH×Nat
 | [],ts,H,n=>(ts,H,n)
 |ℓ::l,ts,H,n=>let p:=exp ts H n ℓ;dU l p.1 p.2.1 p.2.2
def cT(ts:DTs):List Nat→List Loc
 | []=>[]
 |t::l=>(match an ts t with|some x=>x.sw.map fun p=>Loc.t t p.1 p.2|none=>[])++cT ts l
def dV:List Loc→DTs→DH→DTs×DH
 | [],ts,H=>(ts,H)
 |ℓ::l,ts,H=>let p:=close ts H ℓ;dV l p.1 p.2
def eE(ts:DTs):Option (Nat×Bool)→Option Bool
 |none=>some true
 |some (t,want)=>match an ts t with
  |some (.v (.one (.sc (.bool b))))=>some (b==want)
  |some (.tup [])=>some false
  |_=>none
def DV.cells:DV→List DC
 |.one c=>[c]
 |.agg cs=>cs
def iV:List CV→Option (List DC)
 | []=>some []
 |c::l=>match nY c,iV l with
  |some x,some m=>some (x::m)
  |_,_=>none
def xK:CV→Option PV
 |.nils z=>some (.sl z [])
 |c=>if nR c then some (.sc c)else none
def ff:List CV→Option (List PV)
 | []=>some []
 |c::l=>match xK c,ff l with
  |some x,some m=>some (x::m)
  |_,_=>none
def qe(ts:DTs):List Part→List DC→Option (List DC)
 | [],cs=>some cs
 |p::rest,cs=>match evD ts p.x with
  |some r=>if r.cells.length=p.size∧p.off+p.size≤cs.length then qe ts rest (cs.take p.off++(r.cells++cs.drop (p.off+r.cells.length)))else none
  |none=>none
def mS(ts:DTs)(sz:Nat):List Part→DB→Option DB
 | [],db=>some db
 |p::rest,db=>match evD ts p.x with
  |some r=>if r.cells.length=p.size∧r.cells≠[]then match wrN (p.off / sz) (p.off % sz) r.cells db with
    |some db'=>mS ts sz rest db'
    |none=>none
   else none
  |none=>none
def dP(ts:DTs):List Opd→Option (List DV)
 | []=>some []
 |x::l=>match evD ts x,dP ts l with
  |some r,some rs=>some (r::rs)
  |_,_=>none
def g9(ts:DTs):List Opd→Option (List (Nat×Nat×Nat))
 | []=>some []
 |x::l=>match cC ts x,g9 ts l with
  |some (.ptr g i k),some rs=>some ((g,i,k)::rs)
  |_,_=>none
def gE:List DC→Option (List CV)
 | []=>some []
 |.sc v::l=>match gE l with
  |some m=>some (v::m)
  |none=>none
 |_=>none
def fU(args:List DV):Nat→DTs
 |j=>match args with
  | []=>[]
  |x::l=>(j,.v x)::fU l (j+1)
def d6(P:Program)(f:FuncId)(args:List DV)(H:DH)(n:Nat)(Post:DT→DH→Prop):Prop:=
 ∀(N:Bool→Nat→Prop)(I:Nm)(Fp:Loc→Nat→Prop)(cargs:List V1)(h:Heap)(c:Nat)(U:Nat→Prop),(∀id,U id→id<c)→R none N I Fp (fU args 0) H n (init cargs 0) h U→cargs.length=args.length→
  ∃r h' c',c<c'∧FOk P f cargs h c r h' c'∧∃(N':Bool→Nat→Prop)(I':Nm)(Fp':Loc→Nat→Prop)(res:DT)(H':DH)(n':Nat),Post res H'∧NG N N' (aV I Fp H) U (fun id=>U id∨c≤id∧id<c')∧R none N' I' Fp' [(0,res)] H' n' [(0,r)] h' (fun id=>U id∨c≤id∧id<c')∧Grow I Fp H n U h I' Fp' H' n' (fun id=>U id∨c≤id∧id<c') h'
structure JN where
 nm:Nm
 v:Option (CV×List (List PV))
instance:CoeFun JN fun _=>Nm:=⟨JN.nm⟩
instance:Coe Nm JN:=⟨fun J=>⟨J,none⟩⟩
structure Known(J:JN)(N:Bool→Nat→Prop)(I:Nm)(h:Heap):Prop where
 nm:∀g p,J g=some p→I g=some p
 v:∀c es,J.v=some (c,es)→RoR h (N true) (.sl 1 es) c
theorem Known.mono{J:JN}{N N':Bool→Nat→Prop}{I I':Nm}{h h':Heap}(k:Known J N I h)(hI:∀g p,J g=some p→I g=some p→I' g=some p)(hN:∀id,N true id→h'.get id=h.get id∧N' true id):Known J N' I' h':=⟨fun g p e=>hI g p e (k.nm g p e),fun c es e=>(k.v c es e).local hN⟩
structure Prg where
 prog:Program
 J:JN
instance:CoeOut Prg Program:=⟨Prg.prog⟩
def eh(P:Program)(J:JN)(f:FuncId)(args:List DV)(H:DH)(n:Nat)(Post:DT→DH→Prop):Prop:=
 ∀(N:Bool→Nat→Prop)(I:Nm)(Fp:Loc→Nat→Prop)(cargs:List V1)(h:Heap)(c:Nat)(U:Nat→Prop),Known J N I h→(∀id,U id→id<c)→R none N I Fp (fU args 0) H n (init cargs 0) h U→cargs.length=args.length→
  ∃r h' c',c<c'∧FOk P f cargs h c r h' c'∧∃(N':Bool→Nat→Prop)(I':Nm)(Fp':Loc→Nat→Prop)(res:DT)(H':DH)(n':Nat),Post res H'∧NG N N' (aV I Fp H) U (fun id=>U id∨c≤id∧id<c')∧R none N' I' Fp' [(0,res)] H' n' [(0,r)] h' (fun id=>U id∨c≤id∧id<c')∧Grow I Fp H n U h I' Fp' H' n' (fun id=>U id∨c≤id∧id<c') h'
def noJ:JN:=⟨fun _=>none,none⟩
theorem d6.toJ{P:Program}{f:FuncId}{args:List DV}{H:DH}{n:Nat}{Post:DT→DH→Prop}(h:d6 P f args H n Post):eh P noJ f args H n Post:=fun N I Fp cargs h' c U _=>h N I Fp cargs h' c U
inductive Told(J:JN)(H:DH):DV→DV→Prop where
 |same {r}:Told J H r r
 |nm {g i k id base sz} (h:J g=some (id,base,sz)) (hg:(aG H g).isSome=true):Told J H (.one (.ptr g i k)) (.one (.sc (.ptr id ((base+i)*sz+k))))
 |bk {g i k id base sz} (h:J g=some (id,base,sz)) (hg:(aG H g).isSome=true):Told J H (.one (.sc (.ptr id ((base+i)*sz+k)))) (.one (.ptr g i k))
 |vw {c es} (h:J.v=some (c,es)):Told J H (.one (.sc c)) (.one (.ro true 1 es))
inductive FlV(J:JN)(ts:DTs):FOp→DV→Prop where
 |nck {x a b} (hx:cC ts x=some (.sc (.ptr a b))):FlV J ts (.nilCheck x) (.one (.sc (.ptr a b)))
 |lenC {x a b l lim} (hx:cC ts x=some (.sc (.sl a b l lim))):FlV J ts (.len x) (.one (.sc (.int .i64 l)))
 |lenN {x z} (hx:cC ts x=some (.sc (.nils z))):FlV J ts (.len x) (.one (.sc (.int .i64 0)))
 |len {x c es} (hx:cC ts x=some (.sc c)) (hv:J.v=some (c,es)):FlV J ts (.len x) (.one (.sc (.int .i64 es.length)))
 |idx {x i c es k} (hx:cC ts x=some (.sc c)) (hi:eC ts i=some (Int.ofNat k)) (hv:J.v=some (c,es)) (hk:k<es.length):FlV J ts (.idxAddr x i 1) (.one (.rp true 1 es k 0))
 |cut {x y id b l lim m b' l' lim' es} (hx:cC ts x=some (.sc (.sl id b l lim))) (hy:eC ts y=some (Int.ofNat m)) (hv:J.v=some (.sl id b' l' lim',es)) (hm:m≤l):FlV J ts (.sliceL x none (some y) 1) (.one (.sc (.sl id (b+0) (m-0) (lim.map (· -0)))))
inductive M where
 |lend|fX|pass
def fO:List Nat→Nat→Nat→Option Nat
 | [],_,_=>none
 |g'::l,g,t=>cond (Nat.beq g' g) (some t) (fO l g (t+1))
def uz(ρ:List Nat):List (Nat×Nat×Nat)→Option (List (Nat×Nat×Nat))
 | []=>some []
 | (g,i,k)::l=>match fO ρ g 0,uz ρ l with
  |some t,some m=>some ((t,i,k)::m)
  |_,_=>none
def rv(H:DH)(ρ:List Nat):M→DC→Option DC
 |_,.sc v=>some (.sc v)
 |.lend,.ro _ sz es=>some (.ro true sz es)
 |.lend,.own sz []=>some (.ro true sz [])
 |.lend,.sl g lo len=>match aG H g with
  |some (.arr sz es [])=>some (.ro true sz ((es.drop lo).take len))
  |_=>none
 |.fX,.own sz []=>some (.own sz [])
 |.fX,.sl g lo len=>match aG H g with
  |some (.arr sz es [])=>some (.own sz ((es.drop lo).take len))
  |_=>none
 |.pass,.ro b sz es=>some (.ro b sz es)
 |.pass,.own sz []=>some (.own sz [])
 |.pass,.ptr g i k=>(fO ρ g 0).map fun t=>.ptr t i k
 |.pass,.sl g lo len=>(fO ρ g 0).map fun t=>.sl t lo len
 |.pass,.fn f caps=>(uz ρ caps).map fun m=>.fn f m
 |_,_=>none
def p8(H:DH)(ρ:List Nat)(m:M):List DC→Option (List DC)
 | []=>some []
 |c::l=>match rv H ρ m c,p8 H ρ m l with
  |some x,some r=>some (x::r)
  |_,_=>none
def ru(H:DH)(ρ:List Nat)(m:M):DV→Option DV
 |.one c=>(rv H ρ m c).map .one
 |.agg cs=>(p8 H ρ m cs).map .agg
def fQ(H:DH)(ρ:List Nat):List M→List DV→Option (List DV)
 | [],[]=>some []
 |m::ms,x::l=>match ru H ρ m x,fQ H ρ ms l with
  |some y,some r=>some (y::r)
  |_,_=>none
 |_,_=>none
def gZ:List DC→List Nat
 | []=>[]
 |.sl g _ _::l=>g::gZ l
 |_::l=>gZ l
def given:List M→List DV→List Nat
 |.fX::ms,x::l=>gZ x.cells++given ms l
 |_::ms,_::l=>given ms l
 |_,_=>[]
def dR:List M→List DV→List Nat
 |.lend::ms,x::l=>gZ x.cells++dR ms l
 |_::ms,_::l=>dR ms l
 |_,_=>[]
def du(f:Nat→Option Nat)(H:DH):List Nat→Nat→Option DH
 | [],_=>some []
 |g::l,t=>match(aG H g).bind (eu f),du f H l (t+1)with
  |some db,some r=>some ((t,db)::r)
  |_,_=>none
def nodup:List Nat→Bool
 | []=>true
 |x::l=>!l.any (Nat.beq x)&&nodup l
def b9(a b:List Nat):Bool:=a.all fun x=>!b.any (Nat.beq x)
def bD(f:Nat→Option Nat)(H3:DH):List Nat→Nat→DH→Option DH
 | [],_,H=>some H
 |g::l,t,H=>match aG H3 t,aG H g with
  |some (.box cs),some (.box cs0)=>if cs.length=cs0.length then match eu f (.box cs)with
    |some db=>bD f H3 l (t+1) (cj g db H)
    |none=>none
   else none
  |some (.arr sz es ov),some (.arr sz0 es0 _)=>if sz=sz0∧es.length=es0.length then match eu f (.arr sz es ov)with
    |some db=>bD f H3 l (t+1) (cj g db H)
    |none=>none
   else none
  |_,_=>none
def fR:List Nat→DH→DH
 | [],H=>H
 |g::l,H=>fR l (eM g H)
def iI(k:Nat)(H:DH):Bool:=H.all fun p=>Nat.blt p.1 k
def DV.clean(x:DV):Bool:=x.cells.all DC.clean
def DT.clean:DT→Bool
 |.v x=>x.clean
 |.tup l=>l.all DV.clean
 |.gone=>true
theorem nk{ρ:Nat→Option Nat}{x:DV}(h:x.clean=true):kV ρ x=x:=by
 cases x with
 |one c=>simp only[kV,nq (show c.clean=true by simpa [DV.clean,DV.cells]using h)]
 |agg cs=>
  have:cs.map (im ρ)=cs:=by
   have hc:∀c,c∈cs→c.clean=true:=fun c hc=>List.all_eq_true.1 h c hc
   conv=>rhs;rw[←List.map_id cs]
   exact List.map_congr_left fun c hc'=>nq (hc c hc')
  simp only[kV,this]
theorem nr{ρ:Nat→Option Nat}{x:DT}(h:x.clean=true):g7 ρ x=x:=by
 cases x with
 |v x=>simp only[g7,nk (show x.clean=true from h)]
 |tup l=>
  have:l.map (kV ρ)=l:=by
   have hc:∀c,c∈l→c.clean=true:=fun c hc=>List.all_eq_true.1 h c hc
   conv=>rhs;rw[←List.map_id l]
   exact List.map_congr_left fun c hc'=>nk (hc c hc')
  simp only[g7,this]
 |gone=>rfl
def uU(P:Prg)(f:FuncId)(das:List DV)(ts:DTs)(H:DH)(n:Nat)(K:DT→DTs→DH→Nat→List Nat→Prop):Prop:=
 ∃(ms:List M)(ρ:List Nat)(cas:List DV)(Hc:DH)(Post:DT→DH→Prop)(J:JN),fQ H ρ ms das=some cas∧du (fun g=>fO ρ g 0) H ρ 0=some Hc∧nodup ρ=true∧nodup (given ms das)=true∧b9 (given ms das) ρ=true∧(b9 (dR ms das) (given ms das)=true∧b9 (dR ms das) ρ=true)∧
  (eh P.prog J f cas Hc ρ.length Post∧∀t p,J t=some p→∃g,ρ[t]?=some g∧P.J g=some p)∧(J.v=none∨J.v=P.J.v)∧∀res H3,Post res H3→iI ρ.length H3=true∧∃H',bD (fun t=>ρ[t]?) H3 ρ 0 (fR (given ms das) H)=some H'∧K (g7 (fun t=>ρ[t]?) res) ts H' n (given ms das++ρ)
def aDG(P:Prg)(f:FuncId)(das:List DV)(ts:DTs)(H:DH)(n:Nat)(K:DT→DTs→DH→Nat→List Nat→Prop):Prop:=
 ∃(ms:List M)(cas:List DV)(J:JN)(cs:List CV),fQ H [] ms das=some cas∧given ms das=[]∧dR ms das=[]∧eh P.prog J f cas [] 0 (fun res H'=>∃t,res= .v (.one (.ptr t 0 0))∧aG H' t=some (.box (cs.map .sc)))∧(∀t,J t=none)∧(J.v=none∨J.v=P.J.v)∧
  K (.v (.one (.ptr n 0 0))) ts ((n,.box (cs.map .sc))::H) (n+1) []
def hO(row:List PV):Prop:=∀p,p∈row→∃v,p= .sc v
def PV.fz:PV→PV
 |.sc v=>.sc v
 |.sl sz es=>.ro sz es
 |.ro sz es=>.ro sz es
inductive Rows(H:DH)(sz:Nat):DC→List (List PV)→Option Nat→Prop where
 |nil {z}:Rows H sz (.own z []) [] none
 |copy {g lo len es} (hg:aG H g=some (.arr sz es [])) (hs:∀row,row∈(es.drop lo).take len→hO row):Rows H sz (.sl g lo len) ((es.drop lo).take len) none
 |move {g lo len es} (hg:aG H g=some (.arr sz es [])):Rows H sz (.sl g lo len) ((es.drop lo).take len) (some g)
 |yu {b es} (hs:∀row,row∈es→hO row):Rows H sz (.ro b sz es) es none
 |ro {es}:Rows H sz (.ro false sz es) (es.map (·.map PV.fz)) none
def nE:Option Nat→DH→DH
 |some g,H=>eM g H
 |none,H=>H
def dE(b:UInt8):List PV:=[.sc (.int .u8 b.toNat)]
def d7(P:Prg)(op:COp)(ts:DTs)(H:DH)(n:Nat)(K:DT→DTs→DH→Nat→List Nat→Prop):Prop:=match op with
 |.fl (.cmpNil neg x)=>match cC ts x with
  |some (.sl g _ len)=>(∃sz es ov,aG H g=some (.arr sz es ov))∧∀b:Bool,(b=true→len=0)→K (.v (.one (.sc (.bool (if neg then !b else b))))) ts H n []
  |some (.ro _ _ es)=>∀b:Bool,(b=true→es=[])→K (.v (.one (.sc (.bool (if neg then !b else b))))) ts H n []
  |_=>False
 |.fl f=>∃r r',(dfl ts H f=some r∨FlV P.J ts f r)∧Told P.J H r r'∧K (.v r') ts H n []
 |.build zs ps=>∃cs0 cs,iV zs=some cs0∧qe ts ps cs0=some cs∧K (.v (.agg cs)) ts H n []
 |.nw (.alloc zs)=>∃cs,iV zs=some cs∧K (.v (.one (.ptr n 0 0))) ts ((n,.box cs)::H) (n+1) []
 |.nw (.box x)=>∃r,evD ts x=some r∧K (.v (.one (.ptr n 0 0))) ts ((n,.box r.cells)::H) (n+1) []
 |.nw (.lit zs len ps)=>∃row db,ff zs=some row∧zs.length≠0∧mS ts zs.length ps (.arr zs.length (List.replicate len row) [])=some db∧K (.v (.one (.sl n 0 len))) ts ((n,db)::H) (n+1) []
 |.nw (.mk zs bytes x y)=>∃row m c,ff zs=some row∧zs.length≠0∧eC ts x=some m∧eC ts y=some c∧(0≤m∧m≤c∧(bytes:Int)*c≤281474976710656∧c≤9223372036854775807)∧K (.v (.one (.sl n 0 m.toNat))) ts ((n,.arr zs.length (List.replicate m.toNat row) [])::H) (n+1) []
 |.nw (.sb x)=>∃bs:List UInt8,evS ts x=some (.str bs)∧K (.v (.one (.sl n 0 bs.length))) ts ((n,.arr 1 (bs.map dE) [])::H) (n+1) []
 |.store m x v=>∃g i k r db db',cC ts x=some (.ptr g i k)∧evD ts v=some r∧r.cells.length=m∧m≠0∧aG H g=some db∧wrN i k r.cells db=some db'∧K .gone ts (cj g db' H) n [g]
 |.app zs bytes x y=>∃dx dy ys gy,cC ts x=some dx∧cC ts y=some dy∧Rows H zs.length dy ys gy∧zs.length≠0∧(match dx with
  |.sl g lo len=>∃es,aG H g=some (.arr zs.length es [])∧gy≠some g∧(len+ys.length)*bytes≤140737488355328∧len+ys.length≤140737488355328∧K (.v (.one (.sl n 0 (len+ys.length)))) ts ((n,.arr zs.length ((es.drop lo).take len++ys) [])::nE gy (eM g H)) (n+1) (g::gy.toList)
  |.own _ []=>ys.length*bytes≤140737488355328∧ys.length≤140737488355328∧K (.v (.one (.sl n 0 ys.length))) ts ((n,.arr zs.length ys [])::nE gy H) (n+1) gy.toList
  |_=>False)
 |.call f args=>(∃gs das,dP (di gs ts H).1 args=some das∧uU P f das (di gs ts H).1 (di gs ts H).2 n K)∨∃das,dP ts args=some das∧aDG P f das ts H n K
 |.callv x args=>∃gs f caps das,cC (di gs ts H).1 x=some (.fn f caps)∧dP (di gs ts H).1 args=some das∧uU P f (das++caps.map fun q=>.one (.ptr q.1 q.2.1 q.2.2)) (di gs ts H).1 (di gs ts H).2 n K
 |.ext t j=>∃l r,an ts t=some (.tup l)∧l[j]?=some r∧r.plain=true∧K (.v r) ts H n []
 |.mkf f caps=>∃l,g9 ts caps=some l∧(∀q,q∈l→(aG H q.1).isSome=true)∧K (.v (.one (.fn f l))) ts H n []
 |.cp t=>∃x,an ts t=some x∧x.plain=true∧K x ts H n []
 |.bs x=>∃bs:List UInt8,(match cC ts x with
  |some (.sl g lo len)=>∃es ov,aG H g=some (.arr 1 es ov)∧(es.drop lo).take len=bs.map dE∧ov=[]
  |some (.ro _ sz es)=>sz=1∧es=bs.map dE
  |_=>False)∧K (.v (.one (.sc (.str bs)))) ts H n []
 |.eqA neg ks x y=>∃xs ys cs ds b,evD ts x=some (.agg xs)∧evD ts y=some (.agg ys)∧gE xs=some cs∧gE ys=some ds∧bJ ks cs ds=some b∧K (.v (.one (.sc (.bool (if neg then !b else b))))) ts H n []
 |.mm mx x y=>∃a b r,evS ts x=some a∧evS ts y=some b∧v7 mx a b=some r∧K (.v (.one (.sc r))) ts H n []
 |.fld x off m=>∃xs,evD ts x=some (.agg xs)∧(match m with
  |none=>∃c,xs[off]?=some c∧K (.v (.one c)) ts H n []
  |some m=>off+m≤xs.length∧K (.v (.agg ((xs.drop off).take m))) ts H n [])
 |_=>False
def eD:List Nat→DTs→DTs
 | [],ts=>ts
 |t::l,ts=>match an ts t with
  |some _=>eD l ((t,.gone)::ts)
  |none=>eD l ts
def ir(H H':DH):List Nat:=(H.map (·.1)).filter fun g=>(aG H' g).isNone
def w9:COp→Bool
 |.app _ _ _ _=>true
 |.call _ _=>true
 |.callv _ _=>true
 |_=>false
def exec(P:Prg)(op:COp)(ts:DTs)(H:DH)(n:Nat)(K:DT→DTs→DH→Nat→List Nat→Prop):Prop:=
 match w9 op with
 |true=>∃es,match dU es ts H n with
  | (ts0,H0,n0)=>∃ks ls,d7 P op (dV ls (eD ks ts0) H0).1 (dV ls (eD ks ts0) H0).2 n0 fun x ts' H' n' τ=>K x ts' H' n' (ir H0 (dV ls (eD ks ts0) H0).2++τ)
 |false=>d7 P op ts H n K
end Go.Cq.D
namespace Go.Cq.D
theorem DV.dh(x:DV)(k:Nat):x.cell k=x.cells[k]?:=by
 cases x with
 |one c=>cases k<;>simp[DV.cell,DV.cells]
 |agg cs=>rfl
theorem nodup_cons{x:Nat}{l:List Nat}(h:nodup (x::l)=true):x∉l∧nodup l=true:=by simp only[nodup,Bool.and_eq_true]at h;refine⟨fun hx=>?_,h.2⟩;have:=h.1;simp only[Bool.not_eq_true',List.any_eq_false]at this;exact this x hx (by simp)
theorem nodup_append{a b:List Nat}(h:nodup (a++b)=true):nodup a=true∧nodup b=true∧∀x,x∈a→x∈b→False:=by
 induction a with
 |nil=>exact⟨rfl,h,fun x hx=>by simp at hx⟩
 |cons y a ih=>
  obtain⟨h1,h2⟩:=nodup_cons h;obtain⟨h3,h4,h5⟩:=ih h2;refine⟨?_,h4,fun x hx hb=>?_⟩
  ·simp only[nodup,Bool.and_eq_true,h3,and_true,Bool.not_eq_true',List.any_eq_false];intro z hz hbe;have:=Nat.eq_of_beq_eq_true hbe;subst this;exact h1 (by simp[hz])
  ·rcases List.mem_cons.1 hx with rfl|hx
   ·exact h1 (by simp[hb])
   ·exact h5 x hx hb
theorem gL{a b:List Nat}(h:b9 a b=true){x:Nat}(ha:x∈a)(hb:x∈b):False:=by simp only[b9,List.all_eq_true,Bool.not_eq_true',List.any_eq_false]at h;exact h x ha x hb (by simp)
theorem fv{l:List DC}{k g lo len:Nat}(h:l[k]?=some (.sl g lo len)):g∈gZ l:=by
 induction l generalizing k with
 |nil=>simp at h
 |cons c l ih=>
  cases k with
  |zero=>cases h;simp[gZ]
  |succ k=>simp only[List.getElem?_cons_succ]at h;cases c<;>simp only[gZ]<;>first|exact List.mem_cons_of_mem _ (ih h)|exact ih h
theorem wM{l:List DC}(hn:nodup (gZ l)=true){k k' g lo len lo' len':Nat}(h:l[k]?=some (.sl g lo len))(h':l[k']?=some (.sl g lo' len')):k=k':=by
 induction l generalizing k k' with
 |nil=>simp at h
 |cons c l ih=>
  cases k with
  |zero=>
   cases k' with
   |zero=>rfl
   |succ k'=>simp only[List.getElem?_cons_zero,Option.some.injEq,List.getElem?_cons_succ]at h h';subst h;simp only[gZ]at hn;exact absurd (fv h') (nodup_cons hn).1
  |succ k=>
   cases k' with
   |zero=>simp only[List.getElem?_cons_zero,Option.some.injEq,List.getElem?_cons_succ]at h h';subst h';simp only[gZ]at hn;exact absurd (fv h) (nodup_cons hn).1
   |succ k'=>
    simp only[List.getElem?_cons_succ]at h h';have hn':nodup (gZ l)=true:=by cases c<;>simp only[gZ]at hn<;>first|exact(nodup_cons hn).2|exact hn
    rw[ih hn' h h']
def aC5(ms:List M)(das:List DV)(j k g:Nat):Prop:=ms[j]?=some .fX∧∃x lo len,das[j]?=some x∧x.cell k=some (.sl g lo len)
theorem kU:∀{ms:List M}{das:List DV}{j k g:Nat},aC5 ms das j k g→g∈given ms das:=by
 intro ms;induction ms with
 |nil=>intro das j k g h;obtain⟨h1, -⟩:=h;simp at h1
 |cons m ms ih=>
  intro das j k g h;obtain⟨h1,x,lo,len,h2,h3⟩:=h;cases das with
  |nil=>simp at h2
  |cons y das=>
   cases j with
   |zero=>simp only[List.getElem?_cons_zero,Option.some.injEq]at h1 h2;subst h1;subst h2;simp only[given];rw[DV.dh]at h3;exact List.mem_append_left _ (fv h3)
   |succ j=>simp only[List.getElem?_cons_succ]at h1 h2;have:=ih (das:=das) (j:=j) (k:=k) (g:=g) ⟨h1,x,lo,len,h2,h3⟩;cases m<;>simp only[given]<;>first|exact List.mem_append_right _ this|exact this
theorem aAJ:∀{ms:List M}{das:List DV},nodup (given ms das)=true→∀{j k j' k' g:Nat},aC5 ms das j k g→aC5 ms das j' k' g→j=j'∧k=k':=by
 intro ms;induction ms with
 |nil=>intro das _ j k j' k' g h;obtain⟨h1, -⟩:=h;simp at h1
 |cons m ms ih=>
  intro das hn j k j' k' g h h';obtain⟨h1,x,lo,len,h2,h3⟩:=h;obtain⟨h1',x',lo',len',h2',h3'⟩:=h';cases das with
  |nil=>simp at h2
  |cons y das=>
   have tail:∀{j k:Nat}{x:DV}{lo len:Nat},ms[j]?=some M.fX→das[j]?=some x→x.cell k=some (DC.sl g lo len)→g∈given ms das:=fun a b c=>kU ⟨a,_,_,_,b,c⟩
   cases j with
   |zero=>
    simp only[List.getElem?_cons_zero,Option.some.injEq]at h1 h2;subst h1;subst h2;simp only[given]at hn;obtain⟨n1,n2,n3⟩:=nodup_append hn;rw[DV.dh]at h3;cases j' with
    |zero=>cases h2';rw[DV.dh]at h3';exact⟨rfl,wM n1 h3 h3'⟩
    |succ j'=>simp only[List.getElem?_cons_succ]at h1' h2';exact(n3 g (fv h3) (tail h1' h2' h3')).elim
   |succ j=>
    simp only[List.getElem?_cons_succ]at h1 h2;cases j' with
    |zero=>simp only[List.getElem?_cons_zero,Option.some.injEq]at h1' h2';subst h1';subst h2';simp only[given]at hn;obtain⟨n1,n2,n3⟩:=nodup_append hn;rw[DV.dh]at h3';exact(n3 g (fv h3') (tail h1 h2 h3)).elim
    |succ j'=>
     simp only[List.getElem?_cons_succ]at h1' h2';have hn':nodup (given ms das)=true:=by cases m<;>simp only[given]at hn<;>first|exact(nodup_append hn).2.1|exact hn
     obtain⟨e1,e2⟩:=ih hn' ⟨h1,x,lo,len,h2,h3⟩ ⟨h1',x',lo',len',h2',h3'⟩;exact⟨by rw[e1],e2⟩
theorem qb:∀{ms:List M}{das:List DV}{j k g lo len:Nat}{x:DV},ms[j]?=some .lend→das[j]?=some x→x.cell k=some (.sl g lo len)→g∈dR ms das:=by
 intro ms;induction ms with
 |nil=>intro das j k g lo len x h;simp at h
 |cons m ms ih=>
  intro das j k g lo len x h1 h2 h3;cases das with
  |nil=>simp at h2
  |cons y das=>
   cases j with
   |zero=>simp only[List.getElem?_cons_zero,Option.some.injEq]at h1 h2;subst h1;subst h2;simp only[dR];rw[DV.dh]at h3;exact List.mem_append_left _ (fv h3)
   |succ j=>simp only[List.getElem?_cons_succ]at h1 h2;have:=ih h1 h2 h3;cases m<;>simp only[dR]<;>first|exact List.mem_append_right _ this|exact this
theorem jX:∀{ρ:List Nat}{g t0 t:Nat},fO ρ g t0=some t→t0≤t∧ρ[t-t0]?=some g:=by
 intro ρ;induction ρ with
 |nil=>intro g t0 t h;simp[fO]at h
 |cons g' l ih=>
  intro g t0 t h;simp only[fO]at h;cases hb:Nat.beq g' g with
  |true=>rw[hb]at h;simp only[cond_true,Option.some.injEq]at h;subst h;exact⟨Nat.le_refl _,by simp[Nat.eq_of_beq_eq_true hb]⟩
  |false=>rw[hb]at h;simp only[cond_false]at h;obtain⟨h1,h2⟩:=ih h;refine⟨by omega,?_⟩;rw[show t-t0=(t-(t0+1))+1 by omega,List.getElem?_cons_succ];exact h2
theorem na{l:List Nat}(hn:nodup l=true){t t' g:Nat}(h:l[t]?=some g)(h':l[t']?=some g):t=t':=by
 induction l generalizing t t' with
 |nil=>simp at h
 |cons x l ih=>
  obtain⟨h1,h2⟩:=nodup_cons hn;cases t with
  |zero=>
   cases t' with
   |zero=>rfl
   |succ t'=>simp only[List.getElem?_cons_zero,Option.some.injEq,List.getElem?_cons_succ]at h h';subst h;exact absurd (List.mem_of_getElem? h') h1
  |succ t=>
   cases t' with
   |zero=>simp only[List.getElem?_cons_zero,Option.some.injEq,List.getElem?_cons_succ]at h h';subst h';exact absurd (List.mem_of_getElem? h) h1
   |succ t'=>exact congrArg (· +1) (ih (t:=t) (t':=t') h2 (by simpa using h) (by simpa using h'))
theorem oB{H:DH}{f:Nat→Option Nat}:∀{ρ:List Nat}{t0:Nat}{Hc:DH},du f H ρ t0=some Hc→∀t,(t<t0→aG Hc t=none)∧(t0≤t→match ρ[t-t0]? with
  |some g=>∃db db',aG H g=some db∧eu f db=some db'∧aG Hc t=some db'
  |none=>aG Hc t=none):=by
 intro ρ;induction ρ with
 |nil=>intro t0 Hc h t;simp only[du,Option.some.injEq]at h;subst h;exact⟨fun _=>rfl,fun _=>by simp[aG]⟩
 |cons g l ih=>
  intro t0 Hc h t;simp only[du]at h;split at h
  ·rename_i db' r h1 h2;cases h;rw[Option.bind_eq_some_iff]at h1;obtain⟨db,h1,hc⟩:=h1;obtain⟨i1,i2⟩:=ih h2 t;refine⟨fun ht=>?_,fun ht=>?_⟩
   ·rw[aW,if_neg (by omega)];exact i1 (by omega)
   ·by_cases e:t=t0
    ·subst e;simp only[Nat.sub_self,List.getElem?_cons_zero];exact⟨db,db',h1,hc,by rw[aW,if_pos rfl]⟩
    ·have:=i2 (by omega);rw[show t-t0=(t-(t0+1))+1 by omega,List.getElem?_cons_succ,aW,if_neg e];exact this
  ·simp at h
theorem gm{args:List DV}:∀{j t:Nat}{x:DT},an (fU args j) t=some x→j≤t∧∃y,args[t-j]?=some y∧x= .v y:=by
 induction args with
 |nil=>intro j t x hx;simp[fU,an]at hx
 |cons y l ih=>
  intro j t x hx;simp only[fU,bK]at hx;split at hx
  ·rename_i e;subst e;simp only[Option.some.injEq]at hx;exact⟨Nat.le_refl _,y,by simp,hx.symm⟩
  ·rename_i e;obtain⟨h1,z,h2,h3⟩:=ih hx;refine⟨by omega,z,?_,h3⟩;rw[show t-j=(t-(j+1))+1 by omega,List.getElem?_cons_succ];exact h2
theorem kr{args:List V1}:∀{j t:Nat},j≤t→look (init args j) t=(args[t-j]?).map .v:=by
 induction args with
 |nil=>intro j t _;simp[init,look]
 |cons y l ih=>
  intro j t hj;simp only[init,bc];by_cases e:t=j
  ·subst e;simp
  ·have:= @ih (j+1) t (by omega);rw[if_neg e,this,show t-j=(t-(j+1))+1 by omega,List.getElem?_cons_succ]
theorem kp{H:DH}{ρ:List Nat}:∀{ms:List M}{das cas:List DV},fQ H ρ ms das=some cas→cas.length=das.length∧∀(j:Nat) y,cas[j]?=some y→∃m x,ms[j]?=some m∧das[j]?=some x∧ru H ρ m x=some y:=by
 intro ms;induction ms with
 |nil=>
  intro das cas h;cases das with
  |nil=>simp only[fQ,Option.some.injEq]at h;subst h;exact⟨rfl,by simp⟩
  |cons x l=>simp[fQ]at h
 |cons m ms ih=>
  intro das cas h;cases das with
  |nil=>simp[fQ]at h
  |cons x l=>
   simp only[fQ]at h;split at h
   ·rename_i y r h1 h2;cases h;obtain⟨i1,i2⟩:=ih h2;refine⟨by simp[i1],fun j z hj=>?_⟩;cases j with
    |zero=>cases hj;exact⟨m,x,rfl,rfl,h1⟩
    |succ j=>simpa using i2 j z (by simpa using hj)
   ·simp at h
theorem wH{H:DH}{ρ:List Nat}{m:M}:∀{l r:List DC},p8 H ρ m l=some r→r.length=l.length∧∀(k:Nat) y,r[k]?=some y→∃x,l[k]?=some x∧rv H ρ m x=some y:=by
 intro l;induction l with
 |nil=>intro r h;simp only[p8,Option.some.injEq]at h;subst h;exact⟨rfl,by simp⟩
 |cons c l ih=>
  intro r h;simp only[p8]at h;split at h
  ·rename_i y r' h1 h2;cases h;obtain⟨i1,i2⟩:=ih h2;refine⟨by simp[i1],fun k z hk=>?_⟩;cases k with
   |zero=>cases hk;exact⟨c,rfl,h1⟩
   |succ k=>simpa using i2 k z (by simpa using hk)
  ·simp at h
theorem rM{H:DH}{ρ:List Nat}{m:M}{x y:DV}(h:ru H ρ m x=some y):(∀v,fj x v→fj y v)∧∀k z,y.cell k=some z→∃w,x.cell k=some w∧rv H ρ m w=some z:=by
 cases x with
 |one c=>
  simp only[ru,Option.map_eq_some_iff]at h;obtain⟨z,h1,rfl⟩:=h;refine⟨fun v hv=>by cases v<;>simp_all[fj],fun k w hk=>?_⟩;simp only[DV.cell]at hk ⊢;split at hk
  ·rename_i e;cases hk;exact⟨c,by simp[e],h1⟩
  ·simp at hk
 |agg cs=>
  simp only[ru,Option.map_eq_some_iff]at h;obtain⟨z,h1,rfl⟩:=h;obtain⟨i1,i2⟩:=wH h1;refine⟨fun v hv=>?_,fun k w hk=>i2 k w hk⟩;cases v with
  |one c=>simp[fj]at hv
  |agg ds=>simp only[fj]at hv ⊢;omega
theorem OwR.aEa{h:Heap}{N N2:Bool→Nat→Prop}(hN:∀id,N false id→N2 true id){p:PV}{c:CV}{F:Nat→Prop}(ho:OwR h N p c F):(∀id,F id→N2 true id)→RoR h (N2 true) p c:=by
 induction ho with
 |sc hv=>intro _;exact .sc hv
 |ro hr=>intro _;exact .ro (hr.local fun id hid=>⟨rfl,hN id hid⟩)
 |nil=>intro _;exact .nil
 |sl hF hr hc hs hd ih=>intro hFN;exact .sl (hFN _ hF) hr fun i row k p e1 e2=>ih i row k p e1 e2 fun id hid=>hFN id (hs _ _ _ hid).1
section
variable{P:Program}{N:Bool→Nat→Prop}{I:Nm}{Fp:Loc→Nat→Prop}{ts:DTs}{H:DH}{n:Nat}{cts:Ts}{h:Heap}{U:Nat→Prop}
theorem R.callee(hr:R none N I Fp ts H n cts h U){ms:List M}{ρ:List Nat}{das cas:List DV}{cargs:List V1}{Hc:DH}(hca:fQ H ρ ms das=some cas)(hbx:du (fun g=>fO ρ g 0) H ρ 0=some Hc)(hρ:nodup ρ=true)(hgn:nodup (given ms das)=true)(hga:b9 (given ms das) ρ=true)(hla:b9 (dR ms das) (given ms das)=true)(hlr:b9 (dR ms das) ρ=true)(_hlen:cargs.length=das.length)(hv:∀(j:Nat) x,das[j]?=some x→∃y,cargs[j]?=some y∧v1R h N I H x y):
  ∃(N2:Bool→Nat→Prop)(I2:Nm)(Fp2:Loc→Nat→Prop),R none N2 I2 Fp2 (fU cas 0) Hc ρ.length (init cargs 0) h U∧(∀id,N2 false id→N false id)∧(∀id,N true id→N2 true id)∧(∀id,N false id→N2 false id)∧(∀id,N2 true id→N true id∨aV I Fp H id∧¬aV I2 Fp2 Hc id)∧(∀id,aV I Fp H id→aV I2 Fp2 Hc id∨N2 true id)∧
   (∀id,aV I2 Fp2 Hc id→∃g,(g∈given ms das∨∃t:Nat,ρ[t]?=some g)∧(aG H g).isSome=true∧((∃i k,Fp (.h g i k) id)∨∃b s,I g=some (id,b,s)))∧∀t g,ρ[t]?=some g→I2 t=I g:=by
 let I2:Nm:=fun t=>(ρ[t]?).bind I
 let Fp2:Loc→Nat→Prop:=fun ℓ id=>match ℓ with
  |.t j z k=>z=0∧∃g,aC5 ms das j k g∧(aG H g).isSome=true∧eP I Fp g id
  |.h t i k=>∃g,ρ[t]?=some g∧(aG H g).isSome=true∧Fp (.h g i k) id
 let N2:Bool→Nat→Prop:=fun b id=>N b id∨(b=true∧aV I Fp H id∧¬aV I2 Fp2 Hc id)
 have hbox:∀t db',aG Hc t=some db'→∃g,ρ[t]?=some g∧∃db,aG H g=some db∧eu (fun g=>fO ρ g 0) db=some db':=by
  intro t db ht;have:=(oB hbx t).2 (Nat.zero_le _);simp only[Nat.sub_zero]at this;split at this
  ·rename_i g hg;obtain⟨db0,db',h1,h2,h3⟩:=this;rw[ht]at h3;cases h3;exact⟨g,hg,db0,h1,h2⟩
  ·rw[ht]at this;simp at this
 have hI2:∀t g,ρ[t]?=some g→I2 t=I g:=fun t g hg=>by simp[I2,hg]
 have tree_old:∀g id,(aG H g).isSome=true→eP I Fp g id→aV I Fp H id:=fun g id hg ht=>by
  obtain⟨db,hdb⟩:=Option.isSome_iff_exists.1 hg;rcases ht with⟨b,s,e⟩| ⟨i,k,e⟩
  ·exact .inr ⟨g,db,b,s,hdb,e⟩
  ·exact .inl ⟨_,e⟩
 have treeApart:∀g g' id,(aG H g).isSome=true→(aG H g').isSome=true→eP I Fp g id→eP I Fp g' id→g=g':=by
  intro g g' id h1 h2 h3 h4;obtain⟨db,hdb⟩:=Option.isSome_iff_exists.1 h1;obtain⟨db',hdb'⟩:=Option.isSome_iff_exists.1 h2;rcases h3 with⟨b,s,e⟩| ⟨i,k,e⟩
  ·rcases h4 with⟨b',s',e'⟩| ⟨i',k',e'⟩
   ·exact hr.inj g g' db db' id b s b' s' hdb hdb' e e'
   ·exact(hr.sepT _ g db id b s e' hdb e).elim
  ·rcases h4 with⟨b',s',e'⟩| ⟨i',k',e'⟩
   ·exact(hr.sepT _ g' db' id b' s' e hdb' e').elim
   ·have:=hr.sepF _ _ id e e';simp only[Loc.h.injEq]at this;exact this.1
 have own2:∀id,aV I2 Fp2 Hc id→∃g,(g∈given ms das∨∃t:Nat,ρ[t]?=some g)∧(aG H g).isSome=true∧eP I Fp g id:=by
  rintro id (⟨ℓ,h1⟩| ⟨t,db,b,s,h1,h2⟩)
  ·cases ℓ with
   |t j z k=>obtain⟨-,g,h2,h3,h4⟩:=h1;exact⟨g,.inl (kU h2),h3,h4⟩
   |h t i k=>obtain⟨g,h2,h3,h4⟩:=h1;exact⟨g,.inr ⟨t,h2⟩,h3,.inr ⟨i,k,h4⟩⟩
  ·obtain⟨g,h3,db0,h4, -⟩:=hbox t db h1;rw[hI2 t g h3]at h2;exact⟨g,.inr ⟨t,h3⟩,by rw[h4];rfl,.inl ⟨b,s,h2⟩⟩
 have notGivenNotOwn2:∀g id,(aG H g).isSome=true→eP I Fp g id→g∉given ms das→(∀t:Nat,ρ[t]?≠some g)→¬aV I2 Fp2 Hc id:=by
  intro g id h1 h2 h3 h4 h5;obtain⟨g',h6,h7,h8⟩:=own2 id h5;have:=treeApart g g' id h1 h7 h2 h8;subst this;rcases h6 with h6| ⟨t,h6⟩
  ·exact h3 h6
  ·exact h4 t h6
 have hcell:∀ℓ x,aa (fU cas 0) Hc ℓ=some x→∃v,bW (init cargs 0) h I2 ℓ=some v∧bG h N2 I2 Hc x v (Fp2 ℓ)∧∀g,g∈x.tags→g<ρ.length:=by
  intro ℓ x hx;cases ℓ with
  |t j z k=>
   simp only[aa,Option.bind_eq_some_iff]at hx;obtain⟨y,h1,h2⟩:=hx;obtain⟨-,y',h3,rfl⟩:=gm h1;rw[Nat.sub_zero]at h3;simp only[DT.cell]at h2;split at h2
   case isFalse=>simp at h2
   rename_i hz;subst hz;obtain⟨m,d,h4,h5,h6⟩:=(kp hca).2 j y' h3;obtain⟨w,h7,h8⟩:=(rM h6).2 k x h2;obtain⟨cv,h9,h10,h11⟩:=hv j d h5;obtain⟨v,h12,h13⟩:=h11 k w h7;refine⟨v,by simp only[bW,kr (Nat.zero_le j),Nat.sub_zero,h9,Option.map_some,Option.bind_some,fC,if_true];exact h12,?_⟩;have tree:∀{g lo len sz es},w= .sl g lo len→aG H g=some (.arr sz es [])→∃F,OwR h N (.sl sz ((es.drop lo).take len)) v F∧∀id,F id→eP I Fp g id:=by intro g lo len sz es e hg;subst e;exact hr.tree hg (by simp) (h13 _ _ _ hg)
   unfold rv at h8;split at h8
   ·cases h8;exact⟨h13,by simp[DC.tags]⟩
   ·rename_i b sz es;cases h8;exact⟨RoR.local (fun id hid=>⟨rfl,.inl (by cases b;exact hr.le id hid;exact hid)⟩) h13,by simp[DC.tags]⟩
   ·cases h8;refine⟨?_,by simp[DC.tags]⟩;cases h13 with
    |nil=>exact RoR.nil
    |sl hF=>exact hF.elim
   ·rename_i g lo len;split at h8
    ·rename_i sz es hg;cases h8;refine⟨?_,by simp[DC.tags]⟩;obtain⟨F,t1,t2⟩:=tree rfl hg;have hgs:(aG H g).isSome=true:=by rw[hg];rfl
     refine OwR.aEa (N:=N) (N2:=N2) (fun id hid=>.inl (hr.le id hid)) t1 fun id hid=>.inr ⟨rfl,tree_old g id hgs (t2 id hid),notGivenNotOwn2 g id hgs (t2 id hid) (fun hm=>gL hla (qb h4 h5 h7) hm) fun t ht=>gL hlr (qb h4 h5 h7) (List.mem_of_getElem? ht)⟩
    ·simp at h8
   ·cases h8;refine⟨?_,by simp[DC.tags]⟩;cases h13 with
    |nil=>exact OwR.nil
    |sl hF=>exact hF.elim
   ·rename_i g lo len;split at h8
    ·rename_i sz es hg;cases h8;refine⟨?_,by simp[DC.tags]⟩;obtain⟨F,t1,t2⟩:=tree rfl hg;exact OwR.local (fun id hid=>⟨rfl,.inl hid⟩) t1 fun id hid=>⟨rfl,rfl,g,⟨h4,d,lo,len,h5,h7⟩,by rw[hg];rfl,t2 id hid⟩
    ·simp at h8
   ·cases h8;exact⟨RoR.local (fun id hid=>⟨rfl,.inl hid⟩) h13,by simp[DC.tags]⟩
   ·cases h8;refine⟨?_,by simp[DC.tags]⟩;cases h13 with
    |nil=>exact OwR.nil
    |sl hF=>exact hF.elim
   ·rename_i g i' k';simp only[Option.map_eq_some_iff]at h8;obtain⟨t,ht,rfl⟩:=h8;obtain⟨-,ht⟩:=jX ht;rw[Nat.sub_zero]at ht;refine⟨fun hlive=>?_,fun g hg=>?_⟩
    ·obtain⟨db,hdb⟩:=Option.isSome_iff_exists.1 hlive;obtain⟨g',e1,db0,e2, -⟩:=hbox t db hdb;rw[ht]at e1;cases e1;obtain⟨p,⟨id,base,sz,e3,e4⟩,e5⟩:=h13 (by rw[e2];rfl);exact⟨p,⟨id,base,sz,by rw[hI2 t g ht];exact e3,e4⟩,e5⟩
    ·simp only[DC.tags,List.mem_singleton]at hg;subst hg;exact(List.getElem?_eq_some_iff.1 ht).1
   ·rename_i g lo len;simp only[Option.map_eq_some_iff]at h8;obtain⟨t,ht,rfl⟩:=h8;obtain⟨-,ht⟩:=jX ht;rw[Nat.sub_zero]at ht;refine⟨fun sz es ov hdb=>?_,fun g hg=>?_⟩
    ·obtain⟨g',e1,db0,e2,e2'⟩:=hbox t _ hdb;rw[ht]at e1;cases e1;obtain⟨ov0,rfl⟩:=jC e2';have:=h13 sz es ov0 e2;unfold SlR at this ⊢;rw[hI2 t g ht];exact this
    ·simp only[DC.tags,List.mem_singleton]at hg;subst hg;exact(List.getElem?_eq_some_iff.1 ht).1
   ·rename_i f caps;simp only[Option.map_eq_some_iff]at h8;obtain⟨caps',hm,rfl⟩:=h8;obtain⟨cs,e1,e2,e3⟩:=h13;have caps_spec:∀{l m:List (Nat×Nat×Nat)},uz ρ l=some m→m.length=l.length∧∀(j:Nat) q,m[j]?=some q→∃g,l[j]?=some (g,q.2.1,q.2.2)∧ρ[q.1]?=some g:=by
     intro l;induction l with
     |nil=>intro m hm;simp only[uz,Option.some.injEq]at hm;subst hm;exact⟨rfl,by simp⟩
     |cons a l ih=>
      obtain⟨g,i,k⟩:=a;intro m hm;simp only[uz]at hm;split at hm
      ·rename_i t m' h1 h2;cases hm;obtain⟨i1,i2⟩:=ih h2;obtain⟨-,ht⟩:=jX h1;rw[Nat.sub_zero]at ht;refine⟨by simp[i1],fun j q hj=>?_⟩;cases j with
       |zero=>cases hj;exact⟨g,rfl,ht⟩
       |succ j=>simpa using i2 j q (by simpa using hj)
      ·simp at hm
    obtain⟨s1,s2⟩:=caps_spec hm;refine⟨⟨cs,e1,by omega,fun j' q hj' hlive=>?_⟩,fun g hg=>?_⟩
    ·obtain⟨g,s3,s4⟩:=s2 j' q hj';obtain⟨db,hdb⟩:=Option.isSome_iff_exists.1 hlive;obtain⟨g',s5,db0,s6, -⟩:=hbox q.1 db hdb;rw[s4]at s5;cases s5;obtain⟨p,s7,id,base,sz,s8,s9⟩:=e3 j' _ s3 (by simp only;rw[s6];rfl);exact⟨p,s7,id,base,sz,by rw[hI2 _ g s4];exact s8,s9⟩
    ·simp only[DC.tags,List.mem_map]at hg;obtain⟨q,hq,rfl⟩:=hg;obtain⟨j',hj',hjq⟩:=List.getElem_of_mem hq;obtain⟨g,s3,s4⟩:=s2 j' q (by rw[List.getElem?_eq_getElem hj',hjq]);exact(List.getElem?_eq_some_iff.1 s4).1
   ·simp at h8
  |h t i k=>
   simp only[aa,Option.bind_eq_some_iff]at hx;obtain⟨db,h1,h2⟩:=hx;obtain⟨g,h3,db0,h4,h5⟩:=hbox t db h1;obtain⟨x0,hx0,hsx⟩:=oy h5 h2;obtain⟨v,h6,h7⟩:=hr.cell (.h g i k) x0 (by simp) (by simp[aa,h4,hx0]);refine⟨v,by simp only[bW]at h6 ⊢;rw[hI2 t g h3];exact h6,?_⟩;rcases hsx with⟨rfl,hcl⟩| ⟨g1,lo,len,t1,rfl,ht1,rfl⟩
   ·refine⟨h7.clean hcl (fun id hid=>.inl hid) (fun id hid=>⟨g,h3,by rw[h4];rfl,hid⟩),fun g' hg'=>?_⟩;rw[DC.mK hcl]at hg';simp at hg'
   ·obtain⟨-,ht1⟩:=jX ht1;rw[Nat.sub_zero]at ht1;refine⟨fun sz es ov hdb=>?_,fun g' hg'=>?_⟩
    ·obtain⟨g',e1,db1,e2,e2'⟩:=hbox t1 _ hdb;rw[ht1]at e1;cases e1;obtain⟨ov0,rfl⟩:=jC e2';have:=h7 sz es ov0 e2;unfold SlR at this ⊢;rw[hI2 t1 g1 ht1];exact this
    ·simp only[DC.tags,List.mem_singleton]at hg';subst hg';exact(List.getElem?_eq_some_iff.1 ht1).1
 refine⟨N2,I2,Fp2,⟨fun t x hx=>?_,fun t db ht=>?_,fun ℓ x _ hx=>let⟨v,h1,h2,_⟩:=hcell ℓ x hx;⟨v,h1,h2⟩,fun ℓ x g hx hg=>let⟨_,_,_,h3⟩:=hcell ℓ x hx;h3 g hg,fun t db ht=>?_,fun t t' db db' id b s b' s' h1 h2 h3 h4=>?_,fun ℓ t db id b s h1 h2 h3=>?_,fun ℓ ℓ' id h1 h2=>?_,fun t db id b s h1 h2 h3=>?_,fun ℓ id h1 h2=>?_,hr.hb,fun id hid=>?_,fun id hid=>?_,fun id b hb hbr=>⟨.inl (hr.ro id b hb hbr).1,fun h=>h.elim (hr.ro id b hb hbr).2 fun h=>by simp at h⟩⟩,fun id hid=>?_,fun id hid=>.inl hid,fun id hid=>.inl hid,fun id hid=>hid.imp (fun h=>h) fun h=>h.2,fun id hid=>?_,fun id hid=>?_,hI2⟩
 ·obtain⟨-,y,h1,rfl⟩:=gm hx;rw[Nat.sub_zero]at h1;obtain⟨m,d,h4,h5,h6⟩:=(kp hca).2 t y h1;obtain⟨cv,h9,h10, -⟩:=hv t d h5;exact⟨.v cv,by rw[kr (Nat.zero_le t),Nat.sub_zero,h9];rfl,(rM h6).1 cv h10⟩
 ·obtain⟨g,h3,db0,h4,h5⟩:=hbox t db ht;exact uG h5 ((hr.bsh g _ h4).name (hI2 t g h3))
 ·obtain⟨g,h3, -⟩:=hbox t db ht;exact(List.getElem?_eq_some_iff.1 h3).1
 ·obtain⟨g,k1,db0,k2, -⟩:=hbox t db h1;obtain⟨g',k3,db0',k4, -⟩:=hbox t' db' h2;rw[hI2 t g k1]at h3;rw[hI2 t' g' k3]at h4;have:=hr.inj g g' _ _ id b s b' s' k2 k4 h3 h4;subst this;exact na hρ k1 k3
 ·obtain⟨g,k1,db0,k2, -⟩:=hbox t db h2;rw[hI2 t g k1]at h3;cases ℓ with
  |t j z k=>obtain⟨-,g',k3,k4,k5⟩:=h1;have:=treeApart g' g id k4 (by rw[k2];rfl) k5 (.inl ⟨b,s,h3⟩);subst this;exact gL hga (kU k3) (List.mem_of_getElem? k1)
  |h t' i k=>obtain⟨g',k3,k4,k5⟩:=h1;exact hr.sepT _ g _ id b s k5 k2 h3
 ·cases ℓ with
  |t j z k=>
   obtain⟨rfl,g,k3,k4,k5⟩:=h1;cases ℓ' with
   |t j' z' k'=>obtain⟨rfl,g',k6,k7,k8⟩:=h2;have:=treeApart g g' id k4 k7 k5 k8;subst this;obtain⟨e1,e2⟩:=aAJ hgn k3 k6;rw[e1,e2]
   |h t' i' k'=>obtain⟨g',k6,k7,k8⟩:=h2;have:=treeApart g g' id k4 k7 k5 (.inr ⟨i',k',k8⟩);subst this;exact(gL hga (kU k3) (List.mem_of_getElem? k6)).elim
  |h t i k=>
   obtain⟨g,k3,k4,k5⟩:=h1;cases ℓ' with
   |t j' z' k'=>obtain⟨rfl,g',k6,k7,k8⟩:=h2;have:=treeApart g' g id k7 k4 k8 (.inr ⟨i,k,k5⟩);subst this;exact(gL hga (kU k6) (List.mem_of_getElem? k3)).elim
   |h t' i' k'=>obtain⟨g',k6,k7,k8⟩:=h2;have:=hr.sepF _ _ id k5 k8;simp only[Loc.h.injEq]at this;obtain⟨rfl,rfl,rfl⟩:=this;rw[na hρ k3 k6]
 ·rcases h1 with h1| ⟨-, -,h1⟩
  ·obtain⟨g,k1,db0,k2, -⟩:=hbox t db h2;rw[hI2 t g k1]at h3;exact hr.roT g _ id b s h1 k2 h3
  ·exact h1 (.inr ⟨t,db,b,s,h2,h3⟩)
 ·rcases h1 with h1| ⟨-, -,h1⟩
  ·obtain⟨g, -,k2,k3⟩:=own2 id (.inl ⟨ℓ,h2⟩);obtain⟨db,hdb⟩:=Option.isSome_iff_exists.1 k2;rcases k3 with⟨b,s,e⟩| ⟨i,k,e⟩
   ·exact hr.roT g db id b s h1 hdb e
   ·exact hr.roF _ id h1 e
  ·exact h1 (.inl ⟨ℓ,h2⟩)
 ·rcases hid with(h1| ⟨-,h1, -⟩)| ⟨ℓ,h1⟩
  ·exact hr.lt id (.inl h1)
  ·exact h1.lt hr
  ·obtain⟨g, -,k2,k3⟩:=own2 id (.inl ⟨ℓ,h1⟩);exact(tree_old g id k2 k3).lt hr
 ·rcases hid with h1| ⟨h1, -⟩
  ·exact .inl (hr.le id h1)
  ·simp at h1
 ·rcases hid with h1| ⟨h1, -⟩
  ·exact h1
  ·simp at h1
 ·by_cases h1:aV I2 Fp2 Hc id
  ·exact .inl h1
  ·exact .inr (.inr ⟨rfl,hid,h1⟩)
 ·obtain⟨g,k1,k2,k3⟩:=own2 id hid;exact⟨g,k1,k2,k3.symm⟩
end
end Go.Cq.D
namespace Go.Cq.D
def _root_.Go.Cq.COp.fH:COp→Bool
 |.call ..=>true
 |.callv ..=>true
 |_=>false
def Good(P:Program)(op:COp)(N:Bool→Nat→Prop)(I:Nm)(Fp:Loc→Nat→Prop)(H:DH)(n:Nat)(cts:Ts)(h:Heap)(U:Nat→Prop)(i c:Nat)(K:DT→DTs→DH→Nat→List Nat→Prop):Prop:=
 ∃cl,gW P cl∧(∀f a h2 c2,c2≠c→cl f a h2 c2=none)∧∃r h' c',op.ev cl i c h cts=some (r,h',c')∧(c≤c'∧(op.fH=true→c<c'))∧∃x ts' H' n' τ,K x ts' H' n' τ∧
  (∀g db id b s,aG H g=some db→I g=some (id,b,s)→g∉τ→h'.get id=h.get id)∧(∀b id,N b id→h'.get id=h.get id)∧(∀id,U id→¬aV I Fp H id→h'.get id=h.get id)∧
  ∃N',NG N N' (aV I Fp H) U (fun id=>U id∨id=i∨c≤id∧id<c')∧∀d:Option Nat,∃I' Fp',R none N' I' Fp' (i9 d x ts') H' n' (cO d r cts) h' (fun id=>U id∨id=i∨c≤id∧id<c')∧Grow I Fp H n U h I' Fp' H' n' (fun id=>U id∨id=i∨c≤id∧id<c') h'
def iF:cN:=fun _ _ _ _=>none
theorem qq{op:COp}{i c:Nat}{h h':Heap}{cts:Ts}{r:CVal}(he:op.ev iF i c h cts=some (r,h',c)):c≤c∧(op.fH=true→c<c):=by
 refine⟨Nat.le_refl _,fun hc=>?_⟩;cases op<;>simp only[COp.fH,reduceCtorEq]at hc
 ·simp only[COp.ev]at he;split at he<;>simp[iF]at he
 ·simp only[COp.ev]at he;split at he<;>simp[iF]at he
theorem jc(P:Program):gW P iF:=fun f args h c r h' c' he=>by simp[iF]at he
open Classical in
noncomputable def nx(f:FuncId)(args:List V1)(h:Heap)(c:Nat)(res:CVal×Heap×Nat):cN:=fun f' args' h' c'=>if f'=f∧args'=args∧h'=h∧c'=c then some res else none
theorem uL{P:Program}{f:FuncId}{args:List V1}{h:Heap}{c:Nat}{r:CVal}{h':Heap}{c':Nat}(hf:FOk P f args h c r h' c'):gW P (nx f args h c (r,h',c')):=by
 intro f2 args2 h2 c2 r2 h2' c2' he;unfold nx at he;split at he
 ·rename_i hc;obtain⟨rfl,rfl,rfl,rfl⟩:=hc;cases he;exact hf
 ·simp at he
section
variable{P:Program}{N:Bool→Nat→Prop}{I:Nm}{Fp:Loc→Nat→Prop}{ts:DTs}{H:DH}{n:Nat}{cts:Ts}{h:Heap}{U:Nat→Prop}{i c:Nat}{K:DT→DTs→DH→Nat→List Nat→Prop}
theorem R.more(hr:R none N I Fp ts H n cts h U){U':Nat→Prop}(hU:∀id,U id→U' id):R none N I Fp ts H n cts h U':=hr.heap hU (fun _ _=>rfl) (fun id b hb=>hU id (hr.hb id b hb)) fun _ _ h _=>h
theorem R.pr(hr:R none N I Fp ts H n cts h U)(d:Option Nat){x:DT}{y:CVal}(hx:tR h N I H x y)(ht:∀j k q g,x.cell j k=some q→g∈q.tags→g<n):
  ∃Fp',R none N I Fp' (i9 d x ts) H n (cO d y cts) h U∧∀ℓ id,Fp' ℓ id→Fp ℓ id:=by
 cases d with
 |none=>exact⟨Fp,hr,fun _ _ h=>h⟩
 |some d=>
  refine⟨_,hr.put hx ht,fun ℓ id hid=>?_⟩;cases ℓ with
  |t s j k=>
   simp only at hid;split at hid
   ·exact hid.elim
   ·exact hid
  |h g i k=>exact hid
theorem aV.less{Fp':Loc→Nat→Prop}(hF:∀ℓ id,Fp' ℓ id→Fp ℓ id){id:Nat}(h:aV I Fp' H id):aV I Fp H id:=h.imp (fun⟨ℓ,h1⟩=>⟨ℓ,hF ℓ id h1⟩) (fun h=>h)
theorem Good.of{op:COp}(hr:R none N I Fp ts H n cts h U){x:DT}{r:CVal}(hev:op.ev iF i c h cts=some (r,h,c))(hx:tR h N I H x r)(ht:∀j k q g,x.cell j k=some q→g∈q.tags→g<n)(hK:K x ts H n []):Good P op N I Fp H n cts h U i c K:=by refine⟨iF,jc P,fun _ _ _ _ _=>rfl,r,h,c,hev,qq hev,x,ts,H,n,[],hK,fun _ _ _ _ _ _ _ _=>rfl,fun _ _ _=>rfl,fun _ _ _=>rfl,N,NG.refl ..,fun d=>?_⟩;obtain⟨Fp',h1,h2⟩:=(hr.more (U':=fun id=>U id∨id=i∨c≤id∧id<c) fun _ h=>.inl h).pr d hx ht;exact⟨I,Fp',h1,Nat.le_refl _,fun _ h=>.inl h,fun _ _=>rfl,fun id hid=>.inl (hid.less h2),fun _ _ _=>rfl,fun g db _ hg=>⟨db,hg,au.refl db⟩,fun _=>rfl⟩
theorem Good.of'{op:COp}{I':Nm}{Fp1:Loc→Nat→Prop}{H':DH}{n':Nat}{h':Heap}{τ:List Nat}{x:DT}{r:CVal}(hr1:R none N I' Fp1 ts H' n' cts h' (fun id=>U id∨id=i∨c≤id∧id<c))(hg:Grow I Fp H n U h I' Fp1 H' n' (fun id=>U id∨id=i∨c≤id∧id<c) h')(hr:R none N I Fp ts H n cts h U)(hev:op.ev iF i c h cts=some (r,h',c))(hx:tR h' N I' H' x r)(ht:∀j k q g,x.cell j k=some q→g∈q.tags→g<n')(hτ:∀g db id b s,aG H g=some db→I g=some (id,b,s)→g∉τ→h'.get id=h.get id)(hK:K x ts H' n' τ):Good P op N I Fp H n cts h U i c K:=by
 refine⟨iF,jc P,fun _ _ _ _ _=>rfl,r,h',c,hev,qq hev,x,ts,H',n',τ,hK,hτ,fun b id hid=>?_,fun id h1 h2=>hg.hp id h1 h2,N,NG.refl ..,fun d=>?_⟩
 ·have hid':N true id:=by cases b;exact hr.le id hid;exact hid
  refine hg.hp id (hr.lt id (.inl hid')) fun ho=>?_
  rcases ho with⟨ℓ,h1⟩| ⟨g,db,b',s,h1,h2⟩
  ·exact hr.roF ℓ id hid' h1
  ·exact hr.roT g db id b' s hid' h1 h2
 ·obtain⟨Fp',h1,h2⟩:=hr1.pr d hx ht;exact⟨I',Fp',h1,hg.nn,hg.cc,hg.nm,fun id hid=>hg.own id (hid.less h2),hg.hp,hg.sh,hg.mp⟩
theorem NG.more{N N':Bool→Nat→Prop}{own U U' U2:Nat→Prop}(a:NG N N' own U U')(h:∀id,U' id→U2 id):NG N N' own U U2:=⟨a.1,fun b id hid=>(a.2.1 b id hid).imp (fun h=>h) fun h1=>h1.imp (fun h=>h) fun h1=>⟨h1.1,h id h1.2⟩,a.2.2⟩
theorem NG.trans{N N1 N2:Bool→Nat→Prop}{I:Nm}{Fp:Loc→Nat→Prop}{H:DH}{n:Nat}{U:Nat→Prop}{h:Heap}{I1:Nm}{Fp1:Loc→Nat→Prop}{H1:DH}{n1:Nat}{U1 U2:Nat→Prop}{h1:Heap}(a:NG N N1 (aV I Fp H) U U1)(g:Grow I Fp H n U h I1 Fp1 H1 n1 U1 h1)(b:NG N1 N2 (aV I1 Fp1 H1) U1 U2)(hc:∀id,U1 id→U2 id):NG N N2 (aV I Fp H) U U2:=by
 refine⟨fun b' id hid=>b.1 b' id (a.1 b' id hid),fun b' id hid=>?_,fun id hid=>(b.2.2 id hid).elim (fun h=>(a.2.2 id h).imp (fun h=>h) (b.1 false id)) .inr⟩;rcases b.2.1 b' id hid with k|k|k
 ·rcases a.2.1 b' id k with k|k|k
  ·exact .inl k
  ·exact .inr (.inl k)
  ·exact .inr (.inr ⟨k.1,hc id k.2⟩)
 ·rcases g.own id k with k|k
  ·exact .inr (.inl k)
  ·exact .inr (.inr ⟨k.1,hc id k.2⟩)
 ·exact .inr (.inr ⟨fun h=>k.1 (g.cc id h),k.2⟩)
theorem e9(hr:R none N I Fp ts H n cts h U){x:Opd}{y:DV}(hx:evD ts x=some y):∀k q g,y.cell k=some q→g∈q.tags→g<n:=by
 cases x with
 |t s=>
  simp only[evD]at hx;split at hx
  ·rename_i z hz;split at hx
   ·cases hx;intro k q g hk hg;exact hr.tags (.t s 0 k) q g (by simp[aa,hz,DT.cell,hk]) hg
   ·simp at hx
  ·simp at hx
 |k k0=>
  simp only[evD,Option.map_eq_some_iff]at hx;obtain⟨x,h1,rfl⟩:=hx;intro k q g hk hg;simp only[DV.cell]at hk;split at hk
  ·cases hk;unfold nY at h1;split at h1
   ·cases h1;simp[DC.tags]at hg
   ·cases h1;simp[DC.tags]at hg
   ·split at h1
    ·cases h1;simp[DC.tags]at hg
    ·simp at h1
  ·simp at hk
theorem iq(hr:R none N I Fp ts H n cts h U){x:Opd}{y:DC}(hx:cC ts x=some y):∀g,g∈y.tags→g<n:=by
 unfold cC at hx;split at hx
 ·rename_i y' h1;cases hx;intro g hg;exact e9 hr h1 0 _ g (by simp[DV.cell]) hg
 ·simp at hx
theorem pV(hr:R none N I Fp ts H n cts h U){g i:Nat}:∀{m k:Nat}{l:List DC},fq H g i k m=some l→∀q g',q∈l→g'∈q.tags→g'<n:=by
 intro m;induction m with
 |zero=>intro k l hl;simp only[fq,Option.some.injEq]at hl;subst hl;simp
 |succ m ih=>
  intro k l hl q g' hq hg;simp only[fq]at hl;split at hl
  ·rename_i x l' h1 h2;split at hl
   ·cases hl;rcases List.mem_cons.1 hq with rfl|hq
    ·exact hr.tags (.h g i k) q g' h1 hg
    ·exact ih h2 q g' hq hg
   ·simp at hl
  ·simp at hl
theorem oD{b:Bool}{es:List (List PV)}{i:Nat}:∀{m k:Nat}{l:List DC},ak b es i k m=some l→∀q,q∈l→q.tags=[]:=by
 intro m;induction m with
 |zero=>intro k l hl;simp only[ak,Option.some.injEq]at hl;subst hl;simp
 |succ m ih=>
  intro k l hl q hq;simp only[ak]at hl;split at hl
  ·rename_i p l' h1 h2;cases hl;rcases List.mem_cons.1 hq with rfl|hq
   ·cases p<;>rfl
   ·exact ih h2 q hq
  ·simp at hl
theorem aj{y:DC}(hy:∀g,g∈y.tags→g<n):∀k q g,(DV.one y).cell k=some q→g∈q.tags→g<n:=by
 intro k q g hk hg;simp only[DV.cell]at hk;split at hk
 ·cases hk;exact hy g hg
 ·simp at hk
theorem ux(hr:R none N I Fp ts H n cts h U){f:FOp}{r:DV}(hf:dfl ts H f=some r):∀k q g,r.cell k=some q→g∈q.tags→g<n:=by
 have sc:∀v,∀k q g,(DV.one (.sc v)).cell k=some q→g∈q.tags→g<n:=fun v=>aj (by simp[DC.tags])
 cases f with
 |mov x=>exact e9 hr hf
 |pick a x y=>
  simp only[dfl]at hf;split at hf
  ·exact e9 hr hf
  ·exact e9 hr hf
  ·simp at hf
 |load m x=>
  simp only[dfl]at hf;split at hf
  ·cases m with
   |none=>
    simp only at hf;split at hf
    ·rename_i y hl;cases hf;exact aj fun g hg=>pV hr hl y g (by simp) hg
    ·simp at hf
   |some m=>
    simp only at hf;split at hf
    ·simp at hf
    ·simp only[Option.map_eq_some_iff]at hf;obtain⟨l,hl,rfl⟩:=hf;intro k q g hk hg;exact pV hr hl q g (List.mem_of_getElem? hk) hg
  ·cases m with
   |none=>
    simp only at hf;split at hf
    ·rename_i y hl;cases hf;exact aj fun g hg=>by rw[oD hl y (by simp)]at hg;simp at hg
    ·simp at hf
   |some m=>
    simp only at hf;split at hf
    ·simp at hf
    ·simp only[Option.map_eq_some_iff]at hf;obtain⟨l,hl,rfl⟩:=hf;intro k q g hk hg;rw[oD hl q (List.mem_of_getElem? hk)]at hg;simp at hg
  ·simp at hf
 |nilCheck x=>
  simp only[dfl]at hf;split at hf
  ·rename_i h1;split at hf
   ·cases hf;exact aj fun g hg=>iq hr h1 g hg
   ·simp at hf
  ·cases hf;exact aj (by simp[DC.tags])
  ·simp at hf
 |bin op x y=>
  simp only[dfl]at hf;split at hf
  ·split at hf
   ·split at hf
    ·cases hf;exact sc _
    ·simp at hf
   ·simp at hf
  ·simp at hf
 |binB neg x y=>
  simp only[dfl]at hf;split at hf
  ·cases hf;exact sc _
  ·simp at hf
 |cmpNil neg x=>simp[dfl]at hf
 |un op x=>
  simp only[dfl]at hf;split at hf
  ·split at hf
   ·split at hf
    ·cases hf;exact sc _
    ·simp at hf
   ·simp at hf
  ·simp at hf
 |conv k x=>
  simp only[dfl]at hf;split at hf
  ·cases hf;exact sc _
  ·simp at hf
 |fieldAddr x off=>
  simp only[dfl]at hf;split at hf
  ·rename_i h1;split at hf
   ·cases hf;exact aj fun g hg=>iq hr h1 g hg
   ·simp at hf
  ·cases hf;exact aj (by simp[DC.tags])
  ·simp at hf
 |idxAddr x i sz=>
  simp only[dfl]at hf;split at hf
  ·rename_i g lo len m h1 h2;split at hf
   ·split at hf
    ·cases hf;exact aj fun g hg=>iq hr h1 g hg
    ·simp at hf
   ·simp at hf
  ·split at hf
   ·cases hf;exact aj (by simp[DC.tags])
   ·simp at hf
  ·simp at hf
 |index x i=>
  simp only[dfl]at hf;split at hf
  ·split at hf
   ·simp only[Option.map_eq_some_iff]at hf;obtain⟨b, -,rfl⟩:=hf;exact sc _
   ·simp at hf
  ·simp at hf
 |lenS x=>
  simp only[dfl]at hf;split at hf
  ·cases hf;exact sc _
  ·simp at hf
 |len x=>
  simp only[dfl]at hf;split at hf
  ·split at hf
   ·cases hf;exact sc _
   ·simp at hf
  ·cases hf;exact sc _
  ·cases hf;exact sc _
  ·simp at hf
 |sliceS x lo hi=>
  simp only[dfl]at hf;split at hf
  ·split at hf
   ·simp only[Option.map_eq_some_iff]at hf;obtain⟨b, -,rfl⟩:=hf;exact sc _
   ·simp at hf
  ·simp at hf
 |sliceL x lo hi sz=>
  simp only[dfl]at hf;split at hf
  ·rename_i g i0 ln h1;split at hf
   ·split at hf
    ·split at hf
     ·split at hf
      ·split at hf
       ·cases hf;exact aj fun g hg=>iq hr h1 g hg
       ·simp at hf
      ·simp at hf
     ·simp at hf
    ·simp at hf
   ·simp at hf
  ·split at hf
   ·split at hf
    ·split at hf
     ·split at hf
      ·cases hf;exact aj (by simp[DC.tags])
      ·simp at hf
     ·simp at hf
    ·simp at hf
   ·simp at hf
  ·simp at hf
theorem ck{r:DV}(h:∀k q g,r.cell k=some q→g∈q.tags→g<n):∀j k q g,(DT.v r).cell j k=some q→g∈q.tags→g<n:=by
 intro j k q g hk hg;simp only[DT.cell]at hk;split at hk
 ·exact h k q g hk hg
 ·simp at hk
end
end Go.Cq.D
namespace Go.Cq.D
section
variable{P:Prg}{N:Bool→Nat→Prop}{I:Nm}{Fp:Loc→Nat→Prop}{ts:DTs}{H:DH}{n:Nat}{cts:Ts}{h:Heap}{U:Nat→Prop}{i c:Nat}{K:DT→DTs→DH→Nat→List Nat→Prop}
theorem tJ:∀{l:List DC}{m:List CV},gE l=some m→m.length=l.length∧∀(k:Nat) v,m[k]?=some v→l[k]?=some (.sc v):=by
 intro l;induction l with
 |nil=>intro m h;simp only[gE,Option.some.injEq]at h;subst h;exact⟨rfl,by simp⟩
 |cons c l ih=>
  intro m h;cases c with
  |sc v=>
   simp only[gE]at h;split at h
   ·rename_i m' h1;cases h;obtain⟨i1,i2⟩:=ih h1;refine⟨by simp[i1],fun k w hk=>?_⟩;cases k with
    |zero=>simpa using hk
    |succ k=>simpa using i2 k w (by simpa using hk)
   ·simp at h
  |_=>simp[gE]at h
theorem ur(hr:R none N I Fp ts H n cts h U){x:Opd}{l:List DC}{m:List CV}(hx:evD ts x=some (.agg l))(hm:gE l=some m):iT cts x=some m:=by
 obtain⟨v,h1,h2,h3⟩:=gX hr hx;obtain⟨s1,s2⟩:=tJ hm;cases v with
 |one c=>simp[fj]at h2
 |agg cs=>
  simp only[fj]at h2;simp only[iT,h1,Option.some.injEq];refine List.ext_getElem? fun k=>?_
  cases hk:m[k]? with
  |none=>rw[List.getElem?_eq_none_iff]at hk ⊢;omega
  |some v=>obtain⟨w,h4,h5,rfl⟩:=h3 k (.sc v) (by simp only[DV.cell];exact s2 k v hk);exact h4
theorem Told.ok(hr:R none N I Fp ts H n cts h U)(hJ:Known P.J N I h){r r':DV}(ht:Told P.J H r r'){y:V1}(hy:v1R h N I H r y)(hg:∀k q g,r.cell k=some q→g∈q.tags→g<n):v1R h N I H r' y∧∀k q g,r'.cell k=some q→g∈q.tags→g<n:=by
 have one:∀{c c':DC},v1R h N I H (.one c) y→(∀v,bG h N I H c v (fun _=>False)→bG h N I H c' v (fun _=>False))→v1R h N I H (.one c') y:=fun{c c'} hy hc=>by
  refine⟨by cases y<;>first|trivial|exact hy.1,fun k q hq=>?_⟩;simp only[DV.cell]at hq;split at hq
  ·rename_i e;subst e;cases hq;obtain⟨v,h1,h2⟩:=hy.2 0 c rfl;exact⟨v,h1,hc v h2⟩
  ·simp at hq
 cases ht with
 |same=>exact⟨hy,hg⟩
 |nm h1 h2=>refine⟨one hy fun v hv=>?_,aj (by simp[DC.tags])⟩;obtain⟨p,⟨id',base',sz',e1,e2⟩,e3⟩:=hv h2;rw[hJ.nm _ _ h1]at e1;cases e1;subst e2;exact⟨rfl,e3⟩
 |bk h1 h2=>
  refine⟨one hy fun v hv _=>?_,aj fun g hg=>?_⟩
  ·obtain⟨-,rfl⟩:=hv;exact⟨_,⟨_,_,_,hJ.nm _ _ h1,rfl⟩,rfl⟩
  ·simp only[DC.tags,List.mem_singleton]at hg;subst hg;obtain⟨db,hdb⟩:=Option.isSome_iff_exists.1 h2;exact hr.htag _ db hdb
 |vw h1=>refine⟨one hy fun v hv=>?_,aj (by simp[DC.tags])⟩;obtain⟨-,rfl⟩:=hv;exact hJ.v _ _ h1
theorem aC4{f:FOp}(hr:R none N I Fp ts H n cts h U)(hJ:Known P.J N I h)(hx:d7 P (.fl f) ts H n K):Good P (.fl f) N I Fp H n cts h U i c K:=by
 have gen:(∃r r',(dfl ts H f=some r∨FlV P.J ts f r)∧Told P.J H r r'∧K (.v r') ts H n [])→Good P (.fl f) N I Fp H n cts h U i c K:=by
  rintro⟨r,r',h1,h0,h2⟩;have key:∃y,FOp.ev h cts f=some y∧v1R h N I H r y∧∀k q g,r.cell k=some q→g∈q.tags→g<n:=by
   rcases h1 with h1|h1
   ·obtain⟨y,h3,h4⟩:=z9 hr h1;exact⟨y,h3,h4,ux hr h1⟩
   ·clear hx;have sc:∀{x:Opd}{w:CV},cC ts x=some (.sc w)→ev1 cts x=some w:=fun hx=>by obtain⟨v,h3,h4⟩:=bg hr hx;obtain⟨-,rfl⟩:=h4;exact h3
    cases h1 with
    |nck hx=>exact⟨_,by simp only[FOp.ev,sc hx],cQ rfl,aj (by simp[DC.tags])⟩
    |lenC hx=>exact⟨_,by simp only[FOp.ev,sc hx],cQ rfl,aj (by simp[DC.tags])⟩
    |lenN hx=>exact⟨_,by simp only[FOp.ev,sc hx],cQ rfl,aj (by simp[DC.tags])⟩
    |len hx hv=>
     rcases(hJ.v _ _ hv).len with⟨z,rfl,rfl⟩| ⟨id,base,lim,cf,rfl, -⟩
     ·exact⟨_,by simp only[FOp.ev,sc hx];rfl,cQ rfl,aj (by simp[DC.tags])⟩
     ·exact⟨_,by simp only[FOp.ev,sc hx],cQ rfl,aj (by simp[DC.tags])⟩
    |idx hx hi hv hk=>
     rename_i es k;have h6:=hJ.v _ _ hv;cases h6 with
     |nil=>simp at hk
     |sl hN hrow hcell=>rename_i id base lim cf;obtain⟨bb,e1,e2, -⟩:=hrow.blk;have h5:=fM hr hi;refine⟨.one (.ptr id ((base+k)*1)),?_,bw ⟨id,base,cf,hN,hrow,hcell,rfl⟩,aj (by simp[DC.tags])⟩;simp only[FOp.ev,sc hx,h5,e1,e2];rw[if_pos ⟨by simp,by simpa using hk,by trivial⟩];simp
    |cut hx hy hv hm=>
     have h6:=hJ.v _ _ hv;have h5:=fM hr hy;cases h6 with
     |sl hN hrow hcell=>obtain⟨bb,e1,e2, -⟩:=hrow.blk;refine⟨_,?_,cQ rfl,aj (by simp[DC.tags])⟩;simp only[FOp.ev,sc hx,e1,e2,if_true,dH,h5];rw[if_pos ⟨by simp,by simpa using hm⟩];rfl
  obtain⟨y,h3,h4,h7⟩:=key;obtain⟨h5,h6⟩:=h0.ok hr hJ h4 h7;exact Good.of hr (by simp only[COp.ev,h3]) h5.t (ck h6) h2
 cases f with
 |cmpNil neg x=>
  simp only[d7]at hx;have scT:∀b:Bool,∀j k q g,(DT.v (.one (.sc (.bool b)))).cell j k=some q→g∈q.tags→g<n:=fun b=>ck (aj (by simp[DC.tags]))
  have fin:∀(b:Bool)(v:CV),FOp.ev h cts (.cmpNil neg x)=some (.one (.bool (if neg then !b else b)))→K (.v (.one (.sc (.bool (if neg then !b else b))))) ts H n []→Good P (.fl (.cmpNil neg x)) N I Fp H n cts h U i c K:=by intro b v hev hK;exact Good.of hr (r:=.v (.one (.bool (if neg then !b else b)))) (by simp only[COp.ev,hev]) (cQ rfl).t (scT _) hK
  split at hx
  ·rename_i g lo len h1;obtain⟨⟨sz,es,ov,hdb⟩,hK⟩:=hx;obtain⟨v,h2,h3⟩:=bg hr h1;obtain⟨k1,k2⟩:=h3 _ _ _ hdb;rcases hr.bsh g _ hdb with⟨e1,e2⟩| ⟨id,base,b,e1, -⟩
   ·rw[e1]at k2;obtain⟨z,rfl⟩:=k2;subst e2;simp only[List.length_nil]at k1;exact fin true (.nils z) (by simp only[FOp.ev,h2];cases neg<;>rfl) (hK true fun _=>by omega)
   ·rw[e1]at k2;simp only at k2;subst k2;exact fin false .nilp (by simp only[FOp.ev,h2];cases neg<;>rfl) (hK false (by simp))
  ·rename_i b sz es h1;obtain⟨v,h2,h3⟩:=bg hr h1;rcases h3.len with⟨z,rfl,rfl⟩| ⟨id,base,lim,cf,rfl, -⟩
   ·exact fin true (.nils z) (by simp only[FOp.ev,h2];cases neg<;>rfl) (hx true fun _=>rfl)
   ·exact fin false .nilp (by simp only[FOp.ev,h2];cases neg<;>rfl) (hx false (by simp))
  ·exact hx.elim
 |_=>exact gen hx
theorem ou:∀{zs:List CV}{cs:List DC},iV zs=some cs→cs.length=zs.length∧∀(k:Nat) x,cs[k]?=some x→∃v,zs[k]?=some v∧bG h N I H x v (fun _=>False)∧x.tags=[]:=by
 intro zs;induction zs with
 |nil=>intro cs hc;simp only[iV,Option.some.injEq]at hc;subst hc;exact⟨rfl,by simp⟩
 |cons z l ih=>
  intro cs hc;simp only[iV]at hc;split at hc
  ·rename_i x m h1 h2;cases hc;obtain⟨i1,i2⟩:=ih h2;refine⟨by simp[i1],fun k y hk=>?_⟩;cases k with
   |zero=>
    cases hk;refine⟨z,rfl,sA h1,?_⟩;unfold nY at h1;split at h1
    ·cases h1;rfl
    ·cases h1;rfl
    ·split at h1
     ·cases h1;rfl
     ·simp at h1
   |succ k=>simpa using i2 k y (by simpa using hk)
  ·simp at hc
theorem kg{x:DV}{y:V1}(hv:v1R h N I H x y):y.cells.length=x.cells.length∧∀(k:Nat) q,x.cells[k]?=some q→∃v,y.cells[k]?=some v∧bG h N I H q v (fun _=>False):=by
 obtain⟨h1,h2⟩:=hv;cases x with
 |one c=>
  cases y with
  |one v=>
   refine⟨rfl,fun k q hk=>?_⟩;cases k with
   |zero=>simp only[DV.cells,List.getElem?_cons_zero,Option.some.injEq]at hk;subst hk;obtain⟨w,h3,h4⟩:=h2 0 c (by simp[DV.cell]);simp only[fE,if_true,Option.some.injEq]at h3;subst h3;exact⟨v,rfl,h4⟩
   |succ k=>simp[DV.cells]at hk
  |agg cs=>simp[fj]at h1
 |agg cs=>
  cases y with
  |one v=>simp[fj]at h1
  |agg ds=>exact⟨h1,fun k q hk=>h2 k q hk⟩
theorem aAK(hr:R none N I Fp ts H n cts h U):∀{ps:List Part}{cs cs':List DC}{vs:List CV},qe ts ps cs=some cs'→vs.length=cs.length→(∀(k:Nat) x,cs[k]?=some x→(∃v,vs[k]?=some v∧bG h N I H x v (fun _=>False))∧∀g,g∈x.tags→g<n)→
  ∃vs',kJ cts ps vs=some vs'∧vs'.length=cs'.length∧∀(k:Nat) x,cs'[k]?=some x→(∃v,vs'[k]?=some v∧bG h N I H x v (fun _=>False))∧∀g,g∈x.tags→g<n:=by
 intro ps;induction ps with
 |nil=>intro cs cs' vs hf hl hc;simp only[qe,Option.some.injEq]at hf;subst hf;exact⟨vs,rfl,hl,hc⟩
 |cons p rest ih=>
  intro cs cs' vs hf hl hc;simp only[qe]at hf;split at hf
  case h_2=>simp at hf
  rename_i r h1;split at hf
  case isFalse=>simp at hf
  rename_i h2;obtain⟨v,h3,h4⟩:=gX hr h1;obtain⟨h5,h6⟩:=kg h4;simp only[kJ,h3];rw[if_pos ⟨by omega,by omega⟩];refine ih hf ?_ fun k x hk=>?_
  ·simp only[gk,List.length_append,List.length_take,List.length_drop];omega
  ·simp only[gk];have e1:min p.off cs.length=p.off:=by omega
   have e2:min p.off vs.length=p.off:=by omega
   by_cases k1:k<p.off
   ·rw[List.getElem?_append_left (by simp;omega),List.getElem?_take,if_pos k1]at hk;rw[List.getElem?_append_left (by simp;omega),List.getElem?_take,if_pos k1];exact hc k x hk
   ·rw[List.getElem?_append_right (by simp;omega),List.length_take,e1]at hk;rw[List.getElem?_append_right (by simp;omega),List.length_take,e2];by_cases k2:k-p.off<r.cells.length
    ·rw[List.getElem?_append_left k2]at hk;rw[List.getElem?_append_left (by omega)];obtain⟨w,h7,h8⟩:=h6 _ x hk;refine⟨⟨w,h7,h8⟩,fun g hg=>e9 hr h1 (k-p.off) x g (by rw[DV.dh];exact hk) hg⟩
    ·rw[List.getElem?_append_right (by omega),List.getElem?_drop]at hk;rw[List.getElem?_append_right (by omega),List.getElem?_drop,h5];exact hc _ x hk
theorem wI{zs:List CV}{ps:List Part}(hr:R none N I Fp ts H n cts h U)(hx:d7 P (.build zs ps) ts H n K):Good P (.build zs ps) N I Fp H n cts h U i c K:=by
 obtain⟨cs0,cs,h1,h2,h3⟩:=hx;obtain⟨h4,h5⟩:=ou (h:=h) (N:=N) (I:=I) (H:=H) h1;obtain⟨vs',h6,h7,h8⟩:=aAK hr h2 h4.symm fun k x hk=>by obtain⟨v,e1,e2,e3⟩:=h5 k x hk;exact⟨⟨v,e1,e2⟩,by rw[e3];simp⟩
 exact Good.of hr (by simp only[COp.ev,h6]) (oZ h7 fun j x hj=>(h8 j x hj).1).t (ck fun k q g hk hg=>(h8 k q hk).2 g hg) h3
theorem aBK{t j:Nat}(hr:R none N I Fp ts H n cts h U)(hx:d7 P (.ext t j) ts H n K):Good P (.ext t j) N I Fp H n cts h U i c K:=by
 obtain⟨l,r,h1,h2,h3,h4⟩:=hx;obtain⟨y,h5,h6⟩:=hr.tsh t _ h1;cases y with
 |tup m=>
  obtain⟨h7,h8⟩:=h6;have hlt:j<m.length:=by rw[h7];exact(List.getElem?_eq_some_iff.1 h2).1
  have hv:v1R h N I H r m[j]:=by
   refine⟨h8 j r _ h2 (List.getElem?_eq_getElem hlt),fun k q hk=>?_⟩;obtain⟨v,k1,k2⟩:=hr.cell (.t t j k) q (by simp) (by simp[aa,h1,DT.cell,h2,hk]);simp only[bW,h5,Option.bind_some,fC,List.getElem?_eq_getElem hlt]at k1;refine⟨v,k1,k2.plain ?_⟩;cases r with
   |one c'=>simp only[DV.cell]at hk;split at hk<;>simp_all[DV.plain]
   |agg cs=>simp only[DV.cell]at hk;simp only[DV.plain,List.all_eq_true]at h3;exact h3 q (List.mem_of_getElem? hk)
  exact Good.of hr (by simp only[COp.ev,h5,List.getElem?_eq_getElem hlt]) hv.t (ck fun k q g hk hg=>hr.tags (.t t j k) q g (by simp[aa,h1,DT.cell,h2,hk]) hg) h4
 |v z=>simp[tSh]at h6
 |gone=>simp[tSh]at h6
theorem DT.wV{x:DT}(hx:x.plain=true){j k:Nat}{q:DC}(hq:x.cell j k=some q):q.plain=true:=by
 have v:∀{r:DV},r.plain=true→∀{k:Nat},r.cell k=some q→q.plain=true:=by
  intro r hr k hk;cases r with
  |one c'=>simp only[DV.cell]at hk;split at hk<;>simp_all[DV.plain]
  |agg cs=>simp only[DV.cell]at hk;simp only[DV.plain,List.all_eq_true]at hr;exact hr q (List.mem_of_getElem? hk)
 cases x with
 |v r=>
  simp only[DT.cell]at hq;split at hq
  ·exact v hx hq
  ·simp at hq
 |tup l=>simp only[DT.cell,Option.bind_eq_some_iff]at hq;obtain⟨r,h1,h2⟩:=hq;simp only[DT.plain,List.all_eq_true]at hx;exact v (hx r (List.mem_of_getElem? h1)) h2
 |gone=>simp[DT.cell]at hq
theorem aCn{t:Nat}(hr:R none N I Fp ts H n cts h U)(hx:d7 P (.cp t) ts H n K):Good P (.cp t) N I Fp H n cts h U i c K:=by obtain⟨x,h1,h2,h3⟩:=hx;obtain⟨y,h5,h6⟩:=hr.tsh t _ h1;refine Good.of hr (x:=x) (r:=y) (by simp only[COp.ev,h5]) ⟨h6,fun j k q hq=>?_⟩ (fun j k q g hq hg=>hr.tags (.t t j k) q g (by simp[aa,h1,hq]) hg) h3;obtain⟨v,k1,k2⟩:=hr.cell (.t t j k) q (by simp) (by simp[aa,h1,hq]);simp only[bW,h5,Option.bind_some]at k1;exact⟨v,k1,k2.plain (DT.wV h2 hq)⟩
theorem vT(hr:R none N I Fp ts H n cts h U):∀{xs:List Opd}{l:List (Nat×Nat×Nat)},g9 ts xs=some l→(∀q,q∈l→(aG H q.1).isSome=true)→∃cs,i5 cts xs=some cs∧cs.length=l.length∧∀(j:Nat) q,l[j]?=some q→∃p,cs[j]?=some p∧PtR I q.1 q.2.1 q.2.2 p:=by
 intro xs;induction xs with
 |nil=>intro l hl _;simp only[g9,Option.some.injEq]at hl;subst hl;exact⟨[],rfl,rfl,by simp⟩
 |cons x xs ih=>
  intro l hl hlive;simp only[g9]at hl;split at hl
  ·rename_i g i k rs h1 h2;cases hl;obtain⟨v,h3,h4⟩:=bg hr h1;obtain⟨p,h5,rfl⟩:=h4 (hlive (g,i,k) (by simp));obtain⟨cs,i1,i2,i3⟩:=ih h2 fun q hq=>hlive q (by simp[hq])
   refine⟨(p.1,p.2)::cs,by simp only[i5,h3,i1],by simp[i2],fun j q hj=>?_⟩;cases j with
   |zero=>cases hj;exact⟨p,rfl,h5⟩
   |succ j=>simpa using i3 j q (by simpa using hj)
  ·simp at hl
theorem aCW{mx:Bool}{x y:Opd}(hr:R none N I Fp ts H n cts h U)(hx:d7 P (.mm mx x y) ts H n K):Good P (.mm mx x y) N I Fp H n cts h U i c K:=by
 obtain⟨a,b,r,h1,h2,h3,h4⟩:=hx;have hs:nR r=true:=by
  unfold v7 at h3;split at h3
  ·split at h3
   ·cases h3;rfl
   ·simp at h3
  ·simp at h3
 exact Good.of hr (by simp only[COp.ev,(eX hr h1).1,(eX hr h2).1,h3]) (cQ hs).t (ck (aj (by simp[DC.tags]))) h4
theorem aBT{neg:Bool}{ks:List LK}{x y:Opd}(hr:R none N I Fp ts H n cts h U)(hx:d7 P (.eqA neg ks x y) ts H n K):Good P (.eqA neg ks x y) N I Fp H n cts h U i c K:=by obtain⟨xs,ys,cs,ds,b,h1,h2,h3,h4,h5,h6⟩:=hx;exact Good.of hr (by simp only[COp.ev,ur hr h1 h3,ur hr h2 h4,h5]) (cQ rfl).t (ck (aj (by simp[DC.tags]))) h6
theorem zw{x:Opd}{off:Nat}{m:Option Nat}(hr:R none N I Fp ts H n cts h U)(hx:d7 P (.fld x off m) ts H n K):Good P (.fld x off m) N I Fp H n cts h U i c K:=by
 obtain⟨xs,h1,h2⟩:=hx;obtain⟨v,h3,h4,h5⟩:=gX hr h1;cases v with
 |one z=>simp[fj]at h4
 |agg cs=>
  simp only[fj]at h4;have hev:iT cts x=some cs:=by simp only[iT,h3]
  cases m with
  |none=>obtain⟨q,h6,h7⟩:=h2;obtain⟨w,h8,h9⟩:=h5 off q h6;exact Good.of hr (by simp only[COp.ev,hev,rO];rw[show cs[off]?=some w from h8];rfl) (bw h9).t (ck (aj fun g hg=>e9 hr h1 off q g h6 hg)) h7
  |some m=>
   obtain⟨h6,h7⟩:=h2;refine Good.of hr (r:=.v (.agg ((cs.drop off).take m))) (by simp only[COp.ev,hev,rO];rw[if_pos (by omega)]) (oZ (by simp[h4]) fun j q hj=>?_).t (ck fun k q g hk hg=>?_) h7
   ·simp only[List.getElem?_take,List.getElem?_drop]at hj ⊢;split at hj
    ·rename_i hlt;rw[if_pos hlt];exact h5 _ q hj
    ·simp at hj
   ·simp only[DV.cell,List.getElem?_take,List.getElem?_drop]at hk;split at hk
    ·exact e9 hr h1 _ q g hk hg
    ·simp at hk
end
end Go.Cq.D
namespace Go.Cq.D
section
variable{P:Prg}{N:Bool→Nat→Prop}{I:Nm}{Fp:Loc→Nat→Prop}{ts:DTs}{H:DH}{n:Nat}{cts:Ts}{h:Heap}{U:Nat→Prop}{i c:Nat}{K:DT→DTs→DH→Nat→List Nat→Prop}
theorem qc{zs:List CV}{k m:Nat}(hk:k<m):(Blk.get ⟨zs.length,m,true,zs,.lf⟩ k)=zs[k % zs.length]?:=by
 unfold Blk.get;have:Nat.blt k m=true:=by rw[Nat.blt_eq];exact hk
 simp[this,Tr.get]
theorem tV{y:NOp}{cs:List DC}{vs:List CV}(hr:R none N I Fp ts H n cts h U)(hi:¬U i)(hev:NOp.ev cts i y=some (⟨vs.length,vs.length,true,vs,.lf⟩,.ptr i 0))(hl:vs.length=cs.length)(hc:∀(k:Nat) x,cs[k]?=some x→(∃v,vs[k]?=some v∧bG h N I H x v (fun _=>False))∧∀g,g∈x.tags→g<n)(hK:K (.v (.one (.ptr n 0 0))) ts ((n,.box cs)::H) (n+1) []):Good P (.nw y) N I Fp H n cts h U i c K:=by
 obtain⟨Fp',h1,h2⟩:=hr.new (U':=fun id=>U id∨id=i∨c≤id∧id<c) (i:=i) (b:=⟨vs.length,vs.length,true,vs,.lf⟩) (db:=.box cs) (sz:=0) hi (fun _ h=>.inl h) (.inr (.inl rfl)) rfl ⟨i,_,by simp[upd],by rw[Heap.aQ,if_pos rfl],by simp only;omega⟩ (fun i' k x hx=>by
  simp only[DB.cell]at hx;split at hx
  ·rename_i e;subst e;obtain⟨⟨v,k1,k2⟩,k3⟩:=hc k x hx;have hlt:k<vs.length:=(List.getElem?_eq_some_iff.1 k1).1;refine⟨v,?_,k2,k3⟩;rw[Nat.zero_mul,Nat.zero_add,qc hlt,Nat.mod_eq_of_lt hlt];exact k1
  ·simp at hx)
 have hv:v1R (h.set i (some ⟨vs.length,vs.length,true,vs,.lf⟩)) N (upd I n (some (i,0,0))) ((n,.box cs)::H) (.one (.ptr n 0 0)) (.one (.ptr i 0)):=bw fun _=>⟨(i,0),⟨i,0,0,by simp[upd],by simp⟩,rfl⟩
 refine Good.of' h1 h2 hr (r:=.v (.one (.ptr i 0))) (by simp only[COp.ev,hev]) hv.t (ck (aj (by simp[DC.tags]))) (fun g db id b s hg hI _=>?_) hK;rw[Heap.aQ,if_neg];intro e;exact hi (e▸aV.lt hr (.inr ⟨g,db,b,s,hg,hI⟩))
theorem vm{zs:List CV}(hr:R none N I Fp ts H n cts h U)(hi:¬U i)(hx:d7 P (.nw (.alloc zs)) ts H n K):Good P (.nw (.alloc zs)) N I Fp H n cts h U i c K:=by obtain⟨cs,h1,h2⟩:=hx;obtain⟨k1,k2⟩:=ou (h:=h) (N:=N) (I:=I) (H:=H) h1;exact tV hr hi rfl k1.symm (fun k x hk=>by obtain⟨v,e1,e2,e3⟩:=k2 k x hk;exact⟨⟨v,e1,e2⟩,by rw[e3];simp⟩) h2
theorem yM{x:Opd}(hr:R none N I Fp ts H n cts h U)(hi:¬U i)(hx:d7 P (.nw (.box x)) ts H n K):Good P (.nw (.box x)) N I Fp H n cts h U i c K:=by obtain⟨r,h1,h2⟩:=hx;obtain⟨v,h3,h4⟩:=gX hr h1;obtain⟨h5,h6⟩:=kg h4;exact tV (vs:=v.cells) hr hi (by simp only[NOp.ev,h3]) h5 (fun k x hk=>⟨h6 k x hk,fun g hg=>e9 hr h1 k x g (by rw[DV.dh];exact hk) hg⟩) h2
theorem uO:∀{zs:List CV}{row:List PV},ff zs=some row→row.length=zs.length∧∀(k:Nat) p,row[k]?=some p→∃v,zs[k]?=some v∧bG h N I H p.dc v (fun _=>False)∧p.dc.tags=[]:=by
 intro zs;induction zs with
 |nil=>intro cs hc;simp only[ff,Option.some.injEq]at hc;subst hc;exact⟨rfl,by simp⟩
 |cons z l ih=>
  intro cs hc;simp only[ff]at hc;split at hc
  ·rename_i x m h1 h2;cases hc;obtain⟨i1,i2⟩:=ih h2;refine⟨by simp[i1],fun k y hk=>?_⟩;cases k with
   |zero=>
    cases hk;refine⟨z,rfl,?_⟩;unfold xK at h1;split at h1
    ·cases h1;exact⟨OwR.nil,rfl⟩
    ·split at h1
     ·rename_i hs;cases h1;exact⟨⟨hs,rfl⟩,rfl⟩
     ·simp at h1
   |succ k=>simpa using i2 k y (by simpa using hk)
  ·simp at hc
theorem R.newRow(hr:R none N I Fp ts H n cts h U)(hi:¬U i){zs:List CV}{row:List PV}(h1:ff zs=some row)(hz:zs.length≠0){m cap:Nat}(hm:m≤cap):
  ∃Fp',R none N (upd I n (some (i,0,zs.length))) Fp' ts ((n,.arr zs.length (List.replicate m row) [])::H) (n+1) cts (h.set i (some ⟨zs.length,cap*zs.length,true,zs,.lf⟩)) (fun id=>U id∨id=i∨c≤id∧id<c)∧
   Grow I Fp H n U h (upd I n (some (i,0,zs.length))) Fp' ((n,.arr zs.length (List.replicate m row) [])::H) (n+1) (fun id=>U id∨id=i∨c≤id∧id<c) (h.set i (some ⟨zs.length,cap*zs.length,true,zs,.lf⟩)):=by
 obtain⟨k1,k2⟩:=uO (h:=h) (N:=N) (I:=I) (H:=H) h1;refine hr.new (U':=fun id=>U id∨id=i∨c≤id∧id<c) (i:=i) hi (fun _ h=>.inl h) (.inr (.inl rfl)) rfl (.inr ⟨i,0,_,by simp[upd],by rw[Heap.aQ,if_pos rfl],rfl,hz,?_,fun j r hj=>?_⟩) (fun i' k x hx=>?_)
 ·simp only[List.length_replicate,Nat.zero_add];exact Nat.mul_le_mul_right _ hm
 ·rw[List.getElem?_replicate]at hj;split at hj
  ·cases hj;exact k1
  ·simp at hj
 ·simp only[DB.cell,ab]at hx;split at hx
  ·rename_i p hp;cases hx;simp only[Option.bind_eq_some_iff]at hp;obtain⟨r,e1,e2⟩:=hp;rw[List.getElem?_replicate]at e1;split at e1
   ·rename_i hlt;cases e1;obtain⟨v,e3,e4,e5⟩:=k2 k p e2;have hkl:k<zs.length:=(List.getElem?_eq_some_iff.1 e3).1;refine⟨v,?_,e4,by rw[e5];simp⟩;rw[qc]
    ·rw[Nat.mul_comm,Nat.mul_add_mod,Nat.mod_eq_of_lt hkl];exact e3
    ·have:(i'+1)*zs.length≤cap*zs.length:=Nat.mul_le_mul_right _ (by omega);rw[Nat.add_mul,Nat.one_mul]at this;omega
   ·simp at e1
  ·simp at hx
theorem aBs{zs:List CV}{bytes:Nat}{x y:Opd}(hr:R none N I Fp ts H n cts h U)(hi:¬U i)(hx:d7 P (.nw (.mk zs bytes x y)) ts H n K):Good P (.nw (.mk zs bytes x y)) N I Fp H n cts h U i c K:=by
 obtain⟨row,m,cp,h1,hz,h2,h3,h4,h5⟩:=hx;obtain⟨Fp',k1,k2⟩:=hr.newRow (c:=c) hi h1 hz (m:=m.toNat) (cap:=cp.toNat) (by omega);have hv:v1R (h.set i (some ⟨zs.length,cp.toNat*zs.length,true,zs,.lf⟩)) N (upd I n (some (i,0,zs.length))) ((n,.arr zs.length (List.replicate m.toNat row) [])::H) (.one (.sl n 0 m.toNat)) (.one (.sl i 0 m.toNat none)):=bw fun sz es ov hg=>by rw[aW,if_pos rfl]at hg;simp only[Option.some.injEq,DB.arr.injEq]at hg;obtain⟨rfl,rfl,rfl⟩:=hg;exact⟨by simp,by simp[upd]⟩
 refine Good.of' k1 k2 hr (r:=.v (.one (.sl i 0 m.toNat none))) (by simp only[COp.ev,NOp.ev,fM hr h2,fM hr h3];rw[if_pos h4]) hv.t (ck (aj (by simp[DC.tags]))) (fun g db id b s hg hI _=>?_) h5;rw[Heap.aQ,if_neg];intro e;exact hi (e▸aV.lt hr (.inr ⟨g,db,b,s,hg,hI⟩))
theorem R.aBC(hr:R none N I Fp ts H n cts h U)(hi:¬U i)(bs:List UInt8):
  ∃Fp',R none N (upd I n (some (i,0,1))) Fp' ts ((n,.arr 1 (bs.map dE) [])::H) (n+1) cts (h.set i (some (cd 1 (bs.map fun b=>.int .u8 (b.toNat:Int))))) (fun id=>U id∨id=i∨c≤id∧id<c)∧
   Grow I Fp H n U h (upd I n (some (i,0,1))) Fp' ((n,.arr 1 (bs.map dE) [])::H) (n+1) (fun id=>U id∨id=i∨c≤id∧id<c) (h.set i (some (cd 1 (bs.map fun b=>.int .u8 (b.toNat:Int))))):=by
 refine hr.new (U':=fun id=>U id∨id=i∨c≤id∧id<c) (i:=i) hi (fun _ h=>.inl h) (.inr (.inl rfl)) rfl (.inr ⟨i,0,_,by simp[upd],by rw[Heap.aQ,if_pos rfl],rfl,by decide,by simp[cd],fun j r hj=>?_⟩) (fun i' k x hx=>?_)
 ·rw[List.getElem?_map,Option.map_eq_some_iff]at hj;obtain⟨b, -,rfl⟩:=hj;rfl
 ·simp only[DB.cell,ab]at hx;split at hx
  ·rename_i p hp;cases hx;simp only[Option.bind_eq_some_iff]at hp;obtain⟨r,e1,e2⟩:=hp;rw[List.getElem?_map,Option.map_eq_some_iff]at e1;obtain⟨b,e1,rfl⟩:=e1;cases k with
   |zero=>simp only[dE,List.getElem?_cons_zero,Option.some.injEq]at e2;subst e2;refine⟨.int .u8 (b.toNat:Int),?_,⟨rfl,rfl⟩,by simp[PV.dc,DC.tags]⟩;rw[iJ,Nat.mul_one,Nat.add_zero,List.getElem?_map,e1];rfl
   |succ k=>simp[dE]at e2
  ·simp at hx
theorem aCI{x:Opd}(hr:R none N I Fp ts H n cts h U)(hi:¬U i)(hx:d7 P (.nw (.sb x)) ts H n K):Good P (.nw (.sb x)) N I Fp H n cts h U i c K:=by
 obtain⟨bs,h1,h5⟩:=hx;obtain⟨e1, -⟩:=eX hr h1;obtain⟨Fp',k1,k2⟩:=hr.aBC (c:=c) hi bs;have hv:v1R (h.set i (some (cd 1 (bs.map fun b=>.int .u8 (b.toNat:Int))))) N (upd I n (some (i,0,1))) ((n,.arr 1 (bs.map dE) [])::H) (.one (.sl n 0 bs.length)) (.one (.sl i 0 bs.length none)):=bw fun sz es ov hg=>by rw[aW,if_pos rfl]at hg;simp only[Option.some.injEq,DB.arr.injEq]at hg;obtain⟨rfl,rfl,rfl⟩:=hg;exact⟨by simp,by simp[upd]⟩
 refine Good.of' k1 k2 hr (r:=.v (.one (.sl i 0 bs.length none))) (by simp only[COp.ev,NOp.ev,e1]) hv.t (ck (aj (by simp[DC.tags]))) (fun g db id b s hg hI _=>?_) h5;rw[Heap.aQ,if_neg];intro e;exact hi (e▸aV.lt hr (.inr ⟨g,db,b,s,hg,hI⟩))
theorem aCj{i k:Nat}{x:DC}{sz:Nat}{es:List (List PV)}{ov:List (Nat×Nat×DC)}{db:DB}(h:wr1 i k x (.arr sz es ov)=some db):∃es' ov',db= .arr sz es' ov'∧es'.length=es.length:=by
 simp only[wr1]at h;split at h
 ·split at h
  ·split at h<;>simp only[Option.some.injEq]at h<;>subst h<;>exact⟨_,_,rfl,by simp⟩
  ·cases h;exact⟨_,_,rfl,rfl⟩
 ·simp at h
theorem aBo{i:Nat}:∀{l:List DC}{k:Nat}{sz:Nat}{es:List (List PV)}{ov:List (Nat×Nat×DC)}{db:DB},wrN i k l (.arr sz es ov)=some db→∃es' ov',db= .arr sz es' ov'∧es'.length=es.length:=by
 intro l;induction l with
 |nil=>intro k sz es ov db h;simp only[wrN,Option.some.injEq]at h;exact⟨es,ov,h.symm,rfl⟩
 |cons x l ih=>
  intro k sz es ov db h;simp only[wrN]at h;split at h
  ·rename_i db1 h1;obtain⟨es1,ov1,rfl,e1⟩:=aCj h1;obtain⟨es2,ov2,rfl,e2⟩:=ih h;exact⟨es2,ov2,rfl,by omega⟩
  ·simp at h
theorem aAA{sz:Nat}{g id:Nat}(hI:I g=some (id,0,sz)):∀{ps:List Part}{db db':DB}{Fp:Loc→Nat→Prop}{H:DH}{h:Heap}{b:Blk},R none N I Fp ts H n cts h U→aG H g=some db→h.get id=some b→mS ts sz ps db=some db'→
  ∃b',lI cts ps b=some b'∧∃Fp',R none N I Fp' ts (cj g db' H) n cts (h.set id (some b')) U∧(∀ℓ x,Fp' ℓ x→Fp ℓ x):=by
 intro ps;induction ps with
 |nil=>
  intro db db' Fp H h b hr hg hb hf;simp only[mS,Option.some.injEq]at hf;subst hf;refine⟨b,rfl,Fp,hr.ext (fun g'=>?_) (fun id'=>?_),fun _ _ h=>h⟩
  ·rw[ax];split
   ·rename_i e;rw[e,hg]
   ·rfl
  ·rw[Heap.aQ];split
   ·rename_i e;rw[e,hb]
   ·rfl
 |cons p rest ih=>
  intro db db' Fp H h b hr hg hb hf;simp only[mS]at hf;split at hf
  case h_2=>simp at hf
  rename_i r h1;split at hf
  case isFalse=>simp at hf
  rename_i h2;split at hf
  case h_2=>simp at hf
  rename_i db1 h3;obtain⟨v,h4,h5⟩:=gX hr h1;obtain⟨h6,h7⟩:=kg h5;have hoff:(0+p.off / sz)*sz+p.off % sz=p.off:=by rw[Nat.zero_add,Nat.mul_comm];exact Nat.div_add_mod _ _
  obtain⟨k1,Fp1,k2,k3⟩:=hr.aAh hg h3 hI hb h6 (fun j x hj=>⟨h7 j x hj,fun g' hg'=>e9 hr h1 j x g' (by rw[DV.dh];exact hj) hg'⟩);have k1':=k1 h2.2;rw[hoff]at k1' k2;obtain⟨b',m1,Fp2,m2,m3⟩:=ih k2 (by rw[ax,if_pos rfl]) (by rw[Heap.aQ,if_pos rfl]) hf;refine⟨b',?_,Fp2,m2.ext (fun g'=>?_) (fun id'=>?_),fun ℓ x hx=>k3 _ _ (m3 _ _ hx)⟩
  ·simp only[lI,h4];rw[if_pos ⟨by omega,by omega⟩];exact m1
  ·simp only[ax];split<;>rfl
  ·simp only[Heap.aQ];split<;>rfl
theorem yG{sz:Nat}:∀{ps:List Part}{sz':Nat}{es:List (List PV)}{ov:List (Nat×Nat×DC)}{db:DB},mS ts sz ps (.arr sz' es ov)=some db→∃es' ov',db= .arr sz' es' ov'∧es'.length=es.length:=by
 intro ps;induction ps with
 |nil=>intro sz' es ov db h;simp only[mS,Option.some.injEq]at h;exact⟨es,ov,h.symm,rfl⟩
 |cons p rest ih=>
  intro sz' es ov db h;simp only[mS]at h;split at h
  ·split at h
   ·split at h
    ·rename_i db1 h1;obtain⟨es1,ov1,rfl,e1⟩:=aBo h1;obtain⟨es2,ov2,rfl,e2⟩:=ih h;exact⟨es2,ov2,rfl,by omega⟩
    ·simp at h
   ·simp at h
  ·simp at h
theorem aAw{zs:List CV}{len:Nat}{ps:List Part}(hr:R none N I Fp ts H n cts h U)(hi:¬U i)(hx:d7 P (.nw (.lit zs len ps)) ts H n K):Good P (.nw (.lit zs len ps)) N I Fp H n cts h U i c K:=by
 obtain⟨row,db,h1,hz,h2,h3⟩:=hx;obtain⟨Fp',k1,k2⟩:=hr.newRow (c:=c) hi h1 hz (m:=len) (cap:=len) (Nat.le_refl _);obtain⟨b',m1,Fp2,m2,m3⟩:=aAA (g:=n) (id:=i) (by simp[upd]) k1 (by rw[aW,if_pos rfl]) (by rw[Heap.aQ,if_pos rfl]) h2;obtain⟨es',ov',rfl,e2⟩:=yG h2;have m2':R none N (upd I n (some (i,0,zs.length))) Fp2 ts ((n,.arr zs.length es' ov')::H) (n+1) cts (h.set i (some b')) (fun id=>U id∨id=i∨c≤id∧id<c):=m2.ext (fun g'=>by simp only[ax,aW];split<;>rfl) (fun id'=>by simp only[Heap.aQ];split<;>rfl);have hv:v1R (h.set i (some b')) N (upd I n (some (i,0,zs.length))) ((n,.arr zs.length es' ov')::H) (.one (.sl n 0 len)) (.one (.sl i 0 len none)):=bw fun sz es ov hg=>by rw[aW,if_pos rfl]at hg;simp only[Option.some.injEq,DB.arr.injEq]at hg;obtain⟨rfl,rfl,rfl⟩:=hg;simp only[List.length_replicate]at e2;exact⟨by omega,by simp[upd]⟩
 refine Good.of' m2' ⟨k2.nn,k2.cc,k2.nm,fun id hid=>k2.own id ?_,fun id e1 e2=>?_,fun g d hg hd=>?_,fun _=>rfl⟩ hr (r:=.v (.one (.sl i 0 len none))) (by simp only[COp.ev,NOp.ev,m1,Option.map_some]) hv.t (ck (aj (by simp[DC.tags]))) (fun g db id b s hg hI _=>?_) h3
 ·rcases hid with⟨ℓ,h4⟩| ⟨g,d,b,s,h4,h5⟩
  ·exact .inl ⟨ℓ,m3 _ _ h4⟩
  ·rw[aW]at h4;split at h4
   ·rename_i e;exact .inr ⟨g,_,b,s,by rw[aW,if_pos e],h5⟩
   ·rename_i e;exact .inr ⟨g,d,b,s,by rw[aW,if_neg e];exact h4,h5⟩
 ·rw[Heap.aQ,if_neg];intro e;exact hi (e▸e1)
 ·rw[aW,if_neg (by omega)]at hd;exact⟨d,hd,au.refl d⟩
 ·rw[Heap.aQ,if_neg];intro e;exact hi (e▸aV.lt hr (.inr ⟨g,db,b,s,hg,hI⟩))
theorem vY{m:Nat}{x v:Opd}(hr:R none N I Fp ts H n cts h U)(hx:d7 P (.store m x v) ts H n K):Good P (.store m x v) N I Fp H n cts h U i c K:=by
 obtain⟨g,i',k,r,db,db',h1,h2,h3,h4,h5,h6,h7⟩:=hx;obtain⟨p,e1,e2⟩:=bg hr h1;obtain⟨q,⟨id,base,sz,e3,rfl⟩,rfl⟩:=e2 (by rw[h5];rfl);obtain⟨b,hb⟩:=hr.tZ (by rw[h5];rfl) e3;obtain⟨w,e4,e5⟩:=gX hr h2;obtain⟨e6,e7⟩:=kg e5;obtain⟨k1,Fp1,k2,k3⟩:=hr.aAh h5 h6 e3 hb e6 (fun j x hj=>⟨e7 j x hj,fun g' hg'=>e9 hr h2 j x g' (by rw[DV.dh];exact hj) hg'⟩);have hne:r.cells≠[]:=fun e=>h4 (by rw[←h3,e];rfl)
 have k1':=k1 hne;have hrow:∀sz es ov,db= .arr sz es ov→∀(i:Nat)(row:List PV),es[i]?=some row→row.length=sz:=by
  rintro sz' es ov rfl i row hi;rcases hr.bsh g _ h5 with⟨-,rfl⟩| ⟨_,_,_, -, -, -, -, -,h6⟩
  ·simp at hi
  ·exact h6 i row hi
 have hsame:au db db':=by
  have:∀{l:List DC}{k:Nat}{db db':DB},(∀sz es ov,db= .arr sz es ov→∀(i:Nat)(row:List PV),es[i]?=some row→row.length=sz)→wrN i' k l db=some db'→au db db':=by
   intro l;induction l with
   |nil=>intro k db db' _ hw;simp only[wrN,Option.some.injEq]at hw;subst hw;exact au.refl db
   |cons x l ih=>
    intro k db db' hrow hw;simp only[wrN]at hw;split at hw
    ·rename_i db1 hw1;have s1:=(wE hrow hw1).1;refine s1.trans (ih (fun sz es ov e i row hi=>?_) hw);subst e;cases db with
     |box cs=>simp[au]at s1
     |arr sz0 es0 ov0=>
      obtain⟨rfl, -,q3⟩:=s1;have:=q3 i;rw[hi]at this;cases he:es0[i]? with
      |none=>simp[he]at this
      |some row0=>simp only[he,Option.map_some,Option.some.injEq]at this;rw[this];exact hrow _ _ _ rfl i row0 he
    ·simp at hw
  exact this hrow h6
 have hH':∀g' d,aG (cj g db' H) g'=some d→∃d0,aG H g'=some d0∧au d0 d:=fun g' d hd=>by
  rw[ax]at hd;split at hd
  ·rename_i e;subst e;cases hd;exact⟨db,h5,hsame⟩
  ·exact⟨d,hd,au.refl d⟩
 refine Good.of' (k2.more fun _ h=>.inl h) ⟨Nat.le_refl _,fun _ h=>.inl h,fun _ _=>rfl,fun id' hid=>.inl ?_,fun id' f1 f2=>?_,fun g' d _ hd=>hH' g' d hd,fun _=>rfl⟩ hr (x:=.gone) (r:=.gone) (by simp only[COp.ev,j6,e1,e4,hb];rw[if_pos ⟨by omega,by omega,hr.vu h5 e3 hb⟩]) ⟨trivial,by simp[DT.cell]⟩ (by simp[DT.cell]) (fun g' d id' b' s hg' hI' hτ=>?_) h7
 ·rcases hid with⟨ℓ,h8⟩| ⟨g',d,b',s,h8,h9⟩
  ·exact .inl ⟨ℓ,k3 _ _ h8⟩
  ·obtain⟨d0,h10, -⟩:=hH' g' d h8;exact .inr ⟨g',d0,b',s,h10,h9⟩
 ·rw[Heap.aQ,if_neg];rintro rfl;exact f2 (.inr ⟨g,db,base,sz,h5,e3⟩)
 ·rw[Heap.aQ,if_neg];rintro rfl;exact hτ (by simp[hr.inj g' g d db _ b' s base sz hg' h5 hI' e3])
theorem aAu{f:FuncId}{caps:List Opd}(hr:R none N I Fp ts H n cts h U)(hx:d7 P (.mkf f caps) ts H n K):Good P (.mkf f caps) N I Fp H n cts h U i c K:=by
 obtain⟨l,h1,h2,h3⟩:=hx;obtain⟨cs,e1,e2,e3⟩:=vT hr h1 h2;have htag:∀{xs:List Opd}{l:List (Nat×Nat×Nat)},g9 ts xs=some l→∀q,q∈l→q.1<n:=by
  intro xs;induction xs with
  |nil=>intro l hl q hq;simp only[g9,Option.some.injEq]at hl;subst hl;simp at hq
  |cons x xs ih=>
   intro l hl q hq;simp only[g9]at hl;split at hl
   ·rename_i g i k rs h1 h2;cases hl;rcases List.mem_cons.1 hq with rfl|hq
    ·exact iq hr h1 g (by simp[DC.tags])
    ·exact ih h2 q hq
   ·simp at hl
 have hv:v1R h N I H (.one (.fn f l)) (.one (.fn f cs)):=bw ⟨cs,rfl,e2,fun j q hj _=>e3 j q hj⟩;refine Good.of hr (r:=.v (.one (.fn f cs))) (by simp only[COp.ev,e1]) hv.t (ck (aj fun g hg=>?_)) h3;simp only[DC.tags,List.mem_map]at hg;obtain⟨q,hq,rfl⟩:=hg;exact htag h1 q hq
theorem vK{l:List CV}{bs:List UInt8}(hl:l.length=bs.length)(h:∀(j:Nat)(hj:j<bs.length),l[j]?=some (.int .u8 (bs[j].toNat:Int))):jZ l=some bs:=by
 induction l generalizing bs with
 |nil=>cases bs with|nil=>rfl|cons b m=>simp at hl
 |cons c l ih=>
  cases bs with
  |nil=>simp at hl
  |cons b m=>have h0:=h 0 (by simp);simp only[List.getElem?_cons_zero,Option.some.injEq,List.getElem_cons_zero]at h0;subst h0;have hi:=ih (bs:=m) (by simpa using hl) (fun j hj=>by have:=h (j+1) (by simp only[List.length_cons];omega);rw[List.getElem?_cons_succ]at this;rw[this];rfl);simp only[jZ];rw[if_pos ⟨by omega,by have:=b.toNat_lt;omega⟩,hi];simp
theorem aCT{x:Opd}(hr:R none N I Fp ts H n cts h U)(hx:d7 P (.bs x) ts H n K):Good P (.bs x) N I Fp H n cts h U i c K:=by
 obtain⟨bs,h1,h2⟩:=hx;have fin:∀{id base len:Nat}{lim:Option Nat}{b:Blk},ev1 cts x=some (.sl id base len lim)→h.get id=some b→b.sz=1→len=bs.length→(∀j(hj:j<bs.length),b.get (base+j)=some (.int .u8 (bs[j].toNat:Int)))→Good P (.bs x) N I Fp H n cts h U i c K:=by
  intro id base len lim b e1 e2 e3 e4 e5;subst e4;obtain⟨l,g1,g2,g3⟩:=o0 (b:=b) (m:=bs.length) (a:=base) fun o ho=>⟨_,e5 o ho⟩
  have:=vK (l:=l) (bs:=bs) g2 fun j hj=>by rw[g3 j hj];exact e5 j hj
  exact Good.of hr (r:=.v (.one (.str bs))) (by simp only[COp.ev,b2s,e1,e2];rw[if_pos e3,g1];simp only[this,Option.map_some]) (cQ rfl).t (ck (aj (by simp[DC.tags]))) h2
 split at h1
 ·rename_i g lo len h3;obtain⟨es,ov,h4,h5,rfl⟩:=h1;obtain⟨v,e1,e2⟩:=bg hr h3;obtain⟨k1,k2⟩:=e2 _ _ _ h4;have hlen:len=bs.length:=by have:=congrArg List.length h5;simp only[List.length_take,List.length_drop,List.length_map]at this;omega
  rcases hr.bsh g _ h4 with⟨f1,f2⟩| ⟨id,base,b,f1,f2,f3,f4,f5,f6⟩
  ·rw[f1]at k2;obtain⟨z,rfl⟩:=k2;subst f2;have:bs=[]:=List.length_eq_zero_iff.1 (by simp at k1;omega);subst this;exact Good.of hr (r:=.v (.one (.str []))) (by simp only[COp.ev,b2s,e1]) (cQ rfl).t (ck (aj (by simp[DC.tags]))) h2
  ·rw[f1]at k2;simp only at k2;subst k2;refine fin e1 f2 f3 hlen fun j hj=>?_
   have hrow:es[lo+j]?=some (dE bs[j]):=by have:=congrArg (·[j]?) h5;simp only[List.getElem?_take,List.getElem?_drop,List.getElem?_map,List.getElem?_eq_getElem hj,Option.map_some]at this;rw[if_pos (by omega)]at this;exact this
   obtain⟨w,q1,q2⟩:=hr.cell (.h g (lo+j) 0) (.sc (.int .u8 (bs[j].toNat:Int))) (by simp) (by simp[aa,h4,DB.cell,hrow,dE,ab,PV.dc]);simp only[bW,f1,f2,Option.bind_some]at q1;obtain⟨-,rfl⟩:=q2;rw[Nat.mul_one,Nat.add_zero]at q1;rw[Nat.add_assoc];exact q1
 ·rename_i b0 sz es h3;obtain⟨rfl,rfl⟩:=h1;obtain⟨v,e1,e2⟩:=bg hr h3;rcases e2.len with⟨z,rfl,hz⟩| ⟨id,base,lim,cf,rfl,k1,k2,k3⟩
  ·have:bs=[]:=by simpa using hz
   subst this;exact Good.of hr (r:=.v (.one (.str []))) (by simp only[COp.ev,b2s,e1]) (cQ rfl).t (ck (aj (by simp[DC.tags]))) h2
  ·obtain⟨b,g1,g2,g3,g4⟩:=k2.blk;refine fin e1 g1 g2 (by simp) fun j hj=>?_
   have hrow:(bs.map dE)[j]?=some (dE bs[j]):=by simp[hj]
   have q1:=g4 j _ 0 (.sc (.int .u8 (bs[j].toNat:Int))) hrow (by simp[dE]);have q2:=k3 j _ 0 (.sc (.int .u8 (bs[j].toNat:Int))) hrow (by simp[dE]);rw[Nat.mul_one,Nat.add_zero]at q1;generalize cf j 0=w at q1 q2;rw[q1];cases q2 with
   |sc hv=>rfl
 ·exact h1.elim
end
end Go.Cq.D
namespace Go.Cq.D
section
variable{P:Prg}{N:Bool→Nat→Prop}{I:Nm}{Fp:Loc→Nat→Prop}{ts:DTs}{H:DH}{n:Nat}{cts:Ts}{h:Heap}{U:Nat→Prop}{i c:Nat}{K:DT→DTs→DH→Nat→List Nat→Prop}
theorem yt(ts:DTs):∃d,an ts d=none:=by
 have:∀ts:DTs,∃d,∀e,d≤e→an ts e=none:=by
  intro ts;induction ts with
  |nil=>exact⟨0,fun _ _=>rfl⟩
  |cons p l ih=>obtain⟨d,hd⟩:=ih;obtain⟨k,x⟩:=p;refine⟨d+k+1,fun e he=>?_⟩;rw[bK,if_neg (by omega)];exact hd e (by omega)
 obtain⟨d,hd⟩:=this ts;exact⟨d,hd d (Nat.le_refl _)⟩
theorem gi:∀{l:List Nat}{H:DH}{g:Nat}{db:DB},aG (fR l H) g=some db→g∉l∧aG H g=some db:=by
 intro l;induction l with
 |nil=>intro H g db h;exact⟨by simp,h⟩
 |cons x l ih=>
  intro H g db h;simp only[fR]at h;obtain⟨h1,h2⟩:=ih h;rw[dF]at h2;split at h2
  ·simp at h2
  ·rename_i e;exact⟨by simp[e,h1],h2⟩
theorem sa{f:Nat→Option Nat}{H3:DH}:∀{ρ:List Nat}{t0:Nat}{H H':DH},bD f H3 ρ t0 H=some H'→nodup ρ=true→(∀g db',aG H' g=some db'→(∃t db,t0≤t∧ρ[t-t0]?=some g∧aG H3 t=some db∧eu f db=some db')∨(g∉ρ∧aG H g=some db'))∧∀t g,t0≤t→ρ[t-t0]?=some g→∃db db0,aG H3 t=some db∧aG H g=some db0∧nh db db0:=by
 intro ρ;induction ρ with
 |nil=>intro t0 H H' h _;simp only[bD,Option.some.injEq]at h;subst h;exact⟨fun g db hg=>.inr ⟨by simp,hg⟩,fun t g _ h=>by simp at h⟩
 |cons x l ih=>
  intro t0 H H' h hn;obtain⟨n1,n2⟩:=nodup_cons hn;have step:∀db db0 db1,aG H3 t0=some db→aG H x=some db0→nh db db0→eu f db=some db1→bD f H3 l (t0+1) (cj x db1 H)=some H'→
    (∀g db',aG H' g=some db'→(∃t db,t0≤t∧(x::l)[t-t0]?=some g∧aG H3 t=some db∧eu f db=some db')∨(g∉x::l∧aG H g=some db'))∧∀t g,t0≤t→(x::l)[t-t0]?=some g→∃db db0,aG H3 t=some db∧aG H g=some db0∧nh db db0:=by
   intro db db0 db1 h1 h2 hc1 hc2 h;obtain⟨i1,i2⟩:=ih h n2;refine⟨fun g db' hg=>?_,fun t g ht hg=>?_⟩
   ·rcases i1 g db' hg with⟨t,d3,k1,k2,k3⟩| ⟨k1,k2⟩
    ·refine .inl ⟨t,d3,by omega,?_,k3⟩;rw[show t-t0=(t-(t0+1))+1 by omega,List.getElem?_cons_succ];exact k2
    ·rw[ax]at k2;split at k2
     ·rename_i e;subst e;cases k2;exact .inl ⟨t0,db,Nat.le_refl _,by simp,h1,hc2⟩
     ·rename_i e;exact .inr ⟨by simp[e,k1],k2⟩
   ·by_cases e:t=t0
    ·subst e;simp only[Nat.sub_self,List.getElem?_cons_zero,Option.some.injEq]at hg;subst hg;exact⟨db,db0,h1,h2,hc1⟩
    ·rw[show t-t0=(t-(t0+1))+1 by omega,List.getElem?_cons_succ]at hg;obtain⟨d',d0',k1,k2,k3⟩:=i2 t g (by omega) hg;refine⟨d',d0',k1,?_,k3⟩;rw[ax,if_neg]at k2
     ·exact k2
     ·intro e';subst e';exact n1 (List.mem_of_getElem? hg)
  simp only[bD]at h;split at h
  ·rename_i cs cs0 h1 h2;split at h
   ·rename_i hc;split at h
    ·rename_i db1 h3;exact step (.box cs) (.box cs0) db1 h1 h2 hc h3 h
    ·simp at h
   ·simp at h
  ·rename_i sz es ov sz0 es0 ov0 h1 h2;split at h
   ·rename_i hc;split at h
    ·rename_i db1 h3;exact step (.arr sz es ov) (.arr sz0 es0 ov0) db1 h1 h2 hc h3 h
    ·simp at h
   ·simp at h
  ·simp at h
theorem mJ(hr:R none N I Fp ts H n cts h U):∀{xs:List Opd}{l:List DV},dP ts xs=some l→∃vs,iA cts xs=some vs∧vs.length=l.length∧∀(j:Nat) x,l[j]?=some x→∃y,vs[j]?=some y∧v1R h N I H x y:=by
 intro xs;induction xs with
 |nil=>intro l hl;simp only[dP,Option.some.injEq]at hl;subst hl;exact⟨[],rfl,rfl,by simp⟩
 |cons x xs ih=>
  intro l hl;simp only[dP]at hl;split at hl
  ·rename_i r rs h1 h2;cases hl;obtain⟨v,h3,h4⟩:=gX hr h1;obtain⟨vs,i1,i2,i3⟩:=ih h2;refine⟨v::vs,by simp only[iA,h3,i1],by simp[i2],fun j q hj=>?_⟩;cases j with
   |zero=>cases hj;exact⟨v,rfl,h4⟩
   |succ j=>simpa using i3 j q (by simpa using hj)
  ·simp at hl
theorem t9{k:Nat}{H:DH}(h:iI k H=true){g:Nat}{db:DB}(hg:aG H g=some db):g<k:=by
 induction H with
 |nil=>simp[aG]at hg
 |cons p l ih=>
  obtain⟨x,y⟩:=p;simp only[iI,List.all_cons,Bool.and_eq_true]at h;rw[aW]at hg;split at hg
  ·rename_i e;rw[e];simpa [Nat.blt_eq]using h.1
  ·exact ih h.2 hg
theorem uw{op:COp}{f:FuncId}{das:List DV}{cargs:List V1}(hr:R none N I Fp ts H n cts h U)(hU:∀id,U id→id<c)(hlen:cargs.length=das.length)(hv:∀(j:Nat) x,das[j]?=some x→∃y,cargs[j]?=some y∧v1R h N I H x y)(hop:∀cl,op.ev cl i c h cts=cl f cargs h c)(hJ:Known P.J N I h)(hx:uU P f das ts H n K):Good P op N I Fp H n cts h U i c K:=by
 obtain⟨ms,ρ,cas,Hc,Post,J,h1,h2,h3,h4,h5,h6,⟨h7,h7J⟩,h7V,h8⟩:=hx;obtain⟨N2,I2,Fp2,k1,k2,k3,k3f,k3t,k4,k5,k6⟩:=hr.callee h1 h2 h3 h4 h5 h6.1 h6.2 hlen hv;obtain⟨hl1, -⟩:=kp h1;obtain⟨r,h',c',m1,m2,N3,I3,Fp3,res,H3,n3,m3,mg,m4,m5⟩:=h7 N2 I2 Fp2 cargs h c U ⟨fun t p e=>by obtain⟨g,e1,e2⟩:=h7J t p e;rw[k6 t g e1];exact hJ.nm g p e2,fun c0 es e=>(hJ.v c0 es (h7V.elim (fun h=>by rw[h]at e;simp at e) fun h=>h▸e)).local fun id hid=>⟨rfl,k3 id hid⟩⟩ hU k1 (by omega);obtain⟨q2,H',q3,q4⟩:=h8 res H3 m3;obtain⟨p1,p2⟩:=sa q3 h3;have hH3:∀t db,aG H3 t=some db→t<ρ.length∧∃g db0,(fun t:Nat=>ρ[t]?) t=some g∧aG H g=some db0∧nh db db0∧I2 t=I g∧¬(fun g=>g∈given ms das) g:=by intro t db ht;have hlt:=t9 q2 ht;refine⟨hlt,?_⟩;obtain⟨db',db0,e1,e2,e3⟩:=p2 t ρ[t] (Nat.zero_le _) (by simp[hlt]);rw[ht]at e1;cases e1;obtain⟨e5,e6⟩:=gi e2;exact⟨ρ[t],db0,List.getElem?_eq_getElem hlt,e6,e3,k6 t _ (List.getElem?_eq_getElem hlt),e5⟩
 have hH':∀g db,aG H' g=some db→(∃t db3,(fun t:Nat=>ρ[t]?) t=some g∧aG H3 t=some db3∧eu (fun t:Nat=>ρ[t]?) db3=some db)∨((∀t,(fun t:Nat=>ρ[t]?) t≠some g)∧¬(fun g=>g∈given ms das) g∧aG H g=some db):=by
  intro g db hg;rcases p1 g db hg with⟨t,d3, -,e1,e2⟩| ⟨e1,e2⟩
  ·exact .inl ⟨t,d3,by simpa using e1,e2⟩
  ·obtain⟨e3,e4⟩:=gi e2;exact .inr ⟨fun t ht=>e1 (List.mem_of_getElem? ht),e3,e4⟩
 have hρn:∀t g,(fun t:Nat=>ρ[t]?) t=some g→g<n:=by intro t g ht;have:=(oB h2 t).2 (Nat.zero_le _);rw[Nat.sub_zero,show ρ[t]?=some g from ht]at this;obtain⟨db,db',e1, -⟩:=this;exact hr.htag g db e1
 have aftG:=fun d=>hr.aDb (ρ:=fun t=>ρ[t]?) (κ:=fun g=>g∈given ms das) k2 k3 k3f k3t k4 k5 mg m4 m5 hH3 (fun t t' g e1 e2=>na h3 e1 e2) hρn hH' d
 have aft:=fun d=>(aftG d).2
 have hstill:∀id,aV I Fp H id→¬aV I2 Fp2 Hc id→h'.get id=h.get id:=fun id e1 e2=>m5.hp id (e1.lt hr) e2
 have hmono:∀id,(U id∨c≤id∧id<c')→U id∨id=i∨c≤id∧id<c':=fun id hid=>hid.elim .inl fun h=>.inr (.inr h)
 have hgrow:∀{Fp'},Grow I Fp H n U h I Fp' H' n (fun id=>U id∨c≤id∧id<c') h'→Grow I Fp H n U h I Fp' H' n (fun id=>U id∨id=i∨c≤id∧id<c') h':=fun g=>⟨g.nn,fun id hid=>hmono id (g.cc id hid),g.nm,fun id hid=>(g.own id hid).imp (fun h=>h) fun⟨a,b⟩=>⟨a,hmono id b⟩,g.hp,g.sh,g.mp⟩
 obtain⟨d0,hd0⟩:=yt ts;obtain⟨Fp0,a0,g0⟩:=aft d0;refine⟨nx f cargs h c (r,h',c'),uL m2,fun f' a' h2' c2 hc2=>?_,r,h',c',?_,⟨Nat.le_of_lt m1,fun _=>m1⟩,g7 (fun t=>ρ[t]?) res,ts,H',n,given ms das++ρ,q4,fun g db id b s hg hI hτ=>?_,fun b id hid=>?_,fun id e1 e2=>g0.hp id e1 e2,_,⟨(aftG d0).1.1,fun b id hid=>((aftG d0).1.2.1 b id hid).imp (fun h=>h) fun h=>h.imp (fun h=>h) fun h=>⟨h.1,hmono id h.2⟩,(aftG d0).1.2.2⟩,fun d=>?_⟩
 ·simp[nx,hc2]
 ·rw[hop];simp[nx]
 ·refine hstill id (.inr ⟨g,db,b,s,hg,hI⟩) fun ho=>?_
  obtain⟨g',e1,e2,e3⟩:=k5 id ho;obtain⟨db',hdb'⟩:=Option.isSome_iff_exists.1 e2;have:g'=g:=by
   rcases e3 with⟨i',k',e4⟩| ⟨b',s',e4⟩
   ·exact(hr.sepT _ g db id b s e4 hg hI).elim
   ·exact hr.inj g' g db' db id b' s' b s hdb' hg e4 hI
  subst this;simp only[List.mem_append,not_or]at hτ;rcases e1 with e1| ⟨t,e1⟩
  ·exact hτ.1 e1
  ·exact hτ.2 (List.mem_of_getElem? e1)
 ·have hid':N true id:=by cases b;exact hr.le id hid;exact hid
  refine g0.hp id (hr.lt id (.inl hid')) fun ho=>?_
  rcases ho with⟨ℓ,e1⟩| ⟨g,db,b',s,e1,e2⟩
  ·exact hr.roF ℓ id hid' e1
  ·exact hr.roT g db id b' s hid' e1 e2
 ·cases d with
  |some d=>obtain⟨Fp',a1,a2⟩:=aft d;exact⟨I,Fp',a1.more hmono,hgrow a2⟩
  |none=>
   refine⟨I,_,((a0.sub (ts':=ts) (cts':=cts) (H':=H') (Fp':=fun ℓ=>match ℓ with|.t s _ _=>if s=d0 then fun _=>False else Fp0 ℓ|ℓ=>Fp0 ℓ) (fun t x hx=>?_) (fun s j k x hx=>?_) (fun s j k x g hx hg=>?_) (fun _ _ h=>h) (fun ℓ id hid=>?_) (fun _ _ _ _=>rfl)).more hmono),hgrow ⟨g0.nn,g0.cc,g0.nm,fun id hid=>g0.own id (hid.less fun ℓ id hid=>?_),g0.hp,g0.sh,g0.mp⟩⟩
   ·have hne:t≠d0:=fun e=>by rw[e,hd0]at hx;simp at hx
    obtain⟨y,e1,e2⟩:=a0.tsh t x (by rw[bK,if_neg hne];exact hx);rw[bc,if_neg hne]at e1;exact⟨y,e1,e2⟩
   ·simp only[aa,Option.bind_eq_some_iff]at hx;obtain⟨y,e1,e2⟩:=hx;have hne:s≠d0:=fun e=>by rw[e,hd0]at e1;simp at e1
    obtain⟨v,e3,e4⟩:=a0.cell (.t s j k) x (by simp) (by simp[aa,bK,hne,e1,e2]);refine⟨v,by simpa [bW,bc,hne]using e3,?_⟩;simp only[hne,if_false];exact e4
   ·simp only[aa,Option.bind_eq_some_iff]at hx;obtain⟨y,e1,e2⟩:=hx;have hne:s≠d0:=fun e=>by rw[e,hd0]at e1;simp at e1
    exact a0.tags (.t s j k) x g (by simp[aa,bK,hne,e1,e2]) hg
   ·cases ℓ with
    |t s j k=>
     simp only at hid;split at hid
     ·exact hid.elim
     ·exact hid
    |h g i k=>exact hid
   ·cases ℓ with
    |t s j k=>
     simp only at hid;split at hid
     ·exact hid.elim
     ·exact hid
    |h g i k=>exact hid
theorem Good.aDB{op:COp}{N':Bool→Nat→Prop}{Fp':Loc→Nat→Prop}{H':DH}(hG:Good P op N' I Fp' H' n cts h U i c K)(a1:∀b id,N b id→N' b id)(a2:∀b id,N' b id→N b id∨aV I Fp H id)(a3:∀id,aV I Fp' H' id→aV I Fp H id)(a4:∀g d,aG H' g=some d→∃d0,aG H g=some d0∧au d0 d)(a5:∀g db id b s,aG H g=some db→I g=some (id,b,s)→(∃d,aG H' g=some d)∨N' true id)(a6:∀id,N' true id→N true id∨N' false id):Good P op N I Fp H n cts h U i c K:=by
 obtain⟨cl,k1,k2,r,h',c',k3,k4,x,ts',H2,n2,τ,k5,f1,f2,f3,N2,ng,k6⟩:=hG;refine⟨cl,k1,k2,r,h',c',k3,k4,x,ts',H2,n2,τ,k5,fun g db id b s hg hI hτ=>?_,fun b id hid=>f2 b id (a1 b id hid),fun id h1 h2=>f3 id h1 fun h=>h2 (a3 id h),N2,⟨fun b id h=>ng.1 b id (a1 b id h),fun b id h=>?_,fun id h=>(ng.2.2 id h).elim (fun h=>(a6 id h).imp (fun h=>h) (ng.1 false id)) .inr⟩,fun d=>?_⟩
 ·rcases a5 g db id b s hg hI with⟨d,hd⟩|hN
  ·exact f1 g d id b s hd hI hτ
  ·exact f2 true id hN
 ·rcases ng.2.1 b id h with h|h|h
  ·exact(a2 b id h).imp (fun h=>h) .inl
  ·exact .inr (.inl (a3 id h))
  ·exact .inr (.inr h)
 ·obtain⟨I',Fp2,r2,g2⟩:=k6 d;refine⟨I',Fp2,r2,g2.nn,g2.cc,g2.nm,fun id h=>(g2.own id h).imp (a3 id) fun h=>h,fun id h1 h2=>g2.hp id h1 fun h=>h2 (a3 id h),fun g d' hlt hd=>?_,g2.mp⟩;obtain⟨d1,e1,e2⟩:=g2.sh g d' hlt hd;obtain⟨d0,e3,e4⟩:=a4 g d1 e1;exact⟨d0,e3,e4.trans e2⟩
theorem aBc{op:COp}{f:FuncId}{das:List DV}{cargs:List V1}(hr:R none N I Fp ts H n cts h U)(hU:∀id,U id→id<c)(hlen:cargs.length=das.length)(hv:∀(j:Nat) x,das[j]?=some x→∃y,cargs[j]?=some y∧v1R h N I H x y)(hop:∀cl,op.ev cl i c h cts=cl f cargs h c)(hJ:Known P.J N I h)(hx:aDG P f das ts H n K):Good P op N I Fp H n cts h U i c K:=by
 obtain⟨ms,cas,J,cs,h1,h2,h3,h4,h5,h6,hK⟩:=hx;obtain⟨N2,I2,Fp2,k1,k2,k3,k3f,k3t,k4,k5,k6⟩:=hr.callee (ρ:=[]) (Hc:=[]) h1 rfl rfl (by rw[h2];rfl) (by rw[h2];rfl) (by rw[h3];rfl) (by rw[h3];rfl) hlen hv;obtain⟨hl1, -⟩:=kp h1;obtain⟨r,h',c',m1,m2,N3,I3,Fp3,res,H3,n3,⟨t,rfl,hbx⟩,mg,m4,m5⟩:=h4 N2 I2 Fp2 cargs h c U ⟨fun t p e=>by rw[h5 t]at e;simp at e,fun c0 es e=>(hJ.v c0 es (h6.elim (fun h=>by rw[h]at e;simp at e) fun h=>h▸e)).local fun id hid=>⟨rfl,k3 id hid⟩⟩ hU k1 (by omega);have hno:∀id,¬aV I2 Fp2 [] id:=fun id ho=>by obtain⟨g,e1, -⟩:=k5 id ho;rw[h2]at e1;simp at e1
 have hsame:∀id,U id→h'.get id=h.get id:=fun id hid=>m5.hp id hid (hno id)
 obtain⟨id,b,e1,e2,e3⟩:=m4.bsh t _ hbx;have hown:aV I3 Fp3 H3 id:=.inr ⟨t,_,0,0,hbx,e1⟩;have hnew:¬U id∧(U id∨c≤id∧id<c'):=(m5.own id hown).resolve_left (hno id);have hN3:¬N3 true id:=fun hid=>m4.roT t _ id 0 0 hid hbx e1
 have hbro:b.ro=false:=m4.vu hbx e1 e2;obtain⟨y,y1,y2⟩:=m4.tsh 0 _ rfl;simp only[bc,if_true,Option.some.injEq]at y1;subst y1;obtain⟨v,z1,z2⟩:=m4.cell (.t 0 0 0) (.ptr t 0 0) (by simp) rfl;have hrr:r= .v (.one (.ptr id 0)):=by
  obtain⟨p,⟨id',base',sz',q1,q2⟩,q3⟩:=z2 (by rw[hbx];rfl);rw[e1]at q1;cases q1;subst q2;subst q3;cases r with
  |v z=>cases z with
   |one w=>simp only[bW,bc,if_true,Option.bind_some,fC,fE,Option.some.injEq]at z1;subst z1;simp
   |agg l=>simp[tSh,fj]at y2
  |tup l=>simp[tSh]at y2
  |gone=>simp[tSh]at y2
 subst hrr;have hmore:∀id,U id→U id∨id=i∨c≤id∧id<c':=fun id hid=>.inl hid
 have hold:∀id,N true id∨aV I Fp H id→U id:=fun id hid=>hid.elim (fun h=>hr.lt id (.inl h)) fun h=>h.lt hr
 have r1:R none N I Fp ts H n cts h' (fun id=>U id∨id=i∨c≤id∧id<c'):=hr.heap hmore (fun id hid=>hsame id (hold id hid)) (fun id b hb=>(m4.hb id b hb).imp (fun h=>h) .inr) fun id b hb hbr=>by have hid:=(mg.2.2 id (m4.ro id b hb hbr).1).resolve_right (m4.ro id b hb hbr).2;rw[←hsame id (k1.lt id (.inl hid))];exact hb
 have hfree:Free N I Fp H (fun id=>U id∨id=i∨c≤id∧id<c') id:=⟨fun ℓ hid=>hnew.1 (hold id (.inr (.inl ⟨ℓ,hid⟩))),fun g d b' s hg hI=>hnew.1 (hold id (.inr (.inr ⟨g,d,b',s,hg,hI⟩))),fun hid=>hnew.1 (hold id (.inl hid)),hnew.2.imp (fun h=>h) .inr⟩;have r2:=r1.nN (nm:=some (id,0,0)) (db:=.box (cs.map .sc)) (φ:=fun _ _ _=>False) ⟨id,b,by simp[upd],e2,e3⟩ (fun id' b' s e=>by simp only[Option.some.injEq,Prod.mk.injEq]at e;rw[←e.1];exact hfree) (fun _ _ _ h=>h.elim) (fun _ _ _ _ _ h=>h.elim) (fun i' k x hx=>by
  obtain⟨v,f1,f2⟩:=m4.cell (.h t i' k) x (by simp) (by simp only[aa,hbx,Option.bind_some];exact hx);have hsc:∃w,x= .sc w:=by
   simp only[DB.cell]at hx;split at hx
   ·simp only[List.getElem?_map,Option.map_eq_some_iff]at hx;obtain⟨w, -,rfl⟩:=hx;exact⟨w,rfl⟩
   ·simp at hx
  obtain⟨w,rfl⟩:=hsc;refine⟨v,?_,f2⟩;simp only[bW,e1]at f1;simp only[bW,upd,if_true];exact f1) (fun i' k x g hx hg=>by
  simp only[DB.cell]at hx;split at hx
  ·simp only[List.getElem?_map,Option.map_eq_some_iff]at hx;obtain⟨w, -,rfl⟩:=hx;simp[DC.tags]at hg
  ·simp at hx)
 refine⟨nx f cargs h c (.v (.one (.ptr id 0)),h',c'),uL m2,fun f' a' h2' c2 hc2=>?_,.v (.one (.ptr id 0)),h',c',?_,⟨Nat.le_of_lt m1,fun _=>m1⟩,.v (.one (.ptr n 0 0)),ts,_,_,[],hK,fun g db id' b' s hg hI _=>hsame id' (hold id' (.inr (.inr ⟨g,db,b',s,hg,hI⟩))),fun b' id' hid=>hsame id' (hold id' (.inl (by cases b';exact hr.le id' hid;exact hid))),fun id' e1 _=>hsame id' e1,N,NG.refl ..,fun d=>?_⟩
 ·simp[nx,hc2]
 ·rw[hop];simp[nx]
 ·have hv:v1R h' N (upd I n (some (id,0,0))) ((n,.box (cs.map .sc))::H) (.one (.ptr n 0 0)) (.one (.ptr id 0)):=bw fun _=>⟨(id,0),⟨id,0,0,by simp[upd],by simp⟩,rfl⟩
  obtain⟨Fp',g1,g2⟩:=r2.pr d hv.t (ck (aj (by simp[DC.tags])));refine⟨_,Fp',g1,Nat.le_succ n,hmore,fun g hg=>by simp only[upd];rw[if_neg (by omega)],fun id' hid=>?_,fun id' hid _=>hsame id' hid,fun g d hg hd=>by rw[aW,if_neg (by omega)]at hd;exact⟨d,hd,au.refl d⟩,m5.mp⟩;have hid:=hid.less g2;rcases hid with⟨ℓ,h1⟩| ⟨g,d,b',s,h1,h2⟩
  ·cases ℓ with
   |t s j k=>exact .inl (.inl ⟨_,h1⟩)
   |h g i' k=>
    simp only at h1;split at h1
    ·exact h1.elim
    ·exact .inl (.inl ⟨_,h1⟩)
  ·rw[aW]at h1;split at h1
   ·rename_i e;subst e;simp only[upd,if_true,Option.some.injEq,Prod.mk.injEq]at h2;rw[←h2.1];exact .inr ⟨hnew.1,hnew.2.imp (fun h=>h) .inr⟩
   ·rename_i e;simp only[upd,e,if_false]at h2;exact .inl (.inr ⟨g,d,b',s,h1,h2⟩)
theorem yS{f:FuncId}{args:List Opd}(hr:R none N I Fp ts H n cts h U)(hU:∀id,U id→id<c)(hJ:Known P.J N I h)(hx:d7 P (.call f args) ts H n K):Good P (.call f args) N I Fp H n cts h U i c K:=by
 refine hx.elim (fun hx=>?_) fun⟨das,h1,h2⟩=>by obtain⟨vs,h3,h4,h5⟩:=mJ hr h1;exact aBc hr hU h4 h5 (fun cl=>by simp only[COp.ev,h3]) hJ h2
 obtain⟨gs,das,h1,h2⟩:=hx;obtain⟨N',Fp',hr',a1,a2,a3,a4,a5,a6⟩:=hr.di gs;obtain⟨vs,h3,h4,h5⟩:=mJ hr' h1;exact(uw hr' hU h4 h5 (fun cl=>by simp only[COp.ev,h3]) (hJ.mono (fun _ _ _ h=>h) fun id hid=>⟨rfl,a1 true id hid⟩) h2).aDB a1 a2 a3 a4 a5 a6
theorem vd{x:Opd}{args:List Opd}(hr:R none N I Fp ts H n cts h U)(hU:∀id,U id→id<c)(hJ:Known P.J N I h)(hx:d7 P (.callv x args) ts H n K):Good P (.callv x args) N I Fp H n cts h U i c K:=by
 obtain⟨gs,f,caps,das,h0,h1,h2⟩:=hx;obtain⟨N',Fp',hr',a1,a2,a3,a4,a5,a6⟩:=hr.di gs;obtain⟨v,h6,cs,rfl,h7,h8⟩:=bg hr' h0;obtain⟨vs,h3,h4,h5⟩:=mJ hr' h1;refine Good.aDB (uw (cargs:=vs++cs.map fun p=>.one (.ptr p.1 p.2)) hr' hU (by simp[h4,h7]) (fun j y hj=>?_) (fun cl=>by simp only[COp.ev,h3,h6]) (hJ.mono (fun _ _ _ h=>h) fun id hid=>⟨rfl,a1 true id hid⟩) h2) a1 a2 a3 a4 a5 a6;by_cases hlt:j<das.length
 ·rw[List.getElem?_append_left hlt]at hj;rw[List.getElem?_append_left (by omega)];exact h5 j y hj
 ·rw[List.getElem?_append_right (by omega)]at hj;rw[List.getElem?_append_right (by omega),h4];simp only[List.getElem?_map,Option.map_eq_some_iff]at hj ⊢;obtain⟨q,hq,rfl⟩:=hj;have hlt':j-das.length<cs.length:=by rw[h7];exact(List.getElem?_eq_some_iff.1 hq).1
  refine⟨_,⟨cs[j-das.length],List.getElem?_eq_getElem hlt',rfl⟩,bw fun hlive=>?_⟩;obtain⟨p,e1,e2⟩:=h8 _ q hq hlive;rw[List.getElem?_eq_getElem hlt']at e1;cases e1;exact⟨_,e2,rfl⟩
end
end Go.Cq.D
namespace Go.Cq.D
section
variable{P:Prg}{N:Bool→Nat→Prop}{I:Nm}{Fp:Loc→Nat→Prop}{ts:DTs}{H:DH}{n:Nat}{cts:Ts}{h:Heap}{U:Nat→Prop}{i c:Nat}{K:DT→DTs→DH→Nat→List Nat→Prop}
theorem jG{o sz m:Nat}(hsz:sz≠0)(ho:o<m*sz):o / sz<m∧o % sz<sz∧o / sz*sz+o % sz=o:=by have hz:0<sz:=Nat.pos_of_ne_zero hsz;refine⟨by rw[Nat.div_lt_iff_lt_mul hz];exact ho,Nat.mod_lt _ hz,by rw[Nat.mul_comm];exact Nat.div_add_mod _ _⟩
theorem aCe(hr:R none N I Fp ts H n cts h U){sz:Nat}(_hsz:sz≠0){y:Opd}{dy:DC}{ys:List (List PV)}{gy:Option Nat}(hrow:Rows H sz dy ys gy)(hy:cC ts y=some dy):
  ∃l,f9 h cts sz y=some (l,ys.length)∧l.length=ys.length*sz∧(∀(i:Nat)(row:List PV),ys[i]?=some row→row.length=sz)∧∃ψ:Nat→Nat→Nat→Prop,
   (∀(i:Nat)(row:List PV)(k:Nat)(p:PV),ys[i]?=some row→row[k]?=some p→∃v,l[i*sz+k]?=some v∧OwR h N p v (ψ i k))∧(∀i k id,ψ i k id→∃g,gy=some g∧(aG H g).isSome=true∧∃i' k',Fp (.h g i' k') id)∧∀i k i' k' id,ψ i k id→ψ i' k' id→i=i'∧k=k':=by
 obtain⟨v,h1,h2⟩:=bg hr hy;have empty:(∃z,v= .nils z)→ys=[]→∃l,f9 h cts sz y=some (l,ys.length)∧l.length=ys.length*sz∧(∀(i:Nat)(row:List PV),ys[i]?=some row→row.length=sz)∧∃ψ:Nat→Nat→Nat→Prop,
   (∀(i:Nat)(row:List PV)(k:Nat)(p:PV),ys[i]?=some row→row[k]?=some p→∃v,l[i*sz+k]?=some v∧OwR h N p v (ψ i k))∧(∀i k id,ψ i k id→∃g,gy=some g∧(aG H g).isSome=true∧∃i' k',Fp (.h g i' k') id)∧∀i k i' k' id,ψ i k id→ψ i' k' id→i=i'∧k=k':=by
  rintro⟨z,rfl⟩ rfl;exact⟨[],by simp only[f9,h1];rfl,by simp,by simp,fun _ _ _=>False,by simp,by simp,by simp⟩
 have arr:∀{g lo len es},dy= .sl g lo len→aG H g=some (.arr sz es [])→ys=(es.drop lo).take len→(∃z,v= .nils z)∧ys=[]∨∃l,f9 h cts sz y=some (l,ys.length)∧l.length=ys.length*sz∧(∀(i:Nat)(row:List PV),ys[i]?=some row→row.length=sz)∧
   ∀(i:Nat)(row:List PV)(k:Nat)(p:PV),ys[i]?=some row→row[k]?=some p→∃v,l[i*sz+k]?=some v∧bG h N I H p.dc v (Fp (.h g (lo+i) k)):=by
  rintro g lo len es rfl hg rfl;obtain⟨k1,k2⟩:=h2 _ _ _ hg;rcases hr.bsh g _ hg with⟨e1,e2⟩| ⟨id,base,b,e1,e2,e3,e4,e5,e6⟩
  ·rw[e1]at k2;subst e2;exact .inl ⟨k2,by simp⟩
  ·right;rw[e1]at k2;simp only at k2;subst k2;have hl:((es.drop lo).take len).length=len:=by simp only[List.length_take,List.length_drop];omega
   have hget:∀(i:Nat)(row:List PV)(k:Nat)(p:PV),((es.drop lo).take len)[i]?=some row→row[k]?=some p→∃v,b.get ((base+lo)*sz+(i*sz+k))=some v∧bG h N I H p.dc v (Fp (.h g (lo+i) k)):=by
    intro i row k p f1 f2;simp only[List.getElem?_take,List.getElem?_drop]at f1;split at f1
    ·obtain⟨w,q1,q2⟩:=hr.cell (.h g (lo+i) k) p.dc (by simp) (by simp[aa,hg,DB.cell,f1,f2,ab]);simp only[bW,e1,e2,Option.bind_some]at q1;refine⟨w,?_,q2⟩;rw[←Nat.add_assoc,←Nat.add_mul,Nat.add_assoc];exact q1
    ·simp at f1
   have hrl:∀(i:Nat)(row:List PV),((es.drop lo).take len)[i]?=some row→row.length=sz:=fun i row f1=>by
    simp only[List.getElem?_take,List.getElem?_drop]at f1;split at f1
    ·exact e6 _ row f1
    ·simp at f1
   obtain⟨l,g1,g2,g3⟩:=o0 (b:=b) (m:=len*sz) (a:=(base+lo)*sz) fun o ho=>by
    obtain⟨p1,p2,p3⟩:=jG e4 ho;have hi:o / sz< ((es.drop lo).take len).length:=by omega
    have hk:o % sz< (((es.drop lo).take len)[o / sz]).length:=by rw[hrl _ _ (List.getElem?_eq_getElem hi)];exact p2
    obtain⟨w,q1, -⟩:=hget (o / sz) _ (o % sz) _ (List.getElem?_eq_getElem hi) (List.getElem?_eq_getElem hk);rw[p3]at q1;exact⟨w,q1⟩
   refine⟨l,by simp only[f9,h1,e2];rw[if_pos e3,g1,hl];rfl,by rw[hl];exact g2,hrl,fun i row k p f1 f2=>?_⟩;obtain⟨w,q1,q2⟩:=hget i row k p f1 f2;have hlt:i*sz+k<len*sz:=by
    have a1:i<len:=by have:=(List.getElem?_eq_some_iff.1 f1).1;omega
    have a2:k<sz:=by rw[←hrl i row f1];exact(List.getElem?_eq_some_iff.1 f2).1
    have:(i+1)*sz≤len*sz:=Nat.mul_le_mul_right _ a1;rw[Nat.add_mul,Nat.one_mul]at this;omega
   exact⟨w,by rw[g3 _ hlt];exact q1,q2⟩
 have roC:∀{b es},dy= .ro b sz es→(∃z,v= .nils z)∧es=[]∨∃l,f9 h cts sz y=some (l,es.length)∧l.length=es.length*sz∧(∀(i:Nat)(row:List PV),es[i]?=some row→row.length=sz)∧
   ∀(i:Nat)(row:List PV)(k:Nat)(p:PV),es[i]?=some row→row[k]?=some p→∃v,l[i*sz+k]?=some v∧RoR h (N b) p v:=by
  rintro b es rfl;rcases h2.len with⟨z,rfl,rfl⟩| ⟨id,base,lim,cf,rfl,k1,k2,k3⟩
  ·exact .inl ⟨⟨z,rfl⟩,rfl⟩
  ·right;obtain⟨b',g1,g2,g3,g4⟩:=k2.blk;obtain⟨l,m1,m2,m3⟩:=o0 (b:=b') (m:=es.length*sz) (a:=base*sz) fun o ho=>by
    obtain⟨p1,p2,p3⟩:=jG k2.ne ho;have hk:o % sz< (es[o / sz]).length:=by rw[k2.len _ _ (List.getElem?_eq_getElem p1)];exact p2
    have q1:=g4 (o / sz) _ (o % sz) _ (List.getElem?_eq_getElem p1) (List.getElem?_eq_getElem hk);rw[Nat.add_mul,Nat.add_assoc,p3]at q1;exact⟨_,q1⟩
   refine⟨l,by simp only[f9,h1,g1];rw[if_pos g2,m1];rfl,m2,k2.len,fun i row k p f1 f2=>?_⟩;have hlt:i*sz+k<es.length*sz:=by
    have a1:=(List.getElem?_eq_some_iff.1 f1).1;have a2:k<sz:=by rw[←k2.len i row f1];exact(List.getElem?_eq_some_iff.1 f2).1
    have:(i+1)*sz≤es.length*sz:=Nat.mul_le_mul_right _ a1;rw[Nat.add_mul,Nat.one_mul]at this;omega
   refine⟨cf i k,?_,k3 i row k p f1 f2⟩;rw[m3 _ hlt,←Nat.add_assoc,←Nat.add_mul];exact g4 i row k p f1 f2
 have sccell:∀{p:PV}{w:CV}{F:Nat→Prop}{row:List PV}{k:Nat},hO row→row[k]?=some p→bG h N I H p.dc w F→OwR h N p w (fun _=>False):=by intro p w F row k hs hk hc;obtain⟨u,rfl⟩:=hs p (List.mem_of_getElem? hk);obtain⟨a,rfl⟩:=hc;exact .sc a
 cases hrow with
 | @nil z=>
  cases h2 with
  |nil=>exact empty ⟨_,rfl⟩ rfl
  |sl hF=>exact hF.elim
 | @copy g lo len es hg hs=>
  rcases arr rfl hg rfl with⟨a,b⟩| ⟨l,a1,a2,a3,a4⟩
  ·exact empty a b
  ·refine⟨l,a1,a2,a3,fun _ _ _=>False,fun i row k p f1 f2=>?_,by simp,by simp⟩;obtain⟨w,q1,q2⟩:=a4 i row k p f1 f2;exact⟨w,q1,sccell (hs row (List.mem_of_getElem? f1)) f2 q2⟩
 | @move g lo len es hg=>
  rcases arr rfl hg rfl with⟨a,b⟩| ⟨l,a1,a2,a3,a4⟩
  ·exact empty a b
  ·refine⟨l,a1,a2,a3,fun i k=>Fp (.h g (lo+i) k),fun i row k p f1 f2=>?_,fun i k id hid=>⟨g,rfl,by rw[hg];rfl,_,_,hid⟩,fun i k i' k' id q1 q2=>?_⟩
   ·obtain⟨w,q1,q2⟩:=a4 i row k p f1 f2;refine⟨w,q1,?_⟩;cases p with
    |sc u=>obtain⟨b1,rfl⟩:=q2;exact .sc b1
    |sl sz' es'=>exact q2
    |ro sz' es'=>exact .ro q2
   ·have:=hr.sepF _ _ id q1 q2;simp only[Loc.h.injEq,true_and]at this;omega
 | @yu b es hs=>
  rcases roC rfl with⟨a,b⟩| ⟨l,a1,a2,a3,a4⟩
  ·exact empty a b
  ·refine⟨l,a1,a2,a3,fun _ _ _=>False,fun i row k p f1 f2=>?_,by simp,by simp⟩;obtain⟨w,q1,q2⟩:=a4 i row k p f1 f2;obtain⟨u,rfl⟩:=hs row (List.mem_of_getElem? f1) p (List.mem_of_getElem? f2);cases q2 with
   |sc hv=>exact⟨_,q1,.sc hv⟩
 | @ro es=>
  rcases roC rfl with⟨a,b⟩| ⟨l,a1,a2,a3,a4⟩
  ·exact empty a (by rw[b];rfl)
  ·refine⟨l,by simpa using a1,by simpa using a2,fun i row f1=>?_,fun _ _ _=>False,fun i row k p f1 f2=>?_,by simp,by simp⟩
   ·simp only[List.getElem?_map,Option.map_eq_some_iff]at f1;obtain⟨row0,f3,rfl⟩:=f1;simpa using a3 i row0 f3
   ·simp only[List.getElem?_map,Option.map_eq_some_iff]at f1;obtain⟨row0,f3,rfl⟩:=f1;simp only[List.getElem?_map,Option.map_eq_some_iff]at f2;obtain⟨p0,f4,rfl⟩:=f2;obtain⟨w,q1,q2⟩:=a4 i row0 k p0 f3 f4;refine⟨w,q1,?_⟩;cases p0 with
    |sc u=>cases q2 with|sc hv=>exact .sc hv
    |sl sz' es'=>exact .ro q2
    |ro sz' es'=>cases q2 with|ro hq=>exact .ro hq
theorem R.rm(hr:R none N I Fp ts H n cts h U){g:Nat}(hg:(aG H g).isSome=true){id:Nat}(ht:eP I Fp g id):Free N I (fun ℓ=>match ℓ with|.h g' _ _=>if g'=g then fun _=>False else Fp ℓ|ℓ=>Fp ℓ) (eM g H) U id:=by
 obtain⟨db,hdb⟩:=Option.isSome_iff_exists.1 hg;have hd:∀g' d,aG (eM g H) g'=some d→aG H g'=some d∧g'≠g:=fun g' d hg'=>by
  rw[dF]at hg';split at hg'
  ·simp at hg'
  ·rename_i e;exact⟨hg',e⟩
 refine⟨fun ℓ hl=>?_,fun g' d b s h1 h2=>?_,fun hN=>?_,?_⟩
 ·cases ℓ with
  |t s' j k=>
   rcases ht with⟨b,s,e⟩| ⟨i,k',e⟩
   ·exact hr.sepT _ g db id b s hl hdb e
   ·have:=hr.sepF _ _ id hl e;simp at this
  |h g' i k=>
   simp only at hl;split at hl
   ·exact hl
   ·rename_i hne;rcases ht with⟨b,s,e⟩| ⟨i',k',e⟩
    ·exact hr.sepT _ g db id b s hl hdb e
    ·have:=hr.sepF _ _ id hl e;simp only[Loc.h.injEq]at this;exact hne this.1
 ·obtain⟨h3,h4⟩:=hd g' d h1;rcases ht with⟨b',s',e⟩| ⟨i',k',e⟩
  ·exact h4 (hr.inj g' g d db id b s b' s' h3 hdb h2 e)
  ·exact hr.sepT _ g' d id b s e h3 h2
 ·rcases ht with⟨b',s',e⟩| ⟨i',k',e⟩
  ·exact hr.roT g db id b' s' hN hdb e
  ·exact hr.roF _ id hN e
 ·rcases ht with⟨b',s',e⟩| ⟨i',k',e⟩
  ·exact aV.lt hr (.inr ⟨g,db,b',s',hdb,e⟩)
  ·exact aV.lt hr (.inl ⟨_,e⟩)
theorem Free.mono{Fp':Loc→Nat→Prop}{H':DH}{U':Nat→Prop}{id:Nat}(hf:Free N I Fp H U id)(h1:∀ℓ id,Fp' ℓ id→Fp ℓ id)(h2:∀g d,aG H' g=some d→aG H g=some d)(h3:U id→U' id):Free N I Fp' H' U' id:=⟨fun ℓ h=>hf.f ℓ (h1 _ _ h),fun g d b s h=>hf.t g d b s (h2 _ _ h),hf.n,h3 hf.lt⟩
end
end Go.Cq.D
namespace Go.Cq.D
section
variable{P:Prg}{N:Bool→Nat→Prop}{I:Nm}{Fp:Loc→Nat→Prop}{ts:DTs}{H:DH}{n:Nat}{cts:Ts}{h:Heap}{U:Nat→Prop}{i c:Nat}{K:DT→DTs→DH→Nat→List Nat→Prop}
theorem qI{gy:Option Nat}{H:DH}{g:Nat}{d:DB}(h:aG (nE gy H) g=some d):aG H g=some d∧gy≠some g:=by
 cases gy with
 |none=>exact⟨h,by simp⟩
 |some g'=>
  simp only[nE,dF]at h;split at h
  ·simp at h
  ·rename_i e;exact⟨h,fun e'=>e (by simpa using e'.symm)⟩
theorem R.aCv(hr:R none N I Fp ts H n cts h U)(gy:Option Nat):∃Fp1,R none N I Fp1 ts (nE gy H) n cts h U∧(∀ℓ id,Fp1 ℓ id→Fp ℓ id)∧(∀g id,gy=some g→(aG H g).isSome=true→eP I Fp g id→Free N I Fp1 (nE gy H) U id):=by
 cases gy with
 |none=>exact⟨Fp,hr,fun _ _ h=>h,fun g id e=>by simp at e⟩
 |some g=>
  refine⟨_,hr.drop g,fun ℓ id hid=>?_,fun g' id e hg ht=>?_⟩
  ·cases ℓ with
   |t s j k=>exact hid
   |h g' i k=>
    simp only at hid;split at hid
    ·exact hid.elim
    ·exact hid
  ·cases e;exact hr.rm hg ht
theorem zt{zs:List CV}{bytes:Nat}{x y:Opd}(hr:R none N I Fp ts H n cts h U)(hi:¬U i)(hx:d7 P (.app zs bytes x y) ts H n K):Good P (.app zs bytes x y) N I Fp H n cts h U i c K:=by
 obtain⟨dx,dy,ys,gy,hdx,hdy,hrows,hz,hmain⟩:=hx;obtain⟨l,y1,y2,y3,ψ,y4,y5,y6⟩:=aCe hr hz hrows hdy;obtain⟨vx,x1,x2⟩:=bg hr hdx;let U':Nat→Prop:=fun id=>U id∨id=i∨c≤id∧id<c
 have hUU:∀id,U id→U' id:=fun _ h=>.inl h
 have ψU:∀j k id,ψ j k id→U id:=fun j k id hid=>by obtain⟨g, -, -,i',k',e⟩:=y5 j k id hid;exact hr.lt id (.inr ⟨_,e⟩)
 have nilCase:(∃z,vx= .nils z)→ys.length*bytes≤140737488355328∧ys.length≤140737488355328→∀{H1:DH}{Fp1:Loc→Nat→Prop}{τ:List Nat},R none N I Fp1 ts H1 n cts h U→(∀ℓ id,Fp1 ℓ id→Fp ℓ id)→(∀g d,aG H1 g=some d→aG H g=some d)→(∀j k id,ψ j k id→Free N I Fp1 H1 U id)→
   K (.v (.one (.sl n 0 ys.length))) ts ((n,.arr zs.length ys [])::H1) (n+1) τ→Good P (.app zs bytes x y) N I Fp H n cts h U i c K:=by
  rintro⟨z,rfl⟩ hsize H1 Fp1 τ hr1 hF1 hH1 hψ hK;by_cases hm:ys.length=0
  ·have:ys=[]:=List.length_eq_zero_iff.1 hm;subst this;have hr2:=(hr1.more hUU).nN (nm:=none) (db:=.arr zs.length [] []) (φ:=fun _ _ _=>False) (.inl ⟨by simp[upd],rfl⟩) (by simp) (by simp) (by simp) (fun i k x hx=>by simp[DB.cell]at hx) (fun i k x g hx=>by simp[DB.cell]at hx);refine Good.of' hr2 ⟨Nat.le_succ n,hUU,fun g hg=>by simp only[upd];rw[if_neg (by omega)],fun id hid=>.inl ?_,fun _ _ _=>rfl,fun g d hg hd=>by rw[aW,if_neg (by omega)]at hd;exact⟨d,hH1 g d hd,au.refl d⟩,fun _=>rfl⟩ hr (r:=.v (.one (.nils z)))
    (by simp only[COp.ev,dM,y1,x1];rfl) (bw (show bG h N (upd I n none) ((n,.arr zs.length [] [])::H1) (.sl n 0 0) (.nils z) (fun _=>False)from fun sz es ov hg=>by rw[aW,if_pos rfl]at hg;simp only[Option.some.injEq,DB.arr.injEq]at hg;obtain⟨rfl,rfl,rfl⟩:=hg;exact⟨by simp,by simp[upd]⟩)).t (ck (aj (by simp[DC.tags]))) (fun _ _ _ _ _ _ _ _=>rfl) hK
   rcases hid with⟨ℓ,e⟩| ⟨g,d,b,s,e1,e2⟩
   ·cases ℓ with
    |t s j k=>exact .inl ⟨_,hF1 _ _ e⟩
    |h g j k=>
     simp only at e;split at e
     ·exact e.elim
     ·exact .inl ⟨_,hF1 _ _ e⟩
   ·rw[aW]at e1;split at e1
    ·rename_i e3;subst e3;simp[upd]at e2
    ·rename_i e3;simp only[upd,e3,if_false]at e2;exact .inr ⟨g,d,b,s,hH1 g d e1,e2⟩
  ·have hev:dM zs.length bytes x y i h cts=some (h.set i (some (cd zs.length l)),.sl i 0 ys.length none):=by simp only[dM,y1,x1];rw[if_neg hm,if_pos hsize]
   have hfree:Free N I Fp1 H1 U' i:=⟨fun ℓ e=>hi (hr1.lt i (.inr ⟨ℓ,e⟩)),fun g d b s e1 e2=>hi (aV.lt hr1 (.inr ⟨g,d,b,s,e1,e2⟩)),fun e=>hi (hr1.lt i (.inl e)),.inr (.inl rfl)⟩;have hold:∀id,U id→(h.set i (some (cd zs.length l))).get id=h.get id:=fun id hid=>by rw[Heap.aQ,if_neg];rintro rfl;exact hi hid
   obtain⟨Fp',m1,m2⟩:=hr1.born (h':=h.set i (some (cd zs.length l))) (U':=U') (id:=i) (base:=0) (sz:=zs.length) (es:=ys) (b:=cd zs.length l) (φ:=ψ) hUU (fun id hid=>hold id (hid.elim (fun h=>hr1.lt id (.inl h)) fun h=>h.lt hr1)) (fun id b hb=>by
    rw[Heap.aQ]at hb;split at hb
    ·rename_i e;exact .inr (.inl e)
    ·exact .inl (hr1.hb id b hb)) (fun id b hb hbr=>by
    rw[Heap.aQ]at hb;split at hb
    ·cases hb;simp[cd,Blk.ro]at hbr
    ·exact hb) (by rw[Heap.aQ,if_pos rfl]) rfl hz (by rw[Nat.zero_add];show ys.length*zs.length≤l.length;omega) y3 hfree (fun j k id hid=>⟨(hψ j k id hid).mono (fun _ _ h=>h) (fun _ _ h=>h) (hUU id),fun e=>hi (e▸ψU j k id hid),hold id (ψU j k id hid)⟩) y6 (fun j row k p e1 e2=>by
    obtain⟨v,q1,q2⟩:=y4 j row k p e1 e2;exact⟨v,by rw[iJ,Nat.zero_add];exact q1,q2⟩)
   refine Good.of' m1 ⟨Nat.le_succ n,hUU,fun g hg=>by simp only[upd];rw[if_neg (by omega)],fun id hid=>?_,fun id e1 _=>hold id e1,fun g d hg hd=>by rw[aW,if_neg (by omega)]at hd;exact⟨d,hH1 g d hd,au.refl d⟩,fun _=>rfl⟩ hr (r:=.v (.one (.sl i 0 ys.length none)))
    (by simp only[COp.ev,hev]) (bw (show bG (h.set i (some (cd zs.length l))) N (upd I n (some (i,0,zs.length))) ((n,.arr zs.length ys [])::H1) (.sl n 0 ys.length) (.sl i 0 ys.length none) (fun _=>False)from fun sz es ov hg=>by rw[aW,if_pos rfl]at hg;simp only[Option.some.injEq,DB.arr.injEq]at hg;obtain⟨rfl,rfl,rfl⟩:=hg;exact⟨by simp,by simp[upd]⟩)).t (ck (aj (by simp[DC.tags]))) (fun g db id b s hg hI _=>hold id (aV.lt hr (.inr ⟨g,db,b,s,hg,hI⟩))) hK
   rcases m2 id hid with e|e| ⟨j,k,e⟩
   ·rcases e with⟨ℓ,e⟩| ⟨g,d,b,s,e1,e2⟩
    ·exact .inl (.inl ⟨ℓ,hF1 _ _ e⟩)
    ·exact .inl (.inr ⟨g,d,b,s,hH1 g d e1,e2⟩)
   ·subst e;exact .inr ⟨hi,.inr (.inl rfl)⟩
   ·obtain⟨g, -, -,i',k',e1⟩:=y5 j k id e;exact .inl (.inl ⟨_,e1⟩)
 have ψtree:∀j k id,ψ j k id→∃g,gy=some g∧(aG H g).isSome=true∧eP I Fp g id:=fun j k id hid=>by obtain⟨g,e1,e2,i',k',e3⟩:=y5 j k id hid;exact⟨g,e1,e2,.inr ⟨i',k',e3⟩⟩
 split at hmain
 ·rename_i g lo len;obtain⟨es,hg,hgy,hs1,hs2,hK⟩:=hmain;have hgs:(aG H g).isSome=true:=by rw[hg];rfl
  obtain⟨k1,k2⟩:=x2 _ _ _ hg;have hd1:=hr.drop g;obtain⟨Fp1,hr1,hF1,hfree1⟩:=hd1.aCv gy;have hF1':∀ℓ id,Fp1 ℓ id→Fp ℓ id:=fun ℓ id hid=>by
   have:=hF1 ℓ id hid;cases ℓ with
   |t s j k=>exact this
   |h g' j k=>
    simp only at this;split at this
    ·exact this.elim
    ·exact this
  have hH1:∀g' d,aG (nE gy (eM g H)) g'=some d→aG H g'=some d∧g'≠g:=fun g' d hd=>by
   have:=(qI hd).1;rw[dF]at this;split at this
   ·simp at this
   ·rename_i e;exact⟨this,e⟩
  have hψfree:∀j k id,ψ j k id→Free N I Fp1 (nE gy (eM g H)) U id:=fun j k id hid=>by
   obtain⟨g',e1,e2,e3⟩:=ψtree j k id hid;have hne:g'≠g:=fun e=>hgy (by rw[e1,e])
   refine hfree1 g' id e1 (by rw[dF,if_neg hne];exact e2) ?_;rcases e3 with⟨b,s,e⟩| ⟨i',k',e⟩
   ·exact .inl ⟨b,s,e⟩
   ·exact .inr ⟨i',k',by simp only[hne,if_false];exact e⟩
  have hgfree:∀id,eP I Fp g id→Free N I Fp1 (nE gy (eM g H)) U id:=fun id ht=>(hr.rm hgs ht).mono hF1 (fun g' d hd=>(qI hd).1) (fun h=>h)
  rcases hr.bsh g _ hg with⟨e1,e2⟩| ⟨id,base,b,e1,e2,e3,e4,e5,e6⟩
  ·rw[e1]at k2;subst e2;have hl0:len=0:=by simp only[List.length_nil]at k1;omega
   subst hl0;simp only[List.drop_nil,List.take_nil,List.nil_append,Nat.zero_add]at hK hs1 hs2;exact nilCase k2 ⟨hs1,hs2⟩ hr1 hF1' (fun g' d hd=>(hH1 g' d hd).1) hψfree hK
  ·rw[e1]at k2;simp only at k2;subst k2;have hlen:((es.drop lo).take len).length=len:=by simp only[List.length_take,List.length_drop];omega
   have hidU:U id:=hr.hb id b e2;have hcell:∀(j:Nat)(row:List PV)(k:Nat)(p:PV),((es.drop lo).take len)[j]?=some row→row[k]?=some p→∃v,b.get ((base+lo)*zs.length+(j*zs.length+k))=some v∧OwR h N p v (Fp (.h g (lo+j) k)):=by
    intro j row k p f1 f2;simp only[List.getElem?_take,List.getElem?_drop]at f1;split at f1
    ·obtain⟨w,q1,q2⟩:=hr.cell (.h g (lo+j) k) p.dc (by simp) (by simp[aa,hg,DB.cell,f1,f2,ab]);simp only[bW,e1,e2,Option.bind_some]at q1;refine⟨w,by rw[←Nat.add_assoc,←Nat.add_mul,Nat.add_assoc];exact q1,?_⟩;cases p with
     |sc u=>obtain⟨b1,rfl⟩:=q2;exact .sc b1
     |sl sz' es'=>exact q2
     |ro sz' es'=>exact .ro q2
    ·simp at f1
   have hrl:∀(j:Nat)(row:List PV),((es.drop lo).take len)[j]?=some row→row.length=zs.length:=fun j row f1=>by
    simp only[List.getElem?_take,List.getElem?_drop]at f1;split at f1
    ·exact e6 _ row f1
    ·simp at f1
   have hne:id≠i:=fun e=>hi (e▸hidU)
   obtain⟨h',id',base',b',a1,a2,a3,a4,a5,a6,a7,a8,a9,amp, -,avw⟩:=lL (bytes:=bytes) y1 y2 x1 e2 e3 hz (Nat.le_trans (Nat.mul_le_mul_right _ (by omega)) e5) (fun o ho=>by
    obtain⟨p1,p2,p3⟩:=jG hz ho;have hj:o / zs.length< ((es.drop lo).take len).length:=by omega
    have hk:o % zs.length< (((es.drop lo).take len)[o / zs.length]).length:=by rw[hrl _ _ (List.getElem?_eq_getElem hj)];exact p2
    obtain⟨w,q1, -⟩:=hcell (o / zs.length) _ (o % zs.length) _ (List.getElem?_eq_getElem hj) (List.getElem?_eq_getElem hk);rw[p3]at q1;exact⟨w,q1⟩) ⟨hs1,hs2⟩ hne (hr.vu hg e1 e2)
   have hpos:∀{j k m:Nat}{row:List PV}{L:List (List PV)},L.length=m→(∀(j:Nat)(row:List PV),L[j]?=some row→row.length=zs.length)→L[j]?=some row→∀{p},row[k]?=some p→j*zs.length+k<m*zs.length:=by
    intro j k m row L hL hL2 f1 p f2;have a1:=(List.getElem?_eq_some_iff.1 f1).1;have a2:k<zs.length:=by rw[←hL2 j row f1];exact(List.getElem?_eq_some_iff.1 f2).1
    have:(j+1)*zs.length≤m*zs.length:=Nat.mul_le_mul_right _ (by omega);rw[Nat.add_mul,Nat.one_mul]at this;omega
   let φ:Nat→Nat→Nat→Prop:=fun j k x=>if j<len then Fp (.h g (lo+j) k) x else ψ (j-len) k x
   have hφtree:∀j k x,φ j k x→(∃j',Fp (.h g j' k) x∧j'=lo+j∧j<len)∨ψ (j-len) k x∧¬j<len:=fun j k x hx=>by
    simp only[φ]at hx;split at hx
    ·rename_i hlt;exact .inl ⟨_,hx,rfl,hlt⟩
    ·rename_i hlt;exact .inr ⟨hx,hlt⟩
   have hφU:∀j k x,φ j k x→U x∧x≠id:=fun j k x hx=>by
    rcases hφtree j k x hx with⟨j',e, -⟩| ⟨e, -⟩
    ·exact⟨hr.lt x (.inr ⟨_,e⟩),fun e'=>hr.sepT _ g _ x base zs.length e hg (by rw[e'];exact e1)⟩
    ·refine⟨ψU _ _ x e,fun e'=>?_⟩;obtain⟨g', -, -,i',k',e3⟩:=y5 _ _ x e;exact hr.sepT _ g _ x base zs.length e3 hg (by rw[e'];exact e1)
   have hold:∀x,U x→x≠id→h'.get x=h.get x:=fun x hx hxi=>a8 x hxi (fun e=>hi (e▸hx))
   have hid'U:U' id':=by rcases a2 with e|e;exact .inl (e▸hidU);exact .inr (.inl e)
   have hfid:Free N I Fp1 (nE gy (eM g H)) U' id':=by
    rcases a2 with e|e
    ·rw[e];exact(hgfree id (.inl ⟨base,zs.length,e1⟩)).mono (fun _ _ h=>h) (fun _ _ h=>h) (hUU id)
    ·rw[e];exact⟨fun ℓ e'=>hi (hr1.lt i (.inr ⟨ℓ,e'⟩)),fun g' d b s q1 q2=>hi (aV.lt hr1 (.inr ⟨g',d,b,s,q1,q2⟩)),fun e'=>hi (hr1.lt i (.inl e')),.inr (.inl rfl)⟩
   have hown1:∀x,aV I Fp1 (nE gy (eM g H)) x→aV I Fp H x∧x≠id:=fun x hx=>by
    have hf:=hgfree id (.inl ⟨base,zs.length,e1⟩);rcases hx with⟨ℓ,q⟩| ⟨g',d,b,s,q1,q2⟩
    ·exact⟨.inl ⟨ℓ,hF1' _ _ q⟩,fun e=>hf.f ℓ (e▸q)⟩
    ·exact⟨.inr ⟨g',d,b,s,(hH1 g' d q1).1,q2⟩,fun e=>hf.t g' d b s q1 (e▸q2)⟩
   have hφ1:∀j k x,φ j k x→Free N I Fp1 (nE gy (eM g H)) U' x:=fun j k x hx=>by
    rcases hφtree j k x hx with⟨j',q, -⟩| ⟨q, -⟩
    ·exact(hgfree x (.inr ⟨j',k,q⟩)).mono (fun _ _ h=>h) (fun _ _ h=>h) (hUU x)
    ·exact(hψfree _ _ x q).mono (fun _ _ h=>h) (fun _ _ h=>h) (hUU x)
   have hφ2:∀j k x,φ j k x→x≠id':=fun j k x hx=>by
    rcases a2 with e|e
    ·rw[e];exact(hφU j k x hx).2
    ·rw[e];exact fun e'=>hi (e'▸(hφU j k x hx).1)
   have hφ3:∀j k j' k' x,φ j k x→φ j' k' x→j=j'∧k=k':=fun j k j' k' x q1 q2=>by
    rcases hφtree j k x q1 with⟨j1,p1,rfl,p3⟩| ⟨p1,p3⟩
    ·rcases hφtree j' k' x q2 with⟨j2,p4,rfl,p6⟩| ⟨p4,p6⟩
     ·have:=hr.sepF _ _ x p1 p4;simp only[Loc.h.injEq,true_and]at this;omega
     ·obtain⟨g',e1', -,i',k2,e3⟩:=y5 _ _ x p4;have:=hr.sepF _ _ x p1 e3;simp only[Loc.h.injEq]at this;exact absurd (by rw[e1',this.1]) hgy
    ·rcases hφtree j' k' x q2 with⟨j2,p4,rfl,p6⟩| ⟨p4,p6⟩
     ·obtain⟨g',e1', -,i',k2,e3⟩:=y5 _ _ x p1;have:=hr.sepF _ _ x p4 e3;simp only[Loc.h.injEq]at this;exact absurd (by rw[e1',this.1]) hgy
     ·have:=y6 _ _ _ _ x p1 p4;omega
   have hφ4:∀(j:Nat)(row:List PV)(k:Nat)(p:PV),((es.drop lo).take len++ys)[j]?=some row→row[k]?=some p→∃v,b'.get ((base'+j)*zs.length+k)=some v∧OwR h N p v (φ j k):=fun j row k p f1 f2=>by
    by_cases hj:j<len
    ·rw[List.getElem?_append_left (by omega)]at f1;obtain⟨w,q1,q2⟩:=hcell j row k p f1 f2;refine⟨w,?_,by simp only[φ,hj,if_true];exact q2⟩;rw[Nat.add_mul,Nat.add_assoc,a6 _ (hpos hlen hrl f1 f2)];exact q1
    ·rw[List.getElem?_append_right (by omega),hlen]at f1;obtain⟨w,q1,q2⟩:=y4 (j-len) row k p f1 f2;refine⟨w,?_,by simp only[φ,hj,if_false];exact q2⟩;have e:(base'+j)*zs.length+k=(base'+len)*zs.length+((j-len)*zs.length+k):=by rw[←Nat.add_assoc,←Nat.add_mul,Nat.add_assoc,show len+(j-len)=j by omega]
     rw[e,a7 _ (hpos rfl y3 f1 f2)];exact q1
   obtain⟨Fp',m1,m2⟩:=hr1.born (h':=h') (U':=U') (id:=id') (base:=base') (sz:=zs.length) (es:=(es.drop lo).take len++ys) (b:=b') (φ:=φ) hUU (fun x hx=>by
    rcases hx with hx|hx
    ·exact hold x (hr1.lt x (.inl hx)) fun e=>(hgfree id (.inl ⟨base,zs.length,e1⟩)).n (e▸hx)
    ·exact hold x (hx.lt hr1) (hown1 x hx).2) (fun x bx hx=>by
    rcases a9 x bx hx with e| ⟨b0,e⟩
    ·exact .inr (.inl e)
    ·exact .inl (hr1.hb x b0 e)) avw a3 a4 hz (by rw[List.length_append,hlen];exact a5) (fun j row f1=>by
    by_cases hj:j<len
    ·rw[List.getElem?_append_left (by omega)]at f1;exact hrl j row f1
    ·rw[List.getElem?_append_right (by omega)]at f1;exact y3 _ row f1) hfid (fun j k x hx=>⟨hφ1 j k x hx,hφ2 j k x hx,hold x (hφU j k x hx).1 (hφU j k x hx).2⟩) hφ3 hφ4
   refine Good.of' m1 ⟨Nat.le_succ n,hUU,fun g' hg'=>by simp only[upd];rw[if_neg (by omega)],fun x hx=>?_,fun x q1 q2=>hold x q1 fun e=>q2 (e▸ .inr ⟨g,_,base,zs.length,hg,e1⟩),fun g' d hg' hd=>by rw[aW,if_neg (by omega)]at hd;exact⟨d,(hH1 g' d hd).1,au.refl d⟩,amp⟩ hr (r:=.v (.one (.sl id' base' (len+ys.length) none)))
    (by simp only[COp.ev,a1]) (bw (show bG h' N (upd I n (some (id',base',zs.length))) ((n,.arr zs.length ((es.drop lo).take len++ys) [])::nE gy (eM g H)) (.sl n 0 (len+ys.length)) (.sl id' base' (len+ys.length) none) (fun _=>False)from fun sz es2 ov hg2=>by rw[aW,if_pos rfl]at hg2;simp only[Option.some.injEq,DB.arr.injEq]at hg2;obtain⟨rfl,rfl,rfl⟩:=hg2;exact⟨by rw[List.length_append,hlen];omega,by simp[upd]⟩)).t (ck (aj (by simp[DC.tags]))) (fun g' db x b0 s hg' hI' hτ=>hold x (aV.lt hr (.inr ⟨g',db,b0,s,hg',hI'⟩)) fun e=>?_) hK
   ·rcases m2 x hx with e|e| ⟨j,k,e⟩
    ·exact .inl (hown1 x e).1
    ·rcases a2 with e'|e'
     ·exact .inl (by rw[e,e'];exact .inr ⟨g,_,base,zs.length,hg,e1⟩)
     ·exact .inr (by rw[e,e'];exact⟨hi,.inr (.inl rfl)⟩)
    ·rcases hφtree j k x e with⟨j',q, -⟩| ⟨q, -⟩
     ·exact .inl (.inl ⟨_,q⟩)
     ·obtain⟨g', -, -,i',k',q'⟩:=y5 _ _ x q;exact .inl (.inl ⟨_,q'⟩)
   ·subst e;exact hτ (by simp[hr.inj g' g db _ x b0 s base zs.length hg' hg hI' e1])
 ·rename_i z;obtain⟨hs1,hs2,hK⟩:=hmain;obtain⟨Fp1,hr1,hF1,hfree1⟩:=hr.aCv gy;refine nilCase ?_ ⟨hs1,hs2⟩ hr1 hF1 (fun g d hd=>(qI hd).1) (fun j k id hid=>?_) hK
  ·cases x2 with
   |nil=>exact⟨_,rfl⟩
   |sl hF=>exact hF.elim
  ·obtain⟨g',e1,e2,e3⟩:=ψtree j k id hid;exact hfree1 g' id e1 e2 e3
 ·exact hmain.elim
theorem tf{op:COp}(hr:R none N I Fp ts H n cts h U)(hU:∀id,U id→id<c)(hJ:Known P.J N I h)(hi:¬U i)(hx:d7 P op ts H n K):Good P op N I Fp H n cts h U i c K:=by
 cases op with
 |fl f=>exact aC4 hr hJ hx
 |build zs ps=>exact wI hr hx
 |nw y=>
  cases y with
  |alloc zs=>exact vm hr hi hx
  |box x=>exact yM hr hi hx
  |lit zs len ps=>exact aAw hr hi hx
  |mk zs b x y=>exact aBs hr hi hx
  |sb x=>exact aCI hr hi hx
 |store m x v=>exact vY hr hx
 |app zs b x y=>exact zt hr hi hx
 |call f args=>exact yS hr hU hJ hx
 |callv x args=>exact vd hr hU hJ hx
 |ext t j=>exact aBK hr hx
 |mkf f caps=>exact aAu hr hx
 |cp t=>exact aCn hr hx
 |cpy s x y=>exact hx.elim
 |bs x=>exact aCT hr hx
 |eqA neg ks x y=>exact aBT hr hx
 |mm mx x y=>exact aCW hr hx
 |fld x off m=>exact zw hr hx
 |mop x=>exact hx.elim
 |bad=>exact hx.elim
theorem R.aEU(hr:R none N I Fp ts H n cts h U){t:Nat}{x0:DT}(ht:an ts t=some x0):R none N I Fp ((t,.gone)::ts) H n cts h U:=by
 have key:∀ℓ x,aa ((t,.gone)::ts) H ℓ=some x→aa ts H ℓ=some x:=by
  intro ℓ x hx;cases ℓ with
  |t s j k=>
   simp only[aa,bK]at hx ⊢;split at hx
   ·simp[DT.cell]at hx
   ·exact hx
  |h g i k=>exact hx
 refine⟨fun t' x hx=>?_,hr.bsh,fun ℓ x hne hx=>hr.cell ℓ x hne (key ℓ x hx),fun ℓ x g hx=>hr.tags ℓ x g (key ℓ x hx),hr.htag,hr.inj,hr.sepT,hr.sepF,hr.roT,hr.roF,hr.hb,hr.lt,hr.le,hr.ro⟩;rw[bK]at hx;split at hx
 ·rename_i e;subst e;cases hx;obtain⟨y,h1, -⟩:=hr.tsh _ _ ht;exact⟨y,h1,trivial⟩
 ·exact hr.tsh t' x hx
theorem R.eD:∀(l:List Nat){ts:DTs}(_:R none N I Fp ts H n cts h U),R none N I Fp (D.eD l ts) H n cts h U:=by
 intro l;induction l with
 |nil=>intro ts hr;exact hr
 |cons t l ih=>
  intro ts hr;simp only[D.eD];split
  ·rename_i x0 hx;exact ih (hr.aEU hx)
  ·exact ih hr
theorem aAl{g:Nat}{d:DB}:∀{H:DH},aG H g=some d→g∈H.map (·.1):=by
 intro H;induction H with
 |nil=>intro h;simp[aG]at h
 |cons p l ih=>
  intro h;rw[show p=(p.1,p.2)from rfl,aW]at h;split at h
  ·rename_i e;simp[e]
  ·exact List.mem_cons_of_mem _ (ih h)
theorem R.dV(_hr:R none N I Fp ts H n cts h U):∀(l:List Loc){Fp:Loc→Nat→Prop}{ts:DTs}{H:DH},R none N I Fp ts H n cts h U→∃Fp',R none N I Fp' (dV l ts H).1 (dV l ts H).2 n cts h U∧Grow I Fp H n U h I Fp' (dV l ts H).2 n U h:=by
 intro l;induction l with
 |nil=>intro Fp ts H hr;exact⟨Fp,hr,Grow.refl ..⟩
 |cons ℓ l ih=>intro Fp ts H hr;obtain⟨Fp1,h1,h2⟩:=hr.close ℓ;obtain⟨Fp2,k1,k2⟩:=ih h1;exact⟨Fp2,k1,h2.trans k2⟩
theorem Good.pre{op:COp}{Fp1:Loc→Nat→Prop}{H1:DH}(hG:Good P op N I Fp1 H1 n cts h U i c fun x ts' H' n' τ=>K x ts' H' n' (ir H H1++τ))(a3:∀id,aV I Fp1 H1 id→aV I Fp H id)(a4:∀g d,g<n→aG H1 g=some d→∃d0,aG H g=some d0∧au d0 d)(_hr:R none N I Fp ts H n cts h U):Good P op N I Fp H n cts h U i c K:=by
 obtain⟨cl,k1,k2,r,h',c',k3,k4,x,ts',H2,n2,τ,k5,f1,f2,f3,N2,ng,k6⟩:=hG;refine⟨cl,k1,k2,r,h',c',k3,k4,x,ts',H2,n2,_,k5,fun g db id b s hg hI hτ=>?_,f2,fun id h1 h2=>f3 id h1 fun h=>h2 (a3 id h),N2,⟨ng.1,fun b id h=>(ng.2.1 b id h).imp (fun h=>h) fun h=>h.imp (a3 id) fun h=>h,ng.2.2⟩,fun d=>?_⟩
 ·simp only[List.mem_append,not_or]at hτ;cases hg1:aG H1 g with
  |some d=>exact f1 g d id b s hg1 hI hτ.2
  |none=>refine absurd ?_ hτ.1;simp only[ir,List.mem_filter];exact⟨aAl hg,by simp[hg1]⟩
 ·obtain⟨I',Fp2,r2,g2⟩:=k6 d;refine⟨I',Fp2,r2,g2.nn,g2.cc,g2.nm,fun id h=>(g2.own id h).imp (a3 id) fun h=>h,fun id h1 h2=>g2.hp id h1 fun h=>h2 (a3 id h),fun g d' hlt hd=>?_,g2.mp⟩;obtain⟨d1,e1,e2⟩:=g2.sh g d' hlt hd;obtain⟨d0,e3,e4⟩:=a4 g d1 hlt e1;exact⟨d0,e3,e4.trans e2⟩
theorem R.dU(_hr:R none N I Fp ts H n cts h U):∀(l:List Loc){I:Nm}{Fp:Loc→Nat→Prop}{ts:DTs}{H:DH}{n:Nat},R none N I Fp ts H n cts h U→∃I' Fp',R none N I' Fp' (dU l ts H n).1 (dU l ts H n).2.1 (dU l ts H n).2.2 cts h U∧Grow I Fp H n U h I' Fp' (dU l ts H n).2.1 (dU l ts H n).2.2 U h:=by
 intro l;induction l with
 |nil=>intro I Fp ts H n hr;exact⟨I,Fp,hr,Grow.refl ..⟩
 |cons ℓ l ih=>intro I Fp ts H n hr;obtain⟨I1,Fp1,h1,h2,h3,h4⟩:=hr.exp ℓ;obtain⟨I2,Fp2,k1,k2⟩:=ih h1;refine⟨I2,Fp2,k1,Grow.trans ⟨?_,fun _ h=>h,h2,fun id hid=>.inl (h3 id hid),fun _ _ _=>rfl,h4,fun _=>rfl⟩ k2⟩;simp only[D.exp];split<;>simp
theorem nI{H:DH}{g g':Nat}{d:DB}(h:(aG H g).isSome=true):(aG (cj g' d H) g).isSome=true:=by
 rw[ax];split
 ·rfl
 ·exact h
theorem vL{ℓ:Loc}(_hn:∀g d,aG H g=some d→g<n){g:Nat}(h:(aG H g).isSome=true):(aG (D.exp ts H n ℓ).2.1 g).isSome=true:=by
 have e1:∀x,(aG ((n,x)::H) g).isSome=true:=fun x=>by
                                   rw[aW];split; · rfl
                                   ·exact h
 unfold D.exp;split
 ·cases ℓ with
  |t s j k=>simp only[D.fh];split<;>exact e1 _
  |h g' i k=>
   simp only[D.fh];split
   ·exact nI (e1 _)
   ·exact e1 _
 ·exact h
theorem uj:∀(l:List Loc){I:Nm}{Fp:Loc→Nat→Prop}{ts:DTs}{H:DH}{n:Nat},R none N I Fp ts H n cts h U→∀{g:Nat},(aG H g).isSome=true→(aG (dU l ts H n).2.1 g).isSome=true:=by
 intro l;induction l with
 |nil=>intro I Fp ts H n _ g h;exact h
 |cons ℓ l ih=>intro I Fp ts H n hr g h;obtain⟨I1,Fp1,h1, -⟩:=hr.exp ℓ;exact ih h1 (vL hr.htag h)
theorem Good.grow{op:COp}{I1:Nm}{Fp1:Loc→Nat→Prop}{H1:DH}{n1:Nat}(hG:Good P op N I1 Fp1 H1 n1 cts h U i c K)(hg:Grow I Fp H n U h I1 Fp1 H1 n1 U h)(hr:R none N I Fp ts H n cts h U)(hs:∀g,(aG H g).isSome=true→(aG H1 g).isSome=true):Good P op N I Fp H n cts h U i c K:=by
 have a3:∀id,aV I1 Fp1 H1 id→aV I Fp H id:=fun id hid=>(hg.own id hid).elim (fun h=>h) fun h=>absurd h.2 h.1
 obtain⟨cl,k1,k2,r,h',c',k3,k4,x,ts',H2,n2,τ,k5,f1,f2,f3,N2,ng,k6⟩:=hG;refine⟨cl,k1,k2,r,h',c',k3,k4,x,ts',H2,n2,_,k5,fun g db id b s hgd hI hτ=>?_,f2,fun id h1 h2=>f3 id h1 fun h=>h2 (a3 id h),N2,⟨ng.1,fun b id h=>(ng.2.1 b id h).imp (fun h=>h) fun h=>h.imp (a3 id) fun h=>h,ng.2.2⟩,fun d=>?_⟩
 ·obtain⟨d1,hd1⟩:=Option.isSome_iff_exists.1 (hs g (by rw[hgd];rfl));exact f1 g d1 id b s hd1 ((hg.nm g (hr.htag g db hgd)).trans hI) hτ
 ·obtain⟨I',Fp2,r2,g2⟩:=k6 d;exact⟨I',Fp2,r2,hg.trans g2⟩
theorem ku{op:COp}(hr:R none N I Fp ts H n cts h U)(hU:∀id,U id→id<c)(hJ:(∀g p,P.J g=some p→g<n)∧Known P.J N I h)(hi:¬U i)(hx:exec P op ts H n K):Good P op N I Fp H n cts h U i c K:=by
 unfold exec at hx;split at hx
 ·obtain⟨es,hx⟩:=hx;obtain⟨I1,Fp1,r1,g1⟩:=R.dU hr es hr;have hs:=fun g=>uj es hr (g:=g)
  generalize dU es ts H n=p at hx r1 g1 hs;obtain⟨ts1,H1,n1⟩:=p;obtain⟨ks,ls,hx⟩:=hx;obtain⟨Fp2,r2,g2⟩:=(r1.eD ks).dV ls (r1.eD ks);exact((tf r2 hU (hJ.2.mono (fun g p e e2=>(g1.nm g (hJ.1 g p e)).trans e2) fun id hid=>⟨rfl,hid⟩) hi hx).pre (fun id hid=>(g2.own id hid).elim (fun h=>h) fun h=>absurd h.2 h.1) (fun g d hlt hg=>g2.sh g d hlt hg) r1).grow g1 hr hs
 ·exact tf hr hU hJ.2 hi hx
end
end Go.Cq.D
namespace Go.Cq.D
open Go.RowKit
inductive ExC(P:Program):CC→St→X→St→Prop where
 |skip {s}:ExC P .skip s .nrm s
 |reg {l k s s' cl} (hcl:gW P cl) (h:gY cl l s=some s'):ExC P (.reg l k) s .nrm (s'.av k)
 |draw {n FL l k s s' cl} (hcl:gW P cl) (h:bT cl s.c FL l l ⟨s.ts,s.h,[],s.c+n⟩=some s'):ExC P (.draw n FL l k) s .nrm (St.av ⟨s'.ts,cy s'.F s'.h,s'.c⟩ k)
 |seqN {a b s s1 x s'} (h1:ExC P a s .nrm s1) (h2:ExC P b s1 x s'):ExC P (.seq a b) s x s'
 |oL {a b s x s'} (h1:ExC P a s x s') (hx:x≠ .nrm):ExC P (.seq a b) s x s'
 |condT {y a b s x s'} (hy:ev1 s.ts y=some (.bool true)) (h:ExC P a s x s'):ExC P (.cond y a b) s x s'
 |condF {y a b s x s'} (hy:ev1 s.ts y=some (.bool false)) (h:ExC P b s x s'):ExC P (.cond y a b) s x s'
 |blkHit {id a s s'} (h:ExC P a s (.ex id) s'):ExC P (.blk id a) s .nrm s'
 |blkPass {id a s x s'} (h:ExC P a s x s') (hx:x≠ .ex id):ExC P (.blk id a) s x s'
 |loopN {a s s1 x s'} (h1:ExC P a s .nrm s1) (h2:ExC P (.loop a) s1 x s'):ExC P (.loop a) s x s'
 |loopX {a s x s'} (h1:ExC P a s x s') (hx:x≠ .nrm):ExC P (.loop a) s x s'
 |exit {id s}:ExC P (.exit id) s (.ex id) s
 |ret {s}:ExC P .ret s .ret s
section
variable{P:Program}{nt:Nat}{K:Nat→Prop}{w0:World}{A0:Nat→Nd}{U0:Nat→Prop}{c0:Nat}
theorem eg{c:Code}{cc:CC}(h:okC P nt c cc=true):match cc with
  |.skip=>c= .skip
  |.reg l _=>∃id ops,c= .region id ops false∧okL P nt ops l ops.toList=true
  |.draw n FL l _=>∃id ops,c= .region id ops true∧dok P nt ops n FL l=true
  |.seq a b=>∃c1 c2,c= .seq c1 c2∧okC P nt c1 a=true∧okC P nt c2 b=true
  |.cond y a b=>∃x c1 c2,c= .cond x c1 c2∧aX y x=true∧okC P nt c1 a=true∧okC P nt c2 b=true
  |.blk id a=>∃c1,c= .block id c1∧okC P nt c1 a=true
  |.loop a=>∃c1,c= .loop c1∧okC P nt c1 a=true
  |.exit id=>c= .exit id
  |.ret=>c= .ret:=by
 unfold okC at h;split at h
 ·rfl
 ·exact⟨_,_,rfl,h⟩
 ·exact⟨_,_,rfl,h⟩
 ·simp only[Bool.and_eq_true]at h;exact⟨_,_,rfl,h.1,h.2⟩
 ·simp only[Bool.and_eq_true]at h;exact⟨_,_,_,rfl,h.1.1,h.1.2,h.2⟩
 ·simp only[Bool.and_eq_true,beq_iff_eq]at h;obtain⟨e,h'⟩:=h;subst e;exact⟨_,rfl,h'⟩
 ·exact⟨_,rfl,h⟩
 ·simp only[beq_iff_eq]at h;subst h;rfl
 ·rfl
 ·simp at h
theorem ExC.sound(hm:P.follows .mixedOrders=true){cc:CC}{s s':St}{x:X}(hr:ExC P cc s x s'):∀{c:Code}{a:Act}{w:World}{Q:Exit→Act→World→Prop},okC P nt c cc=true→Inv nt K w0 A0 U0 c0 s a w→(∀a' w',Inv nt K w0 A0 U0 c0 s' a' w'→Q x.lX a' w')→CW P c Q a w:=by
 induction hr with
 |skip=>intro c a w Q hok hs hn;have:=eg hok;simp only at this;subst this;exact wp_skip (hn a w hs)
 | @reg l k s s' cl hcl h=>
  intro c a w Q hok hs hn;obtain⟨id,ops,rfl,h1⟩:=eg hok;refine wp_region ?_;have:=pA (k:=0) (os:=ops.toList) (Q:=Q) hcl (by simp) h1 hs h fun a' w' hs'=>hn a' w' (hs'.av k)
  rw[List.range_eq_range'];simpa using this
 | @draw n FL l k s s' cl hcl h=>intro c a w Q hok hs hn;obtain⟨id,ops,rfl,h1⟩:=eg hok;exact wL hm hcl h1 hs h fun a' w' hs'=>hn a' w' (hs'.av k)
 | @seqN a b s s1 x s' _ _ ih1 ih2=>intro c a' w Q hok hs hn;obtain⟨c1,c2,rfl,h1,h2⟩:=eg hok;refine wp_seq ?_;exact(ih1 h1 hs (Q:=Exit.then (c2.wp P Q) Q) fun a2 w2 hs2=>(ih2 h2 hs2 hn).wp).wp
 | @oL a b s x s' _ hx ih=>
  intro c a' w Q hok hs hn;obtain⟨c1,c2,rfl,h1,h2⟩:=eg hok;refine wp_seq ?_;refine(ih h1 hs (Q:=Exit.then (c2.wp P Q) Q) fun a2 w2 hs2=>?_).wp;cases x with
  |nrm=>exact absurd rfl hx
  |ex id=>exact hn a2 w2 hs2
  |ret=>exact hn a2 w2 hs2
 | @condT y a b s x s' hy _ ih=>intro c a' w Q hok hs hn;obtain⟨x',c1,c2,rfl,h1,h2,h3⟩:=eg hok;obtain⟨A,U,s1,s2, -⟩:=id hs;exact wp_cond_true (aU s2 h1 hy) (ih h2 hs hn).wp
 | @condF y a b s x s' hy _ ih=>intro c a' w Q hok hs hn;obtain⟨x',c1,c2,rfl,h1,h2,h3⟩:=eg hok;obtain⟨A,U,s1,s2, -⟩:=id hs;exact wp_cond_false (aU s2 h1 hy) (ih h3 hs hn).wp
 | @blkHit id a s s' _ ih=>intro c a' w Q hok hs hn;obtain⟨c1,rfl,h1⟩:=eg hok;refine wp_block ?_;refine(ih h1 hs (Q:=Exit.inBlock id Q) fun a2 w2 hs2=>?_).wp;simp only[X.lX,Exit.inBlock,if_true];exact hn a2 w2 hs2
 | @blkPass id a s x s' _ hx ih=>
  intro c a' w Q hok hs hn;obtain⟨c1,rfl,h1⟩:=eg hok;refine wp_block ?_;refine(ih h1 hs (Q:=Exit.inBlock id Q) fun a2 w2 hs2=>?_).wp;cases x with
  |nrm=>exact hn a2 w2 hs2
  |ex j=>
   have:¬j=id:=fun e=>hx (by rw[e])
   simp only[X.lX,Exit.inBlock,this,if_false];exact hn a2 w2 hs2
  |ret=>exact hn a2 w2 hs2
 | @loopN a s s1 x s' _ _ ih1 ih2=>intro c a' w Q hok hs hn;have hok0:=hok;obtain⟨c1,rfl,h1⟩:=eg hok;refine pW ?_;refine(ih1 h1 hs (Q:=Exit.then (jQ P c1 Q) Q) fun a2 w2 hs2=>?_).wp;exact ih2 (c:=.loop c1) hok0 hs2 hn
 | @loopX a s x s' _ hx ih=>
  intro c a' w Q hok hs hn;obtain⟨c1,rfl,h1⟩:=eg hok;refine pW ?_;refine(ih h1 hs (Q:=Exit.then (jQ P c1 Q) Q) fun a2 w2 hs2=>?_).wp;cases x with
  |nrm=>exact absurd rfl hx
  |ex j=>exact hn a2 w2 hs2
  |ret=>exact hn a2 w2 hs2
 | @exit id s=>intro c a w Q hok hs hn;have:=eg hok;simp only at this;subst this;exact wp_exit (hn a w hs)
 | @ret s=>intro c a w Q hok hs hn;have:=eg hok;simp only at this;subst this;exact wp_ret (hn a w hs)
theorem aDo(hm:P.follows .mixedOrders=true){g:FuncId}{F:Func}{fn:CFn}(hF:P.funcs[g]?=some F)(hokF:bS P F fn=true){args:List V1}(hle:args.length≤fn.nt){h:Heap}{c:Nat}{x:X}{s:St}(hx:ExC P fn.code ⟨init args 0,h,c⟩ x s)(hxr:x= .nrm∨x= .ret){vs:List V1}(hvs:mT s.h s.ts fn.res=some vs)(hcc:c≤s.c){c':Nat}(hc':s.c≤c'):FOk P g args h c (pack vs) s.h c':=by
 unfold bS at hokF;simp only[Bool.and_eq_true,beq_iff_eq]at hokF;obtain⟨⟨⟨k1,k2⟩,k3⟩,k4⟩:=hokF;split at k4
 ·rename_i code hcode;refine⟨⟨F,hF,by simpa using k3,by rw[hcode];rfl⟩,Nat.le_trans hcc hc',?_⟩;intro A U w as hs hc hsz has;have body:∀Q:Exit→Act→World→Prop,(∀a' w',Inv fn.nt (Liv A h) w A U c s a' w'→Q x.lX a' w')→CW P code Q {tmps:=as++Array.replicate (F.ntmps-as.size) undef,defers:=[]} w:=by
   intro Q hQ;refine hx.sound (K:=Liv A h) (w0:=w) (A0:=A) (U0:=U) (c0:=c) hm k4 ⟨A,U,hs,fun t y hy=>?_,?_,rfl,hc,Ext.refl A U,fun _ h=>h,fun id h=>.inl h,Nat.le_refl _⟩ hQ
   ·obtain⟨-,z,h1,rfl⟩:=rX hy;rw[Nat.sub_zero]at h1;have hlt:t<as.size:=by rw[hsz];exact(List.getElem?_eq_some_iff.1 h1).1
    obtain⟨v,f1,f2⟩:=has t z h1;refine⟨by simp;omega,?_⟩;have:(as++Array.replicate (F.ntmps-as.size) undef).getD t undef=v:=by rw[Array.getD_eq_getD_getElem?,Array.getElem?_append_left hlt,f1];rfl
    rw[this];exact f2
   ·simp only[Array.size_append,Array.size_replicate];rw[k1,hsz];omega
  refine calls_of_wp hF hcode (body _ ?_).wp;rintro a' w' ⟨A',U',s1,s2,s3,s4,s5,s6,s7,s8,s9⟩;obtain⟨v,v1,v2⟩:=oI (P:=P) s1 s2 k2 hvs;have hfin:bodyPost P F (fun e w'=>∃v A' U',e= .returned v∧Post (fun id=>c≤id∧id<c') A h U w A' s.h U' w'∧eO A' U' (pack vs) v) .ret a' w':=⟨s4,v,v1,v,A',U',rfl,⟨s1,s6,s7,fun id hid=>(s8 id hid).imp (fun h=>h) fun⟨h1,h2⟩=>⟨h1,Nat.lt_of_lt_of_le h2 hc'⟩⟩,v2⟩;rcases hxr with rfl|rfl<;>exact hfin
 ·simp at k4
end
end Go.Cq.D
namespace Go.Cq.D
open Go.RowKit
def d9(ts:DTs):COp→List Loc
 |.fl (.load n x)=>match cC ts x with
  |some (.ptr g i k)=>(List.range (n.getD 1)).map fun j=>.h g i (k+j)
  |_=>[]
 |_=>[]
def oF(P:Prg)(ci:CI)(ts:DTs)(H:DH)(n:Nat)(Q:DTs→DH→Nat→Prop):Prop:=match eE ts ci.g with
 |some false=>Q (i9 ci.d (.tup []) ts) H n
 |some true=>match dU (cT ts ci.op.reads++d9 ts ci.op) ts H n with
  | (ts1,H1,n1)=>exec P ci.op ts1 H1 n1 fun x ts' H' n' _=>Q (i9 ci.d x ts') H' n'
 |none=>False
def oO(P:Prg):List CI→DTs→DH→Nat→(DTs→DH→Nat→Prop)→Prop
 | [],ts,H,n,Q=>Q ts H n
 |ci::l,ts,H,n,Q=>oF P ci ts H n fun ts' H' n'=>oO P l ts' H' n' Q
def cellsOf:List (Nat×Nat)→DT→Nat→List (Loc×DC)
 | [],_,_=>[]
 |p::l,x,t=>match x.cell p.1 p.2 with
  |some c=>(Loc.t t p.1 p.2,c)::cellsOf l x t
  |none=>cellsOf l x t
def jf:DTs→List (Loc×DC)
 | []=>[]
 | (t,x)::l=>cellsOf x.sw x t++jf l
def w8:List DC→Nat→Nat→List (Loc×DC)
 | [],_,_=>[]
 |c::l,g,k=>(Loc.h g 0 k,c)::w8 l g (k+1)
def jj:DH→List (Loc×DC)
 | []=>[]
 | (g,.box cs)::l=>w8 cs g 0++jj l
 | (g,.arr _ _ ov)::l=>ov.map (fun p=>(Loc.h g p.1 p.2.1,p.2.2))++jj l
def hasTag(g:Nat)(l:List Nat):Bool:=l.any (Nat.beq g)
def aA7(g:Nat)(l:List (Loc×DC)):List (Loc×DC):=l.filter fun p=>hasTag g p.2.tags
def aE3(g:Nat):DC→Bool
 |.sl g' _ _=>Nat.beq g' g
 |_=>false
def gh(n0:Nat)(rs:List (Loc×DC)):DH→List Loc
 | []=>[]
 | (g,.arr _ _ _)::l=>if Nat.blt g n0 then gh n0 rs l else(match aA7 g rs with| [(ℓ,c)]=>if aE3 g c then [ℓ]else []|_=>[])++gh n0 rs l
 |_::l=>gh n0 rs l
def iB(n0:Nat)(rs:List (Loc×DC)):DH→List Nat
 | []=>[]
 | (g,_)::l=>if Nat.blt g n0 then iB n0 rs l else(match aA7 g rs with| []=>g::iB n0 rs l|_=>iB n0 rs l)
def oJ:List Nat→Nat
 | []=>0
 |x::l=>Nat.max (x+1) (oJ l)
def jV(ts:DTs)(H:DH):Nat:=Nat.max (oJ (H.map (·.1))) (oJ ((jf ts++jj H).flatMap fun p=>p.2.tags))
def aBJ(n0:Nat)(ts:DTs)(H:DH):DTs×DH:=dV (gh n0 (jf ts++jj H) H) ts H
def lJ(n0:Nat)(ts:DTs)(H:DH):DH:=fR (iB n0 (jf ts++jj H) H) H
def kN(n0:Nat)(ts:DTs)(H:DH):DTs×DH:=aBJ n0 ts (lJ n0 ts H)
def tidy(n0:Nat)(av:List Nat)(ts:DTs)(H:DH)(Q:DTs→DH→Nat→Prop):Prop:=match kN n0 (br av ts) H with
 | (ts1,H1)=>match kN n0 ts1 H1 with
  | (ts2,H2)=>match br av ts2,lJ n0 ts2 H2 with
   |ts3,H3=>Q ts3 H3 (Nat.max n0 (jV ts3 H3))
section
variable{P:Prg}{N:Bool→Nat→Prop}{I:Nm}{Fp:Loc→Nat→Prop}{ts:DTs}{H:DH}{n:Nat}{cts:Ts}{h:Heap}{U:Nat→Prop}
theorem Grow.less{I0:Nm}{Fp0:Loc→Nat→Prop}{H0:DH}{n0:Nat}{U0:Nat→Prop}{h0:Heap}{H':DH}{n':Nat}{Fp':Loc→Nat→Prop}(hg:Grow I0 Fp0 H0 n0 U0 h0 I Fp H n U h)(hn:n0≤n')(hF:∀ℓ id,Fp' ℓ id→Fp ℓ id)(hH:∀g d,aG H' g=some d→aG H g=some d):Grow I0 Fp0 H0 n0 U0 h0 I Fp' H' n' U h:=⟨hn,hg.cc,hg.nm,fun id hid=>hg.own id (hid.elim (fun⟨ℓ,e⟩=>.inl ⟨ℓ,hF _ _ e⟩) fun⟨g,d,b,s,e1,e2⟩=>.inr ⟨g,d,b,s,hH g d e1,e2⟩),hg.hp,fun g d hgn hd=>hg.sh g d hgn (hH g d hd),hg.mp⟩
theorem R.fR(hr:R none N I Fp ts H n cts h U)(l:List Nat):R none N I Fp ts (fR l H) n cts h U:=by refine hr.sub hr.tsh (fun s j k z hz=>?_) (fun s j k z g' hz hg=>hr.tags (.t s j k) z g' hz hg) (fun g d hd=>(gi hd).2) (fun _ _ h=>h) (fun _ _ _ _=>rfl);obtain⟨v,h1,h2⟩:=hr.cell (.t s j k) z (by simp) hz;exact⟨v,h1,h2.del fun g d hd=>(gi hd).2⟩
theorem xH{l:List Nat}{x:Nat}(h:x∈l):x<oJ l:=by
 induction l with
 |nil=>simp at h
 |cons y l ih=>
  simp only[oJ];rcases List.mem_cons.1 h with rfl|h
  ·exact Nat.lt_of_lt_of_le (Nat.lt_succ_self _) (Nat.le_max_left _ _)
  ·exact Nat.lt_of_lt_of_le (ih h) (Nat.le_max_right _ _)
theorem aBY{x:DT}{j k:Nat}{c:DC}(h:x.cell j k=some c):(j,k)∈x.sw:=by
 have dv:∀{y:DV}{j k:Nat}{c:DC},y.cell k=some c→(j,k)∈y.sw j:=by
  intro y j k c h;cases y with
  |one d=>
   simp only[DV.cell]at h;split at h
   ·rename_i e;subst e;simp[DV.sw]
   ·simp at h
  |agg cs=>simp only[DV.cell]at h;simp only[DV.sw,List.mem_map,List.mem_range];exact⟨k,(List.getElem?_eq_some_iff.1 h).1,rfl⟩
 cases x with
 |v y=>
  simp only[DT.cell]at h;split at h
  ·rename_i e;subst e;exact dv h
  ·simp at h
 |tup l=>
  simp only[DT.cell,Option.bind_eq_some_iff]at h;obtain⟨y,h1,h2⟩:=h;have:∀(l:List DV)(j0:Nat)(j:Nat),l[j]?=some y→(j0+j,k)∈xO l j0:=by
   intro l;induction l with
   |nil=>intro j0 j h;simp at h
   |cons z l ih=>
    intro j0 j h;simp only[xO,List.mem_append];cases j with
    |zero=>cases h;exact .inl (dv h2)
    |succ j=>exact .inr (by have:=ih (j0+1) j (by simpa using h);rwa[show j0+(j+1)=j0+1+j by omega])
  have:=this l 0 j h1;rwa[Nat.zero_add]at this
 |gone=>simp[DT.cell]at h
theorem tu{t:Nat}{x:DT}{j k:Nat}{c:DC}(h:x.cell j k=some c):∀{l:List (Nat×Nat)},(j,k)∈l→(Loc.t t j k,c)∈cellsOf l x t:=by
 intro l;induction l with
 |nil=>intro hm;simp at hm
 |cons p l ih=>
  intro hm;simp only[cellsOf];rcases List.mem_cons.1 hm with rfl|hm
  ·simp[h]
  ·split
   ·exact List.mem_cons_of_mem _ (ih hm)
   ·exact ih hm
theorem yE{ts:DTs}{s j k:Nat}{c:DC}(h:aa ts H (.t s j k)=some c):(Loc.t s j k,c)∈jf ts:=by
 simp only[aa,Option.bind_eq_some_iff]at h;obtain⟨x,h1,h2⟩:=h;induction ts with
 |nil=>simp[an]at h1
 |cons p l ih=>
  obtain⟨t,y⟩:=p;simp only[jf,List.mem_append];rw[bK]at h1;split at h1
  ·rename_i e;subst e;cases h1;exact .inl (tu h2 (aBY h2))
  ·exact .inr (ih h1)
theorem xw{cs:List DC}{g:Nat}:∀{k0 k:Nat}{c:DC},cs[k]?=some c→(Loc.h g 0 (k0+k),c)∈w8 cs g k0:=by
 induction cs with
 |nil=>intro k0 k c h;simp at h
 |cons x l ih=>
  intro k0 k c h;simp only[w8];cases k with
  |zero=>cases h;simp
  |succ k=>have:=ih (k0:=k0+1) (k:=k) (by simpa using h);rw[show k0+(k+1)=k0+1+k by omega];exact List.mem_cons_of_mem _ this
theorem yA{ov:List (Nat×Nat×DC)}{i k:Nat}{x:DC}(h:ab ov i k=some x):(i,k,x)∈ov:=by
 induction ov with
 |nil=>simp[ab]at h
 |cons p l ih=>
  obtain⟨i0,k0,y⟩:=p;simp only[ab]at h;cases hb:Nat.beq k0 k with
  |true=>
   have:=Nat.eq_of_beq_eq_true hb;subst this;rw[hb]at h;simp only[cond_true]at h;split at h
   ·rename_i e;subst e;cases h;simp
   ·exact List.mem_cons_of_mem _ (ih h)
  |false=>rw[hb]at h;exact List.mem_cons_of_mem _ (ih h)
theorem xX{H:DH}{g i k:Nat}{c:DC}(h:aa ts H (.h g i k)=some c):c.tags=[]∨(Loc.h g i k,c)∈jj H:=by
 simp only[aa,Option.bind_eq_some_iff]at h;obtain⟨db,h1,h2⟩:=h;induction H with
 |nil=>simp[aG]at h1
 |cons p l ih=>
  obtain⟨g',d⟩:=p;rw[aW]at h1;split at h1
  ·rename_i e;subst e;simp only[Option.some.injEq]at h1;subst h1;cases d with
   |box cs=>
    simp only[DB.cell]at h2;split at h2
    ·rename_i e;subst e;have:=xw (g:=g) (k0:=0) h2;rw[Nat.zero_add]at this;exact .inr (List.mem_append_left _ this)
    ·simp at h2
   |arr sz es ov=>
    simp only[DB.cell]at h2;split at h2
    ·split at h2
     ·rename_i x hx;simp only[Option.some.injEq]at h2;subst h2;exact .inr (List.mem_append_left _ (List.mem_map.2 ⟨_,yA hx,rfl⟩))
     ·rename_i p hp _;simp only[Option.some.injEq]at h2;subst h2;left;have hq:∀q:PV,q.dc.tags=[]:=fun q=>by cases q<;>rfl
      exact hq _
    ·simp at h2
  ·rcases ih h1 with h3|h3
   ·exact .inl h3
   ·right;cases d<;>exact List.mem_append_right _ h3
theorem R.lower(hr:R none N I Fp ts H n cts h U){n':Nat}(hn:jV ts H≤n'):R none N I Fp ts H n' cts h U:=by
 refine{hr with tags:=fun ℓ x g hx hg=>?_,htag:=fun g db hg=>?_}
 ·refine Nat.lt_of_lt_of_le ?_ hn;refine Nat.lt_of_lt_of_le (xH ?_) (Nat.le_max_right _ _);cases ℓ with
  |t s j k=>exact List.mem_flatMap.2 ⟨_,List.mem_append_left _ (yE hx),hg⟩
  |h g' i k=>
   rcases xX hx with h1|h1
   ·rw[h1]at hg;simp at hg
   ·exact List.mem_flatMap.2 ⟨_,List.mem_append_right _ h1,hg⟩
 ·refine Nat.lt_of_lt_of_le ?_ hn;refine Nat.lt_of_lt_of_le (xH ?_) (Nat.le_max_left _ _);have:∀H:DH,aG H g=some db→g∈H.map (·.1):=by
   intro H;induction H with
   |nil=>intro h;simp[aG]at h
   |cons p l ih=>
    intro h;obtain⟨k,y⟩:=p;rw[aW]at h;split at h
    ·rename_i e;simp[e]
    ·simp only[List.map_cons,List.mem_cons];exact .inr (ih h)
  exact this H hg
end
end Go.Cq.D
namespace Go.Cq.D
open Go.RowKit
def Rel(N:Bool→Nat→Prop)(I0:Nm)(Fp0:Loc→Nat→Prop)(H0:DH)(n0:Nat)(U0:Nat→Prop)(h0:Heap)(c0:Nat)(s:St)(ts:DTs)(H:DH)(n:Nat):Prop:=c0≤s.c∧∃N' I Fp,NG N N' (aV I0 Fp0 H0) U0 (fun id=>U0 id∨c0≤id∧id<s.c)∧R none N' I Fp ts H n s.ts s.h (fun id=>U0 id∨c0≤id∧id<s.c)∧Grow I0 Fp0 H0 n0 U0 h0 I Fp H n (fun id=>U0 id∨c0≤id∧id<s.c) s.h
section
variable{P:Prg}{N:Bool→Nat→Prop}{I0:Nm}{Fp0:Loc→Nat→Prop}{H0:DH}{n0:Nat}{h0:Heap}{U0:Nat→Prop}{c0:Nat}
structure Tie(P:Prg)(N:Bool→Nat→Prop)(I:Nm)(Fp:Loc→Nat→Prop)(H:DH)(n:Nat)(U:Nat→Prop)(h:Heap):Prop where
 lt:∀g p,P.J g=some p→g<n
 kn:Known P.J N I h
 fz:∀id,N true id→U id∧¬aV I Fp H id
theorem px{N:Bool→Nat→Prop}{I:Nm}{Fp:Loc→Nat→Prop}{ts:DTs}{H:DH}{n:Nat}{cts:Ts}{h:Heap}{U:Nat→Prop}(h4:R none N I Fp ts H n cts h U):∀id,N true id→U id∧¬aV I Fp H id:=fun id hid=>⟨h4.lt id (.inl hid),fun ho=>by
 rcases ho with⟨ℓ,h1⟩| ⟨g,db,b,s,h1,h2⟩
 ·exact h4.roF ℓ id hid h1
 ·exact h4.roT g db id b s hid h1 h2⟩
theorem Tie.none{P:Program}{ts:DTs}{cts:Ts}{m:Nat}(hr:R none N I0 Fp0 ts H0 n0 cts h0 U0):Tie ⟨P,noJ⟩ N I0 Fp0 H0 m U0 h0:=⟨fun g p h=>by simp[noJ]at h,⟨fun g p h=>by simp[noJ]at h,fun c es h=>by simp[noJ]at h⟩,px hr⟩
theorem Tie.grow{N':Bool→Nat→Prop}{U':Nat→Prop}{I:Nm}{Fp:Loc→Nat→Prop}{H:DH}{n:Nat}{U:Nat→Prop}{h:Heap}(hJ:Tie P N I0 Fp0 H0 n0 U0 h0)(ng:NG N N' (aV I0 Fp0 H0) U0 U')(g:Grow I0 Fp0 H0 n0 U0 h0 I Fp H n U h):(∀g p,P.J g=some p→g<n)∧Known P.J N' I h:=⟨fun g' p e=>Nat.lt_of_lt_of_le (hJ.lt g' p e) g.nn,hJ.kn.mono (fun g' p e e2=>(g.nm g' (hJ.lt g' p e)).trans e2) fun id hid=>⟨g.hp id (hJ.fz id hid).1 (hJ.fz id hid).2,ng.1 true id hid⟩⟩
theorem fI{I:Nm}{Fp:Loc→Nat→Prop}{ts:DTs}{H:DH}{n:Nat}{cts:Ts}{h:Heap}{U:Nat→Prop}(hr:R none N I Fp ts H n cts h U){g:Option (Nat×Bool)}{b:Bool}(hg:eE ts g=some b):bH cts g=some b:=by
 unfold eE at hg;split at hg
 ·exact hg
 ·rename_i t want;split at hg
  ·rename_i b' h1;obtain⟨y,h2,h3⟩:=hr.tsh t _ h1;obtain⟨v,h4,h5⟩:=hr.cell (.t t 0 0) (.sc (.bool b')) (by simp) (by simp[aa,h1,DT.cell,DV.cell]);simp only[bW,h2,Option.bind_some]at h4;obtain⟨-,rfl⟩:=h5;cases y with
   |v z=>cases z with
    |one w=>simp only[fC,fE]at h4;simp at h4;subst h4;simp only[bH,h2];exact hg
    |agg cs=>simp[tSh,fj]at h3
   |tup m=>simp[tSh]at h3
   |gone=>simp[tSh]at h3
  ·rename_i h1;obtain⟨y,h2,h3⟩:=hr.tsh t _ h1;cases y with
   |v z=>simp[tSh]at h3
   |tup m=>obtain⟨h4, -⟩:=h3;have:m=[]:=List.length_eq_zero_iff.1 (by simpa using h4);subst this;simp only[bH,h2];exact hg
   |gone=>simp[tSh]at h3
  ·simp at hg
theorem aDk{U0:Nat→Prop}{c0 c c':Nat}(h1:c0≤c)(h2:c+1≤c'):(fun id=>(U0 id∨c0≤id∧id<c)∨id=c∨c+1≤id∧id<c')=fun id=>U0 id∨c0≤id∧id<c':=by
 funext id;refine propext ⟨fun h=>?_,fun h=>?_⟩
 ·rcases h with(h| ⟨h3,h4⟩)|h| ⟨h3,h4⟩
  ·exact .inl h
  ·exact .inr ⟨h3,by omega⟩
  ·exact .inr ⟨by omega,by omega⟩
  ·exact .inr ⟨by omega,h4⟩
 ·rcases h with h| ⟨h3,h4⟩
  ·exact .inl (.inl h)
  ·by_cases e:id<c
   ·exact .inl (.inr ⟨h3,e⟩)
   ·by_cases e2:id=c
    ·exact .inr (.inl e2)
    ·exact .inr (.inr ⟨by omega,h4⟩)
theorem aB7(hU:∀id,U0 id→id<c0)(hJ:Tie P N I0 Fp0 H0 n0 U0 h0){s:St}{ts:DTs}{H:DH}{n:Nat}{ci:CI}{Q:DTs→DH→Nat→Prop}(hr:Rel N I0 Fp0 H0 n0 U0 h0 c0 s ts H n)(hx:oF P ci ts H n Q):
  ∃cl,gW P cl∧(∀f a h2 c2,c2≠s.c+1→cl f a h2 c2=none)∧∃s',fo cl s.c (s.c+1) ci s.ts s.h=some s'∧s.c<s'.c∧∃ts' H' n',Q ts' H' n'∧Rel N I0 Fp0 H0 n0 U0 h0 c0 s' ts' H' n':=by
 obtain⟨hc,N1,I,Fp,ng1,r1,g1⟩:=hr;unfold oF at hx;split at hx
 ·rename_i hw;refine⟨iF,jc P,fun _ _ _ _ _=>rfl,⟨cO ci.d (.tup []) s.ts,s.h,s.c+1⟩,?_,Nat.lt_succ_self _,_,_,_,hx,by show c0≤s.c+1;omega,?_⟩
  ·simp only[fo,fI r1 hw]
  ·have hmore:∀id,(U0 id∨c0≤id∧id<s.c)→(U0 id∨c0≤id∧id<s.c+1):=fun id h=>h.imp (fun h=>h) fun⟨h1,h2⟩=>⟨h1,by omega⟩
   have r2:=r1.more hmore;obtain⟨Fp',r3,hF⟩:=r2.pr ci.d (x:=.tup []) (y:=.tup []) ⟨⟨rfl,by simp⟩,fun j k c h=>by simp[DT.cell]at h⟩ (fun j k q g h=>by simp[DT.cell]at h);refine⟨N1,I,Fp',ng1.more hmore,r3,g1.nn,fun id h=>hmore id (g1.cc id h),g1.nm,fun id hid=>?_,g1.hp,g1.sh,g1.mp⟩;exact(g1.own id (hid.less hF)).imp (fun h=>h) fun h=>⟨h.1,hmore id h.2⟩
 ·rename_i hw;obtain⟨I2,Fp2,r2,g2⟩:=r1.dU (cT ts ci.op.reads++d9 ts ci.op) r1;generalize dU (cT ts ci.op.reads++d9 ts ci.op) ts H n=p at hx r2 g2;obtain⟨ts1,H1,n1⟩:=p;have hlt:∀id,(U0 id∨c0≤id∧id<s.c)→id<s.c+1:=fun id h=>by
   rcases h with h|h
   ·have:=hU id h;omega
   ·omega
  have hni:¬(U0 s.c∨c0≤s.c∧s.c<s.c):=fun h=>by
   rcases h with h|h
   ·have:=hU _ h;omega
   ·omega
  obtain⟨cl,k1,k2,r,h',c',k3,⟨k4, -⟩,x,ts',H',n',τ,k5, -, -, -,N2,ng2,k6⟩:=ku r2 hlt (hJ.grow ng1 (g1.trans g2)) hni hx;obtain⟨I3,Fp3,r3,g3⟩:=k6 ci.d;refine⟨cl,k1,k2,⟨cO ci.d r s.ts,h',c'⟩,?_,by show s.c<c';omega,_,_,_,k5,by show c0≤c';omega,N2,I3,Fp3,?_,?_,?_⟩
  ·simp only[fo,fI r1 hw,k3]
  ·have:=ng1.trans (g1.trans g2) ng2 fun id h=>.inl h
   rw[aDk hc k4]at this;exact this
  ·rw[aDk hc k4]at r3;exact r3
  ·have:=g1.trans (g2.trans g3);rw[aDk hc k4]at this;exact this
 ·exact hx.elim
theorem COp.aAi{cl cl':cN}{i c:Nat}{h:Heap}{ts:Ts}{op:COp}(hcl:∀f a h2,cl' f a h2 c=cl f a h2 c):op.ev cl' i c h ts=op.ev cl i c h ts:=by cases op<;>simp only[COp.ev,hcl]
theorem uI{cl cl':cN}{i c:Nat}{ts:Ts}{h:Heap}{ci:CI}(hcl:∀f a h2,cl' f a h2 c=cl f a h2 c):fo cl' i c ci ts h=fo cl i c ci ts h:=by simp only[fo,COp.aAi hcl]
theorem COp.aDE{cl:cN}(hcl:gW P cl){i c:Nat}{h:Heap}{ts:Ts}{op:COp}{r:CVal}{h':Heap}{c':Nat}(he:op.ev cl i c h ts=some (r,h',c')):c≤c':=by
 cases op with
 |call f args=>
  simp only[COp.ev]at he;split at he
  ·exact(hcl _ _ _ _ _ _ _ he).2.1
  ·simp at he
 |callv x args=>
  simp only[COp.ev]at he;split at he
  ·exact(hcl _ _ _ _ _ _ _ he).2.1
  ·simp at he
 |ext t j=>
  simp only[COp.ev]at he;split at he
  ·split at he
   ·simp only[Option.some.injEq,Prod.mk.injEq]at he;omega
   ·simp at he
  ·simp at he
 |bad=>simp[COp.ev]at he
 |eqA neg ks x y=>
  simp only[COp.ev]at he;split at he
  ·split at he
   ·simp only[Option.some.injEq,Prod.mk.injEq]at he;omega
   ·simp at he
  ·simp at he
 |mm mx x y=>
  simp only[COp.ev]at he;split at he
  ·split at he
   ·simp only[Option.some.injEq,Prod.mk.injEq]at he;omega
   ·simp at he
  ·simp at he
 |fld x o n=>
  simp only[COp.ev]at he;split at he
  ·split at he
   ·simp only[Option.some.injEq,Prod.mk.injEq]at he;omega
   ·simp at he
  ·simp at he
 |_=>
  simp only[COp.ev]at he;split at he
  ·simp only[Option.some.injEq,Prod.mk.injEq]at he;omega
  ·simp at he
theorem aAL{cl:cN}(hcl:gW P cl){i c:Nat}{ts:Ts}{h:Heap}{ci:CI}{s:St}(he:fo cl i c ci ts h=some s):c≤s.c:=by
 unfold fo at he;split at he
 ·split at he
  ·rename_i h1;cases he;exact COp.aDE hcl h1
  ·simp at he
 ·cases he;exact Nat.le_refl _
 ·simp at he
theorem aCD{cl cl':cN}(hok:gW P cl):∀{l:List CI}{s s':St},(∀f a h2 c2,s.c<c2→cl' f a h2 c2=cl f a h2 c2)→gY cl l s=some s'→gY cl' l s=some s':=by
 intro l;induction l with
 |nil=>intro s s' _ h;exact h
 |cons ci l ih=>
  intro s s' hcl h;simp only[gY]at h ⊢;rw[uI (cl:=cl) (cl':=cl') (c:=s.c+1) fun f a h2=>hcl f a h2 _ (Nat.lt_succ_self _)];split at h
  ·rename_i s1 h1;have:=aAL hok h1;exact ih (fun f a h2 c2 hc=>hcl f a h2 c2 (by omega)) h
  ·simp at h
theorem xJ(hU:∀id,U0 id→id<c0)(hJ:Tie P N I0 Fp0 H0 n0 U0 h0):∀{l:List CI}{s:St}{ts:DTs}{H:DH}{n:Nat}{Q:DTs→DH→Nat→Prop},Rel N I0 Fp0 H0 n0 U0 h0 c0 s ts H n→oO P l ts H n Q→
  ∃cl,gW P cl∧∃s',gY cl l s=some s'∧∃ts' H' n',Q ts' H' n'∧Rel N I0 Fp0 H0 n0 U0 h0 c0 s' ts' H' n':=by
 intro l;induction l with
 |nil=>intro s ts H n Q hr hx;exact⟨iF,jc P,s,rfl,ts,H,n,hx,hr⟩
 |cons ci l ih=>
  intro s ts H n Q hr hx;obtain⟨cl1,k1,k2,s1,k3,k4,ts1,H1,n1,k5,k6⟩:=aB7 hU hJ hr hx;obtain⟨cl2,j1,s2,j2,ts2,H2,n2,j3,j4⟩:=ih k6 k5;refine⟨fun f a h2 c2=>if c2=s.c+1 then cl1 f a h2 c2 else cl2 f a h2 c2,fun f a h2 c2 r h' c' he=>?_,s2,?_,ts2,H2,n2,j3,j4⟩
  ·simp only at he;split at he
   ·exact k1 _ _ _ _ _ _ _ he
   ·exact j1 _ _ _ _ _ _ _ he
  ·simp only[gY];rw[uI (cl:=cl1) (by simp),k3];refine aCD j1 (fun f a h2 c2 hc=>?_) j2;have:c2≠s.c+1:=by omega
   simp[this]
theorem tN(av:List Nat)(ts:Ts):prune av (prune av ts)=prune av ts:=by
 have cg:∀(l:List Nat)(f g:Nat→Option (Nat×CVal)),(∀k,k∈l→f k=g k)→l.filterMap f=l.filterMap g:=by
  intro l f g hfg;induction l with
  |nil=>rfl
  |cons k l ih=>rw[List.filterMap_cons,List.filterMap_cons,hfg k (by simp),ih fun k hk=>hfg k (by simp[hk])]
 refine cg _ _ _ fun k hk=>?_
 have:look (prune av ts) k=look ts k:=by
  cases h:look ts k with
  |none=>
   cases h2:look (prune av ts) k with
   |none=>rfl
   |some x=>rw[pf h2]at h;simp at h
  |some x=>exact kO h hk
 rw[this]
theorem wj{av:List Nat}{s:St}{ts:DTs}{H:DH}{n:Nat}{Q:DTs→DH→Nat→Prop}(hr:Rel N I0 Fp0 H0 n0 U0 h0 c0 s ts H n)(hx:tidy n0 av ts H Q):
  ∃ts' H' n',Q ts' H' n'∧Rel N I0 Fp0 H0 n0 U0 h0 c0 (s.av (some av)) ts' H' n':=by
 obtain⟨hc,N1,I,Fp,ng0,r0,g0⟩:=hr;have r1:=r0.prune av av fun _ h=>h
 have step:∀{ts:DTs}{H:DH}{Fp:Loc→Nat→Prop},R none N1 I Fp ts H n (prune av s.ts) s.h (fun id=>U0 id∨c0≤id∧id<s.c)→Grow I0 Fp0 H0 n0 U0 h0 I Fp H n (fun id=>U0 id∨c0≤id∧id<s.c) s.h→
   ∃Fp',R none N1 I Fp' (kN n0 ts H).1 (kN n0 ts H).2 n (prune av s.ts) s.h (fun id=>U0 id∨c0≤id∧id<s.c)∧Grow I0 Fp0 H0 n0 U0 h0 I Fp' (kN n0 ts H).2 n (fun id=>U0 id∨c0≤id∧id<s.c) s.h:=by
  intro ts H Fp r g;have r2:=r.fR (iB n0 (jf ts++jj H) H);have g2:=g.less (Fp':=Fp) (H':=lJ n0 ts H) g.nn (fun _ _ h=>h) fun g d hd=>(gi hd).2
  obtain⟨Fp2,r3,g3⟩:=R.dV r2 (gh n0 (jf ts++jj (lJ n0 ts H)) (lJ n0 ts H)) r2;exact⟨Fp2,r3,g2.trans g3⟩
 obtain⟨F2,r2,g2⟩:=step r1 g0;unfold tidy at hx;generalize kN n0 (br av ts) H=p at hx r2 g2;obtain⟨ts1,H1⟩:=p;simp only at hx r2 g2;obtain⟨F3,r3,g3⟩:=step r2 g2;generalize kN n0 ts1 H1=p at hx r3 g3;obtain⟨ts2,H2⟩:=p;simp only at hx r3 g3;have r4:=(r3.prune av av fun _ h=>h).fR (iB n0 (jf ts2++jj H2) H2);have r5:R none N1 I F3 (br av ts2) (lJ n0 ts2 H2) (Nat.max n0 (jV (br av ts2) (lJ n0 ts2 H2))) (prune av (prune av s.ts)) s.h _:=r4.lower (Nat.le_max_right _ _);rw[tN]at r5;exact⟨_,_,_,hx,hc,N1,I,F3,ng0,r5,g3.less (Nat.le_max_left _ _) (fun _ _ h=>h) fun g d hd=>(gi hd).2⟩
end
end Go.Cq.D
namespace Go.Cq.D
open Go.RowKit
def pc:COp→Option Opd
 |.fl (.load _ x)=>some x
 |.fl (.idxAddr x _ _)=>some x
 |_=>none
def aAb(ts:DTs)(H:DH)(τ:List Nat)(y:RI):Bool:=match eE ts y.ci.g with
 |some false=>true
 |_=>match pc y.ci.op with
  |some x=>match cC ts x with
   |some (.ptr g _ _)=>(aG H g).isSome&&!τ.any (Nat.beq g)
   |some (.sl g _ _)=>(match aG H g with|some (.arr _ _ _)=>true|_=>false)&&!τ.any (Nat.beq g)
   |some (.rp _ _ _ _ _)=>true
   |some (.ro _ _ _)=>true
   |_=>false
  |none=>false
def jt(tab:List RI)(x:RI)(js:List Nat):List Nat:=js.filter fun j=>match dA tab j with
 |some y=>kW x.ci.d (bB y.ci)&&kZ x.ci.d y.ci.d&&!y.fl.any (Nat.beq x.k)
 |none=>false
def zi(tab:List RI)(ts:DTs)(H:DH)(τ:List Nat)(js:List Nat):List Nat:=js.filter fun j=>match dA tab j with
 |some y=>aAb ts H τ y
 |none=>false
def qQ(x:RI)(js:List Nat):List Nat:=match pc x.ci.op with
 |some _=>cond (kW x.ci.d (bB x.ci)&&!x.fl.any (Nat.beq x.k)) (x.k::js) js
 |none=>js
def sI(js rs:List Nat):Bool:=rs.all fun j=>js.any (Nat.beq j)
def aDW(tab:List RI)(ts:DTs)(H:DH):List Nat:=(ts.map (·.1)).filter fun t=>(match an ts t with
 |some (.v (.one (.ptr g _ _)))=>(aG H g).isSome
 |_=>false)&&tab.all fun y=>kZ y.ci.d (some t)
def tOf(FL:List Nat)(tab:List RI)(ts:DTs)(H:DH):List Nat:=match FL with
 | []=>[]
 |_=>aDW tab ts H
def zY(T:List Nat)(x:RI):Bool:=match x.ci.op with
 |.store _ (.t t) _=>T.any (Nat.beq t)&&x.fl.isEmpty&&x.ci.d.isNone
 |_=>false
def xE(m:Nat)(FL T used u:List Nat)(x:RI):Bool:=Nat.blt x.k m&&!used.any (Nat.beq x.k)&&(match x.ci.op.kind with
 |.rd=>u.all fun k=>x.fl.any (Nat.beq k)
 |.eff=>cond (u.all fun k=>x.fl.any (Nat.beq k)) (FL.all (fun k=>Nat.testBit x.anc k||(!used.any (Nat.beq k)&&!Nat.beq k x.k&&Nat.blt k m)))
   (zY T x&&FL.all (fun k=>Nat.testBit x.anc k||u.any (Nat.beq k)||(!used.any (Nat.beq k)&&!Nat.beq k x.k&&Nat.blt k m)))
 |_=>true)
def lO(x:RI)(u:List Nat):List Nat:=match x.ci.op.kind with
 |.new=>x.k::u
 |.eff=>cond (u.all fun k=>x.fl.any (Nat.beq k)) [] u
 |_=>u
def jo(tab:List RI)(x:RI)(ts:DTs)(H:DH)(τ js:List Nat):List Nat:=match x.ci.op.kind with
 |.eff=>zi tab ts H τ (jt tab x js)
 |.rd=>qQ x (jt tab x js)
 |_=>jt tab x js
def qa(l:List RI)(js:List Nat):List Nat:=js.filter fun j=>l.any fun y=>y.rs.any (Nat.beq j)
def nv(P:Prg)(m:Nat)(FL:List Nat)(tab:List RI)(T:List Nat):List RI→List Nat→List Nat→List Nat→DTs→DH→Nat→(DTs→DH→Nat→Prop)→Prop
 | [],_,_,_,ts,H,n,Q=>Q ts H n
 |x::l,used,u,js,ts,H,n,Q=>xE m FL T used u x=true∧match eE ts x.ci.g with
  |some false=>sI (qQ x (jt tab x js)) x.rs=true∧nv P m FL tab T l (x.k::used) u (qa l (qQ x (jt tab x js))) (i9 x.ci.d (.tup []) ts) H n Q
  |some true=>match dU (cT ts x.ci.op.reads++d9 ts x.ci.op) ts H n with
   | (ts1,H1,n1)=>exec P x.ci.op ts1 H1 n1 fun r ts' H' n' τ=>sI (jo tab x ts1 H1 τ js) x.rs=true∧nv P m FL tab T l (x.k::used) (lO x u) (qa l (jo tab x ts1 H1 τ js)) (i9 x.ci.d r ts') H' n' Q
  |none=>False
def ig:List RI→Bool
 | []=>true
 |x::l=>!l.any (fun y=>Nat.beq y.k x.k)&&ig l
def aDL(P:Prg)(m:Nat)(FL:List Nat)(l:List RI)(ts:DTs)(H:DH)(n:Nat)(Q:DTs→DH→Nat→Prop):Prop:=ig l=true∧nv P m FL l (tOf FL l ts H) l [] [] [] ts H n Q
theorem aBX:∀{l:List RI}{x:RI},ig l=true→x∈l→dA l x.k=some x:=by
 intro l;induction l with
 |nil=>intro x _ h;simp at h
 |cons y l ih=>
  intro x hk hx;simp only[ig,Bool.and_eq_true,Bool.not_eq_true',List.any_eq_false]at hk;simp only[dA];rcases List.mem_cons.1 hx with rfl|hx
  ·rw[Nat.beq_refl];rfl
  ·have:=hk.1 x hx;cases hb:Nat.beq y.k x.k with
   |true=>exact absurd (by rw[Nat.eq_of_beq_eq_true hb];exact Nat.beq_refl _) this
   |false=>exact ih hk.2 hx
theorem mX{base:Nat}{F:List (Nat×Blk)}{h:Heap}:∀{fl:List Nat}(id:Nat),(bm base F fl h).get id=if∃k,k∈fl∧id=base+k then(match bQ F id with|some b=>some b|none=>h.get id)else h.get id:=by
 intro fl;induction fl with
 |nil=>intro id;simp[bm]
 |cons k l ih=>
  intro id;simp only[bm];by_cases e:id=base+k
  ·subst e;have:∃k',k'∈k::l∧base+k=base+k':=⟨k,by simp,rfl⟩;rw[if_pos this];cases hb:bQ F (base+k)with
   |some b=>rw[Heap.aQ];simp
   |none=>rw[ih];simp only[hb,ite_self]
  ·have h2:(∃k',k'∈k::l∧id=base+k')↔∃k',k'∈l∧id=base+k':=by
    constructor
    ·rintro⟨k',h1,h2⟩;rcases List.mem_cons.1 h1 with rfl|h1
     ·exact absurd h2 e
     ·exact⟨k',h1,h2⟩
    ·rintro⟨k',h1,h2⟩;exact⟨k',by simp[h1],h2⟩
   simp only[h2];split
   ·rw[Heap.aQ,if_neg (fun e'=>e e'),ih]
   ·rw[ih]
theorem kA{base:Nat}{F:List (Nat×Blk)}{fl:List Nat}{h:Heap}(hF:∀id b,bQ F id=some b→∃k,k∈fl∧id=base+k)(id:Nat):(bm base F fl h).get id=(cy F h).get id:=by
 rw[mX,dN];split
 ·rfl
 ·rename_i hn;cases hl:bQ F id with
  |none=>rfl
  |some b=>exact absurd (hF id b hl) hn
theorem dL(F:List (Nat×Blk))(h:Heap)(id:Nat):(cy F h).getM id=h.getM id:=by
 induction F with
 |nil=>rfl
 |cons p l ih=>obtain⟨k,b⟩:=p;exact ih
theorem eK(base:Nat)(F:List (Nat×Blk))(fl:List Nat)(h:Heap)(id:Nat):(bm base F fl h).getM id=h.getM id:=by
 induction fl with
 |nil=>rfl
 |cons k l ih=>
  simp only[bm];split
  ·exact ih
  ·exact ih
theorem COp.ko{op:COp}(hc:op.fH=false)(cl cl':cN)(i c:Nat)(h:Heap)(ts:Ts):op.ev cl i c h ts=op.ev cl' i c h ts:=by cases op<;>first|rfl|simp[COp.fH]at hc
theorem rz{op:COp}(h:(pc op).isSome=true):op.fH=false:=by cases op<;>first|rfl|simp[pc]at h
theorem Grow.ext{I:Nm}{Fp:Loc→Nat→Prop}{H:DH}{n:Nat}{U:Nat→Prop}{h:Heap}{I':Nm}{Fp':Loc→Nat→Prop}{H':DH}{n':Nat}{U':Nat→Prop}{h':Heap}(g:Grow I Fp H n U h I' Fp' H' n' U' h'){h2 h2':Heap}(e:∀id,h2.get id=h.get id)(e':∀id,h2'.get id=h'.get id)(em:∀id,h2.getM id=h.getM id)(em':∀id,h2'.getM id=h'.getM id):Grow I Fp H n U h2 I' Fp' H' n' U' h2':=⟨g.nn,g.cc,g.nm,g.own,fun id h1 h2=>by rw[e',e,g.hp id h1 h2],g.sh,fun id=>by rw[em',em,g.mp id]⟩
section
variable{P:Prg}{N:Bool→Nat→Prop}{I0:Nm}{Fp0:Loc→Nat→Prop}{H0:DH}{n0:Nat}{h0:Heap}{U0:Nat→Prop}{c0 base m:Nat}{FL:List Nat}{tab:List RI}{T:List Nat}
def UM(U0:Nat→Prop)(c0 base m:Nat)(used:List Nat)(c:Nat)(id:Nat):Prop:=U0 id∨(c0≤id∧id<base)∨(∃k,k∈used∧id=base+k)∨(base+m≤id∧id<c)
def RJ(base:Nat)(tab:List RI)(s:DS)(j:Nat):Prop:=∃y,dA tab j=some y∧jb iF base s y=true∧(pc y.ci.op).isSome=true
structure MR(N:Bool→Nat→Prop)(I0:Nm)(Fp0:Loc→Nat→Prop)(H0:DH)(n0:Nat)(U0:Nat→Prop)(h0:Heap)(c0 base m:Nat)(tab:List RI)(T used u js:List Nat)(s:DS)(ts:DTs)(H:DH)(n:Nat):Prop where
 c1:c0≤base
 c2:base+m≤s.c
 rel:∃N' I Fp,NG N N' (aV I0 Fp0 H0) U0 (UM U0 c0 base m used s.c)∧R none N' I Fp ts H n s.ts (cy s.F s.h) (UM U0 c0 base m used s.c)∧Grow I0 Fp0 H0 n0 U0 h0 I Fp H n (UM U0 c0 base m used s.c) (cy s.F s.h)
 fk:∀id b,bQ s.F id=some b→(∃k,k∈u∧id=base+k)∧s.h.get id=none
 us:∀k,k∈used→k<m
 rj:∀j,j∈js→RJ base tab s j
 un:∀k,k∈u→s.h.get (base+k)=none
 pt:∀t,t∈T→(∀y,y∈tab→y.ci.d≠some t)∧∀id off,look s.ts t=some (.v (.one (.ptr id off)))→id<base
theorem MR.trim{N:Bool→Nat→Prop}{I0:Nm}{Fp0:Loc→Nat→Prop}{H0:DH}{n0:Nat}{U0:Nat→Prop}{h0:Heap}{c0 base m:Nat}{tab l:List RI}{T:List Nat}{used u js:List Nat}{s:DS}{ts:DTs}{H:DH}{n:Nat}(hm:MR N I0 Fp0 H0 n0 U0 h0 c0 base m tab T used u js s ts H n):MR N I0 Fp0 H0 n0 U0 h0 c0 base m tab T used u (qa l js) s ts H n:=⟨hm.c1,hm.c2,hm.rel,hm.fk,hm.us,fun j hj=>hm.rj j (List.mem_filter.1 hj).1,hm.un,hm.pt⟩
theorem qx{used:List Nat}{c c' k:Nat}(h1:base+m≤c)(h2:c≤c'):(fun id=>UM U0 c0 base m used c id∨id=base+k∨c≤id∧id<c')=UM U0 c0 base m (k::used) c':=by
 funext id;refine propext ⟨fun h=>?_,fun h=>?_⟩
 ·rcases h with(h|h| ⟨k',h,e⟩| ⟨h3,h4⟩)|h| ⟨h3,h4⟩
  ·exact .inl h
  ·exact .inr (.inl h)
  ·exact .inr (.inr (.inl ⟨k',by simp[h],e⟩))
  ·exact .inr (.inr (.inr ⟨h3,by omega⟩))
  ·exact .inr (.inr (.inl ⟨k,by simp,h⟩))
  ·exact .inr (.inr (.inr ⟨by omega,h4⟩))
 ·rcases h with h|h| ⟨k',h,e⟩| ⟨h3,h4⟩
  ·exact .inl (.inl h)
  ·exact .inl (.inr (.inl h))
  ·rcases List.mem_cons.1 h with rfl|h
   ·exact .inr (.inl e)
   ·exact .inl (.inr (.inr (.inl ⟨k',h,e⟩)))
  ·by_cases e:id<c
   ·exact .inl (.inr (.inr (.inr ⟨h3,e⟩)))
   ·exact .inr (.inr ⟨by omega,h4⟩)
theorem RJ.av{x:RI}{r:CVal}{fb:Option (Nat×Blk)}{s s1:DS}{js:List Nat}(hp:Plus x.ci.d r fb s s1)(hfb:∀k b,fb=some (k,b)→k=base+x.k)(hj:∀j,j∈js→RJ base tab s j):∀j,j∈jt tab x js→RJ base tab s1 j:=by
 intro j hm;simp only[jt,List.mem_filter]at hm;obtain⟨h1,h2⟩:=hm;obtain⟨y,h3,h4,h5⟩:=hj j h1;rw[h3]at h2;simp only[Bool.and_eq_true]at h2;obtain⟨⟨a1,a2⟩,a3⟩:=h2;refine⟨y,h3,?_,h5⟩;rw[rV hp ⟨fun t ht=>gO a1 ht,fun t ht e=>kh a2 e ht,fun k b e j hj' e'=>?_⟩]
 ·exact h4
 ·rw[hfb k b e]at e';have:j=x.k:=by omega
  subst this;exact gz a3 hj'
end
end Go.Cq.D
namespace Go.Cq.D
open Go.RowKit
section
variable{P:Prg}{N:Bool→Nat→Prop}{I0:Nm}{Fp0:Loc→Nat→Prop}{H0:DH}{n0:Nat}{h0:Heap}{U0:Nat→Prop}{c0 base m:Nat}{FL:List Nat}{tab:List RI}{T:List Nat}
variable{used u js:List Nat}{s:DS}{ts:DTs}{H:DH}{n:Nat}{x:RI}
theorem any_beq{l:List Nat}{k:Nat}(h:l.any (Nat.beq k)=true):k∈l:=by rw[List.any_eq_true]at h;obtain⟨j,h1,h2⟩:=h;rw[Nat.eq_of_beq_eq_true h2];exact h1
theorem aE0{f:FOp}{y:Opd}(hf:pc (.fl f)=some y){ts:Ts}{hA hB:Heap}(hid:∀id,(match ev1 ts y with|some (.ptr i _)=>i=id|some (.sl i _ _ _)=>i=id|_=>False)→∀b,hA.get id=some b→hB.get id=some b){v:V1}(he:f.ev hA ts=some v):f.ev hB ts=some v:=by
 cases f with
 |load k x=>
  simp only[pc,Option.some.injEq]at hf;subst hf;simp only[FOp.ev]at he ⊢;split at he
  ·rename_i id off h1;split at he
   ·rename_i b h2;rw[h1]at hid;rw[hid id rfl b h2];exact he
   ·simp at he
  ·simp at he
 |idxAddr x i sz=>
  simp only[pc,Option.some.injEq]at hf;subst hf;simp only[FOp.ev]at he ⊢;split at he
  ·rename_i id i0 ln lim k h1 h2;split at he
   ·rename_i b h3;rw[h1]at hid;simp only[h1,h2,hid id rfl b h3];exact he
   ·simp at he
  ·simp at he
 |_=>simp[pc]at hf
theorem MR.lt(hU:∀id,U0 id→id<c0)(hm:MR N I0 Fp0 H0 n0 U0 h0 c0 base m tab T used u js s ts H n):∀id,UM U0 c0 base m used s.c id→id<s.c:=by
 intro id h;have:=hm.c1;have:=hm.c2;rcases h with h| ⟨-,h⟩| ⟨k,h,e⟩| ⟨-,h⟩
 ·have:=hU id h;omega
 ·omega
 ·have:=hm.us k h;omega
 ·exact h
theorem MR.fresh(hU:∀id,U0 id→id<c0)(hm:MR N I0 Fp0 H0 n0 U0 h0 c0 base m tab T used u js s ts H n){k:Nat}(h1:k<m)(h2:k∉used):¬UM U0 c0 base m used s.c (base+k):=by
 have:=hm.c1;have:=hm.c2;intro h;rcases h with h| ⟨-,h⟩| ⟨k',h,e⟩| ⟨h, -⟩
 ·have:=hU _ h;omega
 ·omega
 ·have:k'=k:=by omega
  subst this;exact h2 h
 ·omega
theorem jM:∀{l:List RI}{k:Nat}{x:RI},dA l k=some x→x∈l:=by
 intro l;induction l with
 |nil=>intro k x h;simp[dA]at h
 |cons y l ih=>
  intro k x h;simp only[dA]at h;cases hb:Nat.beq y.k k with
  |true=>rw[hb]at h;simp only[cond_true,Option.some.injEq]at h;subst h;simp
  |false=>rw[hb]at h;exact List.mem_cons_of_mem _ (ih h)
theorem MR.ptD(hm:MR N I0 Fp0 H0 n0 U0 h0 c0 base m tab T used u js s ts H n)(hx:x∈tab){r:CVal}{ts':Ts}(e:ts'=cO x.ci.d r s.ts):∀t,t∈T→(∀y,y∈tab→y.ci.d≠some t)∧∀id off,look ts' t=some (.v (.one (.ptr id off)))→id<base:=fun t ht=>⟨(hm.pt t ht).1,fun id off h=>(hm.pt t ht).2 id off (by rw[e,bP,if_neg ((hm.pt t ht).1 x hx)]at h;exact h)⟩
theorem MR.quiet(hm:MR N I0 Fp0 H0 n0 U0 h0 c0 base m tab T used u js s ts H n)(hk:x.k<m)(hx:x∈tab){r:CVal}{ts':DTs}{H':DH}{n':Nat}{js':List Nat}(hrel:∃N' I Fp,NG N N' (aV I0 Fp0 H0) U0 (UM U0 c0 base m (x.k::used) s.c)∧R none N' I Fp ts' H' n' (cO x.ci.d r s.ts) (cy s.F s.h) (UM U0 c0 base m (x.k::used) s.c)∧Grow I0 Fp0 H0 n0 U0 h0 I Fp H' n' (UM U0 c0 base m (x.k::used) s.c) (cy s.F s.h))(hj:∀j,j∈js'→RJ base tab {s with ts:=cO x.ci.d r s.ts} j):MR N I0 Fp0 H0 n0 U0 h0 c0 base m tab T (x.k::used) u js' {s with ts:=cO x.ci.d r s.ts} ts' H' n':=
 ⟨hm.c1,hm.c2,hrel,hm.fk,fun k h=>by
  rcases List.mem_cons.1 h with rfl|h
  ·exact hk
  ·exact hm.us k h,hj,hm.un,hm.ptD hx rfl⟩
theorem zy(r:CVal):Plus x.ci.d r none s {s with ts:=cO x.ci.d r s.ts}:=⟨fun t=>bP t,rfl,rfl,fun _=>rfl⟩
theorem RJ.aE7{r:CVal}(hx:dA tab x.k=some x)(hw:bH s.ts x.ci.g=some false)(hj:∀j,j∈js→RJ base tab {s with ts:=cO x.ci.d r s.ts} j):
  ∀j,j∈qQ x js→RJ base tab {s with ts:=cO x.ci.d r s.ts} j:=by
 intro j hm;unfold qQ at hm;split at hm
 ·rename_i y hy;cases hc:(kW x.ci.d (bB x.ci)&&!x.fl.any (Nat.beq x.k))with
  |false=>rw[hc]at hm;exact hj j hm
  |true=>
   rw[hc]at hm;rcases List.mem_cons.1 hm with rfl|hm
   ·simp only[Bool.and_eq_true]at hc;have hag:cD (bB x.ci) s.ts (cO x.ci.d r s.ts):=fun t ht=>by rw[bP,if_neg (gO hc.1 ht)]
    refine⟨x,hx,?_,by simp[hy]⟩;unfold jb;rw[e8 (ts:=s.ts) fun t b e=>hag t (iR e),hw]
   ·exact hj j hm
 ·exact hj j hm
theorem wx(hm:MR N I0 Fp0 H0 n0 U0 h0 c0 base m tab T used u js s ts H n)(hk:x.k<m)(hx:dA tab x.k=some x)(hw:eE ts x.ci.g=some false)(cl:cN):
  ∃s1,az cl base FL x s=some s1∧s1.c=s.c∧MR N I0 Fp0 H0 n0 U0 h0 c0 base m tab T (x.k::used) u (qQ x (jt tab x js)) s1 (i9 x.ci.d (.tup []) ts) H n:=by
 obtain⟨N1,I,Fp,ng1,r1,g1⟩:=hm.rel;refine⟨{s with ts:=cO x.ci.d (.tup []) s.ts},by simp only[az,fI r1 hw],rfl,hm.quiet hk (jM hx) ?_ (RJ.aE7 hx (fI r1 hw) (RJ.av (zy _) (by simp) hm.rj))⟩;have hmore:∀id,UM U0 c0 base m used s.c id→UM U0 c0 base m (x.k::used) s.c id:=fun id h=>by rw[←qx hm.c2 (Nat.le_refl _)];exact .inl h
 obtain⟨Fp',r3,hF⟩:=(r1.more hmore).pr x.ci.d (x:=.tup []) (y:=.tup []) ⟨⟨rfl,by simp⟩,fun j k c h=>by simp[DT.cell]at h⟩ (fun j k q g h=>by simp[DT.cell]at h);exact⟨N1,I,Fp',ng1.more hmore,r3,g1.nn,fun id h=>hmore id (g1.cc id h),g1.nm,fun id hid=>(g1.own id (hid.less hF)).imp (fun h=>h) fun h=>⟨h.1,hmore id h.2⟩,g1.hp,g1.sh,g1.mp⟩
theorem RJ.add{r:CVal}(hx:dA tab x.k=some x)(_hkd:x.ci.op.kind= .rd)(hw:bH s.ts x.ci.g=some true){cl:cN}{h':Heap}{c':Nat}(he:x.ci.op.ev cl (base+x.k) s.c (bm base s.F x.fl s.h) s.ts=some (r,h',c'))(hj:∀j,j∈js→RJ base tab {s with ts:=cO x.ci.d r s.ts} j):
  ∀j,j∈qQ x js→RJ base tab {s with ts:=cO x.ci.d r s.ts} j:=by
 intro j hm;unfold qQ at hm;split at hm
 ·rename_i y hy;cases hc:(kW x.ci.d (bB x.ci)&&!x.fl.any (Nat.beq x.k))with
  |false=>rw[hc]at hm;exact hj j hm
  |true=>
   rw[hc]at hm;rcases List.mem_cons.1 hm with rfl|hm
   ·simp only[Bool.and_eq_true]at hc;have hag:cD (bB x.ci) s.ts (cO x.ci.d r s.ts):=fun t ht=>by rw[bP,if_neg (gO hc.1 ht)]
    refine⟨x,hx,?_,by simp[hy]⟩;unfold jb;rw[e8 (ts:=s.ts) fun t b e=>hag t (iR e),hw];simp only;rw[COp.ft (ts:=s.ts) fun t ht=>hag t (eo ht),COp.ko (rz (by simp[hy])) iF cl,he];simp only;cases hd:x.ci.d with
    |none=>rfl
    |some d=>simp only[cO,bc,if_true,decide_true]
   ·exact hj j hm
 ·exact hj j hm
end
end Go.Cq.D
namespace Go.Cq.D
open Go.RowKit
section
variable{P:Prg}{N:Bool→Nat→Prop}{I0:Nm}{Fp0:Loc→Nat→Prop}{H0:DH}{n0:Nat}{h0:Heap}{U0:Nat→Prop}{c0 base m:Nat}{FL:List Nat}{tab:List RI}{T:List Nat}
variable{used u js:List Nat}{s:DS}{ts ts1:DTs}{H H1:DH}{n n1:Nat}{x:RI}{K:DT→DTs→DH→Nat→List Nat→Prop}
def rn(P:Prg)(N:Bool→Nat→Prop)(I0:Nm)(Fp0:Loc→Nat→Prop)(H0:DH)(n0:Nat)(U0:Nat→Prop)(h0:Heap)(c0 base m:Nat)(FL:List Nat)(tab:List RI)(T used u js:List Nat)(s:DS)(ts1:DTs)(H1:DH)(x:RI)(K:DT→DTs→DH→Nat→List Nat→Prop):Prop:=
 ∃cl,gW P cl∧(∀f a h2 c2,c2≠s.c→cl f a h2 c2=none)∧∃s1,az cl base FL x s=some s1∧s.c≤s1.c∧(x.ci.op.fH=true→s.c<s1.c)∧∃r ts' H' n' τ,K r ts' H' n' τ∧
  MR N I0 Fp0 H0 n0 U0 h0 c0 base m tab T (x.k::used) (lO x u) (jo tab x ts1 H1 τ js) s1 (i9 x.ci.d r ts') H' n'
theorem uH{op:COp}(h:op.fH=true):op.kind= .eff:=by cases op<;>simp[COp.fH]at h<;>rfl
theorem run_pure(hU:∀id,U0 id→id<c0)(hJ:Tie P N I0 Fp0 H0 n0 U0 h0)(hm:MR N I0 Fp0 H0 n0 U0 h0 c0 base m tab T used u js s ts H n)(h1:x.k<m)(h2:x.k∉used)(hxt:x∈tab)(hw:bH s.ts x.ci.g=some true)(hkd:x.ci.op.kind= .pure)(hrel:∃N' I Fp,NG N N' (aV I0 Fp0 H0) U0 (UM U0 c0 base m used s.c)∧R none N' I Fp ts1 H1 n1 s.ts (cy s.F s.h) (UM U0 c0 base m used s.c)∧Grow I0 Fp0 H0 n0 U0 h0 I Fp H1 n1 (UM U0 c0 base m used s.c) (cy s.F s.h))(he:exec P x.ci.op ts1 H1 n1 K):
  rn P N I0 Fp0 H0 n0 U0 h0 c0 base m FL tab T used u js s ts1 H1 x K:=by
 obtain⟨N1,I,Fp,ng1,r1,g1⟩:=hrel;obtain⟨cl,k1,k2,r,h',c',k3,k4,y,ts',H',n',τ,k5, -, -, -,N2,ng2,k6⟩:=ku r1 (hm.lt hU) (hJ.grow ng1 g1) (hm.fresh hU h1 h2) he;obtain⟨e1,e2,e3⟩:=COp.ky hkd k3;subst e1;subst e2;obtain⟨I2,Fp2,r2,g2⟩:=k6 x.ci.d;have ng:=ng1.trans g1 ng2 fun id h=>.inl h
 rw[qx hm.c2 (Nat.le_refl _)]at r2 g2 ng;refine⟨cl,k1,k2,{s with ts:=cO x.ci.d r s.ts},by simp only[az,hw,hkd,e3],Nat.le_refl _,fun hc=>by rw[uH hc]at hkd;simp at hkd,y,ts',H',n',τ,k5,?_⟩;simp only[lO,jo,hkd];exact hm.quiet h1 hxt ⟨N2,I2,Fp2,ng,r2,g1.trans g2⟩ (RJ.av (zy _) (by simp) hm.rj)
theorem aDh(hU:∀id,U0 id→id<c0)(hJ:Tie P N I0 Fp0 H0 n0 U0 h0)(hm:MR N I0 Fp0 H0 n0 U0 h0 c0 base m tab T used u js s ts H n)(h1:x.k<m)(h2:x.k∉used)(hx:dA tab x.k=some x)(hw:bH s.ts x.ci.g=some true)(hkd:x.ci.op.kind= .rd)(hu:∀k,k∈u→k∈x.fl)(hrel:∃N' I Fp,NG N N' (aV I0 Fp0 H0) U0 (UM U0 c0 base m used s.c)∧R none N' I Fp ts1 H1 n1 s.ts (cy s.F s.h) (UM U0 c0 base m used s.c)∧Grow I0 Fp0 H0 n0 U0 h0 I Fp H1 n1 (UM U0 c0 base m used s.c) (cy s.F s.h))(he:exec P x.ci.op ts1 H1 n1 K):
  rn P N I0 Fp0 H0 n0 U0 h0 c0 base m FL tab T used u js s ts1 H1 x K:=by
 obtain⟨N1,I,Fp,ng1,r1,g1⟩:=hrel;have hget:∀id,(bm base s.F x.fl s.h).get id=(cy s.F s.h).get id:=kA fun id b hb=>let⟨⟨k,h3,h4⟩,_⟩:=hm.fk id b hb;⟨k,hu k h3,h4⟩
 obtain⟨cl,k1,k2,r,h',c',k3,k4,y,ts',H',n',τ,k5, -, -, -,N2,ng2,k6⟩:=ku (r1.ext (fun _=>rfl) hget) (hm.lt hU) ⟨(hJ.grow ng1 g1).1,(hJ.grow ng1 g1).2.mono (fun _ _ _ h=>h) fun id hid=>⟨hget id,hid⟩⟩ (hm.fresh hU h1 h2) he;obtain⟨e1,e2,e3⟩:=COp.wz hkd k3;subst e1;subst e2;obtain⟨I2,Fp2,r2,g2⟩:=k6 x.ci.d;have ng:=ng1.trans g1 ng2 fun id h=>.inl h
 rw[qx hm.c2 (Nat.le_refl _)]at r2 g2 ng;refine⟨cl,k1,k2,{s with ts:=cO x.ci.d r s.ts},by simp only[az,hw,hkd,k3],Nat.le_refl _,fun hc=>by rw[uH hc]at hkd;simp at hkd,y,ts',H',n',τ,k5,?_⟩;simp only[lO,jo,hkd];exact hm.quiet h1 (jM hx) ⟨N2,I2,Fp2,ng,r2.ext (fun _=>rfl) fun id=>(hget id).symm,g1.trans (g2.ext (fun id=>(hget id).symm) (fun id=>(hget id).symm) (fun id=>by rw[eK,dL]) fun id=>by rw[eK,dL])⟩ (RJ.add hx hkd hw k3 (RJ.av (zy _) (by simp) hm.rj))
theorem aBi(hU:∀id,U0 id→id<c0)(hJ:Tie P N I0 Fp0 H0 n0 U0 h0)(hm:MR N I0 Fp0 H0 n0 U0 h0 c0 base m tab T used u js s ts H n)(h1:x.k<m)(h2:x.k∉used)(hxt:x∈tab)(hw:bH s.ts x.ci.g=some true)(hkd:x.ci.op.kind= .new)(hrel:∃N' I Fp,NG N N' (aV I0 Fp0 H0) U0 (UM U0 c0 base m used s.c)∧R none N' I Fp ts1 H1 n1 s.ts (cy s.F s.h) (UM U0 c0 base m used s.c)∧Grow I0 Fp0 H0 n0 U0 h0 I Fp H1 n1 (UM U0 c0 base m used s.c) (cy s.F s.h))(he:exec P x.ci.op ts1 H1 n1 K):
  rn P N I0 Fp0 H0 n0 U0 h0 c0 base m FL tab T used u js s ts1 H1 x K:=by
 obtain⟨N1,I,Fp,ng1,r1,g1⟩:=hrel;have hfr:=hm.fresh hU h1 h2;obtain⟨cl,k1,k2,r,h',c',k3,k4,y,ts',H',n',τ,k5, -, -, -,N2,ng2,k6⟩:=ku r1 (hm.lt hU) (hJ.grow ng1 g1) hfr he;obtain⟨I2,Fp2,r2,g2⟩:=k6 x.ci.d;cases hop:x.ci.op with
 |nw z=>
  rw[hop]at k3;simp only[COp.ev]at k3;split at k3
  ·rename_i b v hz;cases k3;have ng:=ng1.trans g1 ng2 fun id h=>.inl h
   rw[qx hm.c2 (Nat.le_refl _)]at r2 g2 ng;let s1:DS:={s with ts:=cO x.ci.d (.v (.one v)) s.ts,F:=(base+x.k,b)::s.F};have hp:Plus x.ci.d (.v (.one v)) (some (base+x.k,b)) s s1:=⟨fun t=>bP t,rfl,rfl,fun id=>dg⟩;have hst:az cl base FL x s=some s1:=by unfold az;rw[hw];simp only[hkd];rw[hop];simp only[hz];rfl
   refine⟨cl,k1,k2,s1,hst,Nat.le_refl _,fun hc=>by rw[hop]at hc;simp[COp.fH]at hc,y,ts',H',n',τ,k5,?_⟩;simp only[lO,jo,hkd];refine⟨hm.c1,hm.c2,⟨N2,I2,Fp2,ng,r2,g1.trans g2⟩,fun id b' hb=>?_,fun k h=>?_,RJ.av hp (fun k b' e=>by simp only[Option.some.injEq,Prod.mk.injEq]at e;exact e.1.symm) hm.rj,fun k h=>?_,hm.ptD hxt rfl⟩
   ·have hb:bQ ((base+x.k,b)::s.F) id=some b':=hb;rw[dg]at hb;split at hb
    ·rename_i e;refine⟨⟨x.k,by simp,e.symm⟩,?_⟩;show s.h.get id=none;cases hg:s.h.get id with
     |none=>rfl
     |some b2=>
      exfalso;have:∃b3,(cy s.F s.h).get id=some b3:=by
       rw[dN];split
       ·exact⟨_,rfl⟩
       ·exact⟨_,hg⟩
      obtain⟨b3,h3⟩:=this;have:=r1.hb id b3 h3;rw[←e]at this;exact hfr this
    ·obtain⟨⟨k,h3,h4⟩,h5⟩:=hm.fk id b' hb;exact⟨⟨k,by simp[h3],h4⟩,h5⟩
   ·rcases List.mem_cons.1 h with rfl|h
    ·exact h1
    ·exact hm.us k h
   ·rcases List.mem_cons.1 h with rfl|h
    ·show s.h.get (base+x.k)=none;cases hg:s.h.get (base+x.k)with
     |none=>rfl
     |some b2=>
      exfalso;have:∃b3,(cy s.F s.h).get (base+x.k)=some b3:=by
       rw[dN];split
       ·exact⟨_,rfl⟩
       ·exact⟨_,hg⟩
      obtain⟨b3,h3⟩:=this;exact hfr (r1.hb _ b3 h3)
    ·exact hm.un k h
  ·simp at k3
 |mop f=>rw[hop]at hkd;cases f<;>simp[COp.kind]at hkd
 |_=>rw[hop]at hkd;simp only[COp.kind]at hkd;first| (simp at hkd;done)| (rename_i f;cases hf:f.y7<;>rw[hf]at hkd<;>simp at hkd)
end
end Go.Cq.D
namespace Go.Cq.D
open Go.RowKit
section
variable{P:Prg}{N:Bool→Nat→Prop}{I0:Nm}{Fp0:Loc→Nat→Prop}{H0:DH}{n0:Nat}{h0:Heap}{U0:Nat→Prop}{c0 base m:Nat}{FL:List Nat}{tab:List RI}{T:List Nat}
variable{used u js:List Nat}{s:DS}{ts ts1:DTs}{H H1:DH}{n n1:Nat}{x:RI}{K:DT→DTs→DH→Nat→List Nat→Prop}
theorem x5{F:List (Nat×Blk)}(hF:∀id,bQ F id=none){h:Heap}:∀fl:List Nat,bm base F fl h=h:=by
 intro fl;induction fl with
 |nil=>rfl
 |cons k l ih=>simp only[bm,hF,ih]
theorem RJ.eff{I:Nm}{Fp:Loc→Nat→Prop}{U:Nat→Prop}{_cts:Ts}{hx h':Heap}(r1:R none N I Fp ts1 H1 n1 s.ts hx U)(hget:∀id,hx.get id=(cy s.F s.h).get id)(hfk:∀id b,bQ s.F id=some b→s.h.get id=none){τ:List Nat}(f1:∀g db id b s,aG H1 g=some db→I g=some (id,b,s)→g∉τ→h'.get id=hx.get id)(f2:∀b id,N b id→h'.get id=hx.get id){F':List (Nat×Blk)}{hc:Heap}{y:RI}(hG:∀id b,(bm base s.F y.fl s.h).get id=some b→h'.get id=hx.get id→hx.get id=some b→(bm base F' y.fl hc).get id=some b){c':Nat}{d:Option Nat}{r:CVal}(ha1:kW d (bB y.ci)=true)(ha2:kZ d y.ci.d=true)(hsafe:aAb ts1 H1 τ y=true)(hld:(pc y.ci.op).isSome=true)(hre:jb iF base s y=true):jb iF base ⟨cO d r s.ts,hc,F',c'⟩ y=true:=by
 have hag:cD (bB y.ci) s.ts (cO d r s.ts):=fun t ht=>by rw[bP,if_neg (gO ha1 ht)]
 have hlk:∀t,y.ci.d=some t→look (cO d r s.ts) t=look s.ts t:=fun t ht=>by rw[bP,if_neg (kh ha2 · ht)]
 unfold jb at hre ⊢;rw[e8 (ts:=s.ts) fun t b e=>hag t (iR e)];cases hw:bH s.ts y.ci.g with
 |none=>rw[hw]at hre;simp at hre
 |some b=>
  cases b with
  |false=>rfl
  |true=>
   rw[hw]at hre;simp only at hre ⊢;cases hop:y.ci.op with
   |fl f=>
    obtain⟨q,hq⟩:=Option.isSome_iff_exists.1 hld;rw[hop]at hre hq;rw[COp.ft (ts:=s.ts) fun t ht=>hag t (eo (by rw[hop];exact ht))];simp only[COp.ev]at hre ⊢;cases hev:f.ev (bm base s.F y.fl s.h) s.ts with
    |none=>rw[hev]at hre;simp at hre
    |some v=>
     have hev2:f.ev (bm base F' y.fl hc) s.ts=some v:=by
      refine aE0 hq (fun id hid b hb=>?_) hev;have hb2:hx.get id=some b:=by
       rw[hget,dN];rcases pI hb with⟨h1, -⟩|h1
       ·rw[h1]
       ·cases hl:bQ s.F id with
        |none=>exact h1
        |some b2=>rw[hfk id b2 hl]at h1;simp at h1
      have:h'.get id=hx.get id:=by
       unfold aAb at hsafe;split at hsafe
       ·rename_i hwd;rw[fI r1 hwd]at hw;simp at hw
       ·rw[hop,hq]at hsafe;simp only at hsafe;split at hsafe
        ·rename_i g i k h1;simp only[Bool.and_eq_true]at hsafe;obtain⟨w,e1,e2⟩:=bg r1 h1;obtain⟨p,⟨id0,b0,s0,e3,e4⟩,rfl⟩:=e2 hsafe.1;obtain⟨db,hdb⟩:=Option.isSome_iff_exists.1 hsafe.1;rw[e1]at hid;simp only at hid;subst e4;simp only at hid;subst hid;exact f1 g db _ b0 s0 hdb e3 (gz hsafe.2)
        ·rename_i g lo len h1;simp only[Bool.and_eq_true]at hsafe;obtain⟨w,e1,e2⟩:=bg r1 h1;obtain⟨hs1,hs2⟩:=hsafe;split at hs1
         ·rename_i sz es ov hdb;obtain⟨-,e3⟩:=e2 _ _ _ hdb;rw[e1]at hid;split at e3
          ·rename_i id0 b0 s0 hI;subst e3;simp only at hid;subst hid;exact f1 g _ _ b0 s0 hdb hI (gz hs2)
          ·obtain⟨z,rfl⟩:=e3;exact hid.elim
         ·simp at hs1
        ·rename_i b0 sz es i k h1;obtain⟨w,e1,id0,base0,cf,e2, -, -,rfl⟩:=bg r1 h1;rw[e1]at hid;simp only at hid;subst hid;exact f2 b0 _ e2
        ·rename_i b0 sz es h1;obtain⟨w,e1,e2⟩:=bg r1 h1;rw[e1]at hid;cases e2 with
         |nil=>exact hid.elim
         |sl hN _ _=>simp only at hid;subst hid;exact f2 b0 _ hN
        ·simp at hsafe
      exact hG id b hb this hb2
     rw[hev]at hre;rw[hev2];simp only at hre ⊢;cases hd:y.ci.d with
     |none=>rfl
     |some t=>rw[hd]at hre;simp only at hre ⊢;rw[hlk t hd];exact hre
   |_=>rw[hop]at hld;simp[pc]at hld
theorem aBj(hU:∀id,U0 id→id<c0)(hJ:Tie P N I0 Fp0 H0 n0 U0 h0)(hm:MR N I0 Fp0 H0 n0 U0 h0 c0 base m tab T used u js s ts H n)(h1:x.k<m)(h2:x.k∉used)(hxt:x∈tab)(hw:bH s.ts x.ci.g=some true)(hkd:x.ci.op.kind= .eff)(hu:∀k,k∈u→k∈x.fl)(hfl:∀k,k∈FL→Nat.testBit x.anc k=true∨k∉used∧k≠x.k∧k<m)(hrel:∃N' I Fp,NG N N' (aV I0 Fp0 H0) U0 (UM U0 c0 base m used s.c)∧R none N' I Fp ts1 H1 n1 s.ts (cy s.F s.h) (UM U0 c0 base m used s.c)∧Grow I0 Fp0 H0 n0 U0 h0 I Fp H1 n1 (UM U0 c0 base m used s.c) (cy s.F s.h))(he:exec P x.ci.op ts1 H1 n1 K):
  rn P N I0 Fp0 H0 n0 U0 h0 c0 base m FL tab T used u js s ts1 H1 x K:=by
 obtain⟨N1,I,Fp,ng1,r1,g1⟩:=hrel;have hget:∀id,(bm base s.F x.fl s.h).get id=(cy s.F s.h).get id:=kA fun id b hb=>let⟨⟨k,h3,h4⟩,_⟩:=hm.fk id b hb;⟨k,hu k h3,h4⟩
 have r1':=r1.ext (fun _=>rfl) hget;obtain⟨cl,k1,k2,r,h',c',k3,k4,y,ts',H',n',τ,k5,f1,f2, -,N2,ng2,k6⟩:=ku r1' (hm.lt hU) ⟨(hJ.grow ng1 g1).1,(hJ.grow ng1 g1).2.mono (fun _ _ _ h=>h) fun id hid=>⟨hget id,hid⟩⟩ (hm.fresh hU h1 h2) he;obtain⟨I2,Fp2,r2,g2⟩:=k6 x.ci.d;have ng:=ng1.trans g1 ng2 fun id h=>.inl h
 rw[qx hm.c2 k4.1]at r2 g2 ng;have hF':∀id,bQ (eF base x.fl s.F) id=none:=fun id=>by
  rw[gv];split
  ·rfl
  ·rename_i hn;cases hl:bQ s.F id with
   |none=>rfl
   |some b=>obtain⟨⟨k,h3,h4⟩, -⟩:=hm.fk id b hl;exact absurd ⟨k,hu k h3,h4.symm⟩ hn
 have hfall:∀id,(cy (eF base x.fl s.F) h').get id=h'.get id:=fun id=>by rw[dN,hF']
 have hst:az cl base FL x s=some ⟨cO x.ci.d r s.ts,h',eF base x.fl s.F,c'⟩:=by
  simp only[az,hw,hkd,k3];rw[if_pos];rw[List.all_eq_true];intro k hk;rcases hfl k hk with h3| ⟨h3,h4,h5⟩
  ·simp[h3]
  ·have:h'.get (base+k)=none:=by
    cases hg:h'.get (base+k)with
    |none=>rfl
    |some b=>
     exfalso;have:=r2.hb _ b hg;have c1:=hm.c1;have c2:=hm.c2;have c3:=k4.1;rcases this with h| ⟨-,h⟩| ⟨k',h,e⟩| ⟨h, -⟩
     ·have:=hU _ h;omega
     ·omega
     ·have:k'=k:=by omega
      subst this;rcases List.mem_cons.1 h with h|h
      ·exact h4 h
      ·exact h3 h
     ·omega
   simp[this]
 refine⟨cl,k1,k2,_,hst,k4.1,k4.2,y,ts',H',n',τ,k5,?_⟩;have hu0:(u.all fun k=>x.fl.any (Nat.beq k))=true:=List.all_eq_true.2 fun k hk=>List.any_eq_true.2 ⟨k,hu k hk,Nat.beq_refl k⟩
 simp only[lO,jo,hkd,hu0,cond_true];refine⟨hm.c1,Nat.le_trans hm.c2 k4.1,⟨N2,I2,Fp2,ng,r2.ext (fun _=>rfl) hfall,g1.trans (g2.ext (fun id=>(hget id).symm) hfall (fun id=>by rw[eK,dL]) fun id=>dL _ _ id)⟩,fun id b hb=>?_,fun k h=>?_,fun j hj=>?_,fun k h=>by simp at h,hm.ptD hxt rfl⟩
 ·have hb:bQ (eF base x.fl s.F) id=some b:=hb;rw[hF']at hb;simp at hb
 ·rcases List.mem_cons.1 h with rfl|h
  ·exact h1
  ·exact hm.us k h
 ·simp only[zi,jt,List.mem_filter]at hj;obtain⟨⟨j1,j2⟩,j3⟩:=hj;obtain⟨z,z1,z2,z3⟩:=hm.rj j j1;rw[z1]at j2 j3;simp only[Bool.and_eq_true]at j2 j3;exact⟨z,z1,RJ.eff (_cts:=s.ts) r1' hget (fun id b hb=>(hm.fk id b hb).2) f1 f2 (fun id b _ e1 e2=>by rw[x5 hF',e1,e2]) j2.1.1 j2.1.2 j3 z3 z2,z3⟩
theorem ya{base:Nat}:∀{F:List (Nat×Blk)},eF base [] F=F:=by
 intro F;induction F with
 |nil=>rfl
 |cons p l ih=>simp only[eF,List.any_nil,cond_false,ih]
theorem zn(hU:∀id,U0 id→id<c0)(hJ:Tie P N I0 Fp0 H0 n0 U0 h0)(hm:MR N I0 Fp0 H0 n0 U0 h0 c0 base m tab T used u js s ts H n)(h1:x.k<m)(h2:x.k∉used)(hw:bH s.ts x.ci.g=some true){a t:Nat}{z:Opd}(hop:x.ci.op= .store a (.t t) z)(ht:t∈T)(hx0:x.fl=[])(hd:x.ci.d=none)(hu:(u.all fun k=>x.fl.any (Nat.beq k))=false)(hfl:∀k,k∈FL→Nat.testBit x.anc k=true∨k∈u∨k∉used∧k≠x.k∧k<m)(hrel:∃N' I Fp,NG N N' (aV I0 Fp0 H0) U0 (UM U0 c0 base m used s.c)∧R none N' I Fp ts1 H1 n1 s.ts (cy s.F s.h) (UM U0 c0 base m used s.c)∧Grow I0 Fp0 H0 n0 U0 h0 I Fp H1 n1 (UM U0 c0 base m used s.c) (cy s.F s.h))(he:exec P x.ci.op ts1 H1 n1 K):
  rn P N I0 Fp0 H0 n0 U0 h0 c0 base m FL tab T used u js s ts1 H1 x K:=by
 obtain⟨N1,I,Fp,ng1,r1,g1⟩:=hrel;have hkd:x.ci.op.kind= .eff:=by rw[hop];rfl
 obtain⟨cl,k1,k2,r,h',c',k3,k4,y,ts',H',n',τ,k5,f1,f2, -,N2,ng2,k6⟩:=ku r1 (hm.lt hU) (hJ.grow ng1 g1) (hm.fresh hU h1 h2) he;obtain⟨I2,Fp2,r2,g2⟩:=k6 x.ci.d;have ng:=ng1.trans g1 ng2 fun id h=>.inl h
 rw[qx hm.c2 k4.1]at r2 g2 ng;have k3':=k3;rw[hop]at k3';simp only[COp.ev,j6]at k3';split at k3'
 ·rename_i hh hst;simp only[Option.some.injEq,Prod.mk.injEq]at k3';obtain⟨rfl,rfl,rfl⟩:=k3';split at hst
  ·rename_i id off v q1 q2;have hid:id<base:=(hm.pt t ht).2 id off (by
    simp only[ev1]at q1;split at q1
    ·rename_i w hw;simp only[Option.some.injEq]at q1;subst q1;simp only[evO]at hw;split at hw
     ·rename_i v hv;simp only[Option.some.injEq]at hw;subst hw;exact hv
     ·simp at hw
    ·simp at q1)
   have hF:∀b,bQ s.F id≠some b:=fun b hb=>by obtain⟨⟨k, -,e⟩, -⟩:=hm.fk id b hb;omega
   have hF0:bQ s.F id=none:=by
    cases e:bQ s.F id with
    |none=>rfl
    |some b=>exact absurd e (hF b)
   split at hst
   ·rename_i b hb;rw[dN,hF0]at hb;simp only at hb;split at hst
    ·rename_i hcond;simp only[Option.some.injEq]at hst;have hst2:az cl base FL x s=some ⟨s.ts,s.h.set id (some (b.put off v.cells)),s.F,s.c⟩:=by
      simp only[az,hw,hkd,hx0,bm,hd,cO,ya];rw[hop];simp only[COp.ev,j6,q1,q2,hb];rw[if_pos hcond];simp only;rw[if_pos];rw[List.all_eq_true];intro k hk;have hne:base+k≠id:=by omega
      rcases hfl k hk with h3|h3| ⟨h3,h4,h5⟩
      ·simp[h3]
      ·rw[Heap.aQ,if_neg hne,hm.un k h3];simp
      ·have:s.h.get (base+k)=none:=by
        cases hg:s.h.get (base+k)with
        |none=>rfl
        |some b2=>
         exfalso;have:∃b3,(cy s.F s.h).get (base+k)=some b3:=by
          rw[dN];split
          ·exact⟨_,rfl⟩
          ·exact⟨_,hg⟩
         obtain⟨b3,h6⟩:=this;exact hm.fresh hU h5 h3 (r1.hb _ b3 h6)
       rw[Heap.aQ,if_neg hne,this];simp
     have hget:∀id2,(cy s.F (s.h.set id (some (b.put off v.cells)))).get id2=hh.get id2:=fun id2=>by
      rw[←hst,dN,Heap.aQ,Heap.aQ,dN];by_cases e:id2=id
      ·subst e;simp[hF0]
      ·simp[e]
     have hgm:∀id2,(cy s.F (s.h.set id (some (b.put off v.cells)))).getM id2=hh.getM id2:=fun id2=>by rw[←hst,dL,Heap.il,Heap.il,dL]
     refine⟨cl,k1,k2,_,hst2,Nat.le_refl _,fun hc=>by rw[hop]at hc;simp[COp.fH]at hc,y,ts',H',n',τ,k5,?_⟩;simp only[lO,jo,hkd,hu,cond_false];rw[hd]at r2 ⊢;refine⟨hm.c1,hm.c2,⟨N2,I2,Fp2,ng,r2.ext (fun _=>rfl) hget,g1.trans (g2.ext (fun _=>rfl) hget (fun _=>rfl) hgm)⟩,fun id2 b2 hb2=>⟨(hm.fk id2 b2 hb2).1,?_⟩,fun k h=>?_,fun j hj=>?_,fun k h=>?_,hm.pt⟩
     ·show(s.h.set id _).get id2=none;rw[Heap.aQ,if_neg fun e=>hF b2 (by rw[←e];exact hb2)];exact(hm.fk id2 b2 hb2).2
     ·rcases List.mem_cons.1 h with rfl|h
      ·exact h1
      ·exact hm.us k h
     ·simp only[zi,jt,List.mem_filter]at hj;obtain⟨⟨j1,j2⟩,j3⟩:=hj;obtain⟨w,z1,z2,z3⟩:=hm.rj j j1;rw[z1]at j2 j3;simp only[Bool.and_eq_true]at j2 j3;refine⟨w,z1,?_,z3⟩;have:=RJ.eff (_cts:=s.ts) (r:=.gone) (d:=x.ci.d) (c':=s.c) (hc:=s.h.set id (some (b.put off v.cells))) (F':=s.F) r1 (fun _=>rfl) (fun id b hb=>(hm.fk id b hb).2) f1 f2 (fun id2 b2 e0 e1 e2=>?_) j2.1.1 j2.1.2 j3 z3 z2
      ·rw[hd]at this;exact this
      ·rw[mX]at e0 ⊢;rw[e2,←hget,dN]at e1;split at e0
       ·rename_i hk;rw[if_pos hk];split at e0
        ·exact e0
        ·rename_i hb3;rw[hb3]at e1;exact e1
       ·rename_i hk;rw[if_neg hk];split at e1
        ·rename_i b3 hb3;rw[(hm.fk id2 b3 hb3).2]at e0;simp at e0
        ·exact e1
     ·show(s.h.set id _).get (base+k)=none;rw[Heap.aQ,if_neg (by omega)];exact hm.un k h
    ·simp at hst
   ·simp at hst
  ·simp at hst
 ·simp at k3'
end
end Go.Cq.D
namespace Go.Cq.D
open Go.RowKit
section
variable{P:Prg}{N:Bool→Nat→Prop}{I0:Nm}{Fp0:Loc→Nat→Prop}{H0:DH}{n0:Nat}{h0:Heap}{U0:Nat→Prop}{c0 base m:Nat}{FL:List Nat}{tab:List RI}{T:List Nat}
theorem RJ.all{s:DS}{js:List Nat}(hj:∀j,j∈js→RJ base tab s j)(cl:cN):∀{rs:List Nat},sI js rs=true→iP cl base tab s rs=true:=by
 intro rs;induction rs with
 |nil=>intro _;rfl
 |cons j l ih=>intro h;simp only[sI,List.all_cons,Bool.and_eq_true]at h;obtain⟨y,h1,h2,h3⟩:=hj j (any_beq h.1);simp only[iP,h1,Bool.and_eq_true];refine⟨?_,ih h.2⟩;unfold jb at h2 ⊢;rw[COp.ko (rz h3) cl iF];exact h2
theorem uX{cl cl':cN}{x:RI}{s:DS}(hcl:∀f a h2,cl' f a h2 s.c=cl f a h2 s.c):az cl' base FL x s=az cl base FL x s:=by simp only[az,COp.aAi (cl:=cl) (cl':=cl') hcl]
theorem aCc{cl cl':cN}{x:RI}{s:DS}(hcl:∀f a h2,cl' f a h2 s.c=cl f a h2 s.c):jb cl' base s x=jb cl base s x:=by simp only[jb,COp.aAi (cl:=cl) (cl':=cl') hcl]
theorem aAN{cl cl':cN}{s:DS}(hcl:∀f a h2,cl' f a h2 s.c=cl f a h2 s.c):∀l:List Nat,iP cl' base tab s l=iP cl base tab s l:=by
 intro l;induction l with
 |nil=>rfl
 |cons j l ih=>simp only[iP,aCc (cl:=cl) (cl':=cl') hcl,ih]
theorem aA9{cl:cN}(hcl:gW P cl){x:RI}{s s1:DS}(h:az cl base FL x s=some s1):s.c≤s1.c:=by
 unfold az at h;split at h
 ·cases h;exact Nat.le_refl _
 ·split at h
  ·split at h
   ·split at h
    ·cases h;exact Nat.le_refl _
    ·simp at h
   ·simp at h
  ·split at h
   ·rename_i he;split at h
    ·cases h;exact COp.aDE hcl he
    ·simp at h
   ·simp at h
  ·split at h
   ·cases h;exact Nat.le_refl _
   ·simp at h
 ·simp at h
theorem aA5{cl cl':cN}(hok:gW P cl):∀{l:List RI}{s s':DS},(∀f a h2 c2,s.c≤c2→cl' f a h2 c2=cl f a h2 c2)→bT cl base FL tab l s=some s'→bT cl' base FL tab l s=some s':=by
 intro l;induction l with
 |nil=>intro s s' _ h;exact h
 |cons x l ih=>
  intro s s' hcl h;simp only[bT]at h ⊢;rw[uX (cl:=cl) (cl':=cl') fun f a h2=>hcl f a h2 _ (Nat.le_refl _)];split at h
  ·rename_i s1 h1;have hle:=aA9 hok h1;rw[aAN (cl:=cl) (cl':=cl') fun f a h2=>hcl f a h2 _ hle];split at h
   ·rename_i h2;rw[if_pos h2];exact ih (fun f a h2 c2 hc=>hcl f a h2 c2 (Nat.le_trans hle hc)) h
   ·simp at h
  ·simp at h
theorem u9(hU:∀id,U0 id→id<c0)(hJ:Tie P N I0 Fp0 H0 n0 U0 h0)(hkeys:ig tab=true):∀{l:List RI}{used u js:List Nat}{s:DS}{ts:DTs}{H:DH}{n:Nat}{Q:DTs→DH→Nat→Prop},(∀x,x∈l→x∈tab)→MR N I0 Fp0 H0 n0 U0 h0 c0 base m tab T used u js s ts H n→nv P m FL tab T l used u js ts H n Q→
  ∃cl,gW P cl∧∃s',bT cl base FL tab l s=some s'∧∃ts' H' n',Q ts' H' n'∧∃used' u' js',(∀k,k∈u'→k∈u∨∃x,x∈l∧x.k=k∧x.ci.op.kind= .new)∧(∀k,k∈used'→k∈used∨∃x,x∈l∧x.k=k)∧MR N I0 Fp0 H0 n0 U0 h0 c0 base m tab T used' u' js' s' ts' H' n':=by
 intro l;induction l with
 |nil=>intro used u js s ts H n Q _ hm hx;exact⟨iF,jc P,s,rfl,ts,H,n,hx,used,u,js,fun k h=>.inl h,fun k h=>.inl h,hm⟩
 |cons x l ih=>
  intro used u js s ts H n Q hsub hm hx;obtain⟨hpre,hx⟩:=hx;have htab:dA tab x.k=some x:=aBX hkeys (hsub x (by simp));have hsub':∀y,y∈l→y∈tab:=fun y hy=>hsub y (by simp[hy])
  unfold xE at hpre;simp only[Bool.and_eq_true]at hpre;obtain⟨⟨p1,p2⟩,p3⟩:=hpre;have hk:x.k<m:=by simpa using p1
  have hnu:x.k∉used:=gz p2;obtain⟨N1,I,Fp,ng1,r1,g1⟩:=hm.rel;have uses:∀{used':List Nat},(∀k,k∈used'→k∈x.k::used∨∃y,y∈l∧y.k=k)→∀k,k∈used'→k∈used∨∃y,y∈x::l∧y.k=k:=fun h k hk=>by
   rcases h k hk with h| ⟨y,h1,h2⟩
   ·rcases List.mem_cons.1 h with rfl|h
    ·exact .inr ⟨x,by simp,rfl⟩
    ·exact .inl h
   ·exact .inr ⟨y,by simp[h1],h2⟩
  split at hx
  ·rename_i hw;obtain⟨hj,hx⟩:=hx;obtain⟨s1,h1,h2,h3⟩:=wx (FL:=FL) hm hk htab hw iF;obtain⟨cl,k1,s2,k2,ts2,H2,n2,q1,used',u',js',q2,q4,q3⟩:=ih hsub' h3.trim hx;have k3:∃ts' H' n',Q ts' H' n'∧∃used' u' js',(∀k,k∈u'→k∈u∨∃y,y∈x::l∧y.k=k∧y.ci.op.kind= .new)∧(∀k,k∈used'→k∈used∨∃y,y∈x::l∧y.k=k)∧MR N I0 Fp0 H0 n0 U0 h0 c0 base m tab T used' u' js' s2 ts' H' n':=⟨ts2,H2,n2,q1,used',u',js',fun k h=>(q2 k h).imp (fun h=>h) fun⟨y,h1,h2⟩=>⟨y,by simp[h1],h2⟩,fun k h=>uses q4 k h,q3⟩;obtain⟨s1',h1', -,h3'⟩:=wx (FL:=FL) hm hk htab hw cl;have:s1'=s1:=by simp only[az,fI r1 hw,Option.some.injEq]at h1 h1';rw[←h1,←h1']
   subst this;refine⟨cl,k1,s2,?_,k3⟩;simp only[bT,h1'];rw[if_pos (RJ.all h3.rj cl hj)];exact k2
  ·rename_i hw;obtain⟨I1,Fp1,r2,g2⟩:=r1.dU (cT ts x.ci.op.reads++d9 ts x.ci.op) r1;generalize dU (cT ts x.ci.op.reads++d9 ts x.ci.op) ts H n=p at hx r2 g2;obtain⟨ts1,H1,n1⟩:=p;simp only at hx r2 g2;have hwc:=fI r1 hw;have hrun:rn P N I0 Fp0 H0 n0 U0 h0 c0 base m FL tab T used u js s ts1 H1 x fun r ts' H' n' τ=>sI (jo tab x ts1 H1 τ js) x.rs=true∧nv P m FL tab T l (x.k::used) (lO x u) (qa l (jo tab x ts1 H1 τ js)) (i9 x.ci.d r ts') H' n' Q:=by
    cases hkd:x.ci.op.kind with
    |pure=>exact run_pure hU hJ hm hk hnu (jM htab) hwc hkd ⟨N1,I1,Fp1,ng1,r2,g1.trans g2⟩ hx
    |new=>exact aBi hU hJ hm hk hnu (jM htab) hwc hkd ⟨N1,I1,Fp1,ng1,r2,g1.trans g2⟩ hx
    |rd=>rw[hkd]at p3;exact aDh hU hJ hm hk hnu htab hwc hkd (fun k h=>any_beq (List.all_eq_true.1 p3 k h)) ⟨N1,I1,Fp1,ng1,r2,g1.trans g2⟩ hx
    |eff=>
     rw[hkd]at p3;simp only at p3;cases hua:(u.all fun k=>x.fl.any (Nat.beq k))with
     |true=>
      rw[hua,cond_true]at p3;refine aBj hU hJ hm hk hnu (jM htab) hwc hkd (fun k h=>any_beq (List.all_eq_true.1 hua k h)) (fun k h=>?_) ⟨N1,I1,Fp1,ng1,r2,g1.trans g2⟩ hx;have:=List.all_eq_true.1 p3 k h;simp only[Bool.or_eq_true,Bool.and_eq_true]at this;rcases this with h1| ⟨⟨h1,h2⟩,h3⟩
      ·exact .inl h1
      ·refine .inr ⟨gz h1,fun e=>?_,by simpa using h3⟩;subst e;rw[Nat.beq_refl]at h2;simp at h2
     |false=>
      rw[hua,cond_false,Bool.and_eq_true]at p3;obtain⟨q1,q2⟩:=p3;unfold zY at q1;split at q1
      ·rename_i a t z hop;simp only[Bool.and_eq_true]at q1;refine zn hU hJ hm hk hnu hwc hop (any_beq q1.1.1) (List.isEmpty_iff.1 q1.1.2) (by simpa using q1.2) hua (fun k h=>?_) ⟨N1,I1,Fp1,ng1,r2,g1.trans g2⟩ hx;have:=List.all_eq_true.1 q2 k h;simp only[Bool.or_eq_true,Bool.and_eq_true]at this;rcases this with(h1|h1)| ⟨⟨h1,h2⟩,h3⟩
       ·exact .inl h1
       ·exact .inr (.inl (any_beq h1))
       ·refine .inr (.inr ⟨gz h1,fun e=>?_,by simpa using h3⟩);subst e;rw[Nat.beq_refl]at h2;simp at h2
      ·simp at q1
   obtain⟨cl1,k1,k2,s1,k3,k4,k5,r,ts',H',n',τ,⟨k6,k7⟩,k8⟩:=hrun;obtain⟨cl2,j1,s2,j2,ts2,H2,n2,q1,used',u',js',q2,q4,q3⟩:=ih hsub' k8.trim k7;have j3:∃ts' H' n',Q ts' H' n'∧∃used' u' js',(∀k,k∈u'→k∈u∨∃y,y∈x::l∧y.k=k∧y.ci.op.kind= .new)∧(∀k,k∈used'→k∈used∨∃y,y∈x::l∧y.k=k)∧MR N I0 Fp0 H0 n0 U0 h0 c0 base m tab T used' u' js' s2 ts' H' n':=by
    refine⟨ts2,H2,n2,q1,used',u',js',fun k h=>?_,fun k h=>uses q4 k h,q3⟩;rcases q2 k h with h| ⟨y,h1,h2⟩
    ·unfold lO at h;split at h
     ·rename_i hk;rcases List.mem_cons.1 h with rfl|h
      ·exact .inr ⟨x,by simp,rfl,hk⟩
      ·exact .inl h
     ·cases hua:(u.all fun k=>x.fl.any (Nat.beq k))with
      |true=>rw[hua]at h;simp at h
      |false=>rw[hua]at h;exact .inl h
     ·exact .inl h
    ·exact .inr ⟨y,by simp[h1],h2⟩
   cases hc:x.ci.op.fH with
   |false=>
    refine⟨cl2,j1,s2,?_,j3⟩;have:az cl2 base FL x s=some s1:=by rw[←k3];simp only[az,COp.ko hc cl2 cl1]
    simp only[bT,this];rw[if_pos (RJ.all k8.rj cl2 k6)];exact j2
   |true=>
    have hlt:=k5 hc;refine⟨fun f a h2 c2=>if c2=s.c then cl1 f a h2 c2 else cl2 f a h2 c2,fun f a h2 c2 r h' c' he=>?_,s2,?_,j3⟩
    ·simp only at he;split at he
     ·exact k1 _ _ _ _ _ _ _ he
     ·exact j1 _ _ _ _ _ _ _ he
    ·simp only[bT];rw[uX (cl:=cl1) (by simp),k3];simp only;rw[if_pos (RJ.all k8.rj _ k6)];refine aA5 j1 (fun f a h2 c2 hc2=>?_) j2;have:c2≠s.c:=by omega
     simp[this]
  ·exact hx.elim
def aET(P:Prg)(m:Nat)(FL:List Nat)(l:List RI)(n0:Nat)(ts:DTs)(H:DH)(n:Nat)(Q:DTs→DH→Nat→Prop):Prop:=
 ∀(N:Bool→Nat→Prop)(I0:Nm)(Fp0:Loc→Nat→Prop)(H0:DH)(U0:Nat→Prop)(h0:Heap)(c0:Nat)(s:St),(∀id,U0 id→id<c0)→Tie P N I0 Fp0 H0 n0 U0 h0→Rel N I0 Fp0 H0 n0 U0 h0 c0 s ts H n→
  ∃cl,gW P cl∧∃s',bT cl s.c FL l l ⟨s.ts,s.h,[],s.c+m⟩=some s'∧∃ts' H' n',Q ts' H' n'∧Rel N I0 Fp0 H0 n0 U0 h0 c0 ⟨s'.ts,cy s'.F s'.h,s'.c⟩ ts' H' n'
theorem aDl{N:Bool→Nat→Prop}{I:Nm}{Fp:Loc→Nat→Prop}{ts:DTs}{H:DH}{n:Nat}{cts:Ts}{h:Heap}{U0:Nat→Prop}{c0 c:Nat}{l:List RI}(hc:c0≤c)(hU:∀id,U0 id→id<c0)(r:R none N I Fp ts H n cts h (fun id=>U0 id∨c0≤id∧id<c)){t:Nat}(ht:t∈tOf FL l ts H):(∀y,y∈l→y.ci.d≠some t)∧∀id off,look cts t=some (.v (.one (.ptr id off)))→id<c:=by
 have ht:t∈aDW l ts H:=by
  unfold tOf at ht;split at ht
  ·simp at ht
  ·exact ht
 simp only[aDW,List.mem_filter,Bool.and_eq_true,List.all_eq_true]at ht;obtain⟨-,h1,h2⟩:=ht;refine⟨fun y hy e=>?_,fun id off hl=>?_⟩
 ·have:=h2 y hy;rw[e]at this;simp[kZ]at this
 ·split at h1
  ·rename_i g i k hk;have e1:cC ts (.t t)=some (.ptr g i k):=by simp only[cC,evD,hk];rfl
   obtain⟨w,e2,e3⟩:=bg r e1;obtain⟨p,⟨id0,b0,s0,e4,e5⟩,rfl⟩:=e3 h1;subst e5;have e6:ev1 cts (.t t)=some (.ptr id off):=by simp[ev1,evO,hl]
   rw[e6]at e2;simp only[Option.some.injEq,CV.ptr.injEq]at e2;obtain⟨db,hdb⟩:=Option.isSome_iff_exists.1 h1;obtain⟨rfl, -⟩:=e2;obtain⟨b,hb⟩:∃b,h.get id=some b:=by
    have:=r.bsh g db hdb;cases db with
    |box cs=>obtain⟨i2,b2,q1,q2, -⟩:=this;rw[e4]at q1;simp only[Option.some.injEq,Prod.mk.injEq]at q1;exact⟨b2,by rw[q1.1];exact q2⟩
    |arr sz es ov=>
     rcases this with⟨q, -⟩| ⟨i2,base,b2,q1,q2, -⟩
     ·rw[e4]at q;simp at q
     ·rw[e4]at q1;simp only[Option.some.injEq,Prod.mk.injEq]at q1;exact⟨b2,by rw[q1.1];exact q2⟩
   rcases r.hb _ b hb with h| ⟨-,h⟩
   ·have:=hU _ h;omega
   ·exact h
  ·simp at h1
theorem aA1{l:List RI}{ts:DTs}{H:DH}{n:Nat}{Q:DTs→DH→Nat→Prop}(hx:aDL P m FL l ts H n Q):aET P m FL l n0 ts H n Q:=by
 obtain⟨hkeys,hx⟩:=hx;intro N I0 Fp0 H0 U0 h0 c0 s hU hJ hr;obtain⟨hc,N1,I,Fp,ng,r,g⟩:=hr;have e:UM U0 c0 s.c m [] (s.c+m)=fun id=>U0 id∨c0≤id∧id<s.c:=by
  funext id;refine propext ⟨fun h=>?_,fun h=>?_⟩
  ·rcases h with h|h| ⟨k,h, -⟩| ⟨h1,h2⟩
   ·exact .inl h
   ·exact .inr h
   ·simp at h
   ·omega
  ·rcases h with h|h
   ·exact .inl h
   ·exact .inr (.inl h)
 have hm:MR N I0 Fp0 H0 n0 U0 h0 c0 s.c m l (tOf FL l ts H) [] [] [] ⟨s.ts,s.h,[],s.c+m⟩ ts H n:=⟨hc,Nat.le_refl _,⟨N1,I,Fp,by rw[e];exact ng,by rw[e];exact r,by rw[e];exact g⟩,fun id b hb=>by simp[bQ]at hb,by simp,by simp,by simp,fun t ht=>aDl hc hU r ht⟩;obtain⟨cl,k1,s',k2,ts',H',n',k3,used',u',js', -, -,hm'⟩:=u9 hU hJ hkeys (fun x h=>h) hm hx;refine⟨cl,k1,s',k2,ts',H',n',k3,?_⟩;obtain⟨N',I',Fp',ng',r',g'⟩:=hm'.rel;have c2:=hm'.c2;have hmore:∀id,UM U0 c0 s.c m used' s'.c id→(U0 id∨c0≤id∧id<s'.c):=fun id h=>by
  rcases h with h| ⟨h1,h2⟩| ⟨k,h,e⟩| ⟨h1,h2⟩
  ·exact .inl h
  ·exact .inr ⟨h1,by omega⟩
  ·have:=hm'.us k h;exact .inr ⟨by omega,by omega⟩
  ·exact .inr ⟨by omega,h2⟩
 exact⟨by show c0≤s'.c;omega,N',I',Fp',ng'.more hmore,r'.more hmore,g'.nn,fun id h=>hmore id (g'.cc id h),g'.nm,fun id hid=>(g'.own id hid).imp (fun h=>h) fun h=>⟨h.1,hmore id h.2⟩,g'.hp,g'.sh,g'.mp⟩
end
end Go.Cq.D

