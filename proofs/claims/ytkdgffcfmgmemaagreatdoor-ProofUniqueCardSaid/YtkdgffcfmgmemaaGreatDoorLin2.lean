/- Regions that draw their order, walked once in the order of the text; the world passes through stages. No function of the program is named. -/
import Derived.Test.YtkdgffcfmgmemaaGreatDoorEz
import Derived.Orders
import Derived.Lib.Hide
set_option linter.unusedVariables false
set_option linter.unusedSimpArgs false
namespace Gl
open Go
def linUpon(P:Program)(K:Value→World→Prop):Result Next→Prop
 | .ok (.value u) w=>K u w
 | .ok .skip w=>K undef w
 | .ok (.enter f args) w=>Calls P f args w (fun e w'=>∃u,e= .returned u∧K u w')
 |_=>False
def lookE(a:Act):List (Nat×Value)→Nat→Value
 |[],t=>a.tmps.getD t undef
 |(d,v)::env,t=>if t=d then v else lookE a env t
def evalE(a:Act)(env:List (Nat×Value)):Operand→Value
 | .tmp t=>lookE a env t
 | .const v=>v
 | .global g=>I5 g
 | .func f=> .func (.func f) #[] #[]
def yieldE(ops:Array Oper)(a:Act)(env:List (Nat×Value))(g:Nat)(want:Bool):Bool:=
 match(ops[g]?).bind (·.dst)with
 |some t=>match lookE a env t with
  | .bool b=>b==want
  |_=>false
 |none=>false
def wantedE(ops:Array Oper)(a:Act)(env:List (Nat×Value)):Option (Nat×Bool)→Bool
 |none=>true
 |some (g,want)=>yieldE ops a env g want
def putE(d:Option Nat)(v:Value)(env:List (Nat×Value)):List (Nat×Value):=
 match d with
 |some d=>(d,v)::env
 |none=>env
def putsE:List (Nat×Value)→Act→Act
 |[],a=>a
 |(d,v)::env,a=>(putsE env a).put (some d) v
def WE(P:Program)(ops:Array Oper)(o:Oper)(a:Act)(env:List (Nat×Value))(v:Value)(R:World→Prop)(w:World):Prop:=
 ∀K:Value→World→Prop,(∀w',R w'→K v w')→if wantedE ops a env o.guard=true then linUpon P K ((execOp (evalE a env) o).run P w)else K undef w
def Lr(P:Program)(ops:Array Oper)(S:Nat→World→Prop)(Q:Act→World→Prop)(a:Act):Nat→List Oper→List Bool→List (Nat×Value)→Prop
 |k,[],_,env=>∀w,S k w→Q (putsE env a) w
 |k,o::l,true::fs,env=>∃v,(∀w,S k w→WE P ops o a env v (S (k+1)) w)∧Lr P ops S Q a (k+1) l fs (putE o.dst v env)
 |k,o::l,false::fs,env=>∃v,(∀j w,S j w→WE P ops o a env v (S j) w)∧Lr P ops S Q a k l fs (putE o.dst v env)
 |_,_::_,[],_=>False
def Qm(ops:Array Oper)(fl:List Bool)(N:Nat):Bool:=
 let b:=Region.before ops
 decide (fl.length=ops.size)&&
 (List.range ops.size).all fun j=>match ops[j]?with
   |none=>false
   |some oj=>
    (oj.after.toList.all fun e=>!Region.binds .any e||decide (e.on<j))&&
    ((List.range j).all fun i=>match ops[i]?with
      |none=>false
      |some oi=>
       (!(b.getD j 0).testBit i||oj.after.toList.any (fun e=>Region.binds .any e&&(e.on==i||(decide (i<e.on)&&(b.getD e.on 0).testBit i))))&&
       (oi.apart ops oj||(b.getD j 0).testBit i)&&
       (!(fl.getD i false&&fl.getD j false)||(b.getD j 0).testBit i))&&
    (match oj.op with| .select ..=>false|_=>true)&&
    (match oj.dst with|some d=>decide (d<N)|none=>true)
def Jm(p:Nat→Bool):Nat→List (Oper×Value)→Act→Act
 |_,[],a=>a
 |i,x::l,a=>Jm p (i+1) l (if p i then a.put x.1.dst x.2 else a)
def tv(p:Nat→Bool)(t:Nat):Nat→List (Oper×Value)→Option Value→Option Value
 |_,[],d=>d
 |i,x::l,d=>tv p t (i+1) l (if p i=true∧x.1.dst=some t then some x.2 else d)
theorem Dt(a:Act)(d:Option Tmp)(v:Value):(a.put d v).tmps.size=a.tmps.size:=by cases d<;>simp [Act.put]
theorem JE(a:Act)(d:Option Tmp)(v:Value):(a.put d v).defers=a.defers:=by cases d<;>simp [Act.put]
theorem IV(a:Act)(d:Option Tmp)(v:Value)(t:Nat)(ht:t<a.tmps.size):(a.put d v).tmps[t]?=if d=some t then some v else a.tmps[t]?:=by
 cases d with
 |none=>simp [Act.put]
 |some d=>
  simp only [Act.put,xN];by_cases e:d=t
  · subst e;simp [ht]
  · simp [e]
theorem Ib{a b:Act}(hs:a.tmps.size=b.tmps.size)(hd:a.defers=b.defers)(h:∀t,t<a.tmps.size→a.tmps[t]?=b.tmps[t]?):a=b:=by
 obtain ⟨x,d⟩:=a;obtain ⟨y,e⟩:=b;simp only at hd hs h;subst hd;congr 1;apply Array.ext hs;intro i hi hj;have:=h i hi
 simp only [tu hi,tu hj,wZ]at this;exact this
theorem Cr(p:Nat→Bool):∀(i:Nat) (l:List (Oper×Value)) (a:Act),(Jm p i l a).tmps.size=a.tmps.size
 |_,[],_=>rfl
 |i,x::l,a=>by simp only [Jm];rw [Cr p (i+1) l];split<;>simp [Dt]
theorem Eu(p:Nat→Bool):∀(i:Nat) (l:List (Oper×Value)) (a:Act),(Jm p i l a).defers=a.defers
 |_,[],_=>rfl
 |i,x::l,a=>by simp only [Jm];rw [Eu p (i+1) l];split<;>simp [JE]
theorem Dp(p:Nat→Bool)(t:Nat):∀(i:Nat) (l:List (Oper×Value)) (a:Act),t<a.tmps.size→(Jm p i l a).tmps[t]?=tv p t i l a.tmps[t]?
 |_,[],_,_=>rfl
 |i,x::l,a,ht=>by
  simp only [Jm,tv];rw [Dp p t (i+1) l _ (by split<;>simpa [Dt]using ht)];congr 1;by_cases hp:p i=true
  · simp only [hp,if_true,true_and];rw [IV _ _ _ _ ht]
  · simp [hp]
theorem Eg(p q:Nat→Bool)(t:Nat):∀(i:Nat) (l:List (Oper×Value)) (d:Option Value),(∀k x,l[k]?=some x→x.1.dst=some t→p (i+k)=q (i+k))→tv p t i l d=tv q t i l d
 |_,[],_,_=>rfl
 |i,x::l,d,h=>by
  simp only [tv];have h0:(if p i=true∧x.1.dst=some t then some x.2 else d)=(if q i=true∧x.1.dst=some t then some x.2 else d):=by
   by_cases e:x.1.dst=some t
   · have:=h 0 x rfl e;simp only [wU]at this;simp [this]
   · simp [e]
  rw [h0];exact Eg p q t (i+1) l _ fun k y hk hy=>by
   have:=h (k+1) y (by simpa using hk) hy;rwa [show i+(k+1)=i+1+k from by omega]at this
theorem Z9(p:Nat→Bool)(t:Nat):∀(i k:Nat) (l:List (Oper×Value)) (d:Option Value) (x:Oper×Value),l[k]?=some x→x.1.dst=some t→p (i+k)=true→
 (∀k' y,k<k'→l[k']?=some y→y.1.dst=some t→p (i+k')=false)→tv p t i l d=some x.2
 |i,0,z::l,d,x,hk,hx,hp,h=>by
  simp only [vv,wZ]at hk;subst hk;simp only [tv];simp only [wU]at hp;simp only [hp,hx,and_self,if_true];rw [Eg p (fun _=>false) t (i+1) l _ fun k y hk hy=>by
   have:=h (k+1) y (by omega) (by simpa using hk) hy;rwa [show i+(k+1)=i+1+k from by omega]at this]
  have:∀(i:Nat) (l:List (Oper×Value)) (d:Option Value),tv (fun _=>false) t i l d=d:=by
   intro i l;induction l generalizing i with
   |nil=>intro d;rfl
   |cons y l ih=>intro d;simp [tv,ih]
  rw [this]
 |i,k+1,z::l,d,x,hk,hx,hp,h=>by
  simp only [tv];exact Z9 p t (i+1) k l _ x (by simpa using hk) hx (by rwa [show i+1+k=i+(k+1) from by omega]) fun k' y hk' hy he=>by
   have:=h (k'+1) y (by omega) (by simpa using hy) he;rwa [show i+(k'+1)=i+1+k' from by omega]at this
 |i,k,[],d,x,hk,_,_,_=>by simp at hk
def pre(j:Nat)(l:List (Oper×Value))(a:Act):Act:=(l.take j).foldl (fun a x=>a.put x.1.dst x.2) a
theorem PR(j:Nat):∀(i:Nat) (l:List (Oper×Value)) (a:Act),Jm (fun k=>decide (k<i+j)) i l a=pre j l a:=by
 induction j with
 |zero=>
  intro i l;induction l generalizing i with
  |nil=>intro a;rfl
  |cons x l ih=>
   intro a;simp only [Jm,wU,Nat.lt_irrefl,decide_false,vH,if_false];have:∀(m i:Nat) (l:List (Oper×Value)) (a:Act),i≤m→Jm (fun k=>decide (k<i)) m l a=a:=by
    intro m i l;induction l generalizing m with
    |nil=>intro a _;rfl
    |cons y l ih=>intro a h;simp only [Jm];rw [if_neg (by simp;omega)];exact ih (m+1) a (by omega)
   rw [this (i+1) i l a (by omega)];rfl
 |succ j ih=>
  intro i l a;cases l with
  |nil=>rfl
  |cons x l=>
   simp only [Jm];rw [if_pos (by simp)];have:=ih (i+1) l (a.put x.1.dst x.2)
   rw [show i+1+j=i+(j+1) from by omega]at this;rw [this];rfl
def Eo(fs:List Bool):Nat:=(fs.filter id).length
def Kt(P:Program)(ops:Array Oper)(o:Oper)(a:Act)(v:Value)(R:World→Prop)(w:World):Prop:=
 ∀K:Value→World→Prop,(∀w',R w'→K v w')→if Region.wanted o (yielded ops a.tmps)then linUpon P K ((execOp a.eval o).run P w)else K undef w
theorem K3(a:Act):∀env,(putsE env a).tmps.size=a.tmps.size
 |[]=>rfl
 |(d,v)::env=>by simp only [putsE];rw [Dt,K3 a env]
theorem MI(a:Act):∀(env:List (Nat×Value)),(∀x∈env,x.1<a.tmps.size)→∀t,(putsE env a).tmps.getD t undef=lookE a env t
 |[],_,t=>rfl
 |(d,v)::env,h,t=>by
  simp only [putsE,lookE];have ih:=MI a env (fun x hx=>h x (ug _ hx)) t
  have hd:=h (d,v) (uz ..);rw [uM]at ih⊢;by_cases ht:t<a.tmps.size
  · rw [IV _ _ _ _ (by rw [K3];exact ht)]
    by_cases e:t=d
    · subst e;simp
    · rw [if_neg e,←ih,if_neg (fun he=>e (wN he).symm)]
  · rw [uT (by rw [Dt,K3];omega)]
    rw [uT (by rw [K3];omega)]at ih;rw [←ih,if_neg (by simp only at hd;omega)]
theorem Xg(a:Act)(env:List (Nat×Value))(h:∀x∈env,x.1<a.tmps.size):(putsE env a).eval=evalE a env:=by
 funext x;cases x with
 |tmp t=>exact MI a env h t
 |_=>rfl
theorem XI(ops:Array Oper)(o:Oper)(a:Act)(env:List (Nat×Value))(h:∀x∈env,x.1<a.tmps.size):Region.wanted o (yielded ops (putsE env a).tmps)=wantedE ops a env o.guard:=by
 unfold Region.wanted wantedE;cases hg:o.guard with
 |none=>rfl
 |some gw=>
  obtain ⟨g,want⟩:=gw;simp only [yielded,yieldE];cases ht:(ops[g]?).bind (·.dst)with
  |none=>simp
  |some t=>
   simp only [uy];rw [←MI a env h t,uM];cases hv:(putsE env a).tmps[t]?with
   |none=>simp [undef]
   |some v=>cases v<;>simp
theorem TQ{P:Program}{ops:Array Oper}{o:Oper}{a:Act}{env:List (Nat×Value)}{v:Value}{R:World→Prop}{w:World}(h:∀x∈env,x.1<a.tmps.size)(hl:WE P ops o a env v R w):Kt P ops o (putsE env a) v R w:=by
 intro K hK;have:=hl K hK
 rw [XI ops o a env h,Xg a env h];exact this
theorem Pb{P:Program}{ops:Array Oper}{S:Nat→World→Prop}{Q:Act→World→Prop}{a:Act}:∀(l:List Oper) (fs:List Bool) (k:Nat) (env:List (Nat×Value)),(∀o∈l,∀d,o.dst=some d→d<a.tmps.size)→(∀x∈env,x.1<a.tmps.size)→Lr P ops S Q a k l fs env→
 ∃x:List (Oper×Value),x.map (·.1)=l∧
  (∀j o v,x[j]?=some (o,v)→(fs.getD j false=true→∀w,S (k+Eo (fs.take j)) w→Kt P ops o (pre j x (putsE env a)) v (S (k+Eo (fs.take j)+1)) w)∧
    (fs.getD j false=false→∀i w,S i w→Kt P ops o (pre j x (putsE env a)) v (S i) w))∧
  ∀w,S (k+Eo (fs.take l.length)) w→Q (pre l.length x (putsE env a)) w
 |[],fs,k,env,_,_,h=>⟨[],rfl,fun j o v hj=>by simp at hj,by simpa [Lr,Eo,pre]using h⟩
 |o::l,true::fs,k,env,hd,he,h=>by
  obtain ⟨v,h1,h2⟩:=h;have he':∀x∈putE o.dst v env,x.1<a.tmps.size:=by
   intro x hx;unfold putE at hx;split at hx
   · rename_i d hdd
     rcases uI.1 hx with rfl|hx
     · exact hd o (uz ..) d hdd
     · exact he x hx
   · exact he x hx
  have hpe:putsE (putE o.dst v env) a=(putsE env a).put o.dst v:=by unfold putE;split<;>(rename_i hdd;rw [hdd];rfl)
  obtain ⟨x,hx,hs,hq⟩:=Pb l fs (k+1) _ (fun o' ho=>hd o' (ug _ ho)) he' h2;rw [hpe]at hs hq;refine ⟨(o,v)::x,by simp [hx],fun j o' v' hj=>?_,fun w hw=>?_⟩
  · cases j with
    |zero=>
     simp only [vv,wZ,Prod.mk.injEq]at hj;obtain ⟨rfl,rfl⟩:=hj;exact ⟨fun _ w hw=>TQ he (h1 w (by simpa [Eo]using hw)),fun h=>by simp at h⟩
    |succ j=>
     obtain ⟨g1,g2⟩:=hs j o' v' (by simpa using hj);have e:k+Eo ((true::fs).take (j+1))=k+1+Eo (fs.take j):=by simp [Eo];omega
     rw [e];exact ⟨fun h=>g1 (by simpa using h),fun h=>g2 (by simpa using h)⟩
  · have e:k+Eo ((true::fs).take (o::l).length)=k+1+Eo (fs.take l.length):=by simp [Eo];omega
    rw [e]at hw;exact hq w hw
 |o::l,false::fs,k,env,hd,he,h=>by
  obtain ⟨v,h1,h2⟩:=h;have he':∀x∈putE o.dst v env,x.1<a.tmps.size:=by
   intro x hx;unfold putE at hx;split at hx
   · rename_i d hdd
     rcases uI.1 hx with rfl|hx
     · exact hd o (uz ..) d hdd
     · exact he x hx
   · exact he x hx
  have hpe:putsE (putE o.dst v env) a=(putsE env a).put o.dst v:=by unfold putE;split<;>(rename_i hdd;rw [hdd];rfl)
  obtain ⟨x,hx,hs,hq⟩:=Pb l fs k _ (fun o' ho=>hd o' (ug _ ho)) he' h2;rw [hpe]at hs hq;refine ⟨(o,v)::x,by simp [hx],fun j o' v' hj=>?_,fun w hw=>?_⟩
  · cases j with
    |zero=>
     simp only [vv,wZ,Prod.mk.injEq]at hj;obtain ⟨rfl,rfl⟩:=hj;exact ⟨fun h=>by simp at h,fun _ i w hw=>TQ he (h1 i w hw)⟩
    |succ j=>
     obtain ⟨g1,g2⟩:=hs j o' v' (by simpa using hj);have e:k+Eo ((false::fs).take (j+1))=k+Eo (fs.take j):=by simp [Eo]
     rw [e];exact ⟨fun h=>g1 (by simpa using h),fun h=>g2 (by simpa using h)⟩
  · have e:k+Eo ((false::fs).take (o::l).length)=k+Eo (fs.take l.length):=by simp [Eo]
    rw [e]at hw;exact hq w hw
 |_::_,[],_,_,_,_,h=>(h:False).elim
theorem OX(n j:Nat)(p q:Nat→Bool)(hj:j<n)(hp:p j=false)(hq:q j=true)(h:∀i,i<n→i≠j→p i=q i):(List.range n).countP q=(List.range n).countP p+1:=by
 induction n with
 |zero=>omega
 |succ n ih=>
  rw [yU,yX,yX];by_cases e:j=n
  · subst e
    have:(List.range j).countP q=(List.range j).countP p:=List.countP_congr fun i hi=>by
     have:=vO.1 hi;rw [h i (by omega) (by omega)]
    simp [this,hp,hq]
  · have:=ih (by omega) fun i hi hn=>h i (by omega) hn
    have e2:=h n (by omega) (Ne.symm e);simp only [List.countP_singleton,e2];omega
theorem KO(n:Nat)(p q:Nat→Bool)(h:∀i,i<n→p i=q i):(List.range n).countP q=(List.range n).countP p:=
 List.countP_congr fun i hi=>by rw [h i (vO.1 hi)]
theorem Md(fs:List Bool)(n:Nat)(hn:n≤fs.length):∀j,j≤n→(List.range n).countP (fun i=>decide (i<j)&&fs.getD i false)=Eo (fs.take j)
 |0,_=>by simp [Eo]
 |j+1,hj=>by
  have ih:=Md fs n hn j (by omega);have ht:fs.take (j+1)=fs.take j++[fs[j]]:=by rw [xu (by omega)]
  have hg:fs.getD j false=fs[j]:=by simp [tF (show j<fs.length by omega)]
  rw [ht];cases hb:fs[j]with
  |true=>
   rw [OX n j (fun i=>decide (i<j)&&fs.getD i false) _ (by omega) (by simp) (by simp only [hg,hb];simp) (fun i _ hne=>by
    have:decide (i<j)=decide (i<j+1):=by apply decide_eq_decide.2;omega
    simp only [this]),ih]
   simp [Eo]
  |false=>
   rw [KO n (fun i=>decide (i<j)&&fs.getD i false) _ (fun i _=>by
    by_cases e:i=j
    · subst e;simp only [hg,hb];simp
    · have:decide (i<j)=decide (i<j+1):=by apply decide_eq_decide.2;omega
      simp only [this]),ih]
   simp [Eo]
structure IG(ops:Array Oper)(fl:List Bool)(N:Nat):Prop where
 len:fl.length=ops.size
 edge:∀j oj e,ops[j]?=some oj→e∈oj.after→Region.binds .any e=true→e.on<j
 anc:∀j oj i,ops[j]?=some oj→i<j→((Region.before ops).getD j 0).testBit i=true→∃e∈oj.after,Region.binds .any e=true∧(e.on=i∨(i<e.on∧((Region.before ops).getD e.on 0).testBit i=true))
 apart:∀i j oi oj,ops[i]?=some oi→ops[j]?=some oj→i<j→oi.apart ops oj=true∨((Region.before ops).getD j 0).testBit i=true
 flags:∀i j oj,ops[j]?=some oj→i<j→fl.getD i false=true→fl.getD j false=true→((Region.before ops).getD j 0).testBit i=true
 sel:∀(j:Nat) (oj:Oper) (cs:Array SelectCase) (b:Bool),ops[j]?=some oj→oj.op≠ .select cs b
 room:∀(j:Nat) (oj:Oper) (d:Nat),ops[j]?=some oj→oj.dst=some d→d<N
theorem YA{ops:Array Oper}{fl:List Bool}{N:Nat}(h:Qm ops fl N=true):IG ops fl N:=by
 simp only [Qm,uE,decide_eq_true_eq,vL,vO]at h;obtain ⟨h0,h⟩:=h;have hlt:∀{j:Nat} {o:Oper},ops[j]?=some o→j<ops.size:=fun hj=>(u7.1 hj).1
 refine ⟨h0,fun j oj e hj he hb=>?_,fun j oj i hj hi hb=>?_,fun i j oi oj hi hj hij=>?_,fun i j oj hj hij h1 h2=>?_,fun j oj cs b hj hs=>?_,fun j oj d hj hd=>?_⟩
 · have:=h j (hlt hj)
   simp only [hj,uE,vL]at this;have:=this.1.1.1 e (by simpa using he)
   simpa [hb]using this
 · have:=h j (hlt hj)
   simp only [hj,uE,vL,vO]at this;have:=this.1.1.2 i hi
   obtain ⟨oi,hoi⟩:∃oi,ops[i]?=some oi:=⟨_,tu (by have:=hlt hj;omega)⟩;simp only [hoi,uE]at this;have:=this.1.1
   rw [hb]at this;simp only [wT,ze,zq,uE,wh,beq_iff_eq,decide_eq_true_eq]at this;obtain ⟨e,he,hb,ho⟩:=this;exact ⟨e,by simpa using he,hb,ho⟩
 · have:=h j (hlt hj)
   simp only [hj,uE,vL,vO]at this;have:=this.1.1.2 i hij
   simp only [hi,uE,wh]at this;exact this.1.2
 · have:=h j (hlt hj)
   simp only [hj,uE,vL,vO]at this;have:=this.1.1.2 i hij
   obtain ⟨oi,hoi⟩:∃oi,ops[i]?=some oi:=⟨_,tu (by have:=hlt hj;omega)⟩;simp only [hoi,uE]at this;have:=this.2
   rw [h1,h2]at this;simpa using this
 · have:=h j (hlt hj)
   simp only [hj,uE]at this;rw [hs]at this;simp at this
 · have:=h j (hlt hj)
   simp only [hj,uE]at this;rw [hd]at this;simpa using this.2
def Yr(ops:Array Oper)(L:Array Bool):Prop:=∀j oj,ops[j]?=some oj→L.getD j false=true→∀e∈oj.after,Region.binds .any e=true→L.getD e.on false=true
theorem FM{ops:Array Oper}{fl:List Bool}{N:Nat}(F:IG ops fl N){L:Array Bool}(hL:Yr ops L):∀(j i:Nat) (oj:Oper),ops[j]?=some oj→i<j→((Region.before ops).getD j 0).testBit i=true→
 (∀e∈oj.after,Region.binds .any e=true→L.getD e.on false=true)→L.getD i false=true:=by
 intro j;induction j using Nat.strongRecOn with
 |ind j ih=>
  intro i oj hj hi hb hw;obtain ⟨e,he,hbe,hor⟩:=F.anc j oj i hj hi hb;rcases hor with rfl|⟨hie,hor⟩
  · exact hw e he hbe
  · have hlt:=F.edge j oj e hj he hbe
    obtain ⟨oe,hoe⟩:∃oe,ops[e.on]?=some oe:=⟨_,tu (by have:=(u7.1 hj).1;omega)⟩;exact ih e.on hlt i oe hoe hie hor (fun e' he' hb'=>hL e.on oe hoe (hw e he hbe) e' he' hb')
theorem KJ{ops:Array Oper}{o:Oper}{a b:Act}(h:∀t∈o.looksAt ops,a.tmps[t]?=b.tmps[t]?):∀x∈o.op.operands,a.eval x=b.eval x:=by
 intro x hx;cases x with
 |tmp t=>
  have ht:t∈o.looksAt ops:=u6 _ (xI.2 ⟨.tmp t,by simpa using hx,rfl⟩);have:=h t ht
  simp only [Act.eval,uM,this]
 |_=>rfl
theorem GI{ops:Array Oper}{o:Oper}{a b:Act}(h:∀t∈o.looksAt ops,a.tmps[t]?=b.tmps[t]?):Region.wanted o (yielded ops a.tmps)=Region.wanted o (yielded ops b.tmps):=by
 unfold Region.wanted;cases hg:o.guard with
 |none=>rfl
 |some gw=>
  obtain ⟨g,want⟩:=gw;have hy:yielded ops a.tmps g=yielded ops b.tmps g:=by
   unfold yielded;cases ht:(ops[g]?).bind (·.dst)with
   |none=>rfl
   |some t=>
    have:=h t (by simp [Oper.looksAt,hg,ht]);simp [this]
  simp only [hy]
theorem WC{P:Program}{ops:Array Oper}{i:Nat}{o:Oper}{a b:Act}{v:Value}{R:World→Prop}{w:World}{Q:Exit→Act→World→Prop}{K:Act→World→Prop}
 (hi:ops[i]?=some o)(hsel:∀cs b,o.op≠ .select cs b)(hl:∀t∈o.looksAt ops,a.tmps[t]?=b.tmps[t]?)
 (h:Kt P ops o b v R w)(hK:∀w',R w'→K (a.put o.dst v) w'):wpOp P ops Q i K a w:=by
 have h1:=h (fun u w'=>u=v∧R w') (fun w' hw=>⟨rfl,hw⟩);unfold wpOp;simp only [hi];rw [GI hl];by_cases hw:Region.wanted o (yielded ops b.tmps)=true
 · rw [if_pos hw]at h1⊢
   refine .inl ?_;unfold Oper.wp;rw [execOp_congr o hsel (KJ hl)];generalize (execOp b.eval o).run P w=r at*;cases r with
   |ok n w'=>
    cases n<;>simp only [Oper.upon,linUpon]at h1⊢
    case value u=>rw [h1.1];exact hK _ h1.2
    case skip=>rw [h1.1];exact hK _ h1.2
    case enter f args=>
     refine Calls.mono h1 fun e w'' he=>?_;obtain ⟨u,rfl,hu,hR⟩:=he;simp only;rw [hu];exact hK _ hR
   |halt x w'=>simp only [linUpon]at h1
 · rw [if_neg hw]at h1⊢
   rw [h1.1];exact hK _ h1.2
section
variable{P:Program}{ops:Array Oper}{fl:List Bool}{N:Nat}{S:Nat→World→Prop}{Q:Exit→Act→World→Prop}{x:List (Oper×Value)}{a0:Act}
structure JR(ops:Array Oper)(fl:List Bool)(S:Nat→World→Prop)(x:List (Oper×Value))(a0:Act)(L:Array Bool)(a:Act)(w:World):Prop where
 size:L.size=ops.size
 shut:Yr ops L
 act:a=Jm (fun i=>L.getD i false) 0 x a0
 stage:S ((List.range ops.size).countP fun i=>L.getD i false&&fl.getD i false) w
theorem jN(F:IG ops fl N)(hx:x.map (·.1)=ops.toList)
 (hs:∀j o v,x[j]?=some (o,v)→(fl.getD j false=true→∀w,S (Eo (fl.take j)) w→Kt P ops o (pre j x a0) v (S (Eo (fl.take j)+1)) w)∧
   (fl.getD j false=false→∀i w,S i w→Kt P ops o (pre j x a0) v (S i) w))
 {L:Array Bool}{a:Act}{w:World}(H:JR ops fl S x a0 L a w){j:Nat}(hj:j∈Region.ready .any ops L){K:Act→World→Prop}
 (hK:∀a' w',JR ops fl S x a0 (L.setIfInBounds j true) a' w'→K a' w'):wpOp P ops Q j K a w:=by
 obtain ⟨hun,oj,hoj,hall⟩:=mem_ready.1 hj;have hjs:j<ops.size:=(u7.1 hoj).1
 have hxl:x.length=ops.size:=by have:=congrArg List.length hx;simpa using this
 have hget:∀k,k<ops.size→∃o v,x[k]?=some (o,v)∧ops[k]?=some o:=fun k hk=>by
  obtain ⟨y,hy⟩:∃y,x[k]?=some y:=⟨_,tF (by omega)⟩;refine ⟨y.1,y.2,hy,?_⟩;have:(x.map (·.1))[k]?=some y.1:=by simp [hy]
  rw [hx]at this;simpa using this
 have hops:∀(k:Nat) (y:Oper×Value),x[k]?=some y→ops[k]?=some y.1:=fun k y hy=>by
  have:(x.map (·.1))[k]?=some y.1:=by simp [hy]
  rw [hx]at this;simpa using this
 obtain ⟨o',v,hxj,ho'⟩:=hget j hjs;obtain rfl:oj=o':=by rw [hoj]at ho';exact wN ho'
 have hunF:L.getD j false=false:=by
  rw [uM]at hun⊢;rw [tu (by rw [H.size];exact hjs)]at hun⊢;simpa using hun
 have hbefore:∀i,i<j→((Region.before ops).getD j 0).testBit i=true→L.getD i false=true:=fun i hi hb=>FM F H.shut j i oj hoj hi hb hall;have hbehind:∀i oi,ops[i]?=some oi→j<i→((Region.before ops).getD i 0).testBit j=true→L.getD i false=false:=fun i oi hoi hij hb=>by
  cases h:L.getD i false with
  |false=>rfl
  |true=>
   have:=FM F H.shut i j oi hoi hij hb (fun e he hbe=>H.shut i oi hoi h e he hbe);rw [hunF]at this;cases this
 have hwr:∀(t:Nat),(t∈oj.looksAt ops∨oj.dst=some t)→∀(k:Nat) (y:Oper×Value),x[k]?=some y→y.1.dst=some t→k≠j→L.getD k false=decide (k<j):=by
  intro t ht k y hy hd hk;have hoy:=hops k y hy
  rcases uJ k j with hlt|hge
  · rw [decide_eq_true hlt]
    refine hbefore k hlt ((F.apart k j y.1 oj hoy hoj hlt).resolve_left fun hap=>?_);obtain ⟨h1,h2,h3⟩:=Oper.apart_spec hap;rcases ht with ht|ht
    · exact h1 t hd ht
    · exact h2 t hd ht
  · have hgt:j<k:=by omega
    rw [decide_eq_false (by omega)];refine hbehind k y.1 hoy hgt ((F.apart j k oj y.1 hoj hoy hgt).resolve_left fun hap=>?_);obtain ⟨h1,h2,h3⟩:=Oper.apart_spec hap;rcases ht with ht|ht
    · exact h3 t hd ht
    · exact h2 t ht hd
 have hsz:a.tmps.size=a0.tmps.size:=by rw [H.act,Cr]
 have hszp:(pre j x a0).tmps.size=a0.tmps.size:=by rw [←PR j 0 x a0,Cr]
 have hlook:∀t∈oj.looksAt ops,a.tmps[t]?=(pre j x a0).tmps[t]?:=by
  intro t ht;by_cases hts:t<a0.tmps.size
  · rw [H.act,←PR j 0 x a0,Dp _ _ _ _ _ hts,Dp _ _ _ _ _ hts]
    refine Eg _ _ t 0 x _ fun k y hy hd=>?_;simp only [uL];by_cases e:k=j
    · subst e;rw [hunF];simp
    · exact hwr t (.inl ht) k y hy hd e
  · rw [uT (by rw [hsz];exact xw hts),uT (by rw [hszp];exact xw hts)]
 have hset:∀i,(L.setIfInBounds j true).getD i false=if i=j then true else L.getD i false:=fun i=>by
  by_cases e:i=j
  · subst e;simp [H.size,hjs]
  · rw [getD_set_ne false (Ne.symm e),if_neg e]
 have hnew:∀w',(∀k,k=((List.range ops.size).countP fun i=>(L.setIfInBounds j true).getD i false&&fl.getD i false)→S k w')→JR ops fl S x a0 (L.setIfInBounds j true) (a.put oj.dst v) w':=by
  intro w' hw';refine ⟨by simp [H.size],fun k ok hk hl e he hb=>?_,?_,hw' _ rfl⟩
  · rw [hset]at hl
    rw [hset];by_cases e1:k=j
    · subst e1
      rw [hoj]at hk;obtain rfl:=wN hk;rw [hall e he hb];simp
    · rw [if_neg e1]at hl
      rw [H.shut k ok hk hl e he hb];simp
  · refine Ib ?_ ?_ fun t ht=>?_
    · rw [Dt,Cr,hsz]
    · rw [JE,Eu,H.act,Eu]
    · rw [Dt,hsz]at ht
      rw [IV _ _ _ _ (by rw [hsz];exact ht),Dp _ _ _ _ _ ht];by_cases hd:oj.dst=some t
      · rw [if_pos hd]
        refine (Z9 _ t 0 j x _ (oj,v) hxj hd (by simp [H.size,hjs]) fun k y hk hy hdy=>?_).symm;simp only [uL];rw [hset,if_neg (by omega),hwr t (.inr hd) k y hy hdy (by omega)];simp;omega
      · rw [if_neg hd,H.act,Dp _ _ _ _ _ ht]
        refine Eg _ _ t 0 x _ fun k y hy hdy=>?_;simp only [uL];rw [hset];by_cases e:k=j
        · subst e
          rw [hxj]at hy;obtain rfl:=wN hy;exact absurd hdy hd
        · rw [if_neg e]
 cases hf:fl.getD j false with
 |false=>
  refine WC hoj (F.sel j oj · · hoj) hlook ((hs j oj v hxj).2 hf _ w H.stage) fun w' hw'=>hK _ _ (hnew w' fun k hk=>?_);rw [hk,KO ops.size (fun i=>L.getD i false&&fl.getD i false) _ fun i _=>by
   rw [hset];by_cases e:i=j
   · subst e;simp only [hf];simp
   · rw [if_neg e]]
  exact hw'
 |true=>
  have hcnt:((List.range ops.size).countP fun i=>L.getD i false&&fl.getD i false)=Eo (fl.take j):=by
   rw [←Md fl ops.size (by rw [F.len];exact tQ _) j (by omega)];refine KO _ _ _ fun i hi=>?_;cases hfi:fl.getD i false with
   |false=>simp
   |true=>
    simp only [yQ];rcases Nat.lt_trichotomy i j with h|h|h
    · rw [hbefore i h (F.flags i j oj hoj h hfi hf)];simp [h]
    · subst h;rw [hunF];simp
    · obtain ⟨oi,hoi⟩:∃oi,ops[i]?=some oi:=⟨_,tu hi⟩
      rw [hbehind i oi hoi h (F.flags j i oi hoi h hf hfi)];simp;omega
  have hst:=H.stage;rw [hcnt]at hst;refine WC hoj (F.sel j oj · · hoj) hlook ((hs j oj v hxj).1 hf w hst) fun w' hw'=>hK _ _ (hnew w' fun k hk=>?_);rw [hk,OX ops.size j (fun i=>L.getD i false&&fl.getD i false) _ hjs (by simp only [hunF];rfl) (by simp only [hset,hf];simp) (fun i _ hne=>by rw [hset,if_neg hne]),hcnt];exact hw'
theorem UU(F:IG ops fl N)(hx:x.map (·.1)=ops.toList)
 (hs:∀j o v,x[j]?=some (o,v)→(fl.getD j false=true→∀w,S (Eo (fl.take j)) w→Kt P ops o (pre j x a0) v (S (Eo (fl.take j)+1)) w)∧
   (fl.getD j false=false→∀i w,S i w→Kt P ops o (pre j x a0) v (S i) w))
 (hq:∀w,S (Eo (fl.take ops.size)) w→Q .normal (pre ops.size x a0) w):
 ∀(fuel:Nat) (L:Array Bool) (a:Act) (w:World),((List.range ops.size).countP fun i=>!L.getD i false)≤fuel→JR ops fl S x a0 L a w→wpAny P .any ops Q fuel L a w:=by
 have hfin:∀(L:Array Bool) (a:Act) (w:World),JR ops fl S x a0 L a w→Region.ready .any ops L=[]→Q .normal a w:=by
  intro L a w H hr;have hall:∀j,j<ops.size→L.getD j false=true:=by
   intro j;induction j using Nat.strongRecOn with
   |ind j ih=>
    intro hj;cases hl:L.getD j false with
    |true=>rfl
    |false=>
     obtain ⟨oj,hoj⟩:∃oj,ops[j]?=some oj:=⟨_,tu hj⟩;have:j∈Region.ready .any ops L:=mem_ready.2 ⟨by
      rw [uM,tu (by rw [H.size];exact hj)]at hl⊢;simpa using hl,oj,hoj,fun e he hb=>by
       have:=F.edge j oj e hoj he hb;exact ih e.on this (by omega)⟩
     rw [hr]at this;cases this
  have hxl:x.length=ops.size:=by have:=congrArg List.length hx;simpa using this
  have ha:a=pre ops.size x a0:=by
   rw [H.act,←PR ops.size 0 x a0];have hag:∀(t:Nat) (k:Nat) (y:Oper×Value),x[k]?=some y→y.1.dst=some t→(fun i=>L.getD i false) (0+k)=(fun k=>decide (k<0+ops.size)) (0+k):=fun t k y hy _=>by
    have:k<x.length:=(tH.1 hy).1;simp only [uL];rw [hall k (by omega)];simp;omega
   refine Ib (by rw [Cr,Cr]) (by rw [Eu,Eu]) fun t ht=>?_;rw [Cr]at ht;rw [Dp _ _ _ _ _ ht,Dp _ _ _ _ _ ht];exact Eg _ _ t 0 x _ (hag t)
  rw [ha];refine hq w ?_;have hst:=H.stage
  rw [←Md fl ops.size (by rw [F.len];exact tQ _) ops.size (tQ _)];rw [KO ops.size (fun i=>L.getD i false&&fl.getD i false) _ fun i hi=>by rw [hall i hi];simp [hi]];exact hst
 intro fuel;induction fuel with
 |zero=>
  intro L a w hc H;have hr:Region.ready .any ops L=[]:=by
   cases hr:Region.ready .any ops L with
   |nil=>rfl
   |cons j js=>
    have hj:j∈Region.ready .any ops L:=by rw [hr];exact uz ..
    obtain ⟨hun,oj,hoj,_⟩:=mem_ready.1 hj;have hjs:j<ops.size:=(u7.1 hoj).1
    have hunF:L.getD j false=false:=by
     rw [uM]at hun⊢;rw [tu (by rw [H.size];exact hjs)]at hun⊢;simpa using hun
    have:0<(List.range ops.size).countP fun i=>!L.getD i false:=List.countP_pos_iff.2 ⟨j,vO.2 hjs,by rw [hunF];rfl⟩;omega
  exact ⟨hr,hfin L a w H hr⟩
 |succ fuel ih=>
  intro L a w hc H;refine ⟨fun hr=>hfin L a w H hr,fun j hj=>jN F hx hs H hj fun a' w' H'=>ih _ a' w' ?_ H'⟩;obtain ⟨hun,oj,hoj,_⟩:=mem_ready.1 hj;have hjs:j<ops.size:=(u7.1 hoj).1
  have hunF:L.getD j false=false:=by
   rw [uM]at hun⊢;rw [tu (by rw [H.size];exact hjs)]at hun⊢;simpa using hun
  have:=OX ops.size j (fun i=>!(L.setIfInBounds j true).getD i false) (fun i=>!L.getD i false) hjs (by simp [H.size,hjs]) (by rw [hunF];rfl) (fun i _ hne=>by rw [getD_set_ne false (Ne.symm hne)]);omega
end
theorem wpLin_keep{P:Program}{ops:Array Oper}{S:Nat→World→Prop}{Q:Act→World→Prop}{a:Act}{k:Nat}{o:Oper}{l:List Oper}{fs:List Bool}{env:List (Nat×Value)}{v:Value}(h:∀j w,S j w→WE P ops o a env v (S j) w)(h2:Lr P ops S Q a k l fs (putE o.dst v env)):Lr P ops S Q a k (o::l) (false::fs) env:=⟨v,h,h2⟩
theorem wpLin_move{P:Program}{ops:Array Oper}{S:Nat→World→Prop}{Q:Act→World→Prop}{a:Act}{k:Nat}{o:Oper}{l:List Oper}{fs:List Bool}{env:List (Nat×Value)}{v:Value}(h:∀w,S k w→WE P ops o a env v (S (k+1)) w)(h2:Lr P ops S Q a (k+1) l fs (putE o.dst v env)):Lr P ops S Q a k (o::l) (true::fs) env:=⟨v,h,h2⟩
theorem wpLin_done{P:Program}{ops:Array Oper}{S:Nat→World→Prop}{Q:Act→World→Prop}{a:Act}{k:Nat}{env:List (Nat×Value)}{fs:List Bool}(h:∀w,S k w→Q (putsE env a) w):Lr P ops S Q a k [] fs env:=h
theorem wp_region_lin{P:Program}{id:Nat}{ops:Array Oper}{Q:Exit→Act→World→Prop}{a:Act}{w:World}(fl:List Bool)(S:Nat→World→Prop)(N:Nat)(hN:a.tmps.size=N)
 (hm:P.follows .mixedOrders=true)(hok:Qm ops fl N=true)(hS:S 0 w.drew)(h:∀a',a'=a→Lr P ops S (fun a w=>Q .normal a w) a' 0 ops.toList fl []):(Code.region id ops true).wp P Q a w:=by
 have F:=YA hok;obtain ⟨x,hx,hs,hq⟩:=Pb _ _ _ _ (fun o ho d hd=>by
  obtain ⟨j,hj⟩:=List.mem_iff_getElem?.1 ho;rw [hN];exact F.room j o d (by simpa using hj) hd) (fun x hx=>by cases hx) (h a rfl)
 refine wp_region_any hm (UU (S:=S) (a0:=a) F hx (fun j o v hj=>?_) ?_ _ _ _ _ ?_ ?_)
 · have:=hs j o v hj
   simpa [putsE]using this
 · simpa [putsE]using hq
 · refine xk List.countP_le_length ?_
   simp
 · refine ⟨by simp,fun j oj hj hl=>?_,?_,?_⟩
   · simp [xL]at hl
     split at hl<;>simp_all
   · have:=PR 0 0 x a
     refine Ib (by rw [Cr]) (by rw [Eu]) fun t ht=>?_;rw [Dp _ _ _ _ _ ht];rw [Eg _ (fun k=>decide (k<0+0)) t 0 x _ fun k y _ _=>by simp [xL];split<;>rfl];rw [←Dp _ _ _ _ _ ht,this];rfl
   · have:((List.range ops.size).countP fun i=>(Array.replicate ops.size false).getD i false&&fl.getD i false)=0:=by
      rw [List.countP_eq_zero];intro i _;simp [xL];split<;>simp
     rw [this];exact hS
end Gl
