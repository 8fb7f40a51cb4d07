/-
  The sort with a function lies in the program: laid at rows (printed by the kit, in plain words).
-/
import Derived.Test.YthhakdmlpngcmaaGreatDoorMt2
set_option linter.unusedVariables false
set_option linter.unusedSimpArgs false
namespace Go.Proofs
open Go.Shelf
def Tryz.sortIv_ren:Go.Shelf.Ren:=⟨fun|6=>211|15=>105|14=>248|28=>170|29=>171|20=>287|21=>288|22=>289|23=>290|24=>291|25=>292|26=>293|27=>294|46=>311|47=>221|48=>222|49=>312|50=>313|57=>321|n=>n,fun|22=>275|24=>277|25=>323|3=>3|39=>210|0=>0|53=>295|55=>297|4=>4|46=>287|45=>286|50=>292|5=>5|9=>9|66=>332|70=>114|76=>371|77=>372|n=>n,fun|n=>n⟩
theorem Tryz.sortIv:Go.Proofs.SlLaysF0.n6 prog Tryz.sortIv_ren:={
 mixed:=by kernel_rfl
 f6:=⟨Tryz.f211.name,by decide,func211.trans (congrArg some AF)⟩
 f14:=⟨Tryz.f248.name,by decide,func248.trans (congrArg some AF)⟩
 f15:=func105.trans (congrArg some AF)
 f20:=⟨Tryz.f287.name,by decide,func287.trans (congrArg some AF)⟩
 f21:=⟨Tryz.f288.name,by decide,func288.trans (congrArg some AF)⟩
 f22:=⟨Tryz.f289.name,by decide,func289.trans (congrArg some AF)⟩
 f23:=⟨Tryz.f290.name,by decide,func290.trans (congrArg some AF)⟩
 f24:=⟨Tryz.f291.name,by decide,func291.trans (congrArg some AF)⟩
 f25:=⟨Tryz.f292.name,by decide,func292.trans (congrArg some AF)⟩
 f26:=⟨Tryz.f293.name,by decide,func293.trans (congrArg some AF)⟩
 f27:=⟨Tryz.f294.name,by decide,func294.trans (congrArg some AF)⟩
 f28:=func170.trans (congrArg some AF)
 f29:=func171.trans (congrArg some AF)
 f46:=⟨Tryz.f311.name,by decide,func311.trans (congrArg some AF)⟩
 f47:=func221.trans (congrArg some AF)
 f48:=func222.trans (congrArg some AF)
 f49:=⟨Tryz.f312.name,by decide,func312.trans (congrArg some AF)⟩
 f50:=⟨Tryz.f313.name,by decide,func313.trans (congrArg some AF)⟩
 f57:=⟨Tryz.f321.name,by decide,func321.trans (congrArg some AF)⟩
 t0:=eR
 a0:=isAgg0
 z0:=sizeOf0
 v0:=cY
 t3:=DE
 a3:=AH
 z3:=AE
 v3:=HI
 t4:=Mn
 a4:=Fc
 z4:=DM
 v4:=W6
 t5:=Mb
 a5:=UP
 z5:=K0
 v5:=SO
 t9:=HG
 a9:=HO
 z9:=Fk
 v9:=HT
 t22:=cH
 a22:=isAgg275
 z22:=sizeOf275
 v22:=zeroValue275
 t25:=underlying323
 a25:=isAgg323
 z25:=sizeOf323
 v25:=zeroValue323
 t39:=XS
 a39:=isAgg210
 z39:=eh
 v39:=gn
 t45:=kh
 a45:=isAgg286
 z45:=sizeOf286
 v45:=l3
 t46:=ki
 a46:=isAgg287
 z46:=sizeOf287
 v46:=l4
 t50:=kf
 a50:=isAgg292
 z50:=sizeOf292
 v50:=kx
 t53:=TO
 a53:=Hc
 z53:=G2
 v53:=gx
 t55:=Xs
 a55:=al
 z55:=cy
 v55:=hQ
 t66:=kj
 a66:=isAgg332
 z66:=sizeOf332
 v66:=lA
 t70:=kl
 a70:=isAgg114
 z70:=W7
 v70:=Z3
 t76:=kn
 a76:=isAgg371
 z76:=sizeOf371
 v76:=lB
 t77:=kq
 a77:=isAgg372
 z77:=sizeOf372
 v77:=lE}
end Go.Proofs
namespace Go.Proofs.YthhakdmlpngcmaaGreatDoor
open Go.Proofs.Tryz
open Go Go.RowKit Gw
set_option maxRecDepth 100000
attribute [local irreducible] Gw.At Gw.Nx Gw.Ops
open Go.Sort Go.Shelf
theorem iU(a b:IvM)(W:AD):Calls prog 212 #[.agg #[I0 a.lo,I0 a.hi,I0 a.rc,I0 a.id],.agg #[I0 b.lo,I0 b.hi,I0 b.rc,I0 b.id]] W fun e B=>e= .returned (I0 (Lib.compareInt a.lo b.lo))/\∃q m,B=grow (W.drewN q) m:=by
 go_enter func212,ntmps212
 go_wp2
 all_goals (try simp only [G4]at*)
 all_goals go_ret
 all_goals refine ⟨?_,0,_,by rw [alloc_eq_grow,alloc_eq_grow,grow_grow];rfl⟩
 all_goals (simp [Lib.compareInt]<;>(try split)<;>(first|rfl|omega))
def CJ(l:List IvM):List A4:=l.flatMap fun x=>[I0 x.lo,I0 x.hi,I0 x.rc,I0 x.id]
instance:Inhabited IvM:=⟨⟨0,0,0,0⟩⟩
def NQ(x:IvM):List A4:=[I0 x.lo,I0 x.hi,I0 x.rc,I0 x.id]
def bL(a b:IvM):Int:=Lib.compareInt a.lo b.lo
theorem Qu(l:List IvM):(CJ l).length=l.length*4:=by
 induction l with
 |nil=>rfl
 |cons a l ih=>simp only [CJ,HW,BW,E4]at ih⊢;rw [ih];simp;omega
theorem ltI(a b:IvM):ltOf bL a b=decide (a.lo<b.lo):=by
 unfold ltOf bL Lib.compareInt;apply decide_eq_decide.2;split<;>(try split)<;>omega
theorem ya:SWO (ltOf bL)where
 irrefl x:=by rw [ltI];simp
 trans x y z h1 h2:=by rw [ltI]at*;simp only [G4]at*;omega
 ntrans x y z h1 h2:=by rw [ltI]at*;simp only [Mu]at*;omega
theorem dZ(w:A4)(o:List IvM)(s:List A9)(hn:o.length<=1000000)(cO:Bc 4 277 w o.length (CJ o) s):
 BS prog 211 #[w,.func (.func 212) #[] #[]] [s]
  (fun r H'=>r= .tuple #[]/\∃(s':List A9) (o':List IvM),o'.Perm o/\(o'.Pairwise fun a b=>a.lo<=b.lo)/\Bc 4 277 w o'.length (CJ o') s'/\H'=[s']):=by
 obtain ⟨dn,⟨rfl,h0,rfl⟩|⟨g,cap,cur,z,rfl,rfl,cu,af,J,d9,W⟩⟩:=cO
 · intro u R w0 Z
   have ho:o=[]:=Lz h0;subst ho;have hN:=AnyF.slices_SortFunc_none Tryz.sortIv none 0 (.func (.func 212) #[] #[]) w0
   exact hN.mono (by
    rintro e w' ⟨rfl,rfl⟩;exact .inl ⟨_,_,V,⟨V,[],[],.refl _,.nil,Bi _ _,V⟩,Z⟩)
 · intro u R w0 Z
   have hb:=Z.get (g,.cells cur 277 z) B4;have hH:=Tu (w:=w0) (g:=g) (cur:=cur) (e:=277) (z:=z) NQ 4 (fun _=>rfl) o hb (by rw [J];omega) W d9
   have eg:∀(args:AM) (w:AD),(callFunc 212 args).run prog w= .ok (.enter 212 args) w:=enters_of func212 AF rfl;have O:CmpLays prog 212 #[] NQ 4 bL g 0 o.toArray.size w0:=by
    intro m os dk ek x y;exact iU x y _
   have U:=AnyQ.slices_SortFunc Tryz.sortIv 4 isAgg277 OS NQ (fun _=>rfl) (fun x v hv=>by simp [NQ]at hv;rcases hv with rfl|rfl|rfl|rfl<;>rfl) bL ya 212 #[] g 0 cap o.toArray w0 eg O hH (Z.lt (p:=(g,.cells cur 277 z)) B4) It;refine U.mono ?_;rintro e w' ⟨rfl,B,n,os,⟨ax,-,hpm⟩,hso,rfl⟩;have G:B.size=o.length:=by simpa using ax
   have hF:(flatK NQ 4 B).toList=CJ B.toList:=Nw NQ 4 (fun _=>rfl) B.toList;have K:(flatK NQ 4 B).size=o.length*4:=by rw [size_flatK,G]
   have I:B.toList.Perm o:=by
    have e1:B.extract 0 o.toArray.size=B:=by
     rw [show o.toArray.size=B.size by rw [G];simp];exact Array.extract_size
    rw [e1]at hpm;simpa using hpm
   have X:B.toList.length=o.length:=I.length_eq;refine .inl ⟨_,[[(g,.cells (putCells id 0 (flatK NQ 4 B) cur) 277 z)]],V,⟨V,_,B.toList,I,?_,?_,V⟩,Z.sortedK NQ B os⟩
   · rw [fS]
     intro i j hi hj bn;have h:=hso i j (C7 _) bn It
     rw [ltI]at h;simp only [Mu]at h;rw [getElem!_pos B i (by simpa using hi),getElem!_pos B j (by simpa using hj)]at h;simp only [Array.getElem_toList];omega
   · rw [X]
     refine ⟨by rw [Qu,X],.inr ⟨g,cap,_,z,rfl,rfl,cu,af,by rw [Mg];exact J,?_,by rw [Mg];exact W⟩⟩;have h:=VZ cur (flatK NQ 4 B) (by rw [K,J];omega)
     rw [K,hF]at h;exact h
end Go.Proofs.YthhakdmlpngcmaaGreatDoor
namespace Go.Proofs.YthhakdmlpngcmaaGreatDoor
open Go.Proofs.Tryz
open Go Go.RowKit Gw
set_option maxRecDepth 100000
attribute [local irreducible] Gw.At Gw.Nx Gw.Ops
variable{l:List IvM}{i:Nat}{x:IvM}
theorem aD(h:l[i]?=some x):(CJ l)[i*4+1]?=some (I0 x.hi)/\(CJ l)[i*4+2]?=some (I0 x.rc):=by
 induction l generalizing i with
 |nil=>simp at h
 |cons a l ih=>
  cases i with
  |zero=>simp at h;subst h;exact ⟨rfl,rfl⟩
  |succ i=>
   have m:l[i]?=some x:=by simpa using h
   rw [show(i+1)*4+1=i*4+1+4 by omega,show(i+1)*4+2=i*4+2+4 by omega];exact ih m
theorem aC(h:l[i]?=some x)(r:Int):(CJ l).set (i*4+2) (I0 r)=CJ (l.set i {x with rc:=r}):=by
 induction l generalizing i with
 |nil=>simp at h
 |cons a l ih=>
  cases i with
  |zero=>simp at h;subst h;rfl
  |succ i=>
   have m:l[i]?=some x:=by simpa using h
   rw [show(i+1)*4+2=i*4+2+4 by omega];have:=ih m
   show _::_::_::_::(CJ l).set (i*4+2) (I0 r)=_;rw [this];rfl
variable{cur:AM}{n:Nat}
theorem uY(B:cur.toList.take (n*4)=CJ l)(h:l[i]?=some x):cur[i*4+1]?=some (I0 x.hi)/\cur[i*4+2]?=some (I0 x.rc):=by
 obtain ⟨m,h2⟩:=aD h;rw [<-B,HH]at m h2;constructor
 · by_cases hc:i*4+1<n*4
   · rw [As hc]at m;simpa using m
   · rw [An hc]at m;cases m
 · by_cases hc:i*4+2<n*4
   · rw [As hc]at h2;simpa using h2
   · rw [An hc]at h2;cases h2
theorem uX(m:cur.toList.take (n*4)=CJ l)(h:l[i]?=some x)(r:Int):(cur.setIfInBounds (i*4+2) (I0 r)).toList.take (n*4)=CJ (l.set i {x with rc:=r}):=by
 rw [j7,List.take_set,m,aC h]
theorem jZ{g m:Nat}{z:Nat×Nat}(O:l.length=n)(K:cur.toList.take (n*4)=CJ l)(J:n<=m)(B:m<=maxLen)(G:cur.size=m*4)(I:Ih z cur.size):Bc 4 277 (I2 g n m) l.length (CJ l) [(g,.cells cur 277 z)]:=by
 subst O;exact ⟨Qu l,.inr ⟨g,m,cur,z,V,V,J,B,G,K,I⟩⟩
def Ns(x:IvM):Int×Int×Int:=(x.lo,x.hi,x.id)
def qC(l:List IvM)(i:Nat):Prop:=∀(j k:Nat) (x y:IvM),j<=k->k<i->l[j]?=some x->l[k]?=some y->x.hi<=y.rc
theorem VQ{r:Int}(h:qC l i)(W:l[i]?=some x)(U:x.hi<=r)(O:∀y,0<i->l[i -1]?=some y->y.rc<=r):qC (l.set i {x with rc:=r}) (i+1):=by
 have I:=(C4.1 W).1;intro j k a b J Z m G;rw [T6]at m G;rcases FA k i with hki|hki
 · rw [An A0]at m G
   exact h j k a b J hki m G
 · obtain rfl:k=i:=by omega
   rw [As rfl,As I]at G;injection G with G
   subst G;by_cases B:k=j;· rw [As B,As I]at m;injection m with m;subst m;exact U
   · rw [An B]at m
     obtain ⟨y,K⟩:∃y,l[k -1]?=some y:=⟨_,BT A0⟩;have X:=h j (k -1) a y A0 A0 m K
     have h2:=O y A0 K;show a.hi<=r
     omega
theorem Td{r:Int}(B:l[i]?=some x):(l.set i {x with rc:=r}).map Ns=l.map Ns:=by
 apply MD;intro k;rw [DQ,DQ,T6];by_cases m:i=k
 · subst m
   rw [As rfl,As (C4.1 B).1,B];rfl
 · rw [An m]
theorem fe(w:A4)(o:List IvM)(s:List A9)(hn:o.length<=1000000)(d9:Bc 4 277 w o.length (CJ o) s):BS prog 154 #[w] [s] (fun r H'=>r=w/\∃(s':List A9) (l o':List IvM),o'.Perm o/\(o'.Pairwise fun a b=>a.lo<=b.lo)/\l.map Ns=o'.map Ns/\qC l l.length/\Bc 4 277 w l.length (CJ l) s'/\H'=[s']):=by
 have p9:=mL;obtain ⟨pw,cw,rfl⟩:=d9.form;refine Se func154 ntmps154 [0] ?_;intro u R;refine A1<|A5 Y<|A1<|Zm Y<|Zc [_,_] Y call211 Y V (dZ _ o s hn d9) ?_;rintro _ _ ⟨_,⟨rfl,s1,o1,cu,l8,l5,rfl⟩,rfl⟩;have kv:=cu.length_eq
 refine A6<|Zq<|A1<|Zm Y<|Zv (Ab cH Y)<|Zm Y<|A6<|AR<|Zb [8,0,7] ?_;refine BF (e0:=[(8,_)]) (fun m e H=>∃(i:Nat) (l:List IvM) (s2:List A9),m=o.length -i/\((i<=o.length/\l.length=o.length)/\l.map Ns=o1.map Ns/\qC l i/\Bc 4 277 (.slice pw o.length cw) l.length (CJ l) s2)/\e=[(8,I0 (i:Int))]/\H=[s2]) (by exact ⟨0,o1,s1,V,⟨⟨C7 _,kv⟩,V,fun j k x y _ h=>absurd h (fm k),l5⟩,V,V⟩) Wp ?_;rintro _ _ _ ⟨i,l,s2,rfl,⟨⟨o9,j3⟩,W,K,cO⟩,rfl,rfl⟩;refine A1<|Zv (Ay Y Y)<|A6<|Zq<|Av Y (fun j5=>?_) (fun j5=>?_);·
  refine AC<|Zx<|Zq<|AR<|A1<|Zm Y<|A5 Y<|Zq ?_;rcases cO with⟨o8,⟨ek,h0,rfl⟩|⟨g,cap,cur,z,ek,rfl,p8,af,ax,dn,bn⟩⟩
  · omega
  injection ek with e1 e2 e3
  subst e1 e3;obtain ⟨x,Z⟩:∃x,l[i]?=some x:=⟨_,BT A0⟩;have gq:=uY dn Z
  refine Zg<|Zm Y<|Zm Y<|Zm Y<|Zm Y<|BZ (Ad cH OS Y Y A0)<|Zv (Ap (off:=1) Z2 rfl rfl AE Y)<|Zl AH Y (hv:=by exact (by rw [D4];exact gq.1)) ?_;refine BZ (Ad cH OS Y Y A0)<|Zv (Ap (off:=2) Z2 V rfl AE Y)<|Xe (Zs AE Y Y V (hi:=by omega) (hz:=by exact bn)) ?_;refine Z0<|Zn [0,3,7,8] ?_;refine Zx<|Zq ?_;obtain ⟨U,G⟩:∃U,U=cur.setIfInBounds (0+i*4+2) (I0 x.hi):=⟨_,rfl⟩;rw [<-G];have B:U.toList.take (l.length*4)=CJ (l.set i {x with rc:=x.hi}):=by rw [G,D4];exact uX dn Z x.hi
  have I:U.size=cw*4:=by rw [G,Sh];exact ax
  have J:Ih z U.size:=by rw [I,<-ax];exact bn
  have X:(l.set i {x with rc:=x.hi})[i]?=some {x with rc:=x.hi}:=by rw [T6,As rfl,As A0]
  have gy:=uY B X;refine Zg<|Zm Y<|Zv (DN (n:=0) Y Y)<|A6<|Av Y (fun gm=>?_) (fun gm=>?_);·
   obtain ⟨y,hy⟩:∃y,l[i -1]?=some y:=⟨_,BT A0⟩;have l9:(l.set i {x with rc:=x.hi})[i -1]?=some y:=by rw [T6,An A0];exact hy
   have ic:=uY B l9;refine Aw (n:=17) (0::0::0::0::12::28::60::0::0::256::896::1920::3968::8188::16383::32767::65535::[]) 65536 AF AF rfl<|A3 0 rfl (AO Y)<|A3 1 rfl (AO Y)<|A3 2 rfl (AO Y)<|A3 3 rfl (AO Y)<|A3 4 rfl (Ad cH OS Y Y A0)<|A3 5 rfl (Ap (off:=2) Z2 rfl rfl AE Y)<|BE 6 rfl AH Y (hv:=by exact (by rw [D4];exact gy.2)) ?_;refine A3 7 V (AO Y)<|A3 8 V (AO Y) ?_
   (refine Dn (D':=1023) 9 (CQ (n:=1) Y Y ?_ ?_) ?_;(focus (omega));(focus (omega)))
   refine A3 10 rfl (Ad cH OS Y Y A0)<|A3 11 rfl (Ap (off:=2) Z2 rfl rfl AE Y)<|BE 12 rfl AH Y (hv:=by exact (by rw [D4];exact ic.2)) ?_;refine A3 13 V (QE Y Y)<|A3 14 V (Ad cH OS Y Y A0)<|A3 15 V (Ap (off:=2) Z2 V rfl AE Y)<|Zz (l:=[16])<|B7 [false,false] [] V rfl (Zs AE Y Y V (hi:=by omega) (hz:=by exact J)) ?_ (fun _ _ h=>h.elim) Ah;rintro _ _ ⟨rfl,rfl⟩;refine Bk<|Ag<|Zn [0,7,8] ?_;refine A8<|Zx<|Zg<|Ya (n:=1) Y Y<|Zm Y<|Z0<|Zn [8,0,7] ?_;refine Aa (e':=[(8,_)]) (by exact ⟨i+1,(l.set i {x with rc:=x.hi}).set i {x with rc:=max x.hi y.rc},[(g,.cells (U.setIfInBounds (0+i*4+2) (I0 (max x.hi y.rc))) 277 z)],rfl,⟨⟨by omega,by simp;omega⟩,by rw [Td X,Td Z];exact W,by rw [List.set_set];exact VQ K Z A0 (fun y2 _ O=>by rw [hy]at O;injection O with O;rw [<-O];omega),jZ It (by rw [D4,e2];exact uX B X _) A0 af (by rw [Sh];exact I) (by rw [Sh];exact J)⟩,rfl,rfl⟩)
  refine AC<|A8<|Zx<|Zg<|Ya (n:=1) Y Y<|Zm Y<|Z0<|Zn [8,0,7] ?_;refine Aa (e':=[(8,_)]) (by exact ⟨i+1,l.set i {x with rc:=x.hi},[(g,.cells U 277 z)],rfl,⟨⟨by omega,by simp;omega⟩,by rw [Td Z];exact W,VQ K Z A0 (fun y2 h0=>absurd h0 A0),jZ It (by rw [e2];exact B) A0 af I J⟩,rfl,rfl⟩)
 obtain rfl:i=o.length:=by omega
 refine Az<|Zt<|Zt<|AV<|Zx<|A1<|Zm Y<|A5 Y<|AJ<|AP V results154 Y (by exact ⟨V,s2,l,o1,cu,l8,W,j3▸K,cO,V⟩)
theorem wH(v:Int):∀{l:List IvM},(l.Pairwise fun a b=>a.lo<=b.lo)->l.takeWhile (fun x=>decide (x.lo<=v))=l.filter fun x=>decide (x.lo<=v)
 |[],_=>rfl
 |a::l,h=>by
  obtain ⟨B,h2⟩:=PJ.1 h;by_cases m:a.lo<=v;· rw [rj (by simpa using m),List.filter_cons_of_pos (by simpa using m),wH v h2]
  · rw [rm (by simpa using m),lj (by simpa using m)]
    exact (lr.2 fun b G=>by have:=B b G;simp;omega).symm
theorem VF(v:Int):∀{q:List IvM},(q.Pairwise fun a b=>b.hi<=a.rc)->(∀a∈q,a.hi<=a.rc)->(q.takeWhile fun x=>decide (v<=x.rc)).filter (fun x=>decide (v<=x.hi))=q.filter fun x=>decide (v<=x.hi)
 |[],_,_=>rfl
 |a::q,h,hs=>by
  obtain ⟨G,h2⟩:=PJ.1 h;by_cases B:v<=a.rc;· rw [rj (by simpa using B),Wr,Wr,VF v h2 fun b m=>hs b (E7 _ m)]
  · rw [rm (by simpa using B)]
    refine (lr.2 fun b m=>?_).symm;rcases DB.1 m with rfl|m
    · have:=hs b B4;simp;omega
    · have:=G b m;simp;omega
theorem ow{v:Int}(X:l.Pairwise fun a b=>a.lo<=b.lo)(K:qC l l.length)(i:Int):i∈Iq v l↔∃x∈l,x.lo<=v/\v<=x.hi/\x.id=i:=by
 have W:l.Pairwise fun a b=>a.hi<=b.rc:=fS.2 fun j k m J U=>K j k _ _ A0 J (BT m) (BT J);have O:∀a∈l,a.hi<=a.rc:=fun a G=>by
  obtain ⟨j,m,rfl⟩:=List.mem_iff_getElem.1 G;exact K j j _ _ (CT _) m (BT m) (BT m)
 unfold Iq;rw [wH v X,VF v (List.pairwise_reverse.2 (W.sublist S0)) fun a G=>O a (FG.1 (fh.1 G)).1];simp only [C6,FG,fh,G4];constructor;· rintro ⟨x,⟨⟨I,B⟩,h2⟩,rfl⟩;exact ⟨x,I,B,h2,rfl⟩
 · rintro ⟨x,I,B,h2,rfl⟩;exact ⟨x,⟨⟨I,B⟩,h2⟩,rfl⟩
variable{o:List IvM}
theorem ZV(m:l.map Ns=o.map Ns){a b i:Int}:(∃x∈l,x.lo=a/\x.hi=b/\x.id=i)↔∃x∈o,x.lo=a/\x.hi=b/\x.id=i:=by
 have h:∀{l:List IvM},(∃x∈l,x.lo=a/\x.hi=b/\x.id=i)↔(a,b,i)∈l.map Ns:=fun{l}=>by
  simp only [C6,Ns,kc]
 rw [h,h,m]
theorem ZW(m:l.map Ns=o.map Ns)(B:o.Pairwise fun a b=>a.lo<=b.lo):l.Pairwise fun a b=>a.lo<=b.lo:=by
 have h:∀{l:List IvM},(l.Pairwise fun a b=>a.lo<=b.lo)↔(l.map Ns).Pairwise fun a b=>a.1<=b.1:=fun{l}=>by
  rw [V0];rfl
 rw [h,m];exact h.1 B
def RG(x:Int×QM):IvM:=⟨x.2.lo,x.2.hi,0,x.1⟩
def plQ(x:Int×QM):Int×Int:=(x.2.tb,x.2.cl)
def Ej(vs:List (Int×QM))(k:Int×Int):List IvM:=(vs.filter fun x=>decide (plQ x=k)).map RG
def FV(vs:List (Int×QM))(t:Int):List Int:=(vs.filter fun x=>decide (x.2.kd=7/\x.2.ot=t)).map (·.1)
theorem Tf(vs:List (Int×QM))(x:Int×QM)(k:Int×Int):Ej (vs++[x]) k=if k=plQ x then Ej vs (plQ x)++[RG x]else Ej vs k:=by
 unfold Ej;rw [Hj,C0];by_cases h:k=plQ x;· subst h;simp
 · rw [An h,lj (by simpa using fun e=>h e.symm)];simp
theorem Nt(vs:List (Int×QM))(x:Int×QM)(t:Int):FV (vs++[x]) t=if x.2.kd=7/\t=x.2.ot then FV vs x.2.ot++[x.1]else FV vs t:=by
 unfold FV;rw [Hj,C0];by_cases h:x.2.kd=7/\t=x.2.ot;· obtain ⟨m,rfl⟩:=h;simp [m]
 · rw [An h,lj (by simpa using fun e1 e2=>h ⟨e1,e2.symm⟩)];simp
theorem aG(a b:List IvM):CJ (a++b)=CJ a++CJ b:=by unfold CJ;rw [PB]
abbrev wU(vs:List (Int×QM))(lm:List ((Int×Int)×A4))(M:List A9):Prop:=UW 4 277 lm (fun k=>(Ej vs k).length) (fun k=>CJ (Ej vs k)) M
abbrev dA(vs:List (Int×QM))(lm:List (Int×A4))(M:List A9):Prop:=UW 1 3 lm (fun t=>(FV vs t).length) (fun t=>(FV vs t).map fun i=>Value.int .i64 i) M
variable{vs:List (Int×QM)}{M:List A9}
theorem oP{lm:List ((Int×Int)×A4)}(W:(lm.map (·.1)).Nodup)(h:wU vs lm M)(x:Int×QM):
 ∃s B,Bc 4 277 ((Dq (plQ x) lm).getD (.slice none 0 0)) (Ej vs (plQ x)).length (CJ (Ej vs (plQ x))) s/\M.Perm (s++B)/\∀(I:A4) (G:List A9) (m:List ((Int×Int)×A4)),(m.map (·.1)).Nodup->(∀p,p∈m↔p=(plQ x,I)\/(p∈lm/\p.1≠plQ x))->
  Bc 4 277 I (Ej vs (plQ x)++[RG x]).length (CJ (Ej vs (plQ x)++[RG x])) G->wU (vs++[x]) m (G++B):=by
 obtain ⟨s,B,K,h2,O⟩:=QQ W h (plQ x);refine ⟨s,B,K,h2,fun I G m J X Z=>?_⟩;have U:=O I G _ _ m J X Z
 have e1:(fun k=>(Ej (vs++[x]) k).length)=fun k=>if k=plQ x then(Ej vs (plQ x)++[RG x]).length else(Ej vs k).length:=funext fun k=>by
  rw [Tf];split<;>rfl
 have e2:(fun k=>CJ (Ej (vs++[x]) k))=fun k=>if k=plQ x then CJ (Ej vs (plQ x)++[RG x])else CJ (Ej vs k):=funext fun k=>by
  rw [Tf];split<;>rfl
 unfold wU;rw [e1,e2];exact U
variable{lm:List (Int×A4)}
theorem oN(X:(lm.map (·.1)).Nodup)(h:dA vs lm M)(x:Int×QM)(K:x.2.kd=7):
 ∃s B,Bc 1 3 ((Dq x.2.ot lm).getD (.slice none 0 0)) (FV vs x.2.ot).length ((FV vs x.2.ot).map fun i=>Value.int .i64 i) s/\M.Perm (s++B)/\∀(I:A4) (G:List A9) (m:List (Int×A4)),(m.map (·.1)).Nodup->(∀p,p∈m↔p=(x.2.ot,I)\/(p∈lm/\p.1≠x.2.ot))->
  Bc 1 3 I (FV vs x.2.ot++[x.1]).length ((FV vs x.2.ot++[x.1]).map fun i=>Value.int .i64 i) G->dA (vs++[x]) m (G++B):=by
 obtain ⟨s,B,O,h2,U⟩:=QQ X h x.2.ot;refine ⟨s,B,O,h2,fun I G m J Z hr=>?_⟩;have W:=U I G _ _ m J Z hr
 have e1:(fun k=>(FV (vs++[x]) k).length)=fun k=>if k=x.2.ot then(FV vs x.2.ot++[x.1]).length else(FV vs k).length:=funext fun k=>by
  rw [Nt];simp only [K,WD];split<;>rfl
 have e2:(fun k=>(FV (vs++[x]) k).map fun i=>Value.int .i64 i)=fun k=>if k=x.2.ot then(FV vs x.2.ot++[x.1]).map fun i=>Value.int .i64 i else(FV vs k).map fun i=>Value.int .i64 i:=funext fun k=>by
  rw [Nt];simp only [K,WD];split<;>rfl
 unfold dA;rw [e1,e2];exact W
theorem oO(h:dA vs lm M)(x:Int×QM)(m:x.2.kd≠7):dA (vs++[x]) lm M:=by
 have e:FV (vs++[x])=FV vs:=funext fun t=>by rw [Nt,An (fun h=>m h.1)]
 unfold dA;rw [e];exact h
theorem lM(q:QM)(B:BI q):BS prog 147 #[.agg q.A95] [] (fun r H'=>r= .tuple #[I0 q.tb,I0 q.cl,I0 q.lo,I0 q.hi]/\H'=[]):=by
 refine Se func147 ntmps147 [0] ?_;intro u R;refine A1<|Ze (Bx #[_,_,_,_,_,_,_])<|AG fun G=>Za Y<|Za Y<|Za Y<|A5 Y<|Zq<|A1<|Zo Wh (AB (cs:=q.A95) F1 CM Y Wn (BO V))<|Xr [_] Y call29 Y V (Iy q)<|Zv (Cz Y)<|A6<|AQ Y (fun m=>?_) (fun m=>?_);·
  exfalso;simp [B]at m
 refine AC<|Zx<|Zq<|Aw (n:=12) (0::1::0::4::0::16::0::64::3::271::831::2047::[]) 0 AF AF V<|A3 0 V (AA (off:=1) CI V rfl AE Y)<|BE 1 V AH Y<|A3 2 V (AA (off:=2) CI V rfl AE Y)<|BE 3 V AH Y<|A3 4 V (AA (off:=3) CI V rfl AE Y)<|BE 5 V AH Y<|A3 6 V (AA (off:=4) CI V rfl AE Y)<|BE 7 V AH Y<|A3 8 V (Aq Y)<|A3 9 V (Aq Y)<|A3 10 V (Aq Y)<|A3 11 V (Aq Y)<|Ag<|Zn [2,3,4,5] ?_;refine Zx<|AJ<|ji V results147 Y Y Y Y (by exact ⟨V,V⟩)
def cB(lm:List (Int×A4))(js:List Nat)(vs:List (Int×QM)):Prop:=vs.length=js.length/\∀x,x∈vs↔∃j∈js,lm[j]?=some (x.1,(.agg #[I0 x.2.kd,I0 x.2.tb,I0 x.2.cl,I0 x.2.lo,I0 x.2.hi,I0 x.2.bq,I0 x.2.ot]:A4))
variable{js:List Nat}{j:Nat}
theorem dh(h:cB lm js vs){x:Int×QM}(B:lm[j]?=some (x.1,(.agg #[I0 x.2.kd,I0 x.2.tb,I0 x.2.cl,I0 x.2.lo,I0 x.2.hi,I0 x.2.bq,I0 x.2.ot]:A4))):cB lm (js++[j]) (vs++[x]):=by
 refine ⟨by rw [BW,BW,h.1];rfl,fun y=>?_⟩;rw [C2,h.2];constructor
 · rintro (⟨i,hi,m⟩|m)
   · exact ⟨i,Ek _ hi,m⟩
   · rw [C5.1 m];exact ⟨j,by simp,B⟩
 · rintro ⟨i,hi,m⟩
   rcases C2.1 hi with hi|hi
   · exact .inl ⟨i,hi,m⟩
   · rw [C5.1 hi,B]at m
     injection m with m
     refine .inr (C5.2 ?_);obtain ⟨a,q⟩:=x;obtain ⟨b,r⟩:=y;obtain ⟨G,q2,I,J,K,O,U⟩:=q;obtain ⟨W,X,Z,r4,r5,r6,r7⟩:=r;simp at m;simp [m]
theorem Ti(vs:List (Int×QM))(k:Int×Int):(Ej vs k).length<=vs.length:=by unfold Ej;rw [B6];exact NO _ _
def R9(o l:List IvM):Prop:=∃o':List IvM,o'.Perm o/\(o'.Pairwise fun a b=>a.lo<=b.lo)/\l.map Ns=o'.map Ns/\qC l l.length
variable{lmA:List ((Int×Int)×A4)}{pn:(Int×Int)×A4}
theorem nI(G:(lmA.map (·.1)).Nodup)(m:lmA[j]?=some pn)(p:(Int×Int)×A4):p∈lmA↔p=(pn.1,pn.2)\/(p∈lmA/\p.1≠pn.1):=by
 constructor
 · intro B
   by_cases h:p.1=pn.1
   · obtain ⟨i,hi⟩:=HB B
     obtain rfl:=LK G hi m h;rw [m]at hi;injection hi with hi;exact .inl hi.symm
   · exact .inr ⟨B,h⟩
 · rintro (rfl|⟨h,_⟩)
   · exact DO m
   · exact h
variable{ks:List Nat}
theorem df{I G:List ((Int×Int)×A4)}(K:(lmA.map (·.1)).Nodup)(B:lmA[j]?=some pn)(J:¬j∈ks)(W:∀p,p∈I↔∃k∈ks,lmA[k]?=some p)(U:∀p,p∈G↔p=(pn.1,pn.2)\/(p∈I/\p.1≠pn.1))(p:(Int×Int)×A4):p∈G↔∃k∈ks++[j],lmA[k]?=some p:=by
 rw [U,W];constructor
 · rintro (rfl|⟨⟨k,K,m⟩,hne⟩)
   · exact ⟨j,by simp,B⟩
   · exact ⟨k,Ek _ K,m⟩
 · rintro ⟨k,O,m⟩
   rcases C2.1 O with hk1|hk1
   · refine .inr ⟨⟨k,hk1,m⟩,fun X=>J ?_⟩
     obtain rfl:=LK K m B X;exact hk1
   · rw [C5.1 hk1,B]at m;injection m with m;exact .inl m.symm
variable{g:Int×Int->List IvM}
theorem iK(O:(lmA.map (·.1)).Nodup)(B:lmA[j]?=some pn)(G:¬j∈ks){f:Int×Int->List IvM}{l2:List IvM}(J:∀i p,lmA[i]?=some p->if i∈ks then R9 (f p.1) (g p.1)else g p.1=f p.1)(h2:R9 (g pn.1) l2):
 ∀i p,lmA[i]?=some p->if i∈ks++[j]then R9 (f p.1) ((fun k=>if k=pn.1 then l2 else g k) p.1)else(fun k=>if k=pn.1 then l2 else g k) p.1=f p.1:=by
 intro i p hi;have h:=J i p hi
 by_cases m:i=j
 · subst m
   rw [B]at hi;injection hi with hi;subst hi
   rw [An G]at h;rw [As B4];simp only [Hh];rw [<-h];exact h2
 · have I:p.1≠pn.1:=fun K=>m (LK O hi B K)
   simp only [An I,C2,C5,m,P0];exact h
theorem yn{lm:List ((Int×Int)×A4)}{l2:List IvM}{m:Int×Int}(h:UW 4 277 lm (fun x=>if x=m then l2.length else(g x).length) (fun x=>if x=m then CJ l2 else CJ (g x)) M):UW 4 277 lm (fun k=>((fun k=>if k=m then l2 else g k) k).length) (fun k=>CJ ((fun k=>if k=m then l2 else g k) k)) M:=by
 have e1:(fun k=>((fun k=>if k=m then l2 else g k) k).length)=fun x=>if x=m then l2.length else(g x).length:=funext fun k=>by
  show(if k=m then l2 else g k).length=_;split<;>rfl
 have e2:(fun k=>CJ ((fun k=>if k=m then l2 else g k) k))=fun x=>if x=m then CJ l2 else CJ (g x):=funext fun k=>by
  show CJ (if k=m then l2 else g k)=_;split<;>rfl
 rw [e1,e2];exact h
theorem aQ(vs:List (Int×QM))(t:Int):(FV vs t).length<=vs.length:=by unfold FV;rw [B6];exact NO _ _
def Ii(c:Chg)(i:Nat):List AU:=(if 1<=i/\c.had=true then [⟨c.t,c.k,c.o⟩]else [])++(if 2<=i/\c.has=true then [⟨c.t,c.k,c.n⟩]else [])
def FN(c:Chg):List AU:=Ii c 2
theorem rE(c:Chg)(i:Nat)(h:i<2):∃(fi:Nat) (rv:AU) (vb:Bool),(#[.func (.func 210) #[] #[],.func (.func 109) #[] #[]]:AM)[i]?=some (.func (.func fi) #[] #[])/\(∀(args:AM) (w:AD),(callFunc fi args).run prog w= .ok (.enter fi args) w)/\
 BJ prog fi #[.agg c.A93] [] (.tuple #[.agg rv.A94,.bool vb])/\(vb=true->Ii c (i+1)=Ii c i++[rv]/\∃post,FN c=Ii c i++rv::post)/\(vb=false->Ii c (i+1)=Ii c i):=by
 rcases (by omega:i=0\/i=1)with rfl|rfl
 · refine ⟨_,_,c.had,rfl,call210,VP c,fun hv=>?_,fun hv=>?_⟩
   · unfold FN Ii EO;simp [hv]
   · unfold Ii;simp [hv]
 · refine ⟨_,_,c.has,rfl,call109,Oa c,fun hv=>?_,fun hv=>?_⟩
   · unfold FN Ii EO;simp [hv]
   · unfold Ii;simp [hv]
theorem iO(c:Chg):BS prog 156 #[.agg c.A93] [] (fun r H'=>∃b,r= .func (.func 213) #[] #[I1 b]/\H'=[[(b,.cells c.A93 74 (0,0))]]):=by
 refine Se func156 ntmps156 [0] ?_;intro u R;refine A1<|Ze (F8 Y (cs:=c.A93) AF)<|AG fun b=>A5 Y<|A1<|Zv (Bf (vs:=[]) (us:=[_]) Y Y)<|A5 Y<|AJ<|AP V results156 Y (by exact ⟨_,V,V⟩)
theorem iP(c:Chg)(b:Nat):Eh prog 213 #[I1 b] [[(b,.cells c.A93 74 (0,0))]] (fun _=>True) (fun x:AU=>#[.agg x.A94]) (FN c):=by
 intro l J hA hy s I;refine Se func213 ntmps213 [0,1] ?_;intro u R;refine A1<|Ze (Ai (vs:=[_,_]) (cs:=[_,_]) underlying324 sizeOf152 zeroValue152 Y V rfl V rfl V)<|AG fun bf=>Zv (Ab underlying324 Y)<|Zm Y<|A6<|AR<|Zb [9,0,1,7,8] ?_;refine BF (e0:=[(9,_)]) (fun m e H=>∃(i:Nat) (s:List A9),m=2 -i/\(i<=2/\J (Ii c i) s)/\e=[(9,I0 (i:Int))]/\H=[s]) (by exact ⟨0,s,V,⟨by decide,I⟩,V,V⟩) Wp ?_;rintro _ _ _ ⟨i,s,rfl,⟨hi,I⟩,rfl,rfl⟩;refine A1<|Zv (Ay Y Y)<|A6<|Zq<|Av Y (fun Z=>?_) (fun Z=>?_);·
  obtain ⟨fi,rv,vb,W,X,af,K,O⟩:=rE c i A0;refine AC<|Zx<|Zq<|AR<|A1<|BZ (BU underlying324 sizeOf152 Y Y A0)<|Zl isAgg152 Y (hv:=by exact W) ?_;refine A5 Y<|A1<|Zm Y<|Zo Wh (Pa #[_,_,_,_,_,_,_,_,_,_] GP CA Y) ?_;refine Xr [_] Y (X) Y V (af) ?_;refine Zm Y<|Zd Y V<|Zd Y V<|Ze (Al EV #[_,_,_,_,_])<|AG fun br=>Xe (Xw B3 _) ?_;refine AW Y<|Zn [0,1,5,6,7,8,9] ?_;refine Zx<|A1<|Zm Y<|Zm Y<|Aj (t:=20) Y V (fun G=>?_) (fun G=>?_);·
   obtain ⟨hu,post,B⟩:=K G;have ax:=hy _ _ _ s B I
   refine Zf Y Y<|Dt Y Wh (Pa #[_,_,_,_,_] Cp B3 Y) V rfl ?_;refine Ze (Ff (vs:=[_]) Y Y (ax) Wp) ?_;rintro _ _ ⟨_,⟨s',rfl,rfl,U⟩,rfl⟩;refine Yg (Br Y)<|Zv (AX Y Y)<|A6<|AQ Y (fun hb=>by cases hb)<|fun hb=>AC<|A8<|Zx<|Zg<|Ya (n:=1) Y Y<|Zm Y<|Z0<|Zn [9,0,1,7,8] ?_;refine Aa (e':=[(9,_)]) (by exact ⟨i+1,s',rfl,⟨by omega,by rw [hu];exact U⟩,rfl,rfl⟩)
  have hu:=O G;refine A7 Y V<|A7 Y V<|A7 Y V<|A7 Y V<|Zv (AL Y Y)<|A6<|DI Y<|AC<|A8<|Zx<|Zg<|Ya (n:=1) Y Y<|Zm Y<|Z0<|Zn [9,0,1,7,8] ?_;refine Aa (e':=[(9,_)]) (by exact ⟨i+1,s,rfl,⟨by omega,by rw [hu];exact I⟩,rfl,rfl⟩)
 obtain rfl:i=2:=by omega
 refine Az<|Zt<|Zt<|AV<|Cc V results213 (by exact ⟨s,V,I⟩)
theorem Sw:G7 prog 274 K2 KD:=G7.ofLaw (deep_law (m:=3) (by decide) (by kernel_rfl) (by kernel_rfl) (by kernel_rfl)) (by
 rintro ⟨a,b⟩ ⟨I,J⟩;have G:Tryz.prog.types.size+1=(Tryz.prog.types.size -1)+1+1:=by
  have:0<Tryz.prog.types.size:=HN AF;omega
 have hc:Tryz.prog.cellsOf 3=1:=by kernel_rfl
 have B:Tryz.prog.cellsOf 274=2:=by kernel_rfl
 have U:Tryz.prog.keyType 274=true:=by kernel_rfl
 have O:(K2 (a,b)).formed prog 274=true:=by
  unfold Value.formed K2;rw [ia];simp [B]
 unfold keyOf;rw [ia];simp only [U,O,Bool.and_self,Hh];obtain ⟨d,K⟩:∃d,Tryz.prog.types.size+1=d+1+1:=⟨_,G⟩;rw [K];unfold Program.keyLits;rw [ia];have W:=PE prog d a DE I
 have X:=PE prog d b DE J;simp [K2,Value.cells,hc,B,W,X]) wS
def wT(M:List A9)(v:A4)(l:List Int):Prop:=∃p cap,v= .slice p l.length cap/\(l.length<=maxLen/\l.length<=cap)/\∀(i:Nat) (x:Int),l[i]?=some x->∃g off cur T zz,p=some ⟨g,off,none⟩/\(g,Obj.cells cur T zz)∈M/\cur[off+i]?=some (I0 x)
variable{v:A4}
theorem wT.mono{m:List A9}{l:List Int}(h:wT M v l)(K:∀c∈M,c∈m):wT m v l:=by
 obtain ⟨p,cap,e,J,I⟩:=h;refine ⟨p,cap,e,J,fun i x O=>?_⟩;obtain ⟨g,off,cur,T,zz,B,h2,G⟩:=I i x O;exact ⟨g,off,cur,T,zz,B,K _ h2,G⟩
structure PZ(sc:Int->Int->List IvM)(jn:Int->List Int)(lp:Nat)(ML:List A9):Prop where
 ex:∃ms ess cks lms mj esj ckj lmj,(lp,Obj.cells #[.map (some ms),.map (some mj)] 272 (0,0))∈ML/\(ms,Obj.map ess cks)∈ML/\Ck K2 ess cks lms/\(∀p∈lms,KD p.1)/\(mj,Obj.map esj ckj)∈ML/\Ck (fun n:Int=>Value.int .i64 n) esj ckj lmj/\
  (∀a b,UU ML ((Dq (a,b) lms).getD (.slice none 0 0)) (sc a b))/\(∀t,wT ML ((Dq t lmj).getD (.slice none 0 0)) (jn t))
 asc:∀a b,(sc a b).Pairwise fun x y=>x.lo<=y.lo
 len:∀a b,(sc a b).length<=1000000
def IU(sc:Int->Int->List IvM)(t:Int)(r:AU)(n:Nat):List Int:=(List.range n).flatMap fun col=>Iq (Dh r col) (sc t (col:Int))
def NL(sc:Int->Int->List IvM)(jn:Int->List Int)(c:Chg):List Int:=((FN c).flatMap fun r=>IU sc c.t r 4)++jn c.t
theorem SH(sc:Int->Int->List IvM)(t:Int)(r:AU)(n:Nat):IU sc t r (n+1)=IU sc t r n++Iq (Dh r n) (sc t (n:Int)):=by
 unfold IU;rw [kA,PB];simp
theorem qm(sc:Int->Int->List IvM)(t:Int)(r:AU)(h:n<4):∃post,IU sc t r 4=IU sc t r n++Iq (Dh r n) (sc t (n:Int))++post:=by
 rcases (by omega:n=0\/n=1\/n=2\/n=3)with rfl|rfl|rfl|rfl<;>simp only [SH,Cd]<;>first|exact ⟨_,rfl⟩|(refine ⟨[],?_⟩;simp)
variable{sc:Int->Int->List IvM}{jn:Int->List Int}{c:Chg}
theorem fu{pre post:List AU}{x:AU}(h:FN c=pre++x::post)(J:n<4){B m:List Int}{id:Int}(h2:Iq (Dh x n) (sc c.t (n:Int))=B++id::m):
 ∃G,NL sc jn c=((pre.flatMap fun r=>IU sc c.t r 4)++IU sc c.t x n++B)++id::G:=by
 obtain ⟨K,I⟩:=qm sc c.t x J;unfold NL;rw [h,PB,HW,I,h2];exact ⟨m++K++(post.flatMap fun r=>IU sc c.t r 4)++jn c.t,by simp⟩
theorem Xp(v:A4)(x:Int)(B:v.oneCell'=true):BS prog 157 #[v,I0 x] [] (fun r H'=>∃bl m,r= .func (.func 214) #[] #[I1 bl,I1 m]/\H'=[[(bl,.cells #[v] 278 (0,0))],[(m,.cells #[I0 x] 3 (0,0))]]):=by
 refine Se func157 ntmps157 [0,1] ?_;intro u R;refine A1<|Ze (F8 Y (cs:=#[v]) (by cases v<;>first|rfl|simp [Value.oneCell']at B))<|AG fun bl=>Ze (Bx #[_])<|AG fun m=>A5 Y<|A1<|Zv (Bf (vs:=[]) (us:=[_,_]) Y Y)<|A5 Y<|AJ<|AP V results157 Y (by exact ⟨bl,m,V,V⟩)
theorem nA(lp:Nat)(c:Chg):BS prog 100 #[I1 lp,.agg c.A93] [] (fun r H'=>∃bl m,r= .func (.func 155) #[] #[I1 m,I1 bl]/\H'=[[(bl,.cells #[I1 lp] 163 (0,0))],[(m,.cells c.A93 74 (0,0))]]):=by
 refine Se func100 ntmps100 [0,1] ?_;intro u R;refine A1<|Ze (Bx #[_])<|AG fun bl=>Ze (F8 Y (cs:=c.A93) AF)<|AG fun m=>A5 Y<|A1<|Zv (Bf (vs:=[]) (us:=[_,_]) Y Y)<|A5 Y<|AJ<|AP V results100 Y (by exact ⟨bl,m,V,V⟩)
variable{lp:Nat}{ML:List A9}
theorem nC(hL:PZ sc jn lp ML)(c:Chg)(o8:∀r∈FN c,∀n:Nat,n<4->-1000000000000<=Dh r n/\Dh r n<=1000000000000)(o9:-9223372036854775808<=c.t/\c.t<=9223372036854775807)(vo:(jn c.t).length<=1000000)(bc bl:Nat):Eh prog 155 #[I1 bc,I1 bl] [[(bc,.cells c.A93 74 (0,0))],[(bl,.cells #[I1 lp] 163 (0,0))]] (fun s=>∀x∈ML,x∈s) (fun i:Int=>#[I0 i]) (NL sc jn c):=by
 have vz:=mL;obtain ⟨ms,sO,sJ,y5,mj,sM,sw,wz,ax,ql,ek,pq,qj,dn,af,p9⟩:=hL.ex;intro ly J hA hy s B;refine DT func155 V ntmps155 V ?_;intro u R;refine Zb [0,1,2] ?_;refine A1<|Ze (Bx #[_])<|AG fun by_=>A6<|Zq<|A1<|Zo Wh (Pa #[_,_,_,_,_,_,_,_,_,_] GP CA Y) ?_;refine Zc [_] Y call156 Y V (iO c) ?_;rintro _ _ ⟨_,⟨br,rfl,rfl⟩,rfl⟩;refine A6<|AR<|Zb [1,2,3,10] ?_;refine PX (H0:=_) (R:=_) (I:=(fun(pre:List AU) H=>∃s,J (pre.flatMap fun r=>IU sc c.t r 4) s/\H=[[(bc,.cells c.A93 74 (0,0))],[(bl,.cells #[I1 lp] 163 (0,0))],[(by_,.cells #[.func (.yield ly) #[] #[]] 86 (0,0))],s])) (E:=fun x e Hn=>∃bw,e=[(4,I1 bw),(11,.agg x.A94)]/\Hn=[[(bw,.cells x.A94 80 (0,0))]]) V Y call213 (iP c br) (fun _ _ _ _ _=>trivial) Y V Wp (⟨s,B,V⟩) ?ha_2 ?hbd_2 ?hk_2
 case ha_2=>
  intro _ x _ _;refine Zg<|Ze (Al EV #[_,_,_,_,_])<|AG fun b2=>Xe (Xw B3 _) ?_;refine Z0<|Ku (e:=[(4,_),(11,_)]) (Hn:=[[(_,_)]]) ?_;exact ⟨_,V,V⟩
 case hbd_2=>
  intro l pre x post u e9 kv H1 R1 r9 K hI U;obtain ⟨bw,rfl,rfl⟩:=U;obtain ⟨s,B,rfl⟩:=hI;have j3:=K
  refine AR<|A1<|Zm Y<|A6<|AR<|Zb [12,1,2,3,4] ?_;refine BF (e0:=[(12,_)]) (fun m e H=>∃(n:Nat) (s:List A9),m=4 -n/\(n<=4/\J ((pre.flatMap fun r=>IU sc c.t r 4)++IU sc c.t x n) s)/\e=[(12,I0 (n:Int))]/\H=[s]) (by exact ⟨0,s,rfl,⟨by decide,by rw [show IU sc c.t x 0=[] from rfl,DA];exact B⟩,rfl,rfl⟩) Wp ?_;rintro _ _ _ ⟨n,s,rfl,⟨wo,B⟩,rfl,rfl⟩;refine A1<|Zv (Ay (n:=4) Y Y)<|A6<|Zq<|Av Y (fun q9=>?_) (fun q9=>?_);·
   have ic:=hA _ s B;have cu:=ic _ ax
   have gm:=ic _ ql;obtain ⟨pv,cv,gq,_,_⟩:=af c.t (n:Int);have qz:x∈FN c:=by rw [K];simp
   have qx:=o8 x qz n A0;have pg:KD (c.t,(n:Int)):=⟨V7 o9,V7 A0⟩
   have cO:n<4:=by omega
   refine AC<|Zx<|Zq<|AR<|A1<|Zm Y<|A5 Y<|Zq<|Aw (n:=13) (0::1::3::7::0::16::0::112::255::0::0::1536::4095::[]) 6144 AF AF V<|BE 0 V isAgg163 Y ?_;refine A3 1 V (Ak Y V)<|A3 2 V (AA (off:=0) gh V rfl sizeOf269 Y)<|CV (D':=15) 3 V rfl V (Dy Wo (cu)) (BD isAgg269 Y Ax) ?_;refine A3 4 V (AA (off:=0) C3 V rfl AE Y)<|BE 5 V AH Y ?_;refine A3 6 V (AO Y)<|A3 7 V (BM (vs:=[(0,_),(1,_)]) (cs:=#[_,_]) Y (AZ (pl:=#[(0,1),(1,1)]) lO ia (fun _=>by kernel_rfl) V))<|CV (D':=511) 8 V rfl V (Dy Wo (gm)) (Dp Sw underlying269 zeroValue278 ek pq (pg) (gq) Y Y) ?_;refine FF 9 V Wh (AB (cs:=#[_,_,_,_,_]) Cp B3 Y B5 Ax) ?_;refine A3 10 V (AO Y)<|Zz (l:=[11])<|B7 [false,true,true,true,true] [(8,(_,_)),(5,(_,_)),(3,(_,_)),(0,(_,_))] V rfl (Zu [_,_] Y RM Y V (OZ x n A0)) ?_ (fun _ _ h=>h.elim) Ah;rintro _ _ ⟨rfl,rfl⟩;refine ⟨Ey (by simp [*]) (Zk (Ey (by simp [*]) (Zk (AY)))),?_⟩;refine Zz (l:=[12])<|B7 [false,false,false,false] [] V rfl (Zw [_,_] Y call157 Y V (Xp (.slice pv (sc c.t (n:Int)).length cv) (Dh x n) V)) ?_ Bp Ah;rintro _ _ ⟨_,⟨l5,l8,rfl,rfl⟩,rfl⟩;refine Bk<|Ag<|Zn [1,2,3,4,12,27] ?_;refine Zx<|AR<|Zb [1,2,3,4,12,27] ?_;refine iy (H0:=_) (R:=_) (I:=(fun(O:List Int) H=>∃s,J ((pre.flatMap fun r=>IU sc c.t r 4)++IU sc c.t x n++O) s/\H=[[(by_,.cells #[.func (.yield ly) #[] #[]] 86 (0,0))],s])) (E:=fun x e Hn=>e=[(6,I0 x),(28,I0 x)]/\Hn=[]) rfl Wh Y call214 (Xq (gq▸af c.t (n:Int)) (hL.len _ _) (hL.asc _ _) (Dh x n) qx l5 l8) (by rintro O _ c9 ⟨s,h1,rfl⟩;intro q hq;have:=hA _ s h1 q hq;simp [this]) Y rfl Wp (⟨s,by simpa using B,rfl⟩) ?ha_7 ?hbd_7 ?hk_7
   case ha_7=>
    intro _ x _ _;refine Zg<|AW Y<|Ku (e:=[(6,_),(28,_)]) (Hn:=[]) ?_;exact ⟨V,V⟩
   case hbd_7=>
    intro l pre x post u e9 kv H1 R1 r9 K hI U;obtain ⟨rfl,rfl⟩:=U;obtain ⟨s,B,rfl⟩:=hI;obtain ⟨sj,qo⟩:=fu (jn:=jn) j3 cO K;have Z:=hy _ _ _ s qo B
    refine AR<|A1<|Zl isAgg86 Y ?_;refine Zm Y<|Ze (Ff (vs:=[_]) Y Y (Z) Wp) ?_;rintro _ _ ⟨_,⟨s',rfl,rfl,X⟩,rfl⟩;refine Zv (Br Y)<|A6<|AQ Y (fun hb=>by cases hb)<|fun hb=>AC<|A8<|Ei rfl (by exact ⟨s',by rw [<-Cd];exact X,rfl⟩)
   intro H2 W;obtain ⟨s,B,rfl⟩:=W;refine Zn [1,2,3,4,12] ?_;refine A8<|A8<|Zx<|Zg<|Ya (n:=1) Y Y<|Zm Y<|Z0<|Zn [12,1,2,3,4] ?_;refine Aa (e':=[(12,_)]) (by exact ⟨n+1,s,rfl,⟨by omega,by rw [SH,<-Cd];exact B⟩,rfl,rfl⟩)
  obtain rfl:n=4:=by omega
  refine Az<|Zt<|Zt<|AV<|A8<|Ei rfl (by exact ⟨s,by rw [PB,oA];exact B,rfl⟩)
 intro D1 H2 W;obtain ⟨s,B,rfl⟩:=W;refine Zn [1,2,3] ?_;refine A8<|Zx<|Zq ?_;have gy:=hA _ s B
 have bn:=gy _ ax;have d9:=gy _ qj
 obtain ⟨pj,cj,qw,⟨vw,ve⟩,p8⟩:=p9 c.t;refine Aw (n:=9) (0::1::3::7::0::16::63::127::0::[]) 0 AF AF V<|BE 0 V isAgg163 Y ?_;refine A3 1 V (Ak Y V)<|A3 2 V (AA (off:=1) gh V rfl sizeOf270 Y)<|CV (D':=15) 3 V rfl V (Dy Wo (bn)) (BD isAgg270 Y Ax) ?_;refine A3 4 V (AA (off:=0) C3 V rfl AE Y)<|BE 5 V AH Y ?_;refine CV (D':=127) 6 V rfl V (Dy Wo (d9)) (Dp (Cf DE (D:=fun _=>True)) underlying270 zeroValue28 dn (fun _ _=>trivial) (trivial) (qw) Y Y) ?_;refine A3 7 V (Ab DG Y)<|A3 8 V (AO Y)<|Ag<|Zx<|AR<|Zb [42,3,40,41] ?_;refine BF (e0:=[(42,_)]) (fun m e H=>∃(k:Nat) (s:List A9),m=(jn c.t).length -k/\(k<=(jn c.t).length/\J ((FN c).flatMap (fun r=>IU sc c.t r 4)++(jn c.t).take k) s)/\e=[(42,I0 (k:Int))]/\H=[s]) (by exact ⟨0,s,V,⟨C7 _,by simpa using B⟩,V,V⟩) Wp ?_;rintro _ _ _ ⟨k,s,rfl,⟨hk,B⟩,rfl,rfl⟩;refine A1<|Zv (Ay Y Y)<|A6<|Zq<|Av Y (fun pz=>?_) (fun pz=>?_);·
  obtain ⟨j5,G⟩:∃x,(jn c.t)[k]?=some x:=⟨_,BT A0⟩;obtain ⟨g,off,cur,T,zz,rfl,qb,l9⟩:=p8 k j5 G;have qa:=hA _ s B _ qb
  have Z:=hy _ _ _ s (show NL sc jn c=((FN c).flatMap (fun r=>IU sc c.t r 4)++(jn c.t).take k)++j5::(jn c.t).drop (k+1) by unfold NL;rw [Cd,<-K6 G]) B;refine AC<|Zx<|Zq<|AR<|A1<|BZ (CG DG AE Y Y de)<|CS (IZ Wo (qa)) (BD AH Y l9) rfl rfl ?_;refine A5 Y<|A1<|Zl isAgg86 Y ?_;refine Zm Y<|Ze (Ff (vs:=[_]) Y Y (Z) Wp) ?_;rintro _ _ ⟨_,⟨s',rfl,rfl,X⟩,rfl⟩;refine Zv (Br Y)<|A6<|AQ Y (fun hb=>by cases hb)<|fun hb=>AC<|A8<|Zx<|Zg<|Ya (n:=1) Y Y<|Zm Y<|Z0<|Zn [42,3,40,41] ?_;refine Aa (e':=[(42,_)]) (by exact ⟨k+1,s',rfl,⟨by omega,by rw [Bl G,<-Cd];exact X⟩,rfl,rfl⟩)
 obtain rfl:k=(jn c.t).length:=by omega
 rw [GC]at B;refine Az<|Zt<|Zt<|AV<|Fw V (nh results155) Wo (by exact ⟨s,V,B⟩)
theorem aF(h:l[i]?=some x):((CJ l).drop (i*4)).take 4=[I0 x.lo,I0 x.hi,I0 x.rc,I0 x.id]:=by
 induction l generalizing i with
 |nil=>simp at h
 |cons a l ih=>
  cases i with
  |zero=>simp at h;subst h;rfl
  |succ i=>
   have m:l[i]?=some x:=by simpa using h
   rw [show(i+1)*4=i*4+4 by omega];exact ih m
theorem aB{s:List A9}(h:Bc 4 277 v l.length (CJ l) s)(U:∀c∈s,c∈M):UU M v l:=by
 rcases h with⟨_,⟨rfl,h0,_⟩|⟨g,cap,cur,z,rfl,rfl,G,J,K,I,O⟩⟩
 · have m:=Lz h0
   subst m;exact ⟨none,0,V,⟨C7 _,CT _⟩,fun i x B=>by simp at B⟩
 · refine ⟨_,cap,rfl,⟨by omega,G⟩,fun i x B=>?_⟩
   have hi:=(C4.1 B).1;refine ⟨g,0,cur,_,z,V,U _ (C5.2 V),by omega,?_⟩;have m:=aF B
   rw [<-I,fp,V2]at m;apply HX.1;rw [Array.toList_extract,rn,D4,show i*4+4 -i*4=4 by omega];rw [show min 4 (l.length*4 -i*4)=4 by omega]at m;exact m
theorem aP{l:List Int}{s:List A9}(h:Bc 1 3 v l.length (l.map fun i=>Value.int .i64 i) s)(U:∀c∈s,c∈M):wT M v l:=by
 rcases h with⟨_,⟨rfl,h0,_⟩|⟨g,cap,cur,z,rfl,rfl,G,J,K,I,O⟩⟩
 · have m:=Lz h0
   subst m;exact ⟨none,0,V,⟨C7 _,CT _⟩,fun i x B=>by simp at B⟩
 · refine ⟨_,cap,rfl,⟨by omega,G⟩,fun i x B=>?_⟩
   have hi:=(C4.1 B).1;refine ⟨g,0,cur,_,z,V,U _ (C5.2 V),?_⟩;have m:(l.map fun i=>Value.int .i64 i)[i]?=some (I0 x):=by rw [DQ,B];rfl
   rw [<-I,HH,As A0]at m;simpa using m
structure JQ(qs:List (Int×QM))(sc:Int->Int->List IvM)(jn:Int->List Int):Prop where
 scan:∀a b v i,i∈Iq v (sc a b)↔∃x∈qs,x.1=i/\plQ x=(a,b)/\x.2.lo<=v/\v<=x.2.hi
 join:∀t i,i∈jn t↔∃x∈qs,x.1=i/\x.2.kd=7/\x.2.ot=t
 small:∀t,(jn t).length<=1000000
theorem tW{x y:Int×QM}(h:(x.1,(.agg #[I0 x.2.kd,I0 x.2.tb,I0 x.2.cl,I0 x.2.lo,I0 x.2.hi,I0 x.2.bq,I0 x.2.ot]:A4))=(y.1,(.agg #[I0 y.2.kd,I0 y.2.tb,I0 y.2.cl,I0 y.2.lo,I0 y.2.hi,I0 y.2.bq,I0 y.2.ot]:A4))):x=y:=by
 obtain ⟨a,q⟩:=x;obtain ⟨b,r⟩:=y;obtain ⟨m,q2,B,G,I,J,K⟩:=q;obtain ⟨O,U,W,X,Z,r6,r7⟩:=r;simp at h;simp [h]
variable{qs:List (Int×QM)}{es:Array MapEntry}{ck:Nat}
theorem qh(m:Eo qs es ck lm)(I:cB lm js vs)(J:(DU lm js).Perm lm)(x:Int×QM):x∈vs↔x∈qs:=by
 rw [I.2];constructor
 · rintro ⟨j,_,G⟩
   obtain ⟨y,O,B⟩:=(m.mem _).1 (DO G);rw [tW B];exact O
 · intro K
   have h:=J.mem_iff.2 ((m.mem _).2 ⟨x,K,rfl⟩);obtain ⟨j,G,B⟩:=cA.1 h;exact ⟨j,G,B⟩
theorem nG{κ:Type} [DecidableEq κ]{l m:List (κ×A4)}(J:(l.map (·.1)).Nodup)(K:(m.map (·.1)).Nodup)(h:∀p,p∈l↔p∈m)(k:κ):Dq k l=Dq k m:=by
 by_cases G:∃v,(k,v)∈l
 · obtain ⟨v,hv⟩:=G
   rw [D8 J hv,D8 K ((h _).1 hv)]
 · rw [DX (l:=l) fun p I B=>G ⟨p.2,by rw [<-B];exact I⟩,DX (l:=m) fun p I B=>G ⟨p.2,by rw [<-B];exact (h p).2 I⟩]
theorem om(h:R9 o l)(v i:Int):i∈Iq v l↔∃x∈o,x.lo<=v/\v<=x.hi/\x.id=i:=by
 obtain ⟨o',I,W,m,U⟩:=h;rw [ow (ZW m W) U];constructor
 · rintro ⟨x,B,K,h2,O⟩
   obtain ⟨y,G,e1,e2,J⟩:=(ZV (a:=x.lo) (b:=x.hi) (i:=x.id) m).1 ⟨x,B,rfl,rfl,rfl⟩;exact ⟨y,I.mem_iff.1 G,by omega,by omega,by omega⟩
 · rintro ⟨x,B,K,h2,O⟩
   obtain ⟨y,G,e1,e2,J⟩:=(ZV (a:=x.lo) (b:=x.hi) (i:=x.id) m).2 ⟨x,I.mem_iff.2 B,rfl,rfl,rfl⟩;exact ⟨y,G,by omega,by omega,by omega⟩
theorem oo(h:R9 o l):l.length=o.length:=by
 obtain ⟨o',G,J,B,I⟩:=h;have m:=congrArg List.length B
 rw [B6,B6]at m;rw [m];exact G.length_eq
theorem gG(l8:Eo qs es ck lm)(o9:js.length<=1000000)(X:cB lm js vs)(gy:(DU lm js).Perm lm)
 {ek:List A9}(cO:(lmA.map (·.1)).Nodup)(j3:wU vs lmA ek){O:Array MapEntry}{J:Nat}{af:List (Int×A4)}{MJ:List A9}(l5:Ck (fun n:Int=>Value.int .i64 n) O J af)(j5:dA vs af MJ)
 {U:Array MapEntry}{K:Nat}{m:List ((Int×Int)×A4)}{MS:List A9}(d9:Ck K2 U K m)(gm:∀p∈lmA,KD p.1)(gq:∀p,p∈m↔∃k∈ks,lmA[k]?=some p)
 (ax:UW 4 277 lmA (fun k=>(g k).length) (fun k=>CJ (g k)) MS)(kv:∀j p,lmA[j]?=some p->if j∈ks then R9 (Ej vs p.1) (g p.1)else g p.1=Ej vs p.1)(ic:(DU lmA ks).Perm lmA)
 {mz mj:Nat}(h1:(lp,Obj.cells #[.map (some mz),.map (some mj)] 272 (0,0))∈ML)(h2:(mz,Obj.map U K)∈ML)(h3:(mj,Obj.map O J)∈ML)(h4:∀c∈MS,c∈ML)(h5:∀c∈MJ,c∈ML):
 PZ (fun a b=>g (a,b)) (FV vs) lp ML/\JQ qs (fun a b=>g (a,b)) (FV vs):=by
 have hv:=qh l8 X gy;have cu:∀j p,lmA[j]?=some p->j∈ks:=fun j p hj=>by
  obtain ⟨i,hi,he⟩:=cA.1 (ic.mem_iff.2 (DO hj));obtain rfl:=LK cO he hj rfl;exact hi
 have hS:∀p,p∈m↔p∈lmA:=fun p=>by
  rw [gq];constructor;· rintro ⟨k,_,hk⟩;exact DO hk
  · intro B
    obtain ⟨i,hi⟩:=HB B;exact ⟨i,cu i p hi,hi⟩
 have bn:∀k,Dq k m=Dq k lmA:=nG d9.keys cO hS;have hD:∀k,R9 (Ej vs k) (g k):=fun k=>by
  by_cases hk:∃v,(k,v)∈lmA
  · obtain ⟨v,o8⟩:=hk
    obtain ⟨i,hi⟩:=HB o8;have h:=kv i _ hi
    rw [As (cu i _ hi)]at h;exact h
  · have hn:Dq k lmA=none:=DX fun p B he=>hk ⟨p.2,by rw [<-he];exact B⟩
    obtain ⟨s,W,_⟩:=ax.row k;obtain ⟨s',dn,_⟩:=j3.row k;rw [hn]at W dn;have e1:(g k).length=0:=by
     rcases W with⟨_,⟨_,h,_⟩|⟨g9,cap,cur,z,h,_⟩⟩
     · exact h
     · simp at h
    have e2:(Ej vs k).length=0:=by
     rcases dn with⟨_,⟨_,h,_⟩|⟨g9,cap,cur,z,h,_⟩⟩
     · exact h
     · simp at h
    rw [Lz e1,Lz e2];exact ⟨[],.refl _,.nil,V,fun j k x y _ h=>absurd h (fm k)⟩
 refine ⟨⟨⟨mz,U,K,m,mj,O,J,af,h1,h2,d9,fun p B=>gm p ((hS p).1 B),h3,l5,fun a b=>?_,fun t=>?_⟩,fun a b=>?_,fun a b=>?_⟩,⟨fun a b v i=>?_,fun t i=>?_,fun t=>?_⟩⟩
 · obtain ⟨s,W,hs⟩:=ax.row (a,b)
   rw [bn];exact aB W fun c hc=>h4 c (hs c hc)
 · obtain ⟨s,W,hs⟩:=j5.row t
   exact aP W fun c hc=>h5 c (hs c hc)
 · obtain ⟨o',B,l9,hk,W⟩:=hD (a,b)
   exact ZW hk l9
 · have:=oo (hD (a,b))
   have:=Ti vs (a,b);have:=X.1
   show(g (a,b)).length<=1000000;omega
 · rw [om (hD (a,b))]
   unfold Ej;simp only [C6,FG,G4];constructor
   · rintro ⟨_,⟨x,⟨Z,B⟩,rfl⟩,G,I,a3⟩
     exact ⟨x,(hv x).1 Z,a3,B,G,I⟩
   · rintro ⟨x,Z,a3,B,G,I⟩
     exact ⟨_,⟨x,⟨(hv x).2 Z,B⟩,V⟩,G,I,a3⟩
 · unfold FV
   simp only [C6,FG,G4];constructor
   · rintro ⟨x,⟨Z,G,I⟩,rfl⟩
     exact ⟨x,(hv x).1 Z,V,G,I⟩
   · rintro ⟨x,Z,rfl,G,I⟩
     exact ⟨x,⟨(hv x).2 Z,G,I⟩,V⟩
 · have:=aQ vs t
   have:=X.1;omega
variable{mp ip:Nat}
theorem nK(W:Eo qs es ck lm)(hq:∀x∈qs,BI x.2)(hl:qs.length<=500):BS prog 99 #[I1 ip] [[(ip,.cells #[.map (some mp),.pointer none] 165 (0,0))],[(mp,.map es ck)]] (fun r H'=>∃lp ML sc jn,r=I1 lp/\PZ sc jn lp ML/\JQ qs sc jn/\H'=[[(ip,.cells #[.map (some mp),I1 lp] 165 (0,0))],[(mp,.map es ck)],ML]):=by
 have hml:=mL;have hll:=W.len
 refine Se func99 ntmps99 [0] ?_;intro u R;refine A1<|A5 Y<|Zq<|A1<|Zm Y<|Zp Y V<|Zh 1 RE V rfl ab Y<|Zl isAgg163 Y ?_;refine Zv (NK underlying163 Y Y)<|A6<|AQ Y (fun hb=>by cases hb)<|fun hb=>AC<|Zx<|A1<|Ze (DV)<|AG fun ma=>A5 Y<|A1<|Ze (DV)<|AG fun mz=>Ze (DV)<|AG fun mj=>Zv (BM (vs:=[(0,_),(1,_)]) (cs:=#[_,_]) Y (AZ (pl:=#[(0,1),(1,1)]) zeroValue272 gh (fun _=>by kernel_rfl) V))<|Ze (Bx #[_,_])<|AG fun lp=>AW Y<|Zn [0,3,4] ?_;refine Zx<|Zq<|A1<|Zm Y<|Zp Y V<|Zh 0 RE V rfl db Y<|Zl dd Y ?_;refine Ze (Kc eK Y Wh)<|AG fun ib=>A6<|AR<|Be<|Be<|Be<|Zb [0,3,4,32] ?_;refine BF (e0:=[]) (fun m e H=>∃(js:List Nat) (seen:Array Nat) (vs:List (Int×QM)) (Z:Array MapEntry) (U:Nat) (lmA:List ((Int×Int)×A4)) (J:Array MapEntry) (G:Nat) (j5:List (Int×A4)) (X MJ MK:List A9),m=lm.length -js.length/\(Ig es js seen/\cB lm js vs/\Ck K2 Z U lmA/\(∀p∈lmA,KD p.1)/\wU vs lmA X/\Ck (fun n:Int=>Value.int .i64 n) J G j5/\dA vs j5 (MJ++MK))/\e=[]/\H=[[(ib,.mapIter (some mp) ck seen ck)],[(ma,.map Z U)],[(mj,.map J G)],X,MJ,MK]) (by exact ⟨[],#[],[],#[],0,[],#[],0,[],[],[],[],V,⟨JC _,⟨V,fun x=>by simp⟩,EZ _,fun p hp=>by simp at hp,ak _ _,EZ _,ak _ _⟩,V,V⟩) Wp ?_;rintro _ _ _ ⟨js,seen,vs,Z,U,lmA,J,G,j5,X,MJ,MK,rfl,⟨gm,gy,B,d9,p9,dn,pg⟩,rfl,rfl⟩;have Gl:=EY es.size js gm.nodup gm.lt
 rw [W.map.size]at Gl;refine A1<|Ze (MZ W.map gm Y Wo Wh) ?_;rintro _ _ qb;rcases qb with⟨af,rfl,rfl⟩|⟨jn,pn,seen2,hpn,hjn,hi2,rfl,rfl⟩
 ·
  have zu:=af;have l8:=gm
  refine Zd Y V<|A6<|Zq<|AQ Y (fun hb=>by cases hb)<|fun hb=>Az<|Zt<|Zt<|AV<|Zx<|Zq<|A1<|Zm Y<|Ze (Kc underlying268 Y Wh)<|AG fun ic=>A6<|AR<|Be<|Zb [0,4,79] ?_;refine BF (e0:=[]) (fun m e H=>∃(ks:List Nat) (seen:Array Nat) (g:Int×Int->List IvM) (K:Array MapEntry) (I:Nat) (kv:List ((Int×Int)×A4)) (X MB:List A9),m=lmA.length -ks.length/\(Ig Z ks seen/\Ck K2 K I kv/\(∀p,p∈kv↔∃k∈ks,lmA[k]?=some p)/\UW 4 277 lmA (fun k=>(g k).length) (fun k=>CJ (g k)) (X++MB)/\(∀j p,lmA[j]?=some p->if j∈ks then R9 (Ej vs p.1) (g p.1)else g p.1=Ej vs p.1))/\e=[]/\H=[[(ic,.mapIter (some ma) U seen U)],[(mz,.map K I)],X,MB]) (by exact ⟨[],#[],Ej vs,#[],0,[],X,[],rfl,⟨JC _,EZ _,fun p=>by simp,by rw [DA];exact p9,fun j p _=>by simp⟩,rfl,rfl⟩) Wp ?_;rintro _ _ _ ⟨ks,seen,g,K,I,kv,X,MB,rfl,⟨cO,vw,p8,sw,pq⟩,rfl,rfl⟩;have HZ:=EY Z.size ks cO.nodup cO.lt
  rw [B.size]at HZ;refine A1<|Ze (MZ B cO Y Wo Wh) ?_;rintro _ _ qb;rcases qb with⟨af,rfl,rfl⟩|⟨jn,pn,seen2,hpn,hjn,hi2,rfl,rfl⟩
  ·
   refine Zd Y V<|A6<|Zq<|AQ Y (fun hb=>by cases hb)<|fun hb=>Az<|Zt<|Zt<|AV<|Zx<|Zq<|Cb (s1:=[(lp,Obj.cells #[.map (some mz),.map (some mj)] 272 (0,0))]) (s2:=[(mz,Obj.map K I)]) Wo Wo ?_;refine Cb (s1:=([(lp,Obj.cells #[.map (some mz),.map (some mj)] 272 (0,0))]++[(mz,Obj.map K I)])) (s2:=[(mj,Obj.map J G)]) Wo Wo ?_;refine Cb (s1:=(([(lp,Obj.cells #[.map (some mz),.map (some mj)] 272 (0,0))]++[(mz,Obj.map K I)])++[(mj,Obj.map J G)])) (s2:=X) Wo Wo ?_;refine Cb (s1:=((([(lp,Obj.cells #[.map (some mz),.map (some mj)] 272 (0,0))]++[(mz,Obj.map K I)])++[(mj,Obj.map J G)])++X)) (s2:=MB) Wo Wo ?_;refine Cb (s1:=(((([(lp,Obj.cells #[.map (some mz),.map (some mj)] 272 (0,0))]++[(mz,Obj.map K I)])++[(mj,Obj.map J G)])++X)++MB)) (s2:=MJ) Wo Wo ?_;refine Cb (s1:=((((([(lp,Obj.cells #[.map (some mz),.map (some mj)] 272 (0,0))]++[(mz,Obj.map K I)])++[(mj,Obj.map J G)])++X)++MB)++MJ)) (s2:=MK) Wo Wo ?_;refine Zg<|Zm Y<|Zm Y<|Zp Y V<|Zh 1 RE V rfl ab Y<|Xe (Zs ab Y Y V) ?_;refine A6<|A1<|Zm Y<|A5 Y<|AJ<|AP V results99 Y (by
    have Gw:=EY es.size js l8.nodup l8.lt;rw [W.map.size]at Gw;obtain ⟨zl,zm⟩:=gG W A0 gy zu B.keys p9 dn pg vw d9 p8 sw pq af (lp:=lp) (mz:=mz) (mj:=mj) (ML:=(((((([(lp,Obj.cells #[.map (some mz),.map (some mj)] 272 (0,0))]++[(mz,Obj.map K I)])++[(mj,Obj.map J G)])++X)++MB)++MJ)++MK)) B4 B4 B4 (fun c hc=>by simp only [C2]at hc⊢;rcases hc with hc|hc<;>simp [hc]) (fun c hc=>by simp only [C2]at hc⊢;rcases hc with hc|hc<;>simp [hc]);exact ⟨lp,_,_,_,V,zl,zm,V⟩)
  refine Zd Y V<|A6<|Zq<|AQ Y (fun hb=>?_) (fun hb=>?_);·
   have ve:=EY Z.size (ks++[jn]) hi2.nodup hi2.lt;rw [B.size,BW,F2]at ve;have Mx:(ks++[jn]).length=ks.length+1:=by rw [BW];rfl
   refine AC<|Zx<|AR<|A1<|CS (cs:=[(ic,.mapIter (some ma) U seen2 U),(ma,.map Z U)]) B4 (I5 B hi2 hpn Y) V rfl ?_;refine Zd Y V<|Zd Y V<|Ze (Al lO #[_,_])<|AG fun kb=>Xe (Xw sizeOf274 #[I0 pn.1.1,I0 pn.1.2]) ?_;refine AW Y<|Zx ?_;have zy:g pn.1=Ej vs pn.1:=by have h:=pq jn pn hpn;rwa [An hjn]at h
   have E9:(g pn.1).length<=1000000:=by rw [zy];have:=Ti vs pn.1;have:=gy.1;omega
   have Hf:∀p∈kv,KD p.1:=fun p hp=>by
    obtain ⟨k,_,hk⟩:=(p8 p).1 hp;exact d9 p (DO hk)
   have KS:KD pn.1:=d9 pn (DO hpn);obtain ⟨sA,cu,O,ax,ek⟩:=QQ B.keys sw pn.1;rw [D8 B.keys (DO hpn)]at O;refine Cb (s1:=X) (s2:=MB) Wo Wo ?_;refine UK (M:=X++MB) Wo ax ?_;refine Aw (n:=8) (0::1::3::7::0::0::32::127::[]) 192 AF AF V<|A3 0 V (AO Y)<|A3 1 V (Ak Y V)<|A3 2 V (AA (off:=0) gh V rfl sizeOf269 Y)<|BE 3 V isAgg269 Y ?_;refine FF 4 V Wh (AB (cs:=#[_,_]) isAgg274 sizeOf274 Y Wn (BO V)) ?_;refine A3 5 V (AO Y)<|Zz (l:=[6])<|B7 [true,true] [(4,(_,_)),(3,(_,_))] V rfl (Zw [_] Y call154 Y V (fe _ (g pn.1) sA E9 O)) ?_ Bp Ah;rintro _ _ ⟨_,⟨rfl,s2,l2,o2,P5,P7,LD,yt,P6,rfl⟩,rfl⟩;refine Bk<|Yw 7 255 V (FJ Sw underlying269 vw Hf (KS) Y Y Y Wo) ?_;rintro _ _ ⟨rfl,zi,zb,Pn,ME,MP,rfl⟩;refine Ag<|Zn [0,4,79] ?_;refine A8<|Zn [0,4,79] ?_;refine Aa (e':=[]) (by exact ⟨ks++[jn],seen2,fun k=>if k=pn.1 then l2 else g k,zi,zb,Pn,s2,cu,V,⟨hi2,ME,df B.keys hpn hjn p8 MP,yn (ek pn.2 s2 _ _ lmA B.keys (nI B.keys hpn) P6),iK B.keys hpn hjn pq ⟨o2,P5,P7,LD,yt⟩⟩,V,V⟩)
  cases hb
 obtain ⟨x,hx,rfl⟩:=(W.mem pn).1 (DO hpn);have qw:=hq x hx
 refine Zd Y V<|A6<|Zq<|AQ Y (fun hb=>?_) (fun hb=>?_);·
  have sM:=EY es.size (js++[jn]) hi2.nodup hi2.lt;rw [W.map.size,BW,F2]at sM;have Mx:(js++[jn]).length=js.length+1:=by rw [BW];rfl
  have hvj:=gy.1;have Y2:=Ti vs (plQ x)
  have Ty:=aQ vs x.2.ot;have o9:=dh gy hpn
  refine AC<|Zx<|AR<|A1<|CS (cs:=[(ib,.mapIter (some mp) ck seen2 ck),(mp,.map es ck)]) B4 (I5 W.map hi2 hpn Y) V rfl ?_;refine Zd Y V<|Zd Y V<|Ze (Al N1 #[_,_,_,_,_,_,_])<|AG fun xb=>Za Y<|Xe (Xw CM #[I0 x.2.kd,I0 x.2.tb,I0 x.2.cl,I0 x.2.lo,I0 x.2.hi,I0 x.2.bq,I0 x.2.ot]) ?_;refine A6<|A1<|Zo Wh (AB (cs:=#[_,_,_,_,_,_,_]) F1 CM Y Wn (BO V)) ?_;refine Zc [_] Y call147 Y V (lM x.2 qw) ?_;rintro _ _ ⟨_,⟨rfl,rfl⟩,rfl⟩;refine Zm Y<|Zd Y V<|Zd Y V<|Zd Y V<|Zd Y V<|Za Y<|Za Y<|Za Y<|AW Y<|Zn [0,3,4,5,6,7,8,9,10,32] ?_;refine Zx<|A1<|Zm Y<|Zm Y<|Zv (BM (vs:=[(0,_),(1,_)]) (cs:=#[_,_]) Y (AZ (pl:=#[(0,1),(1,1)]) lO ia (fun _=>by kernel_rfl) V))<|Ze (Al lO #[_,_])<|AG fun pb=>Xe (BL sizeOf274 Y Y (by(simp [Value.oneCell',Value.cells];done)) Wu (by exact (rfl:_=(#[I0 x.2.tb,I0 x.2.cl]:AM))) Fi Wn (by exact BC _)) ?_;refine A6<|Zq ?_;obtain ⟨sA,cu,O,ax,ek⟩:=oP B.keys p9 x;obtain ⟨qo,Rl,y9⟩:=O.form;rw [y9]at O;have pz:KD (plQ x):=⟨V7 (by have:=qw.1;simp [plQ];omega),V7 (by have:=qw.2.1;simp [plQ];omega)⟩
  refine UK (M:=X) Wo ax ?_;refine Zg<|Zm Y<|Zo Wh (AB (cs:=#[_,_]) isAgg274 sizeOf274 Y Wn (BO V)) ?_;refine Zm Y<|Zm Y<|Zm Y<|Zv (BM (vs:=[(0,_),(1,_),(3,_)]) (cs:=#[_,_,_,_]) Y (AZ (pl:=#[(0,1),(1,1),(2,1),(3,1)]) zeroValue277 Z2 (fun _=>by kernel_rfl) V))<|Ze (Ai (vs:=[_]) (cs:=[_,_,_,_]) cH OS zeroValue277 Y V rfl V rfl V)<|AG fun gb=>Ze (Ke Sw underlying268 zeroValue275 B d9 (pz) (y9) Y Y Wo) ?_;rintro _ _ ⟨Tg,Tc,lm3,j3,st3,rfl,MC,FT,zt,wo,rfl⟩;refine Zd Y V<|Ze (BV (by_:=32) (sz:=4) cH (V:Tryz.prog.info? 277=some Tryz.t277) V rfl V rfl Y (O) Y (Db 4 gb 1 1 277 (0,0) [I0 (RG x).lo,I0 (RG x).hi,I0 (RG x).rc,I0 (RG x).id] V) Wo Wo G0 A0 A0) ?_;rintro _ _ ⟨qz,o8,rfl⟩;have vz:=Ba o8 (n':=(Ej vs (plQ x)++[RG x]).length) (xs':=CJ (Ej vs (plQ x)++[RG x])) (by rw [BW];rfl) (by rw [aG];rfl)
  obtain ⟨Tp,Ta,rfl⟩:=o8.form;refine Zd Y V<|Ze (Iu MC FT zt Y Y Y Wo) ?_;rintro _ _ ⟨rfl,sj,r9,qx,q9,wz,rfl⟩;refine Z0<|Zn [0,3,4,5,6,32] ?_;refine Zx<|Zq ?_;have sO:∀p∈qx,KD p.1:=fun p hp=>by
   rcases (wz p).1 hp with rfl|⟨h,_⟩
   · exact pz
   · rcases (wo p).1 h with rfl|⟨h,_⟩
     · exact pz
     · exact d9 p h
  have l5:=ek _ _ _ q9.keys (fun p=>by rw [wz,wo];exact OI _ _ _ _) vz;refine Cb (s1:=qz) (s2:=cu) Wo Wo ?_;refine Zg<|Zh 0 CI V rfl AE Y<|Zl AH Y ?_;refine Zv (CO Y Y)<|A6<|Av Y (fun h7=>?_) (fun h7=>?_);·
   obtain ⟨sJ,za,bn,gq,ql⟩:=oN dn.keys pg x h7;obtain ⟨qj,Qe,y5⟩:=bn.form;rw [y5]at bn;refine Cb (s1:=MJ) (s2:=MK) Wo Wo ?_;refine UK (M:=MJ++MK) Wo gq ?_;refine Aw (n:=17) (0::1::3::7::0::16::0::64::192::448::0::1024::4032::0::8192::32704::65535::[]) 114688 AF AF V<|A3 0 V (AO Y)<|A3 1 V (Ak Y V)<|A3 2 V (AA (off:=1) gh V rfl sizeOf270 Y)<|BE 3 V isAgg270 Y ?_;refine A3 4 V (AA (off:=6) CI V rfl AE Y)<|BE 5 V AH Y ?_;refine A3 6 V (AO Y)<|A3 7 V (Ak Y V)<|A3 8 V (AA (off:=1) gh V rfl sizeOf270 Y)<|BE 9 V isAgg270 Y ?_;refine A3 10 V (AA (off:=6) CI V rfl AE Y)<|BE 11 V AH Y ?_;refine FF 12 V Wh (Dp (Cf DE (D:=fun _=>True)) underlying270 zeroValue28 dn (fun _ _=>trivial) (trivial) (y5) Y Y) ?_;refine A3 13 V (AO Y)<|Zz (l:=[14])<|B7 [true,true,true,true,true] [(12,(_,_)),(11,(_,_)),(9,(_,_)),(5,(_,_)),(3,(_,_))] V rfl (Ai (vs:=[_]) (cs:=[_]) DG AE HI Y V rfl V rfl V) ?_ (fun _ _ h=>h.elim) Ah;rintro _ _ ⟨gj,rfl,rfl⟩;refine Bk<|Yz 15 32704 65535 [12,11,9,5,3] [false,false,false,true,true] [(5,(_,_)),(3,(_,_))] V Y V rfl V rfl (BV (by_:=8) (sz:=1) DG (V:Tryz.prog.info? 3=some Tryz.t3) V rfl V rfl Y (bn) Y (Db 1 gj 1 1 3 (0,0) [I0 x.1] V) Wo Wo G0 A0 A0) ?_;rintro _ _ ⟨Qd,l9,rfl⟩;refine ⟨Zk (Zk (AY)),?_⟩;have qa:=Ba l9 (n':=(FV vs x.2.ot++[x.1]).length) (xs':=(FV vs x.2.ot++[x.1]).map fun i=>Value.int .i64 i) (by rw [BW];rfl) (by rw [C0];rfl)
   obtain ⟨Tm,T9,rfl⟩:=l9.form;refine Yw 16 131071 V (FJ (Cf DE (D:=fun _=>True)) underlying270 dn (fun _ _=>trivial) (trivial) Y Y Y Wo) ?_;rintro _ _ ⟨rfl,zk,zf,Ps,vo,MS,rfl⟩;refine Ag<|Zn [0,3,4,32] ?_;refine A8<|Zn [0,3,4,32] ?_;refine Aa (e':=[]) (by exact ⟨js++[jn],seen2,vs++[x],sj,r9,qx,zk,zf,Ps,qz++cu,Qd,za,V,⟨hi2,o9,q9,sO,l5,vo,ql _ _ _ vo.keys MS qa⟩,V,V⟩)
  refine AC<|A8<|Zn [0,3,4,32] ?_;refine Aa (e':=[]) (by exact ⟨js++[jn],seen2,vs++[x],sj,r9,qx,J,G,j5,qz++cu,MJ,MK,V,⟨hi2,o9,q9,sO,l5,dn,oO pg x h7⟩,V,V⟩)
 cases hb
theorem nL:BS prog 99 #[I1 ip] [[(ip,.cells #[.map (some mp),I1 lp] 165 (0,0))]] (fun r H'=>r=I1 lp/\H'=[[(ip,.cells #[.map (some mp),I1 lp] 165 (0,0))]]):=by
 refine Se func99 ntmps99 [0] ?_;intro u R;refine A1<|A5 Y<|Zq<|A1<|Zm Y<|Zp Y V<|Zh 1 RE V rfl ab Y<|Zl isAgg163 Y<|Zv (NJ underlying163 Y Y)<|A6<|AQ Y (fun m=>?_) (fun m=>?_);·
  refine A1<|Zm Y<|Zp Y V<|Zh 1 RE V rfl ab Y<|Zl isAgg163 Y<|A5 Y<|AJ<|Zt<|AP V results99 Y (by exact ⟨V,V⟩)
 cases m
theorem I9{r:AU}:r∈FN c↔(c.had=true/\r=⟨c.t,c.k,c.o⟩)\/(c.has=true/\r=⟨c.t,c.k,c.n⟩):=by
 unfold FN Ii;rw [C2];cases c.had<;>cases c.has<;>simp
theorem Nb(h:c.ok){r:AU}(G:r∈FN c):r.ok:=by
 obtain ⟨_,h2,_,_⟩:=h;rcases I9.1 G with⟨m,rfl⟩|⟨m,rfl⟩
 · have e:c.before=⟨c.t,c.k,c.o⟩:=by unfold Chg.before;rw [As m]
   rw [e]at h2;exact aw fun B=>h2 (.inl ⟨m,B⟩)
 · have e:c.after=⟨c.t,c.k,c.n⟩:=by unfold Chg.after;rw [As m]
   rw [e]at h2;exact aw fun B=>h2 (.inr ⟨m,B⟩)
theorem dN(h:c.ok):∀r∈FN c,∀n:Nat,n<4->-1000000000000<=Dh r n/\Dh r n<=1000000000000:=fun r G n _=>by
 obtain ⟨⟨m,h2,B⟩,I,J⟩:=Nb h G;simp only [inV]at m h2 B;unfold Dh;split;· omega
 · split
   · omega
   · split<;>omega
theorem dQ(h:c.ok):0<=c.t/\c.t<=3:=by
 have h0:c.had=true\/c.has=true:=by
  obtain ⟨m,_⟩:=h;cases e1:c.had<;>cases e2:c.has<;>simp_all
 rcases h0 with h0|h0
 · exact (Nb h (I9.2 (.inl ⟨h0,rfl⟩))).2.1
 · exact (Nb h (I9.2 (.inr ⟨h0,rfl⟩))).2.1
theorem A00{q:QM}(h:O6 q c=true):∃r∈FN c,inQ q r=true:=by
 unfold O6 bfQ afQ I6 at h;rw [S6]at h;rcases h with h|h
 · split at h
   · rename_i h1
     rw [Fm]at h1;exact ⟨_,I9.2 (.inl ⟨h1.1,V⟩),h1.2⟩
   · cases h
 · split at h
   · rename_i h1
     rw [Fm]at h1;exact ⟨_,I9.2 (.inr ⟨h1.1,V⟩),h1.2⟩
   · cases h
theorem ky{q:QM}(G:BI q)(h:Cn q c=true):O6 q c=true\/(q.kd=7/\c.t=q.ot):=by
 have B:O6 q c=false->Um q c=false/\mQ q (bfQ q c)=mQ q (afQ q c):=fun h=>by
  unfold O6 at h;unfold Um;rw [ju]at h;obtain ⟨m,h2⟩:=h;rw [m,h2];rw [Option.isSome_eq_false_iff,Option.isNone_iff_eq_none]at m h2;rw [m,h2];exact ⟨rfl,rfl⟩
 cases ha:O6 q c with
 |true=>exact .inl rfl
 |false=>
  obtain ⟨m,h2⟩:=B ha;unfold Cn at h;rw [ha,m,h2]at h;obtain ⟨_,_,_,I⟩:=G;right;simp at h;exact ⟨by omega,h.2.2.2.2⟩
theorem uC(G:JQ qs sc jn){i:Int}(h:i∈NL sc jn c):∃x∈qs,x.1=i:=by
 unfold NL at h;rcases C2.1 h with h|h
 · obtain ⟨r,_,h⟩:=S4.1 h
   obtain ⟨n,_,h⟩:=S4.1 h;obtain ⟨x,B,m,_⟩:=(G.scan _ _ _ _).1 h;exact ⟨x,B,m⟩
 · obtain ⟨x,B,m,_⟩:=(G.join _ _).1 h
   exact ⟨x,B,m⟩
theorem u3(B:Eo qs es ck lm){x y:Int×QM}(K:x∈qs)(O:y∈qs)(G:x.1=y.1):x=y:=by
 have I:∀{l:List (Int×QM)},(l.map (·.1)).Nodup->x∈l->y∈l->x=y:=fun{l}=>by
  induction l with
  |nil=>intro _ h;cases h
  |cons a l ih=>
   intro m J h2;rw [Dg,HJ]at m;rcases DB.1 J with h3|h3
   · rcases DB.1 h2 with h4|h4
     · rw [h3,h4]
     · exact absurd (by rw [<-h3,G];exact Dd h4) m.1
   · rcases DB.1 h2 with h4|h4
     · exact absurd (by rw [<-h4,<-G];exact Dd h3) m.1
     · exact ih m.2 h3 h4
 exact I B.ids K O
theorem fq(B:JQ qs sc jn){x:Int×QM}(J:x∈qs)(G:BI x.2)(h:Cn x.2 c=true):x.1∈NL sc jn c:=by
 unfold NL;rcases ky G h with h|⟨h7,m⟩
 · obtain ⟨r,I,hi⟩:=A00 h
   unfold inQ at hi;rw [G4]at hi;have hc:=G.2.1
   have hv:=Lc r x.2.cl.toNat A0;rw [show((x.2.cl.toNat:Nat):Int)=x.2.cl by omega]at hv;have m:r.t=c.t:=by rcases I9.1 I with⟨_,rfl⟩|⟨_,rfl⟩<;>rfl
   refine Ek _ (S4.2 ⟨r,I,S4.2 ⟨x.2.cl.toNat,Kx.2 A0,?_⟩⟩);refine (B.scan _ _ _ _).2 ⟨x,J,V,?_,by omega,by omega⟩;unfold plQ;rw [show((x.2.cl.toNat:Nat):Int)=x.2.cl by omega,<-m,hi.1]
 · exact GB _ ((B.join _ _).2 ⟨x,J,rfl,h7,m.symm⟩)
def Wj(qs:List (Int×QM))(lv:A4)(ML:List A9):Prop:=(lv= .pointer none/\ML=[])\/∃lp sc jn,lv=I1 lp/\PZ sc jn lp ML/\JQ qs sc jn
theorem iM{P:Program}{f:FuncId}{args:AM}{H1 m:Hp}{Q:A4->Hp->Prop}(h:BS P f args H1 Q)(e:m.flatten=H1.flatten):BS P f args m Q:=fun u R w B=>h u R w (B.perm (by rw [HC,HC,e]))
theorem uK(B:Eo qs es ck lm)(J:∀x∈qs,BI x.2)(I:qs.length<=500){lv:A4}(G:Wj qs lv ML):
 BS prog 99 #[I1 ip] [[(ip,.cells #[.map (some mp),lv] 165 (0,0))],[(mp,.map es ck)],ML] (fun r H'=>∃lp m sc jn,r=I1 lp/\PZ sc jn lp m/\JQ qs sc jn/\H'=[[(ip,.cells #[.map (some mp),I1 lp] 165 (0,0))],[(mp,.map es ck)],m]):=by
 rcases G with⟨rfl,rfl⟩|⟨lp,sc,jn,rfl,h1,h2⟩
 · refine (iM (H1:=[[(ip,.cells #[.map (some mp),.pointer none] 165 (0,0))],[(mp,.map es ck)]]) (nK B J I) B4).mono ?_
   exact fun v H' h=>h
 · refine (iL nL [[(mp,.map es ck)],ML]).mono ?_
   rintro v H' ⟨H1,⟨rfl,rfl⟩,rfl⟩;exact ⟨lp,ML,sc,jn,V,h1,h2,V⟩
structure IG(S:Int->Prop)(es:Array MapEntry)(ck:Nat)(lm:List (Int×A4)):Prop where
 map:Ck (fun n:Int=>Value.int .i64 n) es ck lm
 val:∀p∈lm,p.2= .bool true
 mem:∀i,i∈lm.map (·.1)↔S i
theorem iC:IG (fun _=>False) #[] 0 []:=⟨EZ _,fun p h=>by simp at h,fun i=>by simp⟩
variable{S:Int->Prop}
theorem IG.get(h:IG S es ck lm)(i:Int) [Decidable (S i)]:(Dq i lm).getD (.bool false)= .bool (decide (S i)):=by
 by_cases hi:S i
 · obtain ⟨p,m,rfl⟩:=C6.1 ((h.mem i).2 hi)
   rw [D8 h.map.keys m,h.val p m,D2 hi];rfl
 · rw [DX fun p m B=>hi ((h.mem i).1 (C6.2 ⟨p,m,B⟩)),Cl hi];rfl
theorem IG.cong{T:Int->Prop}(h:IG S es ck lm)(e:∀i,S i↔T i):IG T es ck lm:=⟨h.map,h.val,fun i=>(h.mem i).trans (e i)⟩
theorem IG.put{J:Array MapEntry}{I:Nat}{G:List (Int×A4)}(h:IG S es ck lm){i:Int}(U:Ck (fun n:Int=>Value.int .i64 n) J I G)(K:∀p,p∈G↔p=(i,.bool true)\/(p∈lm/\p.1≠i)):IG (fun j=>S j\/j=i) J I G:=by
 refine ⟨U,fun p m=>?_,fun j=>?_⟩
 · rcases (K p).1 m with rfl|⟨h1,_⟩
   · rfl
   · exact h.val p h1
 · rw [<-h.mem]
   constructor
   · intro O
     obtain ⟨p,m,rfl⟩:=C6.1 O;rcases (K p).1 m with rfl|⟨h1,_⟩
     · exact .inr rfl
     · exact .inl (Dd h1)
   · intro O
     by_cases B:j=i
     · subst B;exact C6.2 ⟨_,(K _).2 (.inl rfl),rfl⟩
     · obtain ⟨p,m,rfl⟩:=C6.1 (O.resolve_right B)
       exact C6.2 ⟨p,(K p).2 (.inr ⟨m,B⟩),V⟩
theorem IG.len(h:IG S es ck lm)(O:∀i,S i->∃x∈qs,x.1=i):lm.length<=qs.length:=by
 have K:∀{a b:List Int},a.Nodup->(∀x∈a,x∈b)->a.length<=b.length:=fun{a b}=>by
  induction a generalizing b with
  |nil=>intro _ _;exact C7 _
  |cons x a ih=>
   intro m G;obtain ⟨I,m⟩:=HJ.1 m;have h2:=ih (b:=b.erase x) m fun y J=>by
    have B:y≠x:=fun e=>I (e▸J);exact (List.mem_erase_of_ne B).2 (G y (E7 _ J))
   have W:=nt (G x (E3 ..));have X:=List.length_pos_of_mem (G x (E3 ..))
   rw [E4];omega
 have h2:=K (a:=lm.map (·.1)) (b:=qs.map (·.1)) h.map.keys fun i hi=>by
  obtain ⟨x,I,U⟩:=O i ((h.mem i).1 hi);exact C6.2 ⟨x,I,U⟩
 simpa using h2
def JR(qs:List (Int×QM))(cs:List Chg)(i:Int):Prop:=∃x∈qs,x.1=i/\∃c∈cs,Cn x.2 c=true
end Go.Proofs.YthhakdmlpngcmaaGreatDoor
namespace Go.Proofs.YthhakdmlpngcmaaGreatDoor
open Go.Proofs.Tryz
open Go Go.RowKit Gw
set_option maxRecDepth 100000
attribute [local irreducible] Gw.At Gw.Nx Gw.Ops
open Go.Sort
theorem TE{κ:Type}{l:List (κ×A4)}{js:List Nat}(J:js.Nodup)(G:∀j∈js,j<l.length):∃m,((DU l js).map (·.1)++m).Perm (l.map (·.1)):=by
 have K:(js++(List.range l.length).filter fun j=>decide (j∉js)).Perm (List.range l.length):=(N6 (Ge.2 ⟨J,(k5).sublist S0,fun a B b I=>by
  have:=(FG.1 I).2;simp only [G4]at this;intro h;subst h;exact this B⟩) k5).2 fun a=>by
  simp only [C2,FG,Kx,G4];constructor
  · rintro (h|h)
    · exact G a h
    · exact h.1
  · intro h
    by_cases B:a∈js
    · exact .inl B
    · exact .inr ⟨h,B⟩
 have h:=(K.filterMap (fun j=>l[j]?)).map (·.1);rw [fW,C0,show(List.range l.length).filterMap (fun j=>l[j]?)=DU l (List.range l.length) from rfl,NI]at h;exact ⟨_,h⟩
def N8{κ:Type}(l:List (κ×A4))(p:List κ):Prop:=∃rest,(p++rest).Perm (l.map (·.1))
theorem N8.len{κ:Type}{l:List (κ×A4)}{p:List κ}{x:κ}(h:N8 l (p++[x])):p.length<l.length:=by
 obtain ⟨r,h⟩:=h;have:=h.length_eq
 simp at this;omega
theorem dY{v:A4}{zs:List Int}{s:List A9}(O:Row 3 v (zs.map (Value.int .i64)) s)(Z:zs.length<=1000000):BS prog 159 #[v] [s] (fun r H'=>∃(zs':List Int) (s':List A9),r= .tuple #[]/\zs'.Perm zs/\(zs'.Pairwise fun x y=>x<=y)/\Row 3 v (zs'.map (Value.int .i64)) s'/\H'=[s']):=fun u R w J=>by
 have m:=(oc zs fun x y=>decide (x<=y)).length_eq;have G:(zs.mergeSort fun x y=>decide (x<=y)).Pairwise fun x y=>x<=y:=by
  have h:=List.pairwise_mergeSort (le:=fun x y:Int=>decide (x<=y)) (fun a b c X h2=>by simp only [G4]at*;omega) (fun a b=>by simp only [S6,G4];omega) zs;simpa only [G4]using h
 rcases O with⟨rfl,h0,rfl⟩|⟨g,cap,cur,z,rfl,rfl,hle,hcm,hcs,htk,hfr⟩
 · have U:zs=[]:=by simpa using h0
   subst U;refine (Tryz.slices_Sort_int_none none 0 w).mono ?_;rintro e W ⟨rfl,rfl⟩;exact .inl ⟨_,[[]],V,⟨[],[],V,.refl _,.nil,by simp [Gu],V⟩,J⟩
 · rw [B6]at hle htk⊢
   have B:Sat u ([(g,.cells cur 3 z)]::R) w:=by simpa using J
   have I:=B.get (g,.cells cur 3 z) B4;have K:=Tv I A0 hfr htk
   refine (Tryz.slices_Sort_int g 0 cap zs w K (HU.1 I).1 A0).mono ?_;rintro e W ⟨rfl,n,os,rfl⟩;refine .inl ⟨_,[[(g,.cells (putCells (Value.int .i64) 0 (zs.mergeSort fun x y=>decide (x<=y)).toArray cur) 3 z)]],V,⟨_,_,V,oc _ _,G,?_,V⟩,by simpa using B.sorted (n:=n) _ os⟩;refine .inr ⟨g,cap,_,z,by rw [B6,m],rfl,by rw [B6,m];exact hle,hcm,by rw [Mh];exact hcs,?_,by rw [Mh];exact hfr⟩;rw [B6];exact Yo _ _ A0
theorem gQ(mi:Nat):BS prog 102 #[.map (some mi)] [] (fun r H'=>∃b,r= .func (.func 160) #[] #[I1 b]/\H'=[[(b,.cells #[.map (some mi)] 201 (0,0))]]):=by
 refine Se func102 ntmps102 [0] ?_;intro u R;refine A1<|Ze (Bx #[_])<|AG fun b=>A5 Y<|A1<|Zv (Bf (vs:=[]) (us:=[_]) Y Y)<|A5 Y<|AJ<|AP V results102 Y (by exact ⟨b,V,V⟩)
variable{es:Array MapEntry}{ck:Nat}{lm:List (Int×A4)}
theorem gT(W:Ck (fun n:Int=>(Value.int .i64) n) es ck lm)(b mi:Nat):KY prog 160 #[I1 b] [[(b,.cells #[.map (some mi)] 201 (0,0))]] (fun _ s=>(mi,Obj.map es ck)∈s) (fun x:Int=>#[I0 x]) (N8 lm) (fun ys=>ys.Perm (lm.map (·.1))):=by
 intro l J X hy s G;refine Se func160 ntmps160 [0,1] ?_;intro u R;refine A1<|Zl isAgg201 Y<|Ze (Lb underlying201 Y (Dy Wo (X _ s G)))<|AG fun ib=>A6<|AR<|Zb [0,5] ?_;refine BF (e0:=[]) (fun m e H=>∃(js:List Nat) (seen:Array Nat) (s:List A9),m=lm.length -js.length/\(Ig es js seen/\J ((DU lm js).map (·.1)) s)/\e=[]/\H=[[(ib,.mapIter (some mi) ck seen ck)],s]) (by exact ⟨[],#[],s,V,⟨JC _,G⟩,V,V⟩) Wp ?_;rintro _ _ _ ⟨js,seen,s,rfl,⟨K,G⟩,rfl,rfl⟩;have Z:=EY es.size js K.nodup K.lt
 rw [W.size]at Z;refine A1<|Ze (NU W K Y Wo (Dy Wo (X _ s G))) ?_;rintro _ _ ax;rcases ax with⟨I,rfl,rfl⟩|⟨jn,pn,seen2,hpn,hjn,hi2,rfl,rfl⟩
 ·
  refine Zd Y V<|A6<|Zq<|AQ Y (fun B=>by cases B)<|fun B=>Az<|Zt<|Zt<|AV<|Cc V results160 (by exact ⟨_,s,I.map _,V,G⟩)
 refine Zd Y V<|A6<|Zq<|AQ Y (fun B=>?_) (fun B=>?_);·
  have U:=EY es.size (js++[jn]) hi2.nodup hi2.lt;rw [W.size,BW,F2]at U;have cO:(js++[jn]).length=js.length+1:=by rw [BW];rfl
  have bn:N8 lm ((DU lm js).map (·.1)++[pn.1]):=by
   have h:=TE (l:=lm) hi2.nodup (fun j hj=>by rw [<-W.size];exact hi2.lt j hj);rw [GH lm js hpn,C0]at h;exact h
  have cu:=hy ((DU lm js).map (·.1)) pn.1 s bn G;refine AC<|Zx<|AR<|Zq<|Zg ?_;have af:=X _ s G
  refine CS (cs:=[(ib,.mapIter (some mi) ck seen2 ck),(mi,.map es ck)]) (by simp [af]) (I5 W hi2 hpn Y) V rfl<|Zd Y V<|A5 Y<|A1<|Zm Y<|Zm Y<|Ze (Ff (vs:=[_]) Y Y (cu) Wp) ?_;rintro _ _ ⟨_,⟨s',rfl,rfl,O⟩,rfl⟩;rw [show(DU lm js).map (·.1)++[pn.1]=(DU lm (js++[jn])).map (·.1) by rw [GH lm js hpn,C0];rfl]at O;refine Zv (Br Y)<|A6<|AQ Y (fun B=>by cases B)<|fun B=>AC<|A8<|Zn [0,5] ?_;refine Aa (e':=[]) (by exact ⟨js++[jn],seen2,s',V,⟨hi2,O⟩,V,V⟩)
 cases B
variable{M:List A9}
theorem RQ(hm:Ck (fun n:Int=>(Value.int .i64) n) es ck lm)(hn:lm.length<=1000000)(b mi:Nat)(U:(mi,Obj.map es ck)∈M):BS prog 218 #[.slice none 0 0,.func (.func 160) #[] #[I1 b]] [[(b,.cells #[.map (some mi)] 201 (0,0))],M] (fun r H'=>∃(zs:List Int) (s':List A9),zs.Perm (lm.map (·.1))/\Row 3 r (zs.map (Value.int .i64)) s'/\H'=[M,s']):=by
 have af:=mL;refine DT func218 V ntmps218 V ?_;intro u R;refine Zb [0,1] ?_;refine A1<|Ze (Bx #[_])<|AG fun Z=>A5 Y<|Zq<|A1<|Zm Y<|A6<|AR<|Zb [2,6] ?_;refine Be<|J7 (H0:=_) (R:=_) (I:=(fun(pre:List Int) H=>∃B s2,H=[[(Z,.cells #[B] 28 (0,0))],s2,M]/\Row 3 B (pre.map (Value.int .i64)) s2)) (E:=fun x e Hn=>e=[(5,I0 x),(7,I0 x)]/\Hn=[]) rfl Y call160 (gT hm b mi) (fun pre H1 c d h=>by obtain ⟨B,s2,rfl,_⟩:=h;simp [U]) Y rfl Wp (⟨_,[],rfl,Gu _⟩) ?ha_2 ?hbd_2 ?hk_2
 case ha_2=>
  intro _ x _ _;refine Zg<|AW Y<|Ku (e:=[(5,_),(7,_)]) (Hn:=[]) ?_;exact ⟨V,V⟩
 case hbd_2=>
  intro l pre x u e9 X H1 R1 r9 W hI J;obtain ⟨rfl,rfl⟩:=J;obtain ⟨B,s2,rfl,G⟩:=hI;have ax:=W.len
  obtain ⟨gv,cv,rfl⟩:=G.form;refine AR<|Zg<|Zl To Y<|Zm Y<|Ze (Ai (vs:=[_]) (cs:=[_]) DG AE HI Y V rfl V rfl V)<|AG fun b2=>Ze (Dk (by_:=8) (news:=[_]) DG (V:Tryz.prog.info? 3=some Tryz.t3) V rfl V rfl Y G Y Wo Wh Ax V G0 B0 (by(simp only [B6];omega)) (by(simp only [B6];omega))) ?_;rintro _ _ ⟨sq,m,rfl⟩;obtain ⟨gq,cq,rfl⟩:=m.form;refine Xe (Zs W8 Y Y rfl)<|Z0<|A8<|Ei rfl (by exact ⟨_,_,rfl,by rw [C0];exact m⟩)
 intro D1 ys H2 O K;obtain ⟨B,s2,rfl,G⟩:=K;refine Zn [2] ?_;refine A8<|Zx<|A1<|Zl To Y<|A5 Y<|AJ<|Fw V (eG results218 Y) Wo (by exact ⟨ys,s2,O,G,V⟩)
theorem Ut(B:Ck (fun n:Int=>(Value.int .i64) n) es ck lm)(G:lm.length<=1000000)(b mi:Nat)(m:(mi,Obj.map es ck)∈M):BS prog 158 #[.func (.func 160) #[] #[I1 b]] [[(b,.cells #[.map (some mi)] 201 (0,0))],M] (fun r H'=>∃(zs:List Int) (s':List A9),zs.Perm (lm.map (·.1))/\Row 3 r (zs.map (Value.int .i64)) s'/\H'=[M,s']):=by
 refine Se func158 ntmps158 [0] ?_;intro u R;refine A1<|A5 Y<|A1<|Zm Y<|Zc [_,_] Y call218 Y V (RQ B G b mi m) ?_;rintro _ _ ⟨_,⟨zs,s2,I,J,rfl⟩,rfl⟩;refine A5 Y<|AJ<|AP V results158 Y (by exact ⟨zs,s2,I,J,V⟩)
theorem X7(U:Ck (fun n:Int=>(Value.int .i64) n) es ck lm)(W:lm.length<=1000000)(b mi:Nat)(m:(mi,Obj.map es ck)∈M):BS prog 101 #[.func (.func 160) #[] #[I1 b]] [[(b,.cells #[.map (some mi)] 201 (0,0))],M] (fun r H'=>∃(zs:List Int) (s':List A9),zs.Perm (lm.map (·.1))/\(zs.Pairwise fun x y=>x<=y)/\Row 3 r (zs.map (Value.int .i64)) s'/\H'=[M,s']):=by
 refine Se func101 ntmps101 [0] ?_;intro u R;refine A1<|A5 Y<|A1<|Zm Y<|Zc [_] Y call158 Y V (Ut U W b mi m) ?_;rintro _ _ ⟨_,⟨zs,s2,O,X,rfl⟩,rfl⟩;have J:=O.length_eq
 rw [B6]at J;refine A5 Y<|A1<|Zm Y<|Zc [_] Y call159 Y V (dY X A0) ?_;rintro _ _ ⟨_,⟨K,Z,rfl,B,I,G,rfl⟩,rfl⟩;refine A6<|A1<|Zm Y<|A5 Y<|AJ<|AP V results101 Y (by exact ⟨K,Z,B.trans O,I,G,V⟩)
end Go.Proofs.YthhakdmlpngcmaaGreatDoor
namespace Go.Proofs.YthhakdmlpngcmaaGreatDoor
open Go.Proofs.Tryz
open Go Go.RowKit Gw
set_option maxRecDepth 100000
attribute [local irreducible] Gw.At Gw.Nx Gw.Ops
variable{qs:List (Int×QM)}{c:Chg}
theorem uo{sc:Int->Int->List IvM}{jn:Int->List Int}(J:JQ qs sc jn)(K:∀x∈qs,BI x.2){cs:List Chg}{k:Nat}(hc:cs[k]?=some c)(i:Int):(JR qs (cs.take k) i\/(i∈NL sc jn c/\JR qs [c] i))↔JR qs (cs.take (k+1)) i:=by
 rw [Bl hc];unfold JR;constructor
 · rintro (⟨x,G,I,d,m,B⟩|⟨_,x,G,I,d,m,B⟩)
   · exact ⟨x,G,I,d,Ek _ m,B⟩
   · exact ⟨x,G,I,d,GB _ m,B⟩
 · rintro ⟨x,G,I,d,m,B⟩
   rcases C2.1 m with m|m
   · exact .inl ⟨x,G,I,d,m,B⟩
   · refine .inr ⟨?_,x,G,I,d,m,B⟩
     rw [C5.1 m]at B;rw [<-I];exact fq J G (K x G) B
variable{es:Array MapEntry}{ck:Nat}{lm:List (Int×A4)}{y:Int×QM}
theorem kE(m:Eo qs es ck lm)(G:y∈qs):JR qs [c] y.1↔Cn y.2 c=true:=by
 constructor
 · rintro ⟨x,K,J,d,I,B⟩
   rw [C5.1 I]at B;rwa [u3 m K G J]at B
 · intro h;exact ⟨y,G,rfl,c,by simp,h⟩
theorem oI(m:Eo qs es ck lm)(B:y∈qs)(h:Cn y.2 c=true){S:Int->Prop}{pre:List Int}(i:Int):((S i\/(i∈pre/\JR qs [c] i))\/i=y.1)↔(S i\/(i∈pre++[y.1]/\JR qs [c] i)):=by
 rw [C2,C5];constructor
 · rintro ((h1|⟨h1,h2⟩)|rfl)
   · exact .inl h1
   · exact .inr ⟨.inl h1,h2⟩
   · exact .inr ⟨.inr rfl,(kE m B).2 h⟩
 · rintro (h1|⟨h1|rfl,h2⟩)
   · exact .inl (.inl h1)
   · exact .inl (.inr ⟨h1,h2⟩)
   · exact .inr rfl
theorem aY(m:Eo qs es ck lm)(B:y∈qs){S:Int->Prop}{pre:List Int}(h:Cn y.2 c=true->S y.1\/(y.1∈pre/\JR qs [c] y.1))(i:Int):(S i\/(i∈pre/\JR qs [c] i))↔(S i\/(i∈pre++[y.1]/\JR qs [c] i)):=by
 rw [C2,C5];constructor
 · rintro (h1|⟨h1,h2⟩)
   · exact .inl h1
   · exact .inr ⟨.inl h1,h2⟩
 · rintro (h1|⟨h1|rfl,h2⟩)
   · exact .inl h1
   · exact .inr ⟨h1,h2⟩
   · exact h ((kE m B).1 h2)
theorem gB{ip mp:Nat}(J:Eo qs es ck lm)(hq:∀x∈qs,BI x.2)(hl:qs.length<=500){lv:A4}{ML:List A9}(X:Wj qs lv ML)(p:Int){MC:List A9}{qa:B8}{cap:Nat}{cs:List Chg}(hC:Cv MC (.slice qa cs.length cap) cs)(qz:cs.length<=1000)(dn:∀c∈cs,c.ok):BS prog 50 #[I1 ip,.agg #[I0 p,.slice qa cs.length cap]] [[(ip,.cells #[.map (some mp),lv] 165 (0,0))],[(mp,.map es ck)],ML,MC] (fun r H'=>∃(zs:List Int) (s':List A9) (lv':A4) (ML':List A9),(∀i,i∈zs↔JR qs cs i)/\zs.Nodup/\(zs.Pairwise fun x y=>x<=y)/\Row 3 r (zs.map (Value.int .i64)) s'/\Wj qs lv' ML'/\H'=[[(ip,.cells #[.map (some mp),lv'] 165 (0,0))],[(mp,.map es ck)],ML',MC,s']):=by
 have sM:=mL;obtain ⟨pc,qb,pq,sj,kv⟩:=id hC;injection pq with hv1 hv2 hv3
 subst hv1 hv3;have sJ:=J.len
 refine DT func50 V ntmps50 V ?_;intro u R;refine Zb [0,1] ?_;refine A1<|Ze (Bx #[_])<|AG fun bx=>Ze (Bx #[I0 p,.slice qa cs.length cap])<|AG fun br=>A5 Y<|Zq<|A1<|Zl isAgg90 Y<|Zv (Bg underlying90 Y Y)<|A6<|AQ Y (fun d9=>by cases d9)<|fun d9=>AC<|Zx<|A1<|Ze (DV)<|AG fun mf=>Ze (Al zeroValue201 #[_])<|AG fun bf=>Xe (Zs sizeOf201 Y Y V)<|A6<|Zq<|A1<|Zh 1 HF V rfl Mp Y<|Zl On Y<|Zv (Ab Gk Y)<|Zm Y<|A6<|AR<|Zb [15,2,5,13,14] ?_;refine wG (e0:=[(15,_)]) (H0:=_) (n:=_) (fun m e H=>∃(k:Nat) (lv:A4) (ML:List A9) (U:Array MapEntry) (O:Nat) (cu:List (Int×A4)),m=cs.length -k/\(k<=cs.length/\Wj qs lv ML/\IG (JR qs (cs.take k)) U O cu)/\e=[(15,I0 (k:Int))]/\H=[[(ip,.cells #[.map (some mp),lv] 165 (0,0))],ML,[(mf,.map U O)]]) (by exact ⟨0,lv,ML,#[],0,[],V,⟨C7 _,X,iC.cong fun i=>by unfold JR;simp⟩,V,V⟩) Wp ?_;rintro Ds _ _ _ ⟨k,lv,ML,U,O,cu,rfl,⟨hk,X,hF⟩,rfl,rfl⟩;refine A1<|Zv (Ay Y Y)<|A6<|Zq<|Av Y (fun l9=>?_) (fun l9=>?_);·
  obtain ⟨c,hc⟩:∃c,cs[k]?=some c:=⟨_,BT A0⟩;have ax:=dn c (DO hc)
  have sO:=dQ ax;obtain ⟨g,off,cur,T,zz,rfl,o9,ql,ek⟩:=kv k c hc;refine AC<|Zx<|Zq<|AR<|A1<|BZ (Ad Gk CA Y Y A0)<|CS (IZ Wo (o9)) (AB (cs:=c.A93) GP CA Y A0 ek) V rfl<|Ze (Al Lw #[_,_,_,_,_,_,_,_,_,_])<|AG fun bc=>Xe (Xw CA c.A93)<|A6<|Zq<|Aw (n:=4) (0::1::0::7::[]) 10 AF AF V<|BE 0 V isAgg90 Y<|FF 2 V Wh (AB (cs:=#[_,_,_,_,_,_,_,_,_,_]) GP CA Y Wn (BO V))<|Zz (l:=[1])<|B7 [true,false] [(2,(_,_))] V rfl (Zw [_] Y call99 Y V (uK J hq hl X)) ?_ Bp Ah;rintro _ _ ⟨_,⟨lp,cO,sc,jn,rfl,hL,hW,rfl⟩,rfl⟩;refine Bk<|Zz (l:=[3])<|B7 [false] [] V rfl (Zw [_,_] Y call100 Y V (nA lp c)) ?_ Bp Ah;rintro _ _ ⟨_,⟨bl,bn,rfl,rfl⟩,rfl⟩;refine Bk<|Ag<|Zx<|AR<|Zb [2,5,7,13,14,15,22] ?_;refine PX (H0:=_) (R:=_) (I:=(fun(pre:List Int) H=>∃G B K,IG (fun i=>JR qs (cs.take k) i\/(i∈pre/\JR qs [c] i)) G B K/\H=[[(ip,.cells #[.map (some mp),I1 lp] 165 (0,0))],[(mp,.map es ck)],cO,[(mf,.map G B)],[(bf,.cells #[.map (some mf)] 201 (0,0))],[(bx,.cells #[I1 ip] 90 (0,0))],[(bc,.cells c.A93 74 (0,0))]])) (E:=fun x e Hn=>e=[(8,I0 x),(23,I0 x)]/\Hn=[]) rfl Y call155 (nC hL c (dN ax) A0 (hW.small c.t) bn bl) (by rintro pre _ c1 c2 ⟨qx,qw,ve,h9,rfl⟩;intro q p9;simp [p9]) Y rfl Wp (⟨U,O,cu,hF.cong fun i=>by simp,rfl⟩) ?ha_5 ?hbd_5 ?hk_5
  case ha_5=>
   intro _ x _ _;refine Zg<|AW Y<|Ku (e:=[(8,_),(23,_)]) (Hn:=[]) ?_;exact ⟨V,V⟩
  case hbd_5=>
   intro l pre x post u e9 qo H1 R1 r9 pz hI j3;obtain ⟨rfl,rfl⟩:=j3;obtain ⟨G,B,K,Z,rfl⟩:=hI;obtain ⟨y,hy,rfl⟩:=uC hW (c:=c) (i:=x) (by rw [pz];simp);have l8:=J.get hy
   have qj:Decidable (JR qs (cs.take k) y.1\/(y.1∈pre/\JR qs [c] y.1)):=Classical.propDecidable _;have l5:=Z.get y.1
   refine AR<|Zq<|Aw (n:=14) (0::0::3::7::15::31::63::127::255::31::1023::31::4095::8191::[]) 4096 AF AF V<|BE 0 V isAgg201 Y<|A3 1 V (AO Y)<|FF 2 V Wh (Dp (Cf DE (D:=fun _=>True)) underlying201 W6 Z.map (fun _ _=>trivial) (trivial) (l5) Y Y)<|A3 3 V (Cz Y)<|A3 4 V (AO Y)<|DD (t:=28) Y (fun W=>?_) (fun W=>?_);·
    rw [D2 W];refine DP 5 rfl Wh (BD isAgg90 Y Ax)<|B1 6 rfl (Ak Y rfl)<|B1 7 rfl (AA (off:=0) RE rfl rfl db Y)<|DP 8 rfl Wh (BD dd Y Ax)<|B1 9 rfl (AO Y)<|DP 10 rfl Wh (Dp (Cf DE (D:=fun _=>True)) eK N1 J.map (fun _ _=>trivial) (trivial) (by rw [l8];first|done|rfl) Y Y)<|DP 11 rfl Wh (AB (cs:=c.A93) GP CA Y Wn (BO rfl))<|Yw 12 8191 rfl (Zu [_,_] Y call96 Y rfl (Kg y.2 c)) ?_;rintro _ _ ⟨rfl,rfl⟩;rw [D2 (hq y hy),D2 ax,Vc,Vc];refine A3 13 V (AX Y Y)<|Ag<|Zn [5,8,37] ?_;refine Zx<|AQ Y (fun af=>?_) (fun af=>?_);·
     have h9:=af;refine Zg<|Zl isAgg201 Y<|Zm Y<|Ze (FJ (Cf DE (D:=fun _=>True)) underlying201 Z.map (fun _ _=>trivial) (trivial) Y Y Y Wo) ?_;rintro _ _ ⟨rfl,ic,gy,q9,o8,p8,rfl⟩;refine Z0<|A8<|Ei V (by exact ⟨ic,gy,q9,(Z.put o8 p8).cong (oI J hy h9),V⟩)
    have h9:Cn y.2 c=true->JR qs (cs.take k) y.1\/(y.1∈pre/\JR qs [c] y.1):=fun h=>by rw [af]at h;cases h
    refine AC<|A8<|Ei V (by exact ⟨G,B,K,Z.cong (aY J hy h9),V⟩)
   rw [Cl W];have h9:Cn y.2 c=true->JR qs (cs.take k) y.1\/(y.1∈pre/\JR qs [c] y.1):=fun _=>Hs.1 W
   refine AN 5 V<|AN 6 V<|AN 7 V<|AN 8 V<|AN 9 V<|AN 10 V<|AN 11 V<|AN 12 V<|A3 13 V (AL Y Y)<|Ag<|Zn [5,8,37] ?_;refine Zx<|DI Y<|AC<|A8<|Ei V (by exact ⟨G,B,K,Z.cong (aY J hy h9),V⟩)
  intro D1 H2 j5;obtain ⟨G,B,K,Z,rfl⟩:=j5;refine Zn [2,5,13,14,15] ?_;refine A8<|A8<|Zx<|Zg<|Ya (n:=1) Y Y<|Zm Y<|Z0<|Zn [15,2,5,13,14] ?_;refine fZ (Ds:=Ds) (e':=[(15,_)]) (by exact ⟨k+1,_,cO,G,B,K,V,⟨by omega,.inr ⟨lp,sc,jn,V,hL,hW⟩,Z.cong (uo hW hq hc)⟩,V,V⟩) Wo Wo
 obtain rfl:k=cs.length:=by omega
 rw [GC]at hF;refine Az<|Zt<|Zt<|AV<|Zx<|Zq ?_;have sw:=hF.len (qs:=qs) fun i h=>by
  obtain ⟨x,hx,he,_⟩:=h;exact ⟨x,hx,he⟩
 refine Zg<|Zl isAgg201 Y<|Zc [_] Y call102 Y V (gQ mf) ?_;rintro _ _ ⟨_,⟨bk,rfl,rfl⟩,rfl⟩;refine Zc [_] Y call101 Y V (X7 hF.map A0 bk mf (M:=[(mf,.map U O)]) B4) ?_;rintro _ _ ⟨_,⟨zs,s4,gm,gq,pg,rfl⟩,rfl⟩;refine A5 Y<|AJ<|u7 (Ds:=Ds) rfl (eG results50 Y) Wo (by exact ⟨zs,s4,lv,ML,fun i=>by rw [gm.mem_iff,hF.mem],gm.nodup_iff.2 hF.map.keys,gq,pg,X,rfl⟩)
theorem RN(b:Nat)(v:A4):BS prog 73 #[I1 b] [[(b,.cells #[.pointer none,v] 105 (0,0))]] (fun r H'=>r= .tuple #[]/\H'=[[(b,.cells #[I1 b,v] 105 (0,0))]]):=by
 refine Se func73 ntmps73 [0] ?_;intro u R;refine A1<|Zm Y<|Zp Y V<|Zh 0 SD V rfl ef Y<|Zl isAgg102 Y<|Zv (Jt gA Y Y)<|A6<|AQ Y (fun m=>?_) (fun m=>?_);·
  refine Zg<|Zm Y<|Zm Y<|Zo Wh (ZB (c:=#[.pointer none,v]) gA underlying230 (V:Tryz.prog.info? 105=some Tryz.t105) B0 (Nat.zero_lt_succ 1) Y) ?_;refine Kr (tL (vs:=[_]) (e:=Extern.AbiNoEscape.same) func125 AF AF AF AF Y Y) V rfl<|Zo Wh (Uj underlying230 gA (V:Tryz.prog.info? 105=some Tryz.t105) (show liesAt _ _ _ (2/_) 0 _ 1=true from by kernel_rfl) Y) ?_;refine Zp Y V<|Zh 0 SD V rfl ef Y<|Xe (Zs ef Y Y V)<|Z0<|Cc V results73 (by exact ⟨V,V⟩)
 cases m
theorem MN(b:Nat)(v:A4):BS prog 73 #[I1 b] [[(b,.cells #[I1 b,v] 105 (0,0))]] (fun r H'=>r= .tuple #[]/\H'=[[(b,.cells #[I1 b,v] 105 (0,0))]]):=by
 refine Se func73 ntmps73 [0] ?_;intro u R;refine A1<|Zm Y<|Zp Y V<|Zh 0 SD V rfl ef Y<|Zl isAgg102 Y<|Zv (Bg gA Y Y)<|A6<|AQ Y (fun m=>by cases m)<|fun m=>A1<|Zm Y<|Zp Y V<|Zh 0 SD V rfl ef Y<|Zl isAgg102 Y<|Zm Y<|Kr (TL gA (V:Tryz.prog.info? 105=some Tryz.t105) Y Y) V rfl ?_;refine A6<|DI Y<|AC<|Cc V results73 (by exact ⟨V,V⟩)
theorem OA(b:Nat)(v:A4)(l x:List UInt8)(I:List A9)(m:Row 5 v (l.map u8v) I)(h0:0<x.length)(hb:l.length+x.length<=1099511627776):BS prog 31 #[I1 b,.string (str x)] [[(b,.cells #[.pointer none,v] 105 (0,0))],I] (fun r H'=>∃J G O,Row 5 J ((l++x).map u8v) G/\r=O/\H'=[[(b,.cells #[I1 b,J] 105 (0,0))],G]):=by
 have K:=mL;obtain ⟨gv,X,rfl⟩:=m.form;refine Se func31 ntmps31 [0,1] ?_;intro u R;refine A1<|Za Y<|A5 Y<|A1<|Zm Y<|Zc [_] Y call73 Y V (RN b _) ?_;rintro _ _ ⟨_,⟨rfl,rfl⟩,rfl⟩;refine A6<|A1<|Zm Y<|Zm Y<|Zp Y V<|Zh 1 SD V rfl ON Y<|Zl SR Y<|Zm Y<|Ze (OG (by_:=1) HK HG (V:Tryz.prog.info? 5=some Tryz.t5) V rfl V rfl Y m Y Wo A0 (by(rw [B6];omega)) (by(rw [B6];omega))) ?_;rintro _ _ ⟨U,B,rfl⟩;obtain ⟨Z,W,rfl⟩:=B.form;refine Zp Y V<|Zh 1 SD V rfl ON Y<|Xe (Zs ON Y Y V)<|Z0<|Zn [1] ?_;refine Zx<|A1<|Zm Y<|Zv (QF HG Y)<|Za Y<|A5 Y<|AJ<|DF rfl results31 Y Y (by exact ⟨_,U,_,(by rw [C0];exact B),rfl,rfl⟩)
theorem Pe(b:Nat)(v:A4)(l x:List UInt8)(I:List A9)(m:Row 5 v (l.map u8v) I)(h0:0<x.length)(hb:l.length+x.length<=1099511627776):BS prog 31 #[I1 b,.string (str x)] [[(b,.cells #[I1 b,v] 105 (0,0))],I] (fun r H'=>∃J G O,Row 5 J ((l++x).map u8v) G/\r=O/\H'=[[(b,.cells #[I1 b,J] 105 (0,0))],G]):=by
 have K:=mL;obtain ⟨gv,X,rfl⟩:=m.form;refine Se func31 ntmps31 [0,1] ?_;intro u R;refine A1<|Za Y<|A5 Y<|A1<|Zm Y<|Zc [_] Y call73 Y V (MN b _) ?_;rintro _ _ ⟨_,⟨rfl,rfl⟩,rfl⟩;refine A6<|A1<|Zm Y<|Zm Y<|Zp Y V<|Zh 1 SD V rfl ON Y<|Zl SR Y<|Zm Y<|Ze (OG (by_:=1) HK HG (V:Tryz.prog.info? 5=some Tryz.t5) V rfl V rfl Y m Y Wo A0 (by(rw [B6];omega)) (by(rw [B6];omega))) ?_;rintro _ _ ⟨U,B,rfl⟩;obtain ⟨Z,W,rfl⟩:=B.form;refine Zp Y V<|Zh 1 SD V rfl ON Y<|Xe (Zs ON Y Y V)<|Z0<|Zn [1] ?_;refine Zx<|A1<|Zm Y<|Zv (QF HG Y)<|Za Y<|A5 Y<|AJ<|DF rfl results31 Y Y (by exact ⟨_,U,_,(by rw [C0];exact B),rfl,rfl⟩)
theorem O5(b g cap:Nat)(p:A4)(l:List UInt8)(cur:AM)(z:Nat×Nat)(h0:0<l.length)(hc:cap≠0)(B:l.length<=9223372036854775807)(m:cur.toList.take l.length=l.map u8v):BS prog 35 #[I1 b] [[(b,.cells #[p,I2 g l.length cap] 105 (0,0))],[(g,.cells cur 5 z)]] (fun r H'=>r= .string (str l)/\H'=[[(b,.cells #[p,I2 g l.length cap] 105 (0,0))]]):=by
 refine Se func35 ntmps35 [0] ?_;intro u R;refine A1<|A5 Y<|Zq<|Aw (n:=12) (0::1::3::7::15::0::32::96::224::480::1023::2047::[]) 1040 AF AF V<|A3 0 V (AO Y)<|A3 1 V (Ak Y V)<|A3 2 V (AA (off:=1) SD V rfl ON Y)<|BE 3 V SR Y<|A3 5 V (AO Y)<|A3 6 V (Ak Y V)<|A3 7 V (AA (off:=1) SD V rfl ON Y)<|BE 8 V SR Y<|A3 9 V (Ab HK Y)<|Zz (l:=[4])<|B7 [true,false] [(8,(_,_))] V rfl (YC Y hc) ?_ (fun _ _ h=>h.elim) Ah;rintro _ _ ⟨rfl,rfl⟩;refine Bk<|Yw 10 2047 V (Rs (l:=l) underlying167 AF Y Y (List.ne_nil_of_length_pos h0) B Wo m)<|D0<|A3 11 V (Aq Y)<|Ag<|Zn [2] ?_;refine Zx<|AJ<|AP V results35 Y (by exact ⟨V,V⟩)
end Go.Proofs.YthhakdmlpngcmaaGreatDoor
