/- proof.Replay. -/
import Derived.Test.YtljkoipiekbijaaGreatDoorRx7
set_option linter.unusedVariables false
set_option linter.unusedSimpArgs false
namespace Go.Proofs.YtljkoipiekbijaaGreatDoor
open Go.Proofs.Tryz
open Go Go.RowKit Gw
set_option maxRecDepth 100000
attribute [local irreducible] Gw.At Gw.Nx Gw.Ops
def II(q:QM)(base:Int):Nat->CB×Int->List Bz->Option (CB×Int)
 |_,st,[]=>some st
 |i,st,x::l=>if(CL q st.1 x.cs).2.2=true/\base<=9223372036854775806 -(i:Int)/\x.p=base+1+(i:Int)then II q base (i+1) ((CL q st.1 x.cs).1,if(CL q st.1 x.cs).2.1 then x.p else st.2) l else none
theorem SG(q:QM)(base:Int):∀(a:List Bz) (i:Nat) (st:CB×Int) (b:List Bz),II q base i st (a++b)=(II q base i st a).bind fun g=>II q base (i+a.length) g b
 |[],i,st,b=>rfl
 |x::a,i,st,b=>by
  show(if(CL q st.1 x.cs).2.2=true/\base<=9223372036854775806 -(i:Int)/\x.p=base+1+(i:Int)then II q base (i+1) _ (a++b)else none)=(if(CL q st.1 x.cs).2.2=true/\base<=9223372036854775806 -(i:Int)/\x.p=base+1+(i:Int)then II q base (i+1) _ a else none).bind _;split;· rw [SG q base a (i+1) _ b,GB,show i+(a.length+1)=i+1+a.length by omega]
  · rfl
variable{q:QM}{l:List Bz}{k:Nat}
theorem Gg{base:Int}{st g:CB×Int}{x:Bz}(h:II q base 0 st (l.take k)=some g)(hx:l[k]?=some x):II q base 0 st (l.take (k+1))=if(CL q g.1 x.cs).2.2=true/\base<=9223372036854775806 -(k:Int)/\x.p=base+1+(k:Int)then some ((CL q g.1 x.cs).1,if(CL q g.1 x.cs).2.1 then x.p else g.2)else none:=by
 have m:=(D3.1 hx).1;rw [Bt hx,SG,h,CI,OR A0,Dd];rfl
theorem Kn{base:Int}{st:CB×Int}(h:II q base 0 st (l.take k)=none):II q base 0 st l=none:=by
 rw [<-Ln k l,SG,h];rfl
def CG(q:QM)(r:CB)(base:Int)(l:List Bz):CB×Int×Bool:=match II q base 0 (r,base) l with
 |some st=>(st.1,st.2,true)
 |none=>(CB.none,0,false)
variable{r:CB}
theorem RG{cs:List Chg}(h:(CL q r cs).2.2=true):J6 q r cs=some (CL q r cs).1/\(CL q r cs).2.1=cs.any (DZ q):=by
 unfold CL at*;split at h;· rename_i h9;rw [h9];exact ⟨rfl,rfl⟩
 · cases h
theorem We{q:QM}{base:Int}:∀(l:List Bz) (i:Nat) (st st':CB×Int) (B:Int) (n:Nat),II q base i st l=some st'->(∀x∈l,x.cs.length<=1000)->(-B<=st.1.val/\st.1.val<=B)->0<=B->st.1.rows.length<=n->(-(B+2000000000000*(l.length:Int))<=st'.1.val/\st'.1.val<=B+2000000000000*(l.length:Int))/\st'.1.rows.length<=n+2000*l.length
 |[],i,st,st',B,n,h,hl,h1,h2,h3=>by
  unfold II at h;injection h with h
  subst h;simp only [My];exact ⟨⟨by omega,by omega⟩,h3⟩
 |x::l,i,st,st',B,n,h,hl,h1,h2,h3=>by
  unfold II at h;split at h
  · rename_i h9
    have z:=RU _ _ _ B n (RG h9.1).1 h1 h2 h3;have E:=hl x C4
    have m:=We l (i+1) _ st' (B+2000000000000) (n+2000) h (fun y hy=>hl y (by simp [hy])) ⟨by simp only;omega,by simp only;omega⟩ A0 (by simp only;omega);rw [GB];obtain ⟨⟨G,I⟩,g⟩:=m;refine ⟨⟨?_,?_⟩,by omega⟩<;>(push_cast;omega)
  · cases h
set_option maxHeartbeats 1000000 in
theorem YB(q:QM)(hq:BH q)(base:Int)(hb:-9223372036854775808<=base/\base<=9223372036854775807){lv:A3}{ML:List AR}(hL:DD ML lv l)(o9:l.length<=1000)(J:∀x∈l,x.cs.length<=1000){rv:A3}{A:List AR}(hr:CZ A rv r.rows)(hn:r.rows.length<=1000000)(hv:-1000000000000000000<=r.val/\r.val<=1000000000000000000):CJ prog 45 #[.agg q.Ax4,.agg #[rv,I4 r.val,.bool r.fnd],I4 base,lv] [A,ML] (fun w H'=>∃U s',w= .tuple #[.agg #[U,I4 (CG q r base l).1.val,.bool (CG q r base l).1.fnd],I4 (CG q r base l).2.1,.bool (CG q r base l).2.2]/\BS 5 91 U (CG q r base l).1.rows.length (Aa (CG q r base l).1.rows) s'/\H'=[s',A,ML]):=by
 have p8:=mL;obtain ⟨pv,cv,rfl,_⟩:=id hr;obtain ⟨pl,l8,rfl,⟨oq,o8⟩,cO⟩:=id hL;refine Se func45 ntmps45 [0,1,2,3] ?_;intro u R;refine A2<|Ze (Bx q.Ax4)<|AE fun bq=>Ze (Bx #[.slice pv r.rows.length cv,I4 r.val,.bool r.fnd])<|AE fun br=>Ze (Al GO #[_,_,_])<|AE fun bo=>Za Y<|AF Y<|B7 Y<|AF Y<|A2<|Zh 0 Cd V rfl Cl Y<|Zl DQ Y<|Zc [_] Y call98 Y V (J9 hr A0) ?_;rintro _ _ ⟨_,⟨s1,h1,rfl⟩,rfl⟩;obtain ⟨g1,c1,rfl⟩:=h1.form;refine Zh 0 Cd V rfl Cl Y<|Xe (Zs Cl Y Y V (hi:=by(simp;done)))<|A6<|C0 Y<|Zv (AJ G4 Y)<|Zm Y<|Z0<|Zn [2,4,5,8,11,22,23,24] ?_;refine Zx<|AQ<|Zb [11,24,2,4,5,8,22,23] ?_;refine Av (e0:=[(11,_),(24,_)]) (fun m e H=>∃(k:Nat) (g:CB×Int) (X:C1) (W:Nat) (Z:List AR),m=l.length -k/\(k<=l.length/\II q base 0 (r,base) (l.take k)=some g/\BS 5 91 (.slice X g.1.rows.length W) g.1.rows.length (Aa g.1.rows) Z)/\e=[(11,I4 g.2),(24,I4 (k:Int))]/\H=[[(br,.cells #[.slice X g.1.rows.length W,I4 g.1.val,.bool g.1.fnd] 51 (0,0))],Z]) (by exact ⟨0,(r,base),g1,c1,s1,rfl,⟨CD _,by rw [Hh];rfl,h1⟩,rfl,rfl⟩) Wp ?_;rintro _ _ _ ⟨k,g,X,W,Z,rfl,⟨hk,y,O⟩,rfl,rfl⟩;obtain ⟨gq,gm⟩:=We (l.take k) 0 (r,base) g 1000000000000000000 1000000 y (fun x hx=>J x (Ks hx)) hv A0 hn;have d9:(l.take k).length=k:=by rw [CI];omega
 rw [d9]at gq gm;have cu:=Ca O A0
 refine A2<|Zv (Ak Y Y)<|A6<|Zq<|Ad Y (fun M=>?_) (fun M=>?_);·
  obtain ⟨x,hx⟩:∃x,l[k]?=some x:=⟨_,Bk M⟩;have kv:=J x (Fm hx)
  obtain ⟨bf,g2,mR,I,T2,kz,rfl,gy,l9,K⟩:=cO k x hx;refine B3<|Zq<|AQ<|B7 Y<|BN (A9 G4 Fk Y Y A0)<|Cj (cs:=[(g2,.cells I T2 kz)]) (by simp [gy]) (A7 (cs:=#[_,_]) J1 Fk Y A0 K) V rfl<|Ze (Al SP #[_,_])<|AE fun bx=>Za Y<|Xe (Xw Fk #[I4 x.p,.slice x.q x.cs.length x.cap])<|A6<|A2<|Zo Wh (A7 (cs:=#[_,_,_,_,_,_,_]) DE CN Y BW B5)<|Zo Wh (A7 (cs:=#[_,_,_]) D0 BE Y BW B5)<|Zo Wh (A7 (cs:=#[_,_]) J1 Fk Y BW B5)<|Zc [_,_,_] Y call99 Y V (fe q hq x.p x.q x.cap x.cs bf kv cu A0 A0) ?_;rintro _ _ ⟨_,⟨p9,s3,rfl,h3,rfl⟩,rfl⟩;obtain ⟨g3,c3,rfl⟩:=h3.form;refine Sk 4 V<|Ze (Al GO #[_,_,_])<|AE fun bn=>Xe (Xw BE #[.slice g3 (CL q g.1 x.cs).1.rows.length c3,I4 (CL q g.1 x.cs).1.val,.bool (CL q g.1 x.cs).1.fnd])<|Za Y<|AN Y<|Zn [2,4,5,8,11,12,13,14,15,16,22,23,24] ?_;refine Zx<|C0 Y<|Zv (CR Y)<|Zm Y<|Ae (t:=39) Y V (fun G=>?_) (fun G=>?_);focus
   have z:(CL q g.1 x.cs).2.2=false:=by simpa using G
   refine Sk 14 V<|Z0<|Zn [2,4,5,8,11,13,14,15,22,23,24,53] ?_;refine Zx<|BV Y<|Zq<|Bi ?_;have E:CG q r base l=(CB.none,0,false):=by unfold CG;rw [Kn (k:=k+1) (by rw [Gg y hx,Ax (by(rw [z];rintro ⟨h,_⟩;cases h;done))])]
  rotate_left
  focus
   have z:(CL q g.1 x.cs).2.2=true:=by simpa using G
   refine Sk 2 V ?_;refine ER Y (C8 (m:=9223372036854775806) Y Y A0 A0) V rfl ?_;refine Yg (EE Y Y)<|Sk 2 V ?_;refine AZ (t:=45) Y V (fun af=>?_) (fun af=>?_);focus
    refine Sk 8 V<|Z0<|Zn [2,4,5,8,11,13,14,15,22,23,24,53] ?_;refine Zx<|BV Y<|Zq<|Bi ?_;have E:CG q r base l=(CB.none,0,false):=by unfold CG;rw [Kn (k:=k+1) (by rw [Gg y hx,Ax (by(rintro ⟨_,h8,h9⟩;omega))])]
   rotate_left
   focus
    refine Yf 0 G3 V rfl A4 Y<|Yl A5 Y<|Zf Y Y<|ER Y (Fw Y Y (IntWalk.i64_in _ A0)) V rfl ?_;refine Zf Y Y<|ER Y (Fw Y Y (IntWalk.i64_in _ A0)) V rfl ?_;refine Yg (ED Y Y)<|H3 Y Y<|Z0<|Zn [2,4,5,8,11,13,14,15,22,23,24,53] ?_;refine Zx<|Ad Y (fun ax=>?_) (fun ax=>?_);focus
     refine Zq<|Bi ?_;have E:CG q r base l=(CB.none,0,false):=by unfold CG;rw [Kn (k:=k+1) (by rw [Gg y hx,Ax (by(rintro ⟨_,h8,h9⟩;omega))])]
    rotate_left
    refine AB<|BT<|Zo Wh (A7 (cs:=#[_,_,_]) D0 BE Y BW B5)<|Xe (Ao BE Y Y Ft Wu B5 DO BW (by exact Aw _))<|A6<|B7 Y<|A6<|Af Y (fun ht=>?_) (fun ht=>?_);·
     refine Zg<|Zh 0 G3 V rfl A4 Y<|Zl A5 Y<|AN Y<|A8<|Zx<|GP Y Y Y<|DH (e:=[(11,_),(24,_)]) (h:=by exact ⟨k+1,((CL q g.1 x.cs).1,x.p),g3,c3,s3,rfl,⟨by omega,by rw [Gg y hx,B2 ⟨z,by omega,by omega⟩,ht];rfl,h3⟩,rfl,rfl⟩)
    refine AB<|A8<|Zx<|GP Y Y Y<|DH (e:=[(11,_),(24,_)]) (h:=by exact ⟨k+1,((CL q g.1 x.cs).1,g.2),g3,c3,s3,rfl,⟨by omega,by rw [Gg y hx,B2 ⟨z,by omega,by omega⟩,ht];rfl,h3⟩,rfl,rfl⟩)
  all_goals
   refine Zg<|Zv (BK (vs:=[]) (cs:=#[_,_,_]) Y (AY (pl:=#[(0,1),(1,1),(2,1)]) GO Cd (fun _=>by kernel_rfl) rfl))<|Xe (Xw BE _)<|Za Y<|AM Y<|Zt<|AX<|Zt<|Zt<|AX<|Zt<|IA rfl results45 Y Wh (Ai D0 BE Wn (rfl)) Y Y (by exact ⟨.slice none 0 0,[],by rw [E];rfl,by rw [E];exact BX 5 _,rfl⟩)
 have ek:k=l.length:=by omega
 subst ek;rw [HJ]at y;have E:CG q r base l=(g.1,g.2,true):=by unfold CG;rw [y]
 refine Az<|Zt<|Zt<|AU<|BT<|Zo Wh (A7 (cs:=#[_,_,_]) D0 BE Y BW B5)<|Zm Y<|Xe (Xw BE _)<|Za Y<|AM Y<|IA rfl results45 Y Wh (Ai D0 BE Wn (rfl)) Y Y (by exact ⟨.slice X _ W,Z,by rw [E];rfl,by rw [E];exact O,rfl⟩)
set_option maxHeartbeats 1000000 in
theorem dB(q:QM)(hq:BH q)(base:Int)(hb:-9223372036854775808<=base/\base<=9223372036854775807){lv:A3}{ML:List AR}(hL:DD ML lv l)(p8:l.length<=64)(bn:∀x∈l,x.cs.length<=1000){rv:A3}{A:List AR}(hr:CZ A rv r.rows)(hn:r.rows.length<=700000)(hv:-1000000000000000000<=r.val/\r.val<=1000000000000000000):CJ prog 46 #[.agg q.Ax4,.agg #[rv,I4 r.val,.bool r.fnd],I4 base,lv] [A,ML] (fun w H'=>∃d9 E,w= .tuple #[.agg #[d9,I4 (CG q r base l).1.val,.bool (CG q r base l).1.fnd],I4 (CG q r base l).2.1,.bool (CG q r base l).2.2]/\CZ E d9 (CG q r base l).1.rows/\(∀z∈A,z∈E)/\H'=[E,ML]):=by
 have pg:=mL;obtain ⟨pv,cv,rfl,_⟩:=id hr;obtain ⟨pl,l9,rfl,⟨p9,oq⟩,gq⟩:=id hL;refine Se func46 ntmps46 [0,1,2,3] ?_;intro u R;refine A2<|Ze (Bx q.Ax4)<|AE fun bq=>Ze (Bx #[.slice pv r.rows.length cv,I4 r.val,.bool r.fnd])<|AE fun br=>Ze (Ff GO (cs:=#[.slice none 0 0,I4 0,.bool false]) AG)<|AE fun bo=>Za Y<|AF Y<|B7 Y<|CT Y<|A2<|AF Y<|AQ<|Zb [11,12,2,3,4,5,8] ?_;refine Av (e0:=[(11,_),(12,_)]) (fun m e H=>∃(k:Nat) (g:CB×Int) (pk:C1) (ck:Nat) (E:List AR),m=l.length -k/\(k<=l.length/\II q base 0 (r,base) (l.take k)=some g/\CZ E (.slice pk g.1.rows.length ck) g.1.rows/\(∀z∈A,z∈E))/\e=[(11,I4 g.2),(12,I4 (k:Int))]/\H=[[(br,.cells #[.slice pk g.1.rows.length ck,I4 g.1.val,.bool g.1.fnd] 51 (0,0))],E]) (by exact ⟨0,(r,base),pv,cv,A,rfl,⟨CD _,by rw [Hh];rfl,hr,fun z hz=>hz⟩,rfl,rfl⟩) Wp ?_;rintro _ _ _ ⟨k,g,pk,ck,E,rfl,⟨hk,y,hU,O⟩,rfl,rfl⟩;obtain ⟨kz,kv⟩:=We (l.take k) 0 (r,base) g 1000000000000000000 700000 y (fun x hx=>bn x (Ks hx)) hv A0 hn;have gy:(l.take k).length=k:=by rw [CI];omega
 rw [gy]at kz kv;refine Zq<|A2<|Sk 2 V<|Zv (AJ G4 Y)<|Zv (Ak Y Y)<|A6<|Ad Y (fun cu=>?_) (fun cu=>?_);·
  obtain ⟨x,hx⟩:∃x,l[k]?=some x:=⟨_,Bk cu⟩;have cO:=bn x (Fm hx)
  obtain ⟨bf,g2,o9,mR,T2,pq,rfl,X,o8,G⟩:=gq k x hx;refine B3<|Zq<|AQ<|Zb [2,3,4,5,8,11,12] ?_;refine C9 (e0:=[]) (H0:=[E]) (fun e H=>∃(bs:Nat) (K:C1) (J:Nat) (I:List AR),(CZ I (.slice K (CL q g.1 x.cs).1.rows.length J) (CL q g.1 x.cs).1.rows/\∀z∈E,z∈I)/\e=[(13,I5 bs),(14,.bool (CL q g.1 x.cs).2.1),(15,.bool (CL q g.1 x.cs).2.2)]/\H=[[(bs,.cells #[.slice K (CL q g.1 x.cs).1.rows.length J,I4 (CL q g.1 x.cs).1.val,.bool (CL q g.1 x.cs).1.fnd] 51 (0,0))],I]) Wp ?hx_2 ?hy_2
  case hx_2=>
   refine Au (n:=15) (0::0::0::0::12::28::63::127::255::255::255::0::2559::7167::16383::[]) 6208 AG AG V<|Fo 0 V Wh (A7 (cs:=#[_,_,_,_,_,_,_]) DE CN Y (by exact B4 _) (by exact AP V)) ?_;refine Fo 1 V Wh (A7 (cs:=#[_,_,_]) D0 BE Y (by exact B4 _) (by exact AP V)) ?_;refine A1 2 V (AA Y)<|A1 3 V (AA Y)<|A1 4 V (A9 G4 Fk Y Y A0)<|CX (D':=63) 5 V rfl V (GK Wo (X)) (A7 (cs:=#[_,_]) J1 Fk Y A0 (by exact G)) ?_;refine Zz (l:=[6,11])<|C6 [false,false,false] [] V rfl (Zw [_,_,_] Y call100 Y V (YL q hq x.p x.q x.cap x.cs bf cO hU A0 A0)) ?hk_3 DC ?hl_3
   case' hk_3=>
    rintro _ _ ⟨_,⟨l8,I,rfl,U,h4,rfl⟩,rfl⟩;refine ⟨Ab,?_⟩;obtain ⟨K,J,rfl,_⟩:=id U;refine A1 7 V (AA Y)<|A1 8 V (Bn Y V)<|A1 9 V (Bn Y V)<|A1 10 V (Bn Y V)<|Zz (l:=[11])<|C6 [] [] V rfl (Al GO #[_,_,_]) ?hk_4 (fun _ _ h=>h.elim) ?hl_4
    case' hk_4=>
     rintro _ _ ⟨bs,rfl,rfl⟩;refine CA<|Yz 12 2559 8191 [] [] [] V Y V rfl V rfl (Xw BE #[.slice K (CL q g.1 x.cs).1.rows.length J,I4 (CL q g.1 x.cs).1.val,.bool (CL q g.1 x.cs).1.fnd]) ?_
    case' hl_4=>
     exact Ar
   case' hl_3=>
    refine C6 [true,true,true] [(5,(_,_)),(1,(_,_)),(0,(_,_))] V rfl (Al GO #[_,_,_]) ?hk_7 (fun _ _ h=>h.elim) ?hl_7
    case' hk_7=>
     rintro _ _ ⟨bs,rfl,rfl⟩;refine ⟨Ii (by simp [*]) (Zk (Zk (Ab))),?_⟩;refine Zz (l:=[6])<|C6 [false,false,false] [] V rfl (Zw [_,_,_] Y call100 Y V (YL q hq x.p x.q x.cap x.cs bf cO hU A0 A0)) ?hk_8 DC ?hl_8
     case' hk_8=>
      rintro _ _ ⟨_,⟨l8,I,rfl,U,h4,rfl⟩,rfl⟩;refine ⟨Ab,?_⟩;obtain ⟨K,J,rfl,_⟩:=id U;refine A1 7 V (AA Y)<|A1 8 V (Bn Y V)<|A1 9 V (Bn Y V)<|A1 10 V (Bn Y V)<|Zz (l:=[12])<|C6 [] [] V rfl (Xw BE #[.slice K (CL q g.1 x.cs).1.rows.length J,I4 (CL q g.1 x.cs).1.val,.bool (CL q g.1 x.cs).1.fnd]) ?hk_9 (fun _ _ h=>h.elim) ?hl_9
      case' hl_9=>
       exact Ar
     case' hl_8=>
      exact Ar
    case' hl_7=>
     exact Ar
   all_goals
    rintro _ _ ⟨rfl,rfl⟩;refine CA<|A1 13 V (Aq Y)<|A1 14 V (Aq Y)<|Am<|HC (by exact ⟨bs,K,J,I,⟨U,h4⟩,V,V⟩)
  rintro _ _ ⟨bs,K,J,I,⟨U,h4⟩,rfl,rfl⟩;refine Zq<|A2<|Sk 2 V<|Yb (m:=9223372036854775806) Y Y<|Zv (EE Y Y)<|Zm Y<|AZ (t:=38) Y V (fun gm=>?_) (fun gm=>?_);focus
   have Z:¬((CL q g.1 x.cs).2.2=true/\base<=9223372036854775806 -(k:Int)/\x.p=base+1+(k:Int)):=fun h=>by
    omega
   refine Sk 15 V<|Z0<|Zn [2,3,4,5,8,11,12,13,14,53] ?_;refine Zx<|BV Y ?_
  rotate_left
  focus
   refine Sk 2 V ?_
   (refine ER Y (A9 G4 Fk Y Y ?_) rfl rfl ?_;(focus (omega)))
   refine Yg (Aj (off:=0) G3 V rfl A4 Y)<|Mg Y (Yx Wo (X)) (BZ A5 Y (by exact IU (j:=0) G V)) V rfl ?_;refine Zf Y Y ?_
   (refine ER Y (Fw Y Y (IntWalk.i64_in _ ?_)) rfl rfl ?_;(focus (omega)))
   refine Zf Y Y ?_
   (refine ER Y (Fw Y Y (IntWalk.i64_in _ ?_)) rfl rfl ?_;(focus (omega)))
   refine Yg (ED Y Y)<|Sk 2 V ?_;refine AZ (t:=50) Y V (fun ax=>?_) (fun ax=>?_);focus
    have Z:¬((CL q g.1 x.cs).2.2=true/\base<=9223372036854775806 -(k:Int)/\x.p=base+1+(k:Int)):=fun h=>by
     exact ax h.2.2
    refine Sk 3 V<|Z0<|Zn [2,3,4,5,8,11,12,13,14,53] ?_;refine Zx<|BV Y ?_
   rotate_left
   focus
    refine Zf Y Y<|Yg (CR Y)<|H3 Y Y<|Z0<|Zn [2,3,4,5,8,11,12,13,14,53] ?_;refine Zx<|Af Y (fun W=>?_) (fun W=>?_);focus
     have M:(CL q g.1 x.cs).2.2=false:=by simpa using W
     have Z:¬((CL q g.1 x.cs).2.2=true/\base<=9223372036854775806 -(k:Int)/\x.p=base+1+(k:Int)):=fun h=>by
      rw [M]at h;cases h.1
    rotate_left
    have M:(CL q g.1 x.cs).2.2=true:=by simpa using W
    refine AB<|BT<|Zo Wh (A7 (cs:=#[_,_,_]) D0 BE Y (by exact B4 _) (by exact AP V)) ?_;refine Xe (Ao BE Y Y Ft Wu (by exact Bj rfl) DO (by exact B4 _) (by exact Aw _)) ?_;refine A6<|B7 Y<|A6<|Af Y (fun ht=>?_) (fun ht=>?_);·
     have af:(CL q g.1 x.cs).2.1=true:=ht;refine Zg<|Sk 2 V ?_;refine BN (A9 G4 Fk Y Y A0)<|Zv (Aj (off:=0) G3 V rfl A4 Y)<|Cj (Yx Wo (X)) (BZ A5 Y (by exact IU (j:=0) G V)) V rfl ?_;refine AN Y<|A8<|Zx<|Zg<|Zm Y<|Ya (n:=1) Y Y<|AN Y<|Zn [11,12,2,3,4,5,8] ?_;refine Ac (e':=[(11,_),(12,_)]) (by(have e9:(CL q g.1 x.cs).2.1=true:=af;exact ⟨k+1,((CL q g.1 x.cs).1,x.p),K,J,I,rfl,⟨by omega,by rw [Gg y hx,B2 ⟨M,by omega,by omega⟩,e9];rfl,U,fun z hz=>h4 z (O z hz)⟩,rfl,rfl⟩))
    have af:(CL q g.1 x.cs).2.1=false:=by simpa using ht
    refine AB<|A8<|Zx<|Zg<|Zm Y<|Ya (n:=1) Y Y<|AN Y<|Zn [11,12,2,3,4,5,8] ?_;refine Ac (e':=[(11,_),(12,_)]) (by(have e9:(CL q g.1 x.cs).2.1=false:=af;exact ⟨k+1,((CL q g.1 x.cs).1,g.2),K,J,I,rfl,⟨by omega,by rw [Gg y hx,B2 ⟨M,by omega,by omega⟩,e9];rfl,U,fun z hz=>h4 z (O z hz)⟩,rfl,rfl⟩))
  all_goals
   refine Zq ?_;have e8:CG q r base l=(CB.none,0,false):=by unfold CG;rw [Kn (k:=k+1) (by rw [Gg y hx,Ax Z])]
   refine Zg<|Zv (BK (vs:=[]) (cs:=#[_,_,_]) Y (AY (pl:=#[(0,1),(1,1),(2,1)]) GO Cd (fun _=>by kernel_rfl) rfl))<|Xe (Ao BE Y Y Ft Wu (by exact Bj rfl) DO AH (by exact Aw _)) ?_;refine Za Y<|AM Y<|Zt<|AX<|Zt<|Zt<|AX<|Zt<|IA rfl results46 Y Wh (Ai D0 BE Wn (AP rfl)) Y Y (by exact ⟨.slice none 0 0,I,by rw [e8];rfl,by rw [e8];exact Jk _,fun z hz=>h4 z (O z hz),rfl⟩)
 have ek:k=l.length:=by omega
 subst ek;rw [HJ]at y;have e8:CG q r base l=(g.1,g.2,true):=by unfold CG;rw [y]
 refine Az<|Zt<|Zt<|AU<|BT<|Zo Wh (A7 (cs:=#[_,_,_]) D0 BE Y (by exact B4 _) (by exact AP V)) ?_;refine Zm Y<|Xe (Ao BE Y Y Ft Wu (by exact Bj rfl) DO AH (by exact Aw _)) ?_;refine Za Y<|AM Y<|IA rfl results46 Y Wh (Ai D0 BE Wn (AP rfl)) Y Y (by exact ⟨.slice pk g.1.rows.length ck,E,by rw [e8],by rw [e8];exact hU,O,rfl⟩)
theorem uU(x:UInt32)(n m:Nat)(h0:0<n)(g:n<32)(y:n+m=32):(x>>>UInt32.ofNat n)|||(x<<<UInt32.ofNat m)=JM x (UInt32.ofNat n):=by
 rw [UInt32.or_comm];exact V6 x n m h0 g y
theorem iN(x a b:UInt32):QR x [a,b]=JM x a^^^JM x b:=by simp [QR]
theorem kg(x a b c:UInt32):QR x [a,b,c]=JM x a^^^JM x b^^^JM x c:=by simp [QR]
theorem Ug(b:List UInt8)(k:Nat)(x:UInt32)(h:EO b (k+1)=EO b k++[x]):(EO b (k+1)).map CP=(EO b k).map CP++[CP x]:=by rw [h,HD];rfl
variable{cur:As}
theorem oD{e:An}{v:A3}{l:List UInt32}{g cap:Nat}(m:cur.toList.take (l.map CP).length=l.map CP)(i:Nat)(h:i<l.length):cur[i]?=some (CP (l.getD i 0)):=by
 have y:(cur.toList.take (l.map CP).length)[i]?=(l.map CP)[i]?:=by rw [m]
 rw [C2,I3,B2 h,Kf,HL,Bk h]at y;rw [y];simp [Nd,Bk h]
theorem G7(x:UInt32)(n:Nat)(h0:0<n)(g:n<32):BB prog 238 #[.int .u32 (x.toNat:Int),I4 (n:Int)] [] (.int .u32 ((JM x (UInt32.ofNat n)).toNat:Int)):=by
 refine Se func238 ntmps238 [0,1] ?_;intro u R;refine A2<|CT Y<|Au (n:=9) (0::0::3::0::0::16::56::127::255::[]) 0 AG AG V<|A1 0 V (AA Y)<|A1 1 V (AA Y)<|A1 2 V (G8 Y Y A0)<|A1 3 V (AA Y)<|A1 4 V (AA Y) ?_
 (refine Dr (D':=63) 5 (C8 (m:=32) Y Y ?_ ?_) ?_;(focus (omega));(focus (omega)))
 refine A1 6 rfl (I9 Y Y A0)<|A1 7 rfl (JA Y Y)<|A1 8 rfl (Aq Y)<|Am<|Zx<|AC<|AO rfl results238 Y (by exact ⟨by rw [uU x n (32 -n) h0 g A0],rfl⟩)
theorem YF:CJ prog 239 #[] [] (fun r H'=>∃g,r=I6 g 64 64/\H'=[[(g,.cells (Dj.map CP).toArray 249 (0,0))]]):=by
 refine Se func239 ntmps239 [] ?_;intro u R;refine A2<|AF Y<|A2<|Ze (Ah (vs:=[_,_,_,_,_,_,_,_,_,_,_,_,_,_,_,_,_,_,_,_,_,_,_,_,_,_,_,_,_,_,_,_,_,_,_,_,_,_,_,_,_,_,_,_,_,_,_,_,_,_,_,_,_,_,_,_,_,_,_,_,_,_,_,_]) (cs:=[_,_,_,_,_,_,_,_,_,_,_,_,_,_,_,_,_,_,_,_,_,_,_,_,_,_,_,_,_,_,_,_,_,_,_,_,_,_,_,_,_,_,_,_,_,_,_,_,_,_,_,_,_,_,_,_,_,_,_,_,_,_,_,_]) HO EV cJ Y V rfl V rfl V)<|AE fun g=>AM Y<|AO V results239 Y (by exact ⟨g,V,V⟩)
theorem jm(l:List UInt8)(hs:l.length<=140737488355000):CJ prog 196 #[.string (str l)] [] (fun r H'=>∃z,Row 5 r ((Ed l).map u8v) z/\H'=[z]):=by
 have af:=mL;have hn:=Be l
 have hz:JU l.length<64:=by unfold JU;omega
 refine Se func196 ntmps196 [0] ?_;intro u R;refine A2<|AF Y<|A2<|CT Y<|A2<|AF Y<|AQ<|Bi<|Zb [3,4,0] ?_;refine Av (e0:=[(3,_),(4,_)]) (fun m e H=>∃(i:Nat) (v:A3) (z:List AR),m=l.length -i/\(i<=l.length/\Row 5 v ((l.take i).map u8v) z)/\e=[(3,v),(4,I4 (i:Int))]/\H=[z]) (by exact ⟨0,_,[],V,⟨CD _,JZ _⟩,V,V⟩) Wp ?_;rintro _ _ _ ⟨i,v,z,rfl,⟨hi,g⟩,rfl,rfl⟩;obtain ⟨Z,X,rfl⟩:=g.form;have ax:(l.take i).length<=i:=cV ..
 refine Zq<|A2<|Sk 2 V<|Zv (Da HM Y)<|Zv (Ak Y Y)<|A6<|Ad Y (fun U=>?_) (fun U=>?_);·
  refine B3<|Zq<|AQ ?_;have M:XU (str l) i=l.getD i 0:=by simp [XU,str]
  refine Zg<|Sk 3 V ?_
  (refine BN (Yj HM Y Y (fT _ _ ?_)) ?_;(focus (omega)))
  refine Ze (Ah (vs:=[_]) (cs:=[_]) GC KB Pr Y V rfl V rfl V)<|AE fun b1=>Ze (EX (by_:=1) (news:=[_]) GC (V:Tryz.prog.info? 5=some Tryz.t5) V rfl V rfl Y g Y Wo Wh B5 V HH AH (by(simp only [C2,hn];omega)) (by(simp only [C2,hn];omega))) ?_;rintro _ _ ⟨sq,J,rfl⟩;obtain ⟨gq,cq,rfl⟩:=J.form;refine AN Y<|A8<|Zx<|Zg<|Zm Y<|Ya (n:=1) Y Y<|AN Y<|DH (e:=[(3,_),(4,_)]) (h:=by exact ⟨i+1,_,_,rfl,⟨by omega,by rw [NC u8v l i 0 A0,<-M];exact J⟩,rfl,rfl⟩)
 have ei:l.take i=l:=Hx A0;rw [ei]at g⊢;refine Az<|Zt<|Zt<|AU<|Zx<|B7 Y<|Ze (Ah (vs:=[_]) (cs:=[_]) GC KB Pr Y V rfl V rfl V)<|AE fun b3=>Ze (EX (by_:=1) (news:=[_]) GC (V:Tryz.prog.info? 5=some Tryz.t5) V rfl V rfl Y g Y Wo Wh B5 V HH AH (by(simp only [C2,hn];omega)) (by(simp only [C2,hn];omega))) ?_;rintro _ _ ⟨sw,K,rfl⟩;obtain ⟨gw,cw,rfl⟩:=K.form;refine CT Y<|AQ ?_;have W:(O8 l 0).map u8v=List.map u8v l++[Value.int IntKind.u8 128]:=by simp [O8,u8v]
 refine Zb [3,0] ?_;refine Av (e0:=[(3,_)]) (fun m e H=>∃(k:Nat) (v:A3) (z:List AR),m=JU l.length -k/\(k<=JU l.length/\Row 5 v ((O8 l k).map u8v) z)/\e=[(3,v)]/\H=[z]) (by exact ⟨0,_,_,rfl,⟨CD _,by rw [W];exact K⟩,rfl,rfl⟩) Wp ?_;rintro _ _ _ ⟨k,v,z,rfl,⟨hk,g⟩,rfl,rfl⟩;obtain ⟨Z,X,rfl⟩:=g.form;refine C0 Y<|Zv (AJ GC Y)<|BN (Gm (n:=64) Y Y A0)<|Zv (Cb (n:=56) Y Y)<|A6<|Ad Y (fun y=>?_) (fun y=>?_);·
  rw [C2,IP]at y;have O:=gF _ _ hk y
  refine B3<|AQ<|Zg<|Zm Y<|Ze (Ah (vs:=[_]) (cs:=[_]) GC KB Pr Y V rfl V rfl V)<|AE fun b5=>Ze (EX (by_:=1) (news:=[_]) GC (V:Tryz.prog.info? 5=some Tryz.t5) V rfl V rfl Y g Y Wo Wh B5 V HH AH (by(simp only [C2,IP];omega)) (by(simp only [C2,IP];omega))) ?_;rintro _ _ ⟨sc,G,rfl⟩;obtain ⟨gc,cc,rfl⟩:=G.form;refine AN Y<|A8<|DH (e:=[(3,_)]) (h:=by exact ⟨k+1,_,_,rfl,⟨O,by rw [<-VZ];exact G⟩,rfl,rfl⟩)
 rw [C2,IP]at y;have ek:=gG _ _ hk A0
 subst ek;refine Az<|Zt<|Zt<|AU<|Zx<|Zq<|A2<|AF Y<|AQ<|Zb [3,5,0] ?_;refine Av (e0:=[(3,_),(5,_)]) (fun m e H=>∃(j:Nat) (i:Int) (v:A3) (z:List AR),m=8 -j/\(j<=8/\i=7 -(j:Int)/\Row 5 v ((Sv l j).map u8v) z)/\e=[(3,v),(5,I4 i)]/\H=[z]) (by exact ⟨0,_,_,_,rfl,⟨CD _,rfl,by rw [Va];exact g⟩,rfl,rfl⟩) Wp ?_;rintro _ _ _ ⟨j,i,v,z,rfl,⟨hj,hi,g⟩,rfl,rfl⟩;obtain ⟨Z,X,rfl⟩:=g.form;refine C0 Y<|Zv (Fa Y Y)<|A6<|Ad Y (fun E=>?_) (fun E=>?_);·
  obtain ⟨q,rfl⟩:=Int.eq_ofNat_of_zero_le E;refine B3<|Zq<|AQ<|Zg<|Sk 2 rfl<|Zv (Da HM Y)<|BN (Dl (m:=8) Y Y A0)<|Zm Y<|BN (Dl (m:=8) Y Y A0)<|BN (QJ Y Y (by first|decide|(simp [IntKind.bits];done)|(simp [IntKind.bits];omega)))<|KH (FB Ge IF Y (iR _)) rfl rfl ?_;refine Ze (Ah (vs:=[_]) (cs:=[_]) GC KB Pr Y V rfl V rfl V)<|AE fun b7=>Ze (EX (by_:=1) (news:=[_]) GC (V:Tryz.prog.info? 5=some Tryz.t5) V rfl V rfl Y g Y Wo Wh B5 V HH AH (by(simp only [C2,PH l j hj];omega)) (by(simp only [C2,PH l j hj];omega))) ?_;rintro _ _ ⟨sd,I,rfl⟩;obtain ⟨gd,cd,rfl⟩:=I.form;refine AN Y<|Zn [0,3,5] ?_;refine A8<|Zx<|Zg<|Zm Y ?_
  (refine BN (GI Y Y (IntWalk.i64_in _ ?_)) ?_;(focus (omega)))
  refine AN Y<|DH (e:=[(3,_),(5,_)]) (h:=by exact ⟨j+1,_,_,_,rfl,⟨by omega,by omega,by rw [<-Vb l j q A0];exact I⟩,rfl,rfl⟩)
 have ej:j=8:=by omega
 subst ej;rw [QH]at g⊢;refine Az<|Zt<|Zt<|AU<|Zx<|B7 Y<|AM Y<|AO V results196 Y (by exact ⟨_,g,V⟩)
theorem IC{b:List UInt8}{i:Nat}(m:cur.toList.take ((EO b k).map CP).length=(EO b k).map CP)(h:i<k):cur[i]?=some (.int .u32 (((EO b k).getD i 0).toNat:Int)):=
 oD (e:=0) (v:= .nilFunc) (g:=0) (cap:=0) m i (by rw [Bc];exact h)
theorem Hw{v:V8}(m:cur.toList.take (v.list.map CP).length=v.list.map CP)(i:Nat)(h:i<8):cur[i]?=some (.int .u32 ((v.list.getD i 0).toNat:Int)):=
 oD (e:=0) (v:= .nilFunc) (g:=0) (cap:=0) m i h
theorem kY(w:List UInt32)(i:Nat):Yv w i=w.getD (i -16) 0+(JM (w.getD (i -15) 0) (UInt32.ofNat 7)^^^JM (w.getD (i -15) 0) (UInt32.ofNat 18)^^^w.getD (i -15) 0>>>UInt32.ofNat 3)+w.getD (i -7) 0+(JM (w.getD (i -2) 0) (UInt32.ofNat 17)^^^JM (w.getD (i -2) 0) (UInt32.ofNat 19)^^^w.getD (i -2) 0>>>UInt32.ofNat 10):=by
 unfold Yv;rw [iN,iN];rfl
theorem tH(x y:V8)(i:Nat)(h:i<8):(tJ x y).list.getD i 0=x.list.getD i 0+y.list.getD i 0:=by
 rcases (by omega:i=0\/i=1\/i=2\/i=3\/i=4\/i=5\/i=6\/i=7)with rfl|rfl|rfl|rfl|rfl|rfl|rfl|rfl<;>rfl
theorem bX(b:List UInt8)(hv:V8)(i:Nat):(Cu (E9 b) hv (i+1)).list.map CP=
 [.int .u32 (((Cu (E9 b) hv i).list.getD 7 0+(JM ((Cu (E9 b) hv i).list.getD 4 0) (UInt32.ofNat 6)^^^JM ((Cu (E9 b) hv i).list.getD 4 0) (UInt32.ofNat 11)^^^JM ((Cu (E9 b) hv i).list.getD 4 0) (UInt32.ofNat 25))+((Cu (E9 b) hv i).list.getD 4 0&&&(Cu (E9 b) hv i).list.getD 5 0^^^~~~(Cu (E9 b) hv i).list.getD 4 0&&&(Cu (E9 b) hv i).list.getD 6 0)+Dj.getD i 0+(EO b 64).getD i 0+
    ((JM ((Cu (E9 b) hv i).list.getD 0 0) (UInt32.ofNat 2)^^^JM ((Cu (E9 b) hv i).list.getD 0 0) (UInt32.ofNat 13)^^^JM ((Cu (E9 b) hv i).list.getD 0 0) (UInt32.ofNat 22))+((Cu (E9 b) hv i).list.getD 0 0&&&(Cu (E9 b) hv i).list.getD 1 0^^^(Cu (E9 b) hv i).list.getD 0 0&&&(Cu (E9 b) hv i).list.getD 2 0^^^(Cu (E9 b) hv i).list.getD 1 0&&&(Cu (E9 b) hv i).list.getD 2 0))).toNat:Int),
  .int .u32 (((Cu (E9 b) hv i).list.getD 0 0).toNat:Int),.int .u32 (((Cu (E9 b) hv i).list.getD 1 0).toNat:Int),.int .u32 (((Cu (E9 b) hv i).list.getD 2 0).toNat:Int),
  .int .u32 (((Cu (E9 b) hv i).list.getD 3 0+((Cu (E9 b) hv i).list.getD 7 0+(JM ((Cu (E9 b) hv i).list.getD 4 0) (UInt32.ofNat 6)^^^JM ((Cu (E9 b) hv i).list.getD 4 0) (UInt32.ofNat 11)^^^JM ((Cu (E9 b) hv i).list.getD 4 0) (UInt32.ofNat 25))+((Cu (E9 b) hv i).list.getD 4 0&&&(Cu (E9 b) hv i).list.getD 5 0^^^~~~(Cu (E9 b) hv i).list.getD 4 0&&&(Cu (E9 b) hv i).list.getD 6 0)+Dj.getD i 0+(EO b 64).getD i 0)).toNat:Int),
  .int .u32 (((Cu (E9 b) hv i).list.getD 4 0).toNat:Int),.int .u32 (((Cu (E9 b) hv i).list.getD 5 0).toNat:Int),.int .u32 (((Cu (E9 b) hv i).list.getD 6 0).toNat:Int)]:=by
 have e:Cu (E9 b) hv (i+1)=nS (Cu (E9 b) hv i) (Dj.getD i 0) ((EO b 64).getD i 0):=rfl;rw [e];generalize Cu (E9 b) hv i=x;generalize Dj.getD i 0=k;generalize (EO b 64).getD i 0=w;obtain ⟨a,b,c,d,e,f,g,h⟩:=x;simp only [V8.list,nS,Gw.Ch,Gw.nR,kg,L3,NO,CP,List.getD_cons_zero,List.getD_cons_succ];rfl
theorem fZ(hv:V8)(g:List UInt8)(i:Nat)(h:i<8):(M5 hv g).list.getD i 0=hv.list.getD i 0+(Cu (E9 g) hv 64).list.getD i 0:=tH _ _ i h
theorem rK(i:Nat)(h:i<64):((Dj.map CP).toArray)[i]?=some (.int .u32 ((Dj.getD i 0).toNat:Int)):=RZ CP Dj i 0 (by rw [ZB];exact h)
theorem YG(gh X gb ob W:Nat)(G J:As)(Th Tb:An)(zh zb:Nat×Nat)(hv:V8)(E:List UInt8)(hh:G.toList.take (hv.list.map CP).length=hv.list.map CP)(hb:M7 J ob E)(q9:E.length=64):
 CJ prog 197 #[I6 gh 8 X,.slice (some ⟨gb,ob,none⟩) 64 W] [[(gh,.cells G Th zh)],[(gb,.cells J Tb zb)]] (fun r H'=>∃z,Row 249 r ((M5 hv E).list.map CP) z/\H'=[[(gh,.cells G Th zh)],[(gb,.cells J Tb zb)],z]):=by
 have qb:=mL;refine Se func197 ntmps197 [0,1] ?_;intro u R;refine A2<|AF Y<|A2<|CT Y<|A2<|AF Y<|AQ<|Bi<|Zb [5,6,0,1] ?_;refine Av (e0:=[(5,_),(6,_)]) (fun m e H=>∃(i:Nat) (v:A3) (z:List AR),m=16 -i/\(i<=16/\Row 249 v ((EO E i).map CP) z)/\e=[(5,v),(6,I4 (i:Int))]/\H=[z]) (by exact ⟨0,_,[],V,⟨CD _,JZ _⟩,V,V⟩) Wp ?_;rintro _ _ _ ⟨i,v,z,rfl,⟨hi,I⟩,rfl,rfl⟩;obtain ⟨gv,cv,rfl⟩:=I.form;refine C0 Y<|Zv (Ak (n:=16) Y Y)<|A6<|Ad Y (fun Z=>?_) (fun Z=>?_);·
  refine B3<|Zq<|AQ<|Au (n:=37) (0::0::0::4::14::30::62::126::0::0::512::1536::3840::7936::16128::32512::65534::0::0::262144::786432::1966080::4063232::8257536::16646144::33554430::0::0::134217728::402653184::1006632960::2080374784::4227858432::8589934590::17179869182::34359738367::68719476735::[]) 51539607552 AG AG V<|A1 0 V (AA Y)<|A1 1 V (AA Y)<|A1 2 V (AA Y)<|A1 3 V (Dl (m:=4) Y Y A0)<|A1 4 V (BO GC KB Y Y A0)<|B6 5 V Vc Y (hv:=by exact hb.get _ A0) ?_;refine A1 6 V (Eh IF PB Y)<|A1 7 V (I9 (n:=24) Y Y A0)<|A1 8 V (AA Y)<|A1 9 V (AA Y)<|A1 10 V (Dl (m:=4) Y Y A0)<|A1 11 V (Ce (n:=1) Y Y A0)<|A1 12 V (BO GC KB Y Y A0)<|B6 13 V Vc Y (hv:=by exact hb.get _ A0) ?_;refine A1 14 V (Eh IF PB Y)<|A1 15 V (I9 (n:=16) Y Y A0)<|A1 16 V (JA Y Y)<|A1 17 V (AA Y)<|A1 18 V (AA Y)<|A1 19 V (Dl (m:=4) Y Y A0)<|A1 20 V (Ce (n:=2) Y Y A0)<|A1 21 V (BO GC KB Y Y A0)<|B6 22 V Vc Y (hv:=by exact hb.get _ A0) ?_;refine A1 23 V (Eh IF PB Y)<|A1 24 V (I9 (n:=8) Y Y A0)<|A1 25 V (JA Y Y)<|A1 26 V (AA Y)<|A1 27 V (AA Y)<|A1 28 V (Dl (m:=4) Y Y A0)<|A1 29 V (Ce (n:=3) Y Y A0)<|A1 30 V (BO GC KB Y Y A0)<|B6 31 V Vc Y (hv:=by exact hb.get _ A0) ?_;refine A1 32 V (Eh IF PB Y)<|A1 33 V (JA Y Y)<|Zz (l:=[34])<|C6 [false,false,false,false] [] V rfl (Ah (vs:=[_]) (cs:=[_]) HO EV cJ Y V rfl V rfl V) ?_ (fun _ _ h=>h.elim) Ar;rintro _ _ ⟨b1,rfl,rfl⟩;refine CA<|Yw 35 68719476735 V (EX (by_:=4) (news:=[_]) HO (V:Tryz.prog.info? 249=some Tryz.t249) V rfl V rfl Y I Y Wo Wh B5 V HH AH (by(simp only [C2,Bc];omega)) (by(simp only [C2,Bc];omega))) ?_;rintro _ _ ⟨sq,bf,rfl⟩;obtain ⟨gq,cq,rfl⟩:=bf.form;refine A1 36 V (Aq Y)<|Am<|Zn [0,1,5,6] ?_;refine A8<|Zx<|Zg<|Zm Y<|Ya (n:=1) Y Y<|AN Y<|DH (e:=[(5,_),(6,_)]) (h:=by exact ⟨i+1,_,_,rfl,⟨by omega,by rw [Ug E i _ (Xk E i A0)];exact bf⟩,rfl,rfl⟩)
 have O:i=16:=by omega
 subst O;refine Az<|Zt<|Zt<|AU<|Zx<|Zq<|A2<|AF Y<|AQ<|Zb [5,7,0] ?_;refine Av (e0:=[(5,_),(7,_)]) (fun m e H=>∃(i:Nat) (v:A3) (z:List AR),m=64 -i/\(16<=i/\i<=64/\Row 249 v ((EO E i).map CP) z)/\e=[(5,v),(7,I4 (i:Int))]/\H=[z]) (by exact ⟨16,_,_,V,⟨B4 _,by omega,I⟩,V,V⟩) Wp ?_;rintro _ _ _ ⟨i,v,z,rfl,⟨qa,hi,I⟩,rfl,rfl⟩;obtain ⟨gw,gy,kz,zw,rfl,rfl,p8,l9,mR,y,o9⟩:=I.some (by rw [C2];(rw [Bc];omega));refine C0 Y<|Zv (Ak (n:=64) Y Y)<|A6<|Ad Y (fun af=>?_) (fun af=>?_);·
  refine B3<|Zq<|AQ<|Zq<|Au (n:=21) (0::0::2::7::15::31::0::0::128::448::960::2047::4095::0::0::16384::57344::122880::253952::524287::1048575::[]) 2080 AG AG V<|A1 0 V (AA Y)<|A1 1 V (AA Y) ?_
  (refine Dr (D':=7) 2 (C8 (n:=15) Y Y ?_ ?_) ?_;(focus (omega));(focus (omega)))
  refine A1 3 rfl (BI HO EV Y Y (by first|omega|(rw [C2,Bc];omega)|(rw [C2];show _<8;omega)|decide))<|B6 4 rfl Gk Y (hv:=by exact IC y A0) ?_;refine A1 6 V (AA Y)<|A1 7 V (AA Y) ?_
  (refine Dr (D':=479) 8 (C8 (n:=15) Y Y ?_ ?_) ?_;(focus (omega));(focus (omega)))
  refine A1 9 rfl (BI HO EV Y Y (by first|omega|(rw [C2,Bc];omega)|(rw [C2];show _<8;omega)|decide))<|B6 10 rfl Gk Y (hv:=by exact IC y A0) ?_;refine A1 13 V (AA Y)<|A1 14 V (AA Y) ?_
  (refine Dr (D':=59359) 15 (C8 (n:=15) Y Y ?_ ?_) ?_;(focus (omega));(focus (omega)))
  refine A1 16 rfl (BI HO EV Y Y (by first|omega|(rw [C2,Bc];omega)|(rw [C2];show _<8;omega)|decide))<|B6 17 rfl Gk Y (hv:=by exact IC y A0) ?_;refine A1 18 V (G8 (n:=3) Y Y A0)<|Yz 5 31 518143 [17,10,4] [true,true,false] [(17,(_,_)),(10,(_,_))] V Y V rfl V rfl (Zu [_,_] Y XS Y V (G7 _ 7 AH AH))<|DA<|CA<|Yz 11 2047 520191 [17,10] [true,false] [(17,(_,_))] V Y V rfl V rfl (Zu [_,_] Y XS Y V (G7 _ 18 AH AH))<|DA<|CA<|A1 12 V (Dk Y Y)<|A1 19 V (Dk Y Y)<|A1 20 V (Aq Y)<|Am<|Zn [0,5,7,8] ?_;refine Zx<|Zq<|Au (n:=21) (0::0::2::7::15::31::0::0::128::448::960::2047::4095::0::0::16384::57344::122880::253952::524287::1048575::[]) 2080 AG AG V<|A1 0 V (AA Y)<|A1 1 V (AA Y) ?_
  (refine Dr (D':=7) 2 (C8 (n:=2) Y Y ?_ ?_) ?_;(focus (omega));(focus (omega)))
  refine A1 3 rfl (BI HO EV Y Y (by first|omega|(rw [C2,Bc];omega)|(rw [C2];show _<8;omega)|decide))<|B6 4 rfl Gk Y (hv:=by exact IC y A0) ?_;refine A1 6 V (AA Y)<|A1 7 V (AA Y) ?_
  (refine Dr (D':=479) 8 (C8 (n:=2) Y Y ?_ ?_) ?_;(focus (omega));(focus (omega)))
  refine A1 9 rfl (BI HO EV Y Y (by first|omega|(rw [C2,Bc];omega)|(rw [C2];show _<8;omega)|decide))<|B6 10 rfl Gk Y (hv:=by exact IC y A0) ?_;refine A1 13 V (AA Y)<|A1 14 V (AA Y) ?_
  (refine Dr (D':=59359) 15 (C8 (n:=2) Y Y ?_ ?_) ?_;(focus (omega));(focus (omega)))
  refine A1 16 rfl (BI HO EV Y Y (by first|omega|(rw [C2,Bc];omega)|(rw [C2];show _<8;omega)|decide))<|B6 17 rfl Gk Y (hv:=by exact IC y A0) ?_;refine A1 18 V (G8 (n:=10) Y Y A0)<|Yz 5 31 518143 [17,10,4] [true,true,false] [(17,(_,_)),(10,(_,_))] V Y V rfl V rfl (Zu [_,_] Y XS Y V (G7 _ 17 AH AH))<|DA<|CA<|Yz 11 2047 520191 [17,10] [true,false] [(17,(_,_))] V Y V rfl V rfl (Zu [_,_] Y XS Y V (G7 _ 19 AH AH))<|DA<|CA<|A1 12 V (Dk Y Y)<|A1 19 V (Dk Y Y)<|A1 20 V (Aq Y)<|Am<|Zn [0,5,7,8,9] ?_;refine Zx<|Au (n:=19) (0::0::0::4::14::30::0::126::0::0::512::1792::3840::8190::0::32766::65534::131071::262143::[]) 196608 AG AG V<|A1 0 V (AA Y)<|A1 1 V (AA Y)<|A1 2 V (AA Y) ?_
  (refine Dr (D':=15) 3 (C8 (n:=16) Y Y ?_ ?_) ?_;(focus (omega));(focus (omega)))
  refine A1 4 rfl (BI HO EV Y Y (by first|omega|(rw [C2,Bc];omega)|(rw [C2];show _<8;omega)|decide))<|B6 5 rfl Gk Y (hv:=by exact IC y A0) ?_;refine A1 6 V (AA Y)<|A1 7 V (Cr Y Y)<|A1 8 V (AA Y)<|A1 9 V (AA Y) ?_
  (refine Dr (D':=2047) 10 (C8 (n:=7) Y Y ?_ ?_) ?_;(focus (omega));(focus (omega)))
  refine A1 11 rfl (BI HO EV Y Y (by first|omega|(rw [C2,Bc];omega)|(rw [C2];show _<8;omega)|decide))<|B6 12 rfl Gk Y (hv:=by exact IC y A0) ?_;refine A1 13 V (Cr Y Y)<|A1 14 V (AA Y)<|A1 15 V (Cr Y Y)<|Zz (l:=[16])<|C6 [false,false] [] V rfl (Ah (vs:=[_]) (cs:=[_]) HO EV cJ Y V rfl V rfl V) ?_ (fun _ _ h=>h.elim) Ar;rintro _ _ ⟨b3,rfl,rfl⟩;refine CA<|Yw 17 262143 V (EX (by_:=4) (news:=[_]) HO (V:Tryz.prog.info? 249=some Tryz.t249) V rfl V rfl Y I Y Wo Wh B5 V HH AH (by(simp only [C2,Bc];omega)) (by(simp only [C2,Bc];omega))) ?_;rintro _ _ ⟨qw,M,rfl⟩;obtain ⟨pq,p9,rfl⟩:=M.form;refine A1 18 V (Aq Y)<|Am<|Zn [0,5,7] ?_;refine A8<|Zx<|Zg<|Zm Y<|Ya (n:=1) Y Y<|AN Y<|DH (e:=[(5,_),(7,_)]) (h:=by exact ⟨i+1,_,_,rfl,⟨by omega,by omega,by rw [Ug E i _ (Xl E i A0),kY];exact M⟩,rfl,rfl⟩)
 have O:i=64:=by omega
 subst O;have cu:=y
 refine Az<|Zt<|Zt<|AU<|BT<|Zc [] Y call239 Y V (YF) ?_;rintro _ _ ⟨_,⟨gk,rfl,rfl⟩,rfl⟩;refine AF Y<|A2<|CT Y<|Bi<|Zg<|Sk 2 V ?_;refine Ze (EX (by_:=4) HO (rfl:Tryz.prog.info? 249=some Tryz.t249) rfl rfl rfl rfl Y (JZ _) Y Wo Wh (by exact (show(G.toList.drop 0).take (hv.list.map CP).length=_ by rw [RR];exact hh)) rfl (by simp [Value.oneCell',CP,V8.list]) AH AH AH) ?_;rintro _ _ ⟨qx,K,rfl⟩;obtain ⟨pz,pg,rfl⟩:=K.form;rw [ON]at K⊢;refine CT Y<|A2<|AF Y<|AQ<|Zb [11,12,0,5,10] ?_;refine Av (e0:=[(11,_),(12,_)]) (fun m e H=>∃(i:Nat) (v:A3) (z:List AR),m=64 -i/\(i<=64/\Row 249 v ((Cu (E9 E) hv i).list.map CP) z)/\e=[(11,v),(12,I4 (i:Int))]/\H=[z]) (by exact ⟨0,_,_,V,⟨CD _,K⟩,V,V⟩) Wp ?_;rintro _ _ _ ⟨i,v,z,rfl,⟨hi,ek⟩,rfl,rfl⟩;obtain ⟨gr,gm,kv,zr,rfl,rfl,oq,l8,lv,g,o8⟩:=ek.some (by rw [C2];(show 0<8;decide));refine C0 Y<|Zv (Ak (n:=64) Y Y)<|A6<|Ad Y (fun ax=>?_) (fun ax=>?_);·
  refine B3<|Zq<|AQ<|B7 Y<|BN (BI (j:=0) HO EV Y Y (by first|omega|(rw [C2,Bc];omega)|(rw [C2];show _<8;omega)|decide))<|Zl Gk Y (hv:=by exact Hw g 0 AH) ?_;refine AF Y<|B7 Y<|BN (BI (j:=4) HO EV Y Y (by first|omega|(rw [C2,Bc];omega)|(rw [C2];show _<8;omega)|decide))<|Zl Gk Y (hv:=by exact Hw g 4 AH) ?_;refine CT Y<|Au (n:=36) (0::1::3::0::8::0::56::120::0::376::1016::2047::0::0::8192::24576::61440::0::131072::0::524288::1572864::4063232::8384512::16777215::0::0::100663296::234881024::536870911::0::0::3221225472::7516192768::17179869183::34359738367::[]) 592 AG AG rfl<|A1 0 rfl (AA Y)<|A1 1 rfl (BI (j:=7) HO EV Y Y (by first|omega|(rw [C2,Bc];omega)|(rw [C2];show _<8;omega)|decide))<|B6 2 rfl Gk Y (hv:=by exact Hw g 7 AH) ?_;refine A1 3 rfl (AA Y)<|A1 5 rfl (AA Y)<|A1 8 rfl (AA Y)<|A1 12 rfl (AA Y)<|A1 13 rfl (AA Y)<|A1 14 rfl (BI (j:=5) HO EV Y Y (by first|omega|(rw [C2,Bc];omega)|(rw [C2];show _<8;omega)|decide))<|B6 15 rfl Gk Y (hv:=by exact Hw g 5 AH) ?_;refine A1 16 rfl (GA Y Y)<|A1 17 rfl (AA Y)<|A1 18 rfl (Vg Y)<|A1 19 rfl (AA Y)<|A1 20 rfl (BI (j:=6) HO EV Y Y (by first|omega|(rw [C2,Bc];omega)|(rw [C2];show _<8;omega)|decide))<|B6 21 rfl Gk Y (hv:=by exact Hw g 6 AH) ?_;refine A1 22 rfl (GA Y Y)<|A1 23 rfl (Dk Y Y)<|A1 25 rfl (AA Y)<|A1 26 rfl (AA Y)<|A1 27 rfl (BI HO EV Y Y (by first|omega|(rw [C2,Bc];omega)|(rw [C2];show _<8;omega)|decide))<|B6 28 rfl Gk Y (hv:=by exact rK i A0) ?_;refine A1 30 rfl (AA Y)<|A1 31 rfl (AA Y)<|A1 32 rfl (BI HO EV Y Y (by first|omega|(rw [C2,Bc];omega)|(rw [C2];show _<8;omega)|decide))<|B6 33 rfl Gk Y (hv:=by exact IC cu A0) ?_
  refine Yz 4 8 16626217279 [33,28,21,15,2] [true,true,true,true,true] [(33,(_,_)),(28,(_,_)),(21,(_,_)),(15,(_,_)),(2,(_,_))] V Y V rfl V rfl (Zu [_,_] Y XS Y V (G7 _ 6 AH AH))<|DA<|CA<|Yz 6 56 16626217343 [33,28,21,15,2] [true,true,true,true,true] [(33,(_,_)),(28,(_,_)),(21,(_,_)),(15,(_,_)),(2,(_,_))] V Y V rfl V rfl (Zu [_,_] Y XS Y V (G7 _ 11 AH AH))<|DA<|CA<|A1 7 V (Dk Y Y)<|Zz (l:=[9])<|C6 [true,true,true,true,true] [(33,(_,_)),(28,(_,_)),(21,(_,_)),(15,(_,_)),(2,(_,_))] V rfl (Zu [_,_] Y XS Y V (G7 _ 25 AH AH)) ?_ (fun _ _ h=>h.elim) Ar;rintro _ _ ⟨rfl,rfl⟩;refine CA<|A1 10 V (Dk Y Y)<|A1 11 V (Cr Y Y)<|A1 24 V (Cr Y Y)<|A1 29 V (Cr Y Y)<|A1 34 V (Cr Y Y)<|A1 35 V (Aq Y)<|Am<|Zn [0,5,10,11,12,13,14,15] ?_;refine Zx<|Zq<|Au (n:=29) (0::1::0::7::15::0::47::127::0::0::512::1536::3840::0::0::16384::49152::122880::261888::0::524288::1572864::0::4194304::12582912::33030144::67108608::134217727::268435455::[]) 74 AG AG rfl<|A1 0 rfl (AA Y)<|A1 2 rfl (AA Y)<|A1 5 rfl (AA Y)<|A1 8 rfl (AA Y)<|A1 9 rfl (AA Y)<|A1 10 rfl (BI (j:=1) HO EV Y Y (by first|omega|(rw [C2,Bc];omega)|(rw [C2];show _<8;omega)|decide))<|B6 11 rfl Gk Y (hv:=by exact Hw g 1 AH) ?_;refine A1 12 rfl (GA Y Y)<|A1 13 rfl (AA Y)<|A1 14 rfl (AA Y)<|A1 15 rfl (BI (j:=2) HO EV Y Y (by first|omega|(rw [C2,Bc];omega)|(rw [C2];show _<8;omega)|decide))<|B6 16 rfl Gk Y (hv:=by exact Hw g 2 AH) ?_;refine A1 17 rfl (GA Y Y)<|A1 18 rfl (Dk Y Y)<|A1 19 rfl (AA Y)<|A1 20 rfl (BI (j:=1) HO EV Y Y (by first|omega|(rw [C2,Bc];omega)|(rw [C2];show _<8;omega)|decide))<|B6 21 rfl Gk Y (hv:=by exact Hw g 1 AH) ?_;refine A1 22 rfl (AA Y)<|A1 23 rfl (BI (j:=2) HO EV Y Y (by first|omega|(rw [C2,Bc];omega)|(rw [C2];show _<8;omega)|decide))<|B6 24 rfl Gk Y (hv:=by exact Hw g 2 AH) ?_
  refine A1 25 V (GA Y Y)<|A1 26 V (Dk Y Y)<|Zz (l:=[1])<|C6 [true,true,true,true] [(24,(_,_)),(21,(_,_)),(16,(_,_)),(11,(_,_))] V rfl (Zu [_,_] Y XS Y V (G7 _ 2 AH AH)) ?_ (fun _ _ h=>h.elim) Ar;rintro _ _ ⟨rfl,rfl⟩;refine CA<|Yz 3 7 134217519 [24,21,16,11] [true,true,true,true] [(24,(_,_)),(21,(_,_)),(16,(_,_)),(11,(_,_))] V Y V rfl V rfl (Zu [_,_] Y XS Y V (G7 _ 13 AH AH))<|DA<|CA<|A1 4 V (Dk Y Y)<|Zz (l:=[6])<|C6 [true,true,true,true] [(24,(_,_)),(21,(_,_)),(16,(_,_)),(11,(_,_))] V rfl (Zu [_,_] Y XS Y V (G7 _ 22 AH AH)) ?_ (fun _ _ h=>h.elim) Ar;rintro _ _ ⟨rfl,rfl⟩;refine CA<|A1 7 V (Dk Y Y)<|A1 27 V (Cr Y Y)<|A1 28 V (Aq Y)<|Am<|Zn [0,5,10,11,12,13,14,15,16] ?_;refine Zx<|Au (n:=24) (0::0::3::0::0::16::48::0::128::384::0::1024::3072::0::15360::0::0::65536::196608::0::524288::1572864::4194303::8388607::[]) 4194304 AG AG rfl<|A1 0 rfl (AA Y)<|A1 1 rfl (AA Y)<|A1 2 rfl (Cr Y Y)<|A1 3 rfl (AA Y)<|A1 4 rfl (AA Y)<|A1 5 rfl (BI (j:=1) HO EV Y Y (by first|omega|(rw [C2,Bc];omega)|(rw [C2];show _<8;omega)|decide))<|B6 6 rfl Gk Y (hv:=by exact Hw g 1 AH) ?_;refine A1 7 rfl (AA Y)<|A1 8 rfl (BI (j:=2) HO EV Y Y (by first|omega|(rw [C2,Bc];omega)|(rw [C2];show _<8;omega)|decide))<|B6 9 rfl Gk Y (hv:=by exact Hw g 2 AH) ?_;refine A1 10 rfl (AA Y)<|A1 11 rfl (BI (j:=3) HO EV Y Y (by first|omega|(rw [C2,Bc];omega)|(rw [C2];show _<8;omega)|decide))<|B6 12 rfl Gk Y (hv:=by exact Hw g 3 AH) ?_;refine A1 13 rfl (AA Y)<|A1 14 rfl (Cr Y Y)<|A1 15 rfl (AA Y)<|A1 16 rfl (AA Y)<|A1 17 rfl (BI (j:=5) HO EV Y Y (by first|omega|(rw [C2,Bc];omega)|(rw [C2];show _<8;omega)|decide))<|B6 18 rfl Gk Y (hv:=by exact Hw g 5 AH) ?_;refine A1 19 rfl (AA Y)<|A1 20 rfl (BI (j:=6) HO EV Y Y (by first|omega|(rw [C2,Bc];omega)|(rw [C2];show _<8;omega)|decide))<|B6 21 rfl Gk Y (hv:=by exact Hw g 6 AH) ?_
  refine Yw 22 8388607 V (Ah (vs:=[_,_,_,_,_,_,_,_]) (cs:=[_,_,_,_,_,_,_,_]) HO EV cJ Y V rfl V rfl V)<|AE fun b6=>A1 23 V (Aq Y)<|Am<|Zn [0,5,10,11,12] ?_;refine A8<|Zx<|Zg<|Zm Y<|Ya (n:=1) Y Y<|AN Y<|DH (e:=[(11,_),(12,_)]) (h:=by exact ⟨i+1,_,_,rfl,⟨by omega,by rw [bX E hv i];exact iA _ _ _ 8 rfl AH⟩,rfl,rfl⟩)
 have O:i=64:=by omega
 subst O;have cO:=g
 refine Az<|Zt<|Zt<|AU<|BT<|CT Y<|A2<|AF Y<|AQ<|Bi<|Zb [17,18,0,11] ?_;refine Av (e0:=[(17,_),(18,_)]) (fun m e H=>∃(i:Nat) (v:A3) (z:List AR),m=8 -i/\(i<=8/\Row 249 v (((M5 hv E).list.take i).map CP) z)/\e=[(17,v),(18,I4 (i:Int))]/\H=[z]) (by exact ⟨0,_,[],V,⟨CD _,JZ _⟩,V,V⟩) Wp ?_;rintro _ _ _ ⟨i,v,z,rfl,⟨hi,U⟩,rfl,rfl⟩;obtain ⟨gv,cv,rfl⟩:=U.form;have qo:((M5 hv E).list.take i).length<=i:=cV ..
 refine C0 Y<|Zv (Ak (n:=8) Y Y)<|A6<|Ad Y (fun d9=>?_) (fun d9=>?_);·
  refine B3<|Zq<|AQ<|Au (n:=13) (0::0::0::6::14::0::0::96::224::510::1022::2047::4095::[]) 3072 AG AG rfl<|A1 0 rfl (AA Y)<|A1 1 rfl (AA Y)<|A1 2 rfl (AA Y)<|A1 3 rfl (BI HO EV Y Y (by first|omega|(rw [C2,Bc];omega)|(rw [C2];show _<8;omega)|decide))<|B6 4 rfl Gk Y (hv:=by exact Hw hh i A0) ?_;refine A1 5 rfl (AA Y)<|A1 6 rfl (AA Y)<|A1 7 rfl (BI HO EV Y Y (by first|omega|(rw [C2,Bc];omega)|(rw [C2];show _<8;omega)|decide))<|B6 8 rfl Gk Y (hv:=by exact Hw cO i A0) ?_;refine A1 9 V (Cr Y Y)<|Zz (l:=[10])<|C6 [false,false] [] V rfl (Ah (vs:=[_]) (cs:=[_]) HO EV cJ Y V rfl V rfl V) ?_ (fun _ _ h=>h.elim) Ar;rintro _ _ ⟨b7,rfl,rfl⟩;refine CA<|Yw 11 4095 V (EX (by_:=4) (news:=[_]) HO (V:Tryz.prog.info? 249=some Tryz.t249) V rfl V rfl Y U Y Wo Wh B5 V HH AH (by(simp only [C2];omega)) (by(simp only [C2];omega))) ?_;rintro _ _ ⟨sz,bn,rfl⟩;obtain ⟨gz,cz,rfl⟩:=bn.form;refine A1 12 V (Aq Y)<|Am<|Zn [0,11,17,18] ?_;refine A8<|Zx<|Zg<|Zm Y<|Ya (n:=1) Y Y<|AN Y<|DH (e:=[(17,_),(18,_)]) (h:=by exact ⟨i+1,_,_,rfl,⟨by omega,by rw [NC CP (M5 hv E).list i 0 (by show i<8;omega),fZ hv E i A0];exact bn⟩,rfl,rfl⟩)
 have O:i=8:=by omega
 subst O;refine Az<|Zt<|Zt<|AU<|Zx<|B7 Y<|AM Y<|AO V results197 Y (by exact ⟨_,U,V⟩)
end Go.Proofs.YtljkoipiekbijaaGreatDoor
