/- The reference 7: left. -/
import Derived.Test.YtljkoipiekbijaaGreatDoorRx3
set_option linter.unusedVariables false
set_option linter.unusedSimpArgs false
namespace Go.Proofs.YtljkoipiekbijaaGreatDoor
open Go.Proofs.Tryz
open Go Go.RowKit Gw
set_option maxRecDepth 100000
attribute [local irreducible] Gw.At Gw.Nx Gw.Ops
def Gv(q:QM)(c:Chg)(ps:List BQ):Option BQ:=if(afQ q c).isSome then ps.find? (EW (mQ q (afQ q c)))else none
def mn(o:Option BQ):AV:=match o with
 |some p=>p.r
 |none=>AV.zero
variable{ps:List BQ}{k:Nat}{x:BQ}
theorem QG(q:QM)(c:Chg)(h:ps[k]?=some x):Gv q c (ps.take (k+1))=match Gv q c (ps.take k)with
 |some p=>some p
 |none=>if(afQ q c).isSome&&EW (mQ q (afQ q c)) x then some x else none:=by
 unfold Gv;rw [Bt h];cases (afQ q c).isSome with
 |false=>rfl
 |true=>
  rw [B2 rfl,B2 rfl,List.find?_append];cases (ps.take k).find? (EW (mQ q (afQ q c)))with
  |some p=>rfl
  |none=>cases h9:EW (mQ q (afQ q c)) x<;>simp [h9]
theorem Vx{f:BQ->Bool}(h:ps[k]?=some x):(ps.take (k+1)).filter f=(ps.take k).filter f++if f x then [x]else []:=by
 rw [Bt h,Lz];cases h9:f x<;>simp [h9]
variable{c:Chg}
theorem yZ(h:ps[k]?=some x)(g:Gx c.k x=false):(ps.take (k+1)).filter (fun x=>!Gx c.k x)=(ps.take k).filter (fun x=>!Gx c.k x)++[x]:=by rw [Vx h,g];rfl
theorem pL(h:ps[k]?=some x)(g:Gx c.k x=true):(ps.take (k+1)).filter (fun x=>!Gx c.k x)=(ps.take k).filter (fun x=>!Gx c.k x):=by rw [Vx h,g];exact HT _
theorem qm(f:BQ->Bool)(ps:List BQ):(Gu f ps<0↔ps.find? f=none)/\∀p,ps.find? f=some p->ps.getD (Gu f ps).toNat ⟨AV.zero,AV.zero⟩=p:=by
 unfold Gu;cases h:ps.findIdx? f with
 |none=>
  have m:ps.find? f=none:=by
   rw [eS];intro x hx;rw [Z2]at h;rw [h x hx];decide
  refine ⟨⟨fun _=>m,fun _=>by show(-1:Int)<0;decide⟩,fun p g=>?_⟩;rw [m]at g;cases g
 |some i=>
  obtain ⟨hi,h2,E⟩:=Sp.1 h;have m:ps.find? f=some ps[i]:=by
   rw [nx];exact ⟨h2,i,hi,V,fun j G=>by have:=E j G;simpa using this⟩
  refine ⟨⟨fun z=>?_,fun z=>by rw [m]at z;cases z⟩,fun p g=>?_⟩
  · exfalso
    have:(i:Int)<0:=z;omega
  · rw [m]at g
    injection g with g
    show ps.getD i _=p;rw [Nd,Bk hi];exact g
def lfP(q:QM)(c:Chg)(ps:List BQ):List BQ×Bool:=
 if(afQ q c).isSome then(match Gv q c ps with
  |some p=>(KZ (fun x=>Ht q c.after x.l) (ps.filter fun x=>!Gx c.k x) ⟨c.after,p.r⟩,true)
  |none=>(ps.filter fun x=>!Gx c.k x,(bfQ q c).isSome&&decide (mQ q (bfQ q c)=mQ q (afQ q c))))
 else(ps.filter fun x=>!Gx c.k x,true)
variable{q:QM}
theorem pA(h:c.t≠q.ot)(ps:List BQ):jnT q c ps=lfP q c ps:=by
 unfold jnT lfP;rw [Ax h];cases h9:afQ q c with
 |none=>rfl
 |some y=>
  have G:(afQ q c).isSome=true:=by rw [h9];rfl
  have hy:y=c.after:=by
   have:=su G;rw [h9]at this;injection this
  subst hy;have E:Gv q c ps=ps.find? (EW (mQ q (some c.after))):=by unfold Gv;rw [h9];rfl
  obtain ⟨g,m⟩:=qm (EW (mQ q (some c.after))) ps;rw [E];simp only [mN,Mp];cases h8:ps.find? (EW (mQ q (some c.after)))with
  |none=>rw [B2 (g.2 h8)]
  |some p=>rw [Ax (fun z=>by rw [g.1 z]at h8;cases h8),m p h8]
theorem p6(h:c.t=q.ot)(ps:List BQ):jnT q c ps=(otP c ps,c.had):=by
 unfold jnT otP;rw [B2 h];split<;>rfl
variable{y:AV}
theorem uo{x:AV}(h:ps[k]?=some ⟨x,y⟩)(h0:(Gv q c (ps.take k)).isSome=false)(g:(afQ q c).isSome=true)(m:y.k=mQ q (afQ q c)):Gv q c (ps.take (k+1))=some ⟨x,y⟩:=by
 rw [QG q c h];cases h9:Gv q c (ps.take k)with
 |some p=>rw [h9]at h0;cases h0
 |none=>
  have:EW (mQ q (afQ q c)) ⟨x,y⟩=true:=by unfold EW;rw [Cp m]
  simp [g,this]
theorem oo{x:AV}(h:ps[k]?=some ⟨x,y⟩)(h0:(Gv q c (ps.take k)).isSome=false)(g:(afQ q c).isSome=false\/y.k≠mQ q (afQ q c)):Gv q c (ps.take (k+1))=Gv q c (ps.take k):=by
 rw [QG q c h];cases h9:Gv q c (ps.take k)with
 |some p=>rfl
 |none=>
  rcases g with h1|h1
  · simp [h1]
  · have:EW (mQ q (afQ q c)) ⟨x,y⟩=false:=by unfold EW;rw [CC h1]
    simp [this]
theorem uq{x:AV}(h:ps[k]?=some ⟨x,y⟩)(h0:(Gv q c (ps.take k)).isSome=true):Gv q c (ps.take (k+1))=Gv q c (ps.take k):=by
 rw [QG q c h];cases h9:Gv q c (ps.take k)with
 |some p=>rfl
 |none=>rw [h9]at h0;cases h0
variable{p:BQ}
theorem xx(h:ps[k]?=some p):(BU ps)[2*k]?=some p.l/\(BU ps)[2*k+1]?=some p.r:=by
 have m:=MN h;have h2:BU ps=BU (ps.take (k+1))++BU (ps.drop (k+1)):=by rw [<-Em,Ln]
 have z:=(D3.1 h).1;have g:(BU (ps.take k)).length=2*k:=by rw [Dh,CI];omega
 rw [h2,m,G0];constructor;· rw [Ss A0,g,Tr];rfl
 · rw [Ss A0,g,show 2*k+1 -2*k=1 by omega];rfl
theorem uT(ps:List BQ)(m:k<=ps.length):(BU ps).take (2*k)=BU (ps.take k)/\(BU ps).drop (2*k)=BU (ps.drop k):=by
 have h2:BU ps=BU (ps.take k)++BU (ps.drop k):=by rw [<-Em,Ln]
 have g:(BU (ps.take k)).length=2*k:=by rw [Dh,CI];omega
 rw [h2,L7 g,SJ g];exact ⟨V,V⟩
set_option maxHeartbeats 4000000 in
theorem uZ{M:List AR}{v:A3}{rows:List AV}(hv:CZ M v rows)(hl:rows.length<=1000000)(q:QM)(hq:BH q)(c:Chg):CJ prog 195 #[.agg q.Ax4,v,.agg c.Ax2] [M] (fun w H'=>∃rv s,w= .tuple #[rv,.bool (lfP q c (Bl rows)).2]/\BS 5 91 rv (BU (lfP q c (Bl rows)).1).length (Aa (BU (lfP q c (Bl rows)).1)) s/\H'=[s,M]):=by
 have ve:=mL;obtain ⟨p,cap,rfl,⟨sO,tT⟩,hg⟩:=id hv;have vw:=Gj rows
 refine Se func195 ntmps195 [0,1,2] ?_;intro u R;refine A2<|Ze (Bx #[_,_,_,_,_,_,_])<|AE fun b1=>Ze (Bx #[_,_,_,_,_,_,_,_,_,_])<|AE fun b2=>Za Y<|AF Y<|A2<|Zo Wh (A7 (cs:=c.Ax2) G1 D2 Y (by exact B4 _) (by exact AP V)) ?_;refine Xr [_] Y call183 Y V (Ku c) ?_;refine Sk 3 V<|Ze (Al DS #[_,_,_,_,_])<|AE fun bx=>Xe (Xw AW c.before.Ax3) ?_;refine AF Y<|A2<|Zo Wh (A7 (cs:=c.Ax2) G1 D2 Y (by exact B4 _) (by exact AP V)) ?_;refine Xr [_] Y call77 Y V (IK c) ?_;refine Sk 3 V<|Ze (Al DS #[_,_,_,_,_])<|AE fun qx=>Xe (Xw AW c.after.Ax3) ?_;refine AN Y<|Zn [1,3,5,8,9,10,11] ?_;refine BT<|Zo Wh (A7 (cs:=#[_,_,_,_,_,_,_]) DE CN Y (by exact B4 _) (by exact AP V)) ?_;refine Zo Wh (A7 (cs:=#[_,_,_,_,_]) C5 AW Y (by exact B4 _) (by exact AP V)) ?_;refine Zm Y<|Xr [_,_,_] Y aq Y V (Oz q hq c.before c.had) ?_;rw [iY];refine AF Y<|A2<|Zo Wh (A7 (cs:=#[_,_,_,_,_,_,_]) DE CN Y (by exact B4 _) (by exact AP V)) ?_;refine Zo Wh (A7 (cs:=#[_,_,_,_,_]) C5 AW Y (by exact B4 _) (by exact AP V)) ?_;refine Zm Y<|Xr [_,_,_] Y aq Y V (Oz q hq c.after c.has) ?_;rw [ZL];refine AF Y<|A2<|Zo Wh (A7 (cs:=#[_,_,_,_,_,_,_]) DE CN Y (by exact B4 _) (by exact AP V)) ?_;refine Zo Wh (A7 (cs:=#[_,_,_,_,_]) C5 AW Y (by exact B4 _) (by exact AP V)) ?_;refine Zm Y<|Xr [_,_,_] Y cR Y V (GQ q hq c.before _) ?_;rw [iP];refine AN Y<|Zn [1,3,5,10,12,13,14] ?_;refine BT<|Zo Wh (A7 (cs:=#[_,_,_,_,_,_,_]) DE CN Y (by exact B4 _) (by exact AP V)) ?_;refine Zo Wh (A7 (cs:=#[_,_,_,_,_]) C5 AW Y (by exact B4 _) (by exact AP V)) ?_;refine Zm Y<|Xr [_,_,_] Y cR Y V (GQ q hq c.after _) ?_;rw [iQ];refine AF Y<|A2<|Zv (BK (vs:=[]) (cs:=#[_,_,_,_,_]) Y (AY (pl:=#[(0,1),(1,1),(2,3)]) DS F1 (fun _=>by kernel_rfl) V))<|Ze (Al DS #[_,_,_,_,_])<|AE fun bp=>Xe (Ao AW Y Y Ft Wu (by exact Bj rfl) DO AH (by exact Aw _)) ?_;refine A6<|A2<|AF Y<|A2<|CT Y<|A2<|AF Y<|AQ<|Bi<|Zb [17,18,19,1,3,5,10,12,13,14,15,16] ?_
 refine Av (e0:=[(17,_),(18,_),(19,_)]) (fun m e H=>∃(k:Nat) (fd:Bool) (G:AV) (ov:A3) (so:List AR),m=rows.length -2*k/\(2*k<=rows.length/\fd=(Gv q c ((Bl rows).take k)).isSome/\G=mn (Gv q c ((Bl rows).take k))/\BS 5 91 ov (BU (((Bl rows).take k).filter fun x=>!Gx c.k x)).length (Aa (BU (((Bl rows).take k).filter fun x=>!Gx c.k x))) so)/\e=[(17,.bool fd),(18,ov),(19,I4 ((2*k:Nat):Int))]/\H=[[(bp,.cells G.Ax3 91 (0,0))],so]) (by exact ⟨0,false,AV.zero,.slice none 0 0,[],rfl,⟨CD _,by rw [Hh];unfold Gv;split<;>rfl,by rw [Hh];unfold Gv;split<;>rfl,by rw [Hh];exact BX 5 _⟩,rfl,rfl⟩) Wp ?_;rintro _ _ _ ⟨k,fd,G,ov,so,rfl,⟨hk,z,bf,hO⟩,rfl,rfl⟩;obtain ⟨op,oc,rfl⟩:=hO.form;refine C0 Y<|Ya (n:=1) Y Y<|Zm Y<|Zv (AJ B0 Y)<|Zv (Ak Y Y)<|A6<|Ad Y (fun kz=>?_) (fun kz=>?_);·
  obtain ⟨x,y,hx,hy,K⟩:=Yd (rows:=rows) (k:=k) A0;obtain ⟨g,off,cur,T,zz,mR,l9,wo,oq⟩:=KP hv hx;obtain ⟨g2,p8,l8,T2,qo,J,Z,qa,af⟩:=KP hv hy;rw [mR]at J;injection J with J
  injection J with e1 e2 _
  subst e1 e2;rw [mR];have vo:(BU (((Bl rows).take k).filter fun x=>!Gx c.k x)).length<=2*k:=by
   rw [Dh];have h9:=On (fun x:BQ=>!Gx c.k x) ((Bl rows).take k)
   rw [CI]at h9;omega
  refine B3<|Zq<|AQ<|Zb [17,1,3,5,10,12,13,14,15,16,18,19] ?_;refine C9 (e0:=[(17,_)]) (H0:=[[(bp,.cells G.Ax3 91 (0,0))]]) (fun e H=>∃(U:Bool) (ax:AV),(U=(Gv q c ((Bl rows).take (k+1))).isSome/\ax=mn (Gv q c ((Bl rows).take (k+1))))/\e=[(17,.bool U)]/\H=[[(bp,.cells ax.Ax3 91 (0,0))]]) Wp ?hx_2 ?hy_2
  case hx_2=>
   refine B7 Y<|Zv (CR Y)<|Zm Y<|Ae (t:=58) Y V (fun g1=>?_) (fun g1=>?_);focus
    have kv:(Gv q c ((Bl rows).take k)).isSome=false:=by rw [<-z];simpa using g1
    refine Sk 3 V ?_;refine Ae (t:=61) Y V (fun g2=>?_) (fun g2=>?_);·
     refine Sk 2 V ?_
     (refine ER Y (Ce (n:=1) Y Y ?_) rfl rfl ?_;(focus (omega)))
     (refine ER Y (A9 B0 AW Y Y ?_) rfl rfl ?_;(focus (omega)))
     refine Yg (Aj (off:=1) F1 V rfl A4 Y)<|Mg Y (Yx Wo (Z)) (BZ A5 Y (by exact IU (j:=1) af V)) V rfl ?_;refine Zf Y Y<|Yg (Bd Y Y)<|HR Y Y<|Z0<|Zn [1,3,5,10,12,13,14,15,16,17,18,19,70] ?_;refine Zx<|Ad Y (fun g3=>?_) (fun g3=>?_);·
      have hP:=uo K kv (by simpa using g2) g3;refine A2<|Sk 2 V<|Ya (n:=1) Y Y ?_;refine BN (A9 B0 AW Y Y A0)<|Cj (Yx Wo (Z)) (A7 (cs:=y.Ax3) C5 AW Y A0 (by exact af)) V rfl ?_;refine Xe (Ao AW Y Y Ft Wu (by exact Bj rfl) DO (by exact B4 _) (by exact Aw _)) ?_;refine A6<|Zg<|AN Y<|Zn [17,1,3,5,10,12,13,14,15,16,18,19] ?_;refine BD (e':=[(17,_)]) (by(have E:Gv q c ((Bl rows).take (k+1))=some ⟨x,y⟩:=hP;exact ⟨true,y,⟨by rw [E];rfl,by rw [E];rfl⟩,rfl,rfl⟩))
     have hP:=oo K kv (.inr g3);refine AB<|Zn [17,1,3,5,10,12,13,14,15,16,18,19] ?_;refine BD (e':=[(17,_)]) (by(have E:Gv q c ((Bl rows).take (k+1))=Gv q c ((Bl rows).take k):=hP;exact ⟨fd,G,⟨by rw [E];exact z,by rw [E];exact bf⟩,rfl,rfl⟩))
    focus
     have hP:=oo K kv (.inl (by simpa using g2))
   rotate_left
   focus
    have hP:=uq K (by rw [<-z];simpa using g1);refine Sk 3 V ?_
   all_goals
    refine Sk 9 V<|Z0<|Zn [1,3,5,10,12,13,14,15,16,17,18,19,70] ?_;refine Zx<|DY Y<|AB<|Zn [17,1,3,5,10,12,13,14,15,16,18,19] ?_;refine BD (e':=[(17,_)]) (by(have E:Gv q c ((Bl rows).take (k+1))=Gv q c ((Bl rows).take k):=hP;exact ⟨fd,G,⟨by rw [E];exact z,by rw [E];exact bf⟩,rfl,rfl⟩))
  rintro _ _ ⟨U,ax,⟨bn,cu⟩,rfl,rfl⟩;refine Zq<|Au (n:=8) (0::0::3::7::15::0::32::127::[]) 0 AG AG V<|A1 0 V (AA Y)<|A1 1 V (AA Y)<|A1 2 V (A9 B0 AW Y Y A0)<|A1 3 V (Aj (off:=1) F1 V rfl A4 Y)<|CX (D':=31) 4 V rfl V (GK Wo (l9)) (BZ A5 Y (by exact IU (j:=1) oq V)) ?_;refine A1 5 V (AL (off:=1) CM V rfl A4 Y)<|B6 6 V A5 Y ?_;refine A1 7 V (ED Y Y)<|Am<|Zx<|Ad Y (fun gq=>?_) (fun gq=>?_);·
   have X:Gx c.k ⟨x,y⟩=false:=yN gq;refine Au (n:=13) (0::0::0::6::14::0::0::64::224::480::1022::2047::4095::[]) 3072 AG AG V<|A1 0 V (AA Y)<|A1 1 V (AA Y)<|A1 2 V (AA Y)<|A1 3 V (A9 B0 AW Y Y A0)<|CX (D':=31) 4 V rfl V (GK Wo (l9)) (A7 (cs:=x.Ax3) C5 AW Y A0 (by exact oq)) ?_;refine A1 5 V (AA Y)<|A1 6 V (AA Y)<|A1 7 V (Ce (n:=1) Y Y A0)<|A1 8 V (A9 B0 AW Y Y A0)<|CX (D':=1023) 9 V rfl V (GK Wo (Z)) (A7 (cs:=y.Ax3) C5 AW Y A0 (by exact af)) ?_;refine Yw 10 2047 V (Ah (vs:=[_,_]) (cs:=[_,_,_,_,_,_,_,_,_,_]) B0 AW DS Y V rfl V rfl V)<|AE fun gb=>Yw 11 4095 V (BL (by_:=40) (sz:=5) B0 (V:Tryz.prog.info? 91=some Tryz.t91) V rfl V rfl Y (hO) Y (D7 5 gb 2 2 91 (0,0) [I4 x.t,I4 x.k,I4 x.v.a,I4 x.v.b,I4 x.v.c,I4 y.t,I4 y.k,I4 y.v.a,I4 y.v.b,I4 y.v.c] V) Wo Wo HH A0 A0) ?_;rintro _ _ ⟨qb,cO,rfl⟩;obtain ⟨r9,qy,rfl⟩:=cO.form;refine A1 12 V (Aq Y)<|Am<|Zn [1,3,5,10,12,13,14,15,16,17,18,19] ?_;refine A8<|Zx<|Zg<|Zm Y<|Ya (n:=2) Y Y<|AN Y<|Zn [17,18,19,1,3,5,10,12,13,14,15,16] ?_;refine Ac (e':=[(17,_),(18,_),(19,_)]) (by(have E:=yZ K X;exact ⟨k+1,U,ax,_,qb,rfl,⟨by omega,bn,cu,by rw [E,Em];exact BJ cO (by rw [C7];rfl) (by rw [BR];rfl)⟩,rfl,rfl⟩))
  have X:Gx c.k ⟨x,y⟩=true:=yM gq;refine AB<|A8<|Zx<|Zg<|Zm Y<|Ya (n:=2) Y Y<|AN Y<|Zn [17,18,19,1,3,5,10,12,13,14,15,16] ?_;refine Ac (e':=[(17,_),(18,_),(19,_)]) (by(have E:=pL K X;exact ⟨k+1,U,ax,_,so,rfl,⟨by omega,bn,cu,by rw [E];exact hO⟩,rfl,rfl⟩))
 have ek:(Bl rows).take k=Bl rows:=Hx A0;rw [ek]at hO z bf⊢;obtain ⟨O,I⟩:∃O,O=(Bl rows).filter fun x=>!Gx c.k x:=⟨_,rfl⟩;have sw:O.length<=rows.length:=by rw [I];have:=On (fun x:BQ=>!Gx c.k x) (Bl rows);omega
 rw [<-I]at hO;rw [<-I];have vz:=Dh O
 have hU:=Ca hO A0;obtain ⟨_,_,E,⟨_,lv⟩,_⟩:=id hU;injection E with _ _ e93
 rw [<-e93]at lv;refine Az<|Zt<|Zt<|AU<|Zx<|C0 Y<|Zv (CR Y)<|A6<|Af Y (fun h1=>?_) (fun h1=>?_);·
  have hb:(afQ q c).isSome=false:=by simpa using h1
  have e8:lfP q c (Bl rows)=(O,true):=by unfold lfP;rw [hb,I];rfl
  refine A2<|Sk 2 rfl<|AM Y<|Zt<|Cn rfl results195 Y Y (by exact ⟨_,so,by rw [e8],by rw [e8];exact hO,rfl⟩)
 have hb:(afQ q c).isSome=true:=by simpa using h1
 refine B3<|C0 Y<|Zv (CR Y)<|A6<|Af Y (fun h2=>?_) (fun h2=>?_);·
  have hn:Gv q c (Bl rows)=none:=by
   cases h9:Gv q c (Bl rows)with
   |none=>rfl
   |some p9=>rw [h9]at z;rw [z]at h2;cases h2
  have e8:lfP q c (Bl rows)=(O,(bfQ q c).isSome&&decide (mQ q (bfQ q c)=mQ q (afQ q c))):=by unfold lfP;rw [hb,hn,I];rfl
  refine A2<|Sk 3 V ?_;refine Ae (t:=103) Y V (fun h3=>?_) (fun h3=>?_);focus
   refine Sk 2 V<|Yg (Bd Y Y)<|Zv (Ay Y Y) ?_
  rotate_left
  focus
   refine Sk 4 V ?_
  all_goals
   refine Za Y<|AN Y<|Zn [6,7] ?_;refine Zx<|AC<|Zt<|Cn rfl results195 Y Y (by exact ⟨.slice op (BU O).length oc,so,by rw [e8];simp [h3],by rw [e8];exact hO,rfl⟩)
 obtain ⟨p9,o8⟩:∃p,Gv q c (Bl rows)=some p:=by
  cases h9:Gv q c (Bl rows)with
  |some p9=>exact ⟨p9,rfl⟩
  |none=>rw [h9]at z;rw [z]at h2;simp at h2
 have q9:G=p9.r:=by rw [bf,o8];rfl
 have e8:lfP q c (Bl rows)=(KZ (fun x=>Ht q c.after x.l) O ⟨c.after,G⟩,true):=by unfold lfP;rw [hb,o8,I,q9];rfl
 refine AB<|BT<|AF Y<|Zb [3,20,10,16,18] ?_;refine C9 (e0:=[(3,_),(20,_)]) (H0:=[]) (fun e H=>∃(k:Nat),((O.findIdx? fun x=>Ht q c.after x.l).getD O.length=k)/\e=[(20,I4 ((2*k:Nat):Int))]/\H=[]) Wp ?hx_14 ?hy_14
 case hx_14=>
  refine AQ<|Zb [20,3,10,16,18] ?_;refine Av (e0:=[(20,_)]) (fun m e H=>∃(k:Nat),m=O.length -k/\(k<=O.length/\∀(j:Nat) (y:BQ),j<k->O[j]?=some y->Ht q c.after y.l=false)/\e=[(20,I4 ((2*k:Nat):Int))]/\H=[]) (by exact ⟨0,V,⟨CD _,fun j y hj=>absurd hj (gC j)⟩,V,V⟩) Wp ?_;rintro _ _ _ ⟨k,rfl,⟨hk,W⟩,rfl,rfl⟩;refine Zq<|A2<|Sk 2 V<|Zv (AJ B0 Y)<|Zv (Ak Y Y)<|A6<|Ad Y (fun kz=>?_) (fun kz=>?_);·
   obtain ⟨x,hx⟩:∃x,O[k]?=some x:=⟨_,Bk A0⟩;obtain ⟨g2,p8,l8,T2,qo,J,Z,qa,af⟩:=KP hU (xx hx).1;rw [J];refine B3<|AQ<|Zq<|Au (n:=8) (0::0::0::0::12::28::63::127::[]) 64 AG AG V<|Fo 0 V Wh (A7 (cs:=#[_,_,_,_,_,_,_]) DE CN Y (by exact B4 _) (by exact AP V)) ?_;refine Fo 1 V Wh (A7 (cs:=#[_,_,_,_,_]) C5 AW Y (by exact B4 _) (by exact AP V)) ?_;refine A1 2 V (AA Y)<|A1 3 V (AA Y)<|A1 4 V (A9 B0 AW Y Y A0)<|CX (D':=63) 5 V rfl V (GK Wo (Z)) (A7 (cs:=x.l.Ax3) C5 AW Y A0 (by exact af)) ?_;refine Yw 6 127 V (Zu [_,_,_] Y call236 Y V (VD q hq c.after x.l))<|DA<|A1 7 V (Aq Y)<|Am<|Zx<|C0 Y<|Z0<|Zn [3,10,16,18,20,119] ?_;refine Zx<|Af Y (fun gm=>?_) (fun gm=>?_);·
    refine Az<|Zt<|Ba V<|Zt<|AU<|HC (by exact ⟨k,rR (f:=fun x:BQ=>Ht q c.after x.l) hx gm W,V,V⟩)
   refine B3<|Zg<|Zm Y<|Ya (n:=2) Y Y<|AN Y<|A8<|Zn [20,3,10,16,18] ?_;refine Ac (e':=[(20,_)]) (by
    exact ⟨k+1,V,⟨by omega,fun j y hj hy=>by
     rcases FA j k with h9|h9
     · exact W j y h9 hy
     · rw [show j=k by omega,hx]at hy
       injection hy with hy
       rw [<-hy];exact gm⟩,rfl,rfl⟩)
  refine Az<|Zt<|Zt<|AU<|HC (by exact ⟨k,xN (f:=fun x:BQ=>Ht q c.after x.l) hk A0 W,V,V⟩)
 rintro _ _ ⟨k,hk,rfl,rfl⟩;have X:k<=O.length:=by rw [<-hk];exact xO _ _
 refine Zq<|Au (n:=14) (0::0::0::7::0::0::48::0::0::384::1008::2047::4095::8191::[]) 3136 AG AG V<|A1 0 V (AA Y)<|A1 1 V (AA Y)<|A1 2 V (AA Y)<|A1 3 V (Ey B0 AW Y Y Y A0)<|Fo 4 V Wh (A7 (cs:=#[_,_,_,_,_]) C5 AW Y (by exact B4 _) (by exact AP V)) ?_;refine Fo 5 V Wh (A7 (cs:=#[_,_,_,_,_]) C5 AW Y (by exact B4 _) (by exact AP V)) ?_;refine A1 7 V (AA Y)<|A1 8 V (AA Y)<|A1 9 V (Bv B0 AW Y Y A0)<|Yw 6 1023 V (Ah (vs:=[_,_]) (cs:=[_,_,_,_,_,_,_,_,_,_]) B0 AW DS Y V rfl V rfl V)<|AE fun gy=>Yw 10 2047 V (BL (by_:=40) (sz:=5) B0 (V:Tryz.prog.info? 91=some Tryz.t91) V rfl V rfl Y (En 5 91 gy 2 [I4 c.after.t,I4 c.after.k,I4 c.after.v.a,I4 c.after.v.b,I4 c.after.v.c,I4 G.t,I4 G.k,I4 G.v.a,I4 G.v.b,I4 G.v.c] V AH) Y (Oe (JW hO) (2*k) ((BU O).length -2*k) (oc -2*k) A0 lv) Wo Wo (by exact fun u hu=>CK _ u (Lo hu)) A0 A0) ?_;rintro _ _ ⟨wz,d9,rfl⟩;obtain ⟨sj,qz,rfl⟩:=d9.form;refine Yw 11 4095 V (LX (by_:=40) (sz:=5) B0 (V:Tryz.prog.info? 91=some Tryz.t91) V rfl V rfl Y (Gd hO (2*k) (2*k) A0) Y (JW d9) Wo Wo A0 A0) ?_;rintro _ _ ⟨pq,pz,pg,rfl,qw,o9,rfl⟩;have h6:BS 5 91 (.slice pq (2*k+(2+((BU O).length -2*k))) pz) (BU (lfP q c (Bl rows)).1).length (Aa (BU (lfP q c (Bl rows)).1)) pg:=by
  obtain ⟨t1,t2⟩:=uT O X;rcases o9 with⟨h8,_⟩|h8
  · omega
  · refine BJ h8 (by rw [e8];have h7:=Dh (KZ (fun x=>Ht q c.after x.l) O ⟨c.after,G⟩);rw [QW]at h7;show _=(BU (KZ _ _ _)).length;omega) ?_
    rw [e8];unfold KZ;rw [hk,Em,Em,BR,BR,<-t1,<-t2,DV,DF,G0];rfl
 refine A1 12 V (Aq Y)<|A1 13 V (Aq Y)<|Am<|Zn [6,7] ?_;refine Zx<|AC<|Cn rfl results195 Y Y (by exact ⟨_,pg,by rw [e8],h6,rfl⟩)
theorem kJ(z:ps[k]?=some p)(x:AV):(BA ps).take (0+k*10+5)++Aa [x]++(BA ps).drop (0+k*10+5+(Aa [x]).length)=BA (ps.set k ⟨p.l,x⟩):=by
 have J:=(D3.1 z).1;have e:(BA (ps.take k)).length=k*10:=by rw [BM,CI];omega
 have I:BA [p]=Aa [p.l]++Aa [p.r]:=rfl;have g:∀r:AV,(Aa [r]).length=5:=fun r=>rfl
 have E:BA ps=(BA (ps.take k)++Aa [p.l])++(Aa [p.r]++BA (ps.drop (k+1))):=by
  rw [Rq z,I];simp
 have m:(BA (ps.take k)++Aa [p.l]).length=0+k*10+5:=by rw [C7,e,g];omega
 rw [E,L7 m,g,<-eh,SJ m,SJ (g p.r),fb,B2 J];have G:BA (ps.take k++⟨p.l,x⟩::ps.drop (k+1))=BA (ps.take k)++(BA [⟨p.l,x⟩]++BA (ps.drop (k+1))):=by
  rw [<-Di,<-Di];rfl
 rw [G,show BA [⟨p.l,x⟩]=Aa [p.l]++Aa [x] from rfl];simp
variable{cur:As}
theorem Qm(z:CY cur 0 (BA ps))(K:ps[k]?=some p):cur[0+k*10+5+1]?=some (I4 p.r.k)/\0+k*10+5+5<=cur.size/\cur.extract (0+k*10+5) (0+k*10+5+5)=p.r.Ax3:=by
 have g:∀j u,j<10->(BA [p])[j]?=some u->cur[k*10+j]?=some u:=fun j u G m=>by
  have:=z.get (k*10+j) u ((Ja K j G).trans m);rwa [Dd]at this
 have I:=g 6 _ AH rfl;have J:=g 9 _ AH rfl
 have M:k*10+9<cur.size:=(LO.1 J).1;refine ⟨by rw [show 0+k*10+5+1=k*10+6 by omega];exact I,by omega,?_⟩;apply L5.1;apply S8;intro j;rw [Kf,cU];split
 · rename_i G
   have E:j<5:=by omega
   obtain ⟨u,m⟩:∃u,(Aa [p.r])[j]?=some u:=⟨_,Bk (by rw [BG];simpa using E)⟩;have h2:=g (5+j) u A0 (by
    rw [show BA [p]=Aa [p.l]++Aa [p.r] from rfl,Ss (by rw [BG];simp),BG];rw [show 5+j - [p.l].length*5=j by simp];exact m)
   rw [show 0+k*10+5+j=k*10+(5+j) by omega,h2];exact m.symm
 · rw [RC]
   show(Aa [p.r]).length<=j;rw [BG];simp only [HI];omega
def OB(c:Chg)(ps:List BQ)(i:Nat):List BQ:=(ps.take i).map (fun p=>if EW c.k p then⟨p.l,⟨c.t,c.k,c.n⟩⟩else p)++ps.drop i
theorem qI(c:Chg)(ps:List BQ)(i:Nat)(hi:i<=ps.length):(OB c ps i).length=ps.length:=by
 unfold OB;simp only [C7,C2,CI,D4];omega
variable{i:Nat}
theorem XA(g:ps[i]?=some p):(OB c ps i)[i]?=some p:=by
 have hi:=(D3.1 g).1;unfold OB;rw [Ss (by rw [C2,CI];omega),C2,CI,OR A0,Tr,Ly,RT,g]
theorem Vl(g:ps[i]?=some p):OB c ps (i+1)=(OB c ps i).set i (if EW c.k p then⟨p.l,⟨c.t,c.k,c.n⟩⟩else p):=by
 have hi:=(D3.1 g).1;have m:((ps.take i).map (fun p=>if EW c.k p then(⟨p.l,⟨c.t,c.k,c.n⟩⟩:BQ)else p)).length=i:=by rw [C2,CI];omega
 unfold OB;rw [Bt g,HD,fk (h:=by omega),m,Tr];obtain ⟨_,rfl⟩:=D3.1 g;rw [Sx hi,List.set_cons_zero];simp
theorem nZ(g:ps[i]?=some p):ps.set i p=ps:=by
 obtain ⟨hi,rfl⟩:=D3.1 g;exact List.set_getElem_self hi
theorem yQ{B:List AR}(g:Nat)(us:List A3)(E:AV->Bool)(z:∀(args:As) (w:AD),(callFunc g args).run prog w= .ok (.enter g args) w)(G:∀x:AV,BB prog g (.agg x.Ax3::us).toArray [B] (.bool (E x)))(m:Nat)(x:BQ):BB prog 272 (.agg #[I4 x.l.t,I4 x.l.k,I4 x.l.v.a,I4 x.l.v.b,I4 x.l.v.c,I4 x.r.t,I4 x.r.k,I4 x.r.v.a,I4 x.r.v.b,I4 x.r.v.c]::([I5 m]:List A3)).toArray [[(m,.cells #[.func (.func g) #[] us.toArray] 147 (0,0))]++B] (.bool (E x.l)):=by
 refine E8 (vT g us E z G m x) C4 ?_;rintro r H' ⟨rfl,rfl⟩;exact ⟨_,⟨V,V⟩,by simp⟩
theorem XF{z E:C1}{g:Nat}{f:BQ->Bool}{m:Nat}(h:∀x,BB prog m #[.agg #[I4 x.l.t,I4 x.l.k,I4 x.l.v.a,I4 x.l.v.b,I4 x.l.v.c,I4 x.r.t,I4 x.r.k,I4 x.r.v.a,I4 x.r.v.b,I4 x.r.v.c],I5 g] [[(g,.cells (q.HU c z E (mQ q (bfQ q c)) (mQ q (afQ q c))) 241 (0,0))]] (.bool (f x)))(x:BQ):BB prog m (.agg #[I4 x.l.t,I4 x.l.k,I4 x.l.v.a,I4 x.l.v.b,I4 x.l.v.c,I4 x.r.t,I4 x.r.k,I4 x.r.v.a,I4 x.r.v.b,I4 x.r.v.c]::([I5 g]:List A3)).toArray [[(g,.cells (q.HU c z E (mQ q (bfQ q c)) (mQ q (afQ q c))) 241 (0,0))]] (.bool (f x)):=h x
theorem vk(h:c.has=true):Er c c.has c.n=⟨c.t,c.k,c.n⟩:=by unfold Er;rw [B2 h]
theorem qJ(c:Chg)(ps:List BQ):OB c ps ps.length=ps.map fun p=>if EW c.k p then⟨p.l,⟨c.t,c.k,c.n⟩⟩else p:=by unfold OB;rw [HJ,mc,HT]
variable{s2:List AR}
set_option maxHeartbeats 1000000 in
theorem eO(q:QM)(ek:0<=q.cl/\q.cl<=3)(c:Chg)(K X:C1)(e1:K.isSome=(bfQ q c).isSome)(h2:JQ X (afQ q c) s2){v:A3}{sl:List AR}(hl:BS 10 315 v ps.length (BA ps) sl)(hn:ps.length<=100000000):CJ prog 257 #[.agg (q.HU c K X (mQ q (bfQ q c)) (mQ q (afQ q c))),v] [sl,s2] (fun w H'=>∃v' s',w= .tuple #[v',.bool (jnT q c ps).2]/\BS 10 315 v' (jnT q c ps).1.length (BA (jnT q c ps).1) s'/\H'=[s']):=by
 have lv:=mL;obtain ⟨pl,ax,rfl⟩:=hl.form;have hU:=O4 hl A0
 have l9:(ps.filter fun p=>!Gx c.k p).length<=ps.length:=On _ _;refine Se func257 ntmps257 [0,1] ?_;intro u R;refine A2<|Ze (J2 Y (cs:=(q.HU c K X (mQ q (bfQ q c)) (mQ q (afQ q c)))) (Gs q c K X (mQ q (bfQ q c)) (mQ q (afQ q c))))<|AE fun Z=>Za Y<|CT Y<|A2<|Zh 7 GW V rfl D2 Y<|Zv (Aj (off:=0) CM V rfl A4 Y)<|Zl A5 Y<|Zh 0 GW V rfl CN Y<|Zv (Aj (off:=6) CH V rfl A4 Y)<|Zl A5 Y<|Zv (Bd Y Y)<|A6<|Ad Y (fun I=>?_) (fun I=>?_);·
  refine A2<|Zh 7 GW V rfl D2 Y<|Zo Wh (A7 (cs:=c.Ax2) G1 D2 Y BW B5)<|Xr [_] Y call73 Y V (SE c) ?_;obtain ⟨y9,cu⟩:∃y,y=Er c c.has c.n:=⟨_,rfl⟩;rw [<-cu];refine Sk 3 V<|Ze (Al DS #[_,_,_,_,_])<|AE fun l8=>Xe (Xw AW y9.Ax3)<|AN Y<|Zn [1,2,6,7] ?_;refine Zx<|C0 Y<|Zv (CR Y)<|A6<|Af Y (fun hh=>?_) (fun hh=>?_);·
   have af:c.has=false:=by simpa using hh
   refine Zq<|Au (n:=8) (0::0::3::0::8::24::7::127::[]) 4 AG AG V<|A1 0 V (AA Y)<|A1 1 V (CV (vs:=[]) (us:=[_]) Y Y)<|A1 3 V (AL (off:=7) GW V rfl D2 Y)<|A1 4 V (Aj (off:=2) CM V rfl DP Y)<|B6 5 V Fc Y<|Zz (l:=[2])<|C6 [true] [(5,(_,_))] V rfl (Zw [_,_] Y call266 Y V (NW (B:=[(Z,.cells (q.HU c K X (mQ q (bfQ q c)) (mQ q (afQ q c))) 241 (0,0))]) hU A0 267 [I5 Z] (EW c.k) call267 (XF fun x=>vW q c K X (mQ q (bfQ q c)) (mQ q (afQ q c)) Z x))) ?_ DC Ar;rintro _ _ ⟨_,⟨s9,h9,rfl⟩,rfl⟩;refine ⟨Zk (Ab),?_⟩;obtain ⟨g9,c9,rfl⟩:=h9.form;refine A1 6 V (Aq Y)<|A1 7 V (Aq Y)<|Am<|Zx<|AC<|Zt<|Zt<|Cn V i6 Y Y (by
    have G:jnT q c ps=(ps.filter fun p=>!EW c.k p,c.had):=by unfold jnT;rw [B2 I,Ax (by rw [af];decide)]
    exact ⟨.slice g9 _ c9,s9,by rw [G],by rw [G];exact h9,rfl⟩)
  have af:c.has=true:=by simpa using hh
  rw [vk af]at cu;refine B3<|C0 Y<|Zv (AJ HP Y)<|Zm Y<|A6<|AQ<|Zb [35,1,2,6,34] ?_;refine Av (e0:=[(35,_)]) (fun m e H=>∃(i:Nat) (sk:List AR),m=ps.length -i/\(i<=ps.length/\BS 10 315 (.slice pl ps.length ax) ps.length (BA (OB c ps i)) sk)/\e=[(35,I4 (i:Int))]/\H=[sk]) (by exact ⟨0,sl,V,⟨CD _,hl⟩,V,V⟩) Wp ?_;rintro _ _ _ ⟨i,sk,rfl,⟨hi,J⟩,rfl,rfl⟩;refine A2<|Zv (Ak Y Y)<|A6<|Zq<|Ad Y (fun U=>?_) (fun U=>?_);·
   obtain ⟨p,hp⟩:∃p,ps[i]?=some p:=⟨_,Bk U⟩;obtain ⟨g,d9,cur,z,bn,rfl,gy,O⟩:=EG J A0;injection bn with hv1 hv2 hv3
   subst hv1 hv3;obtain ⟨_,M,_,kz,gq⟩:=KQ J;obtain ⟨h6,kv,_⟩:=Qm O (XA hp);refine B3<|Zq<|AQ<|B7 Y<|CT Y<|Au (n:=10) (0::0::3::7::15::31::0::64::192::511::[]) 0 AG AG V<|A1 0 V (AA Y)<|A1 1 V (AA Y)<|A1 2 V (A9 HP Hi Y Y A0)<|A1 3 V (Aj (off:=5) US V rfl AW Y)<|A1 4 V (Aj (off:=1) F1 V rfl A4 Y)<|B6 5 V A5 Y (hv:=by exact h6)<|A1 6 V (AL (off:=7) GW V rfl D2 Y)<|A1 7 V (Aj (off:=1) CM V rfl A4 Y)<|B6 8 V A5 Y<|A1 9 V (Bd Y Y)<|Am<|Zn [1,2,6,8,34,35,47] ?_;refine Zx<|Ad Y (fun hk=>?_) (fun hk=>?_);focus
    have e9:OB c ps (i+1)=(OB c ps i).set i ⟨p.l,y9⟩:=by rw [Vl hp,B2 (by unfold EW;simp [hk]),cu]
    have W:=BJ (xs':=BA (OB c ps (i+1))) (Ei (i:=0+i*10+5) (ys:=Aa [y9]) J (by rw [BM,BG,HI,qI c ps i hi];omega)) rfl (by rw [e9];exact kJ (XA hp) y9);refine Zg<|Sk 2 rfl<|Zo Wh (A7 (cs:=y9.Ax3) C5 AW Y BW B5)<|BN (A9 HP Hi Y Y A0)<|Zv (Aj (off:=5) US rfl rfl AW Y)<|Xe (Ao AW Y Y Ft Wu (by exact (rfl:_=FE cur (0+i*10+5) (Aa [y9]))) DO A0 gq)<|Z0 ?_
   rotate_left
   focus
    have e9:OB c ps (i+1)=OB c ps i:=by rw [Vl hp,Ax (by unfold EW;simp [hk]),nZ (XA hp)]
    have W:=J;rw [<-e9]at W;refine AB ?_
   all_goals
    refine A8<|Zx<|GP Y Y Y<|DH (e:=[(35,_)]) (h:=by exact ⟨i+1,_,V,⟨by omega,W⟩,V,V⟩)
  have ei:i=ps.length:=by omega
  subst ei;rw [qJ]at J;refine Az<|Zt<|Zt<|AU<|Zx<|Zq<|Au (n:=6) (0::0::2::6::1::31::[]) 0 AG AG V<|A1 0 V (AA Y)<|A1 1 V (AL (off:=7) GW V rfl D2 Y)<|A1 2 V (Aj (off:=2) CM V rfl DP Y)<|B6 3 V Fc Y<|A1 4 V (Aq Y)<|A1 5 V (Aq Y)<|Am<|Zx<|AC<|Zt<|Cn V i6 Y Y (by
   have G:jnT q c ps=(ps.map fun p=>if EW c.k p then⟨p.l,⟨c.t,c.k,c.n⟩⟩else p,c.had):=by unfold jnT;rw [B2 I,B2 af]
   exact ⟨.slice pl ps.length ax,sk,by rw [G],by rw [G];exact BJ J (C2 _).symm rfl,rfl⟩)
 refine B3<|B7 Y<|Zv (CV (vs:=[]) (us:=[_]) Y Y)<|Zc [_,_] Y call266 Y V (NW (B:=[(Z,.cells (q.HU c K X (mQ q (bfQ q c)) (mQ q (afQ q c))) 241 (0,0))]) hU A0 268 [I5 Z] (Gx c.k) call268 (XF fun x=>vV q c K X (mQ q (bfQ q c)) (mQ q (afQ q c)) Z x)) ?_;rintro _ _ ⟨_,⟨s9,h9,rfl⟩,rfl⟩;obtain ⟨g9,c9,rfl⟩:=h9.form;refine AN Y<|Zn [1,2,9] ?_;refine Zx<|Zq<|A2<|Zh 18 GW V rfl N2 Y<|Zl Pu Y<|Zv (O9 UP Y Y)<|A6<|Af Y (fun bf=>?_) (fun bf=>?_);·
  have hy:afQ q c=none:=by have h8:=h2.some_;cases E:afQ q c with|none=>rfl|some y=>(rw [E]at h8;cases X<;>simp at bf h8)
  refine A2<|Sk 2 V<|AM Y<|Zt<|Cn V i6 Y Y (by
   have G:jnT q c ps=(ps.filter fun p=>!Gx c.k p,true):=by unfold jnT;rw [Ax I,hy]
   exact ⟨.slice g9 _ c9,s9,by rw [G],by rw [G];exact h9,rfl⟩)
 obtain ⟨y,hy⟩:∃y,afQ q c=some y:=cT.1 (by rw [<-h2.some_];cases X<;>simp at bf⊢);rw [hy]at h2;obtain ⟨b2,rfl,rfl⟩:=h2;refine B3<|B7 Y<|Zv (CV (vs:=[]) (us:=[_]) Y Y)<|Xr [_,_] Y call269 Y V (Mo (B:=[(Z,.cells #[I4 q.kd,I4 q.tb,I4 q.cl,I4 q.lo,I4 q.hi,I4 q.bq,I4 q.ot,I4 c.t,I4 c.k,.bool c.had,I4 c.o.a,I4 c.o.b,I4 c.o.c,.bool c.has,I4 c.n.a,I4 c.n.b,I4 c.n.c,.pointer K,I5 b2,I4 (mQ q (bfQ q c)),I4 (mQ q (afQ q c))] 241 (0,0))]) hU 270 [I5 Z] (EW (mQ q (afQ q c))) call270 (XF fun x=>vU q c K (some ⟨b2,0,none⟩) (mQ q (bfQ q c)) (mQ q (afQ q c)) Z x)) ?_;have M:=TZ (EW (mQ q (afQ q c))) ps
 obtain ⟨z9,cO⟩:∃z,z=Gu (EW (mQ q (afQ q c))) ps:=⟨_,rfl⟩;rw [<-cO]at M⊢;refine AF Y<|C0 Y<|Zv (Dq Y Y)<|A6<|Ad Y (fun U=>?_) (fun U=>?_);·
  have G:jnT q c ps=(ps.filter fun p=>!Gx c.k p,(bfQ q c).isSome&&decide (mQ q (bfQ q c)=mQ q (afQ q c))):=by unfold jnT;rw [Ax I];split;rename_i E;rw [hy]at E;cases E;rw [B2 (by rw [<-cO];exact U)]
  refine Zq<|Au (n:=13) (0::0::2::6::14::30::62::30::158::510::1022::31::4095::[]) 0 AG AG V<|A1 0 V (AA Y)<|A1 1 V (AL (off:=17) GW V rfl N2 Y)<|B6 2 V Pu Y<|A1 3 V (GV UP Y Y)<|A1 4 V (AA Y)<|CQ (t:=74) Y (fun h1=>?_) (fun h1=>?_);focus
   rw [h1];refine B1 5 V (AL (off:=19) GW V rfl A4 Y)<|DG 6 V Wh (BZ A5 Y B5)<|B1 7 V (AL (off:=20) GW V rfl A4 Y)<|DG 8 V Wh (BZ A5 Y B5)<|B1 9 V (Bd Y Y)<|A1 10 V (Ay Y Y) ?_
  rotate_left
  focus
   rw [h1];refine AK 5 V<|AK 6 V<|AK 7 V<|AK 8 V<|AK 9 V<|A1 10 V (BC Y Y) ?_
  all_goals
   refine A1 11 V (Aq Y)<|A1 12 V (Aq Y)<|Am<|Zn [4,5] ?_;refine Zx<|AC<|Zt<|Cn rfl i6 Y Y (by exact ⟨.slice g9 _ c9,s9,by rw [G,<-e1,h1];rfl,by rw [G];exact h9,rfl⟩)
 rcases M with⟨E,_⟩|⟨k,p,E,hp,_,_⟩
 · exact absurd E A0
 subst E;have G:jnT q c ps=((KZ (fun p=>Ht q y p.l) (ps.filter fun p=>!Gx c.k p) ⟨y,p.r⟩),true):=by
  unfold jnT;rw [Ax I];split;· rename_i E;rw [hy]at E;cases E
  · rename_i y0 E;rw [hy]at E;injection E with E;subst E;rw [<-cO,Ax A0,S1,Nd,hp];rfl
 have hk:=(D3.1 hp).1;obtain ⟨g,d9,cur,z,bn,rfl,gy,O⟩:=EG hl A0;injection bn with hv1 hv2 hv3
 subst hv1 hv3;obtain ⟨_,kv,gm⟩:=Qm O hp;refine AB<|BT<|Zo Wh (A7 cN X1 Y BW (AP V))<|Zc [_] Y call255 Y V (RD q ek c K (mQ q (bfQ q c)) (mQ q (afQ q c)) y b2) ?_;rintro _ _ ⟨_,⟨b8,b9,rfl,rfl⟩,rfl⟩;refine Ze (Al zeroValue147 #[_])<|AE fun bb=>Xe (Zs sizeOf147 Y Y V (hc:=by exact (V:_=(#[.func (.func 265) #[] ([I5 b8,I5 b9]:List A3).toArray]:As))) (hi:=by decide))<|Z0<|Zn [1,2,9,10,11] ?_;refine Zx<|Zq<|ES (s1:=[(bb,_)]) (s2:=_++_++[(b2,_)]) Wo Wo ?_;refine Au (n:=15) (0::0::2::6::14::0::0::96::224::480::1022::0::4095::8191::16383::[]) 4096 AG AG V<|A1 0 V (AA Y)<|A1 1 V (AL (off:=18) GW V rfl N2 Y)<|B6 2 V Pu Y<|A1 3 V (EY Y V)<|CX (b:=b2) (x:= .cells y.Ax3 91 (0,0)) (D':=31) 4 V rfl V C4 (Pa y.Ax3 C5 AW Y) ?_;refine A1 5 V (AA Y)<|A1 6 V (AA Y)<|A1 7 V (A9 HP Hi Y Y A0)<|A1 8 V (Aj (off:=5) US V rfl AW Y)<|Fo 9 V Wh (A7 (cs:=p.r.Ax3) C5 AW Y A0 gm)<|A1 10 V (BK (vs:=[(0,.agg y.Ax3),(1,.agg p.r.Ax3)]) (cs:=#[I4 y.t,I4 y.k,I4 y.v.a,I4 y.v.b,I4 y.v.c,I4 p.r.t,I4 p.r.k,I4 p.r.v.a,I4 p.r.v.b,I4 p.r.v.c]) Y (AY (pl:=#[(0,5),(5,5)]) ep US (fun _=>by kernel_rfl) AG))<|A1 11 V (CV (vs:=[]) (us:=[_]) Y Y)<|Zz (l:=[12])<|C6 [false,false,false] [] V rfl (Zw [_,_,_] Y call271 Y V (TV h9 A0 ⟨y,p.r⟩ 272 [I5 bb] (fun p=>Ht q y p.l) call272 (fun x=>yQ 265 ([I5 b8,I5 b9]:List A3) (Ht q y) call265 (fun x=>aY q ek c K (mQ q (bfQ q c)) (mQ q (afQ q c)) y b2 b8 b9 x) bb x))) ?_ DC Ar;rintro _ _ ⟨_,⟨s5,s6,h5,rfl⟩,rfl⟩;refine ⟨Ab,?_⟩;obtain ⟨g5,c5,rfl⟩:=h5.form;refine A1 13 V (Aq Y)<|A1 14 V (Aq Y)<|Am<|Zn [4,5] ?_;refine Zx<|AC<|Cn rfl i6 Y Y (by exact ⟨.slice g5 _ c5,s5,by rw [G],by rw [G];exact h5,rfl⟩)
theorem dS(q:QM)(c:Chg)(r:CB):(D9 q c r).1.val=r.val:=by unfold D9;split<;>rfl
theorem dU(q:QM)(c:Chg)(r:CB):(D9 q c r).1.rows.length<=r.rows.length+2:=by
 unfold D9;split;· exact ef _ _
 · show(BU _).length<=_
   have h:=iW q c (Bl r.rows);rw [Gj]at h;rw [Dh];omega
theorem il{rs:List AV}{x:AV}(g:CY cur 0 (Aa rs))(hx:rs[k]?=some x):k*5+5<=cur.size/\cur.extract (0+k*5) (0+k*5+5)=x.Ax3:=aC g hx
theorem rU{rs:List BQ}(g:CY cur 0 (BA rs))(hx:rs[k]?=some x):k*10+10<=cur.size/\cur.extract (0+k*10) (0+k*10+10)=#[I4 x.l.t,I4 x.l.k,I4 x.l.v.a,I4 x.l.v.b,I4 x.l.v.c,I4 x.r.t,I4 x.r.k,I4 x.r.v.a,I4 x.r.v.b,I4 x.r.v.c]:=Vy g hx
variable{r:CB}{rv:A3}
set_option maxHeartbeats 1000000 in
theorem dK(q:QM)(l9:0<=q.cl/\q.cl<=3)(c:Chg)(p1 p2:C1)(e1:p1.isSome=(bfQ q c).isSome)(h2:JQ p2 (afQ q c) s2){sr:List AR}(hr:BS 5 91 rv r.rows.length (Aa r.rows) sr)(hn:r.rows.length<=100000000):CJ prog 233 #[.agg (q.HU c p1 p2 (mQ q (bfQ q c)) (mQ q (afQ q c))),.agg #[rv,I4 r.val,.bool r.fnd]] [sr,s2] (fun w H'=>∃kv s',w= .tuple #[.agg #[kv,I4 (D9 q c r).1.val,.bool (D9 q c r).1.fnd],.bool (D9 q c r).2]/\BS 5 91 kv (D9 q c r).1.rows.length (Aa (D9 q c r).1.rows) s'/\H'=[s']):=by
 have p9:=mL;obtain ⟨pv,cv,rfl⟩:=hr.form;refine Se func233 ntmps233 [0,1] ?_;intro u R;refine A2<|Ze (J2 Y (cs:=(q.HU c p1 p2 (mQ q (bfQ q c)) (mQ q (afQ q c)))) (Gs q c p1 p2 (mQ q (bfQ q c)) (mQ q (afQ q c))))<|AE fun be=>Ze (Bx #[.slice pv r.rows.length cv,I4 r.val,.bool r.fnd])<|AE fun br=>Ze (Al GO #[_,_,_])<|AE fun bo=>CT Y<|A2<|Zh 0 GW V rfl CN Y<|Zv (Aj (off:=1) CH V rfl A4 Y)<|Zl A5 Y ?_;refine Zh 0 GW V rfl CN Y<|Zv (Aj (off:=6) CH V rfl A4 Y)<|Zl A5 Y ?_;refine Zv (Bd Y Y)<|A6<|Ad Y (fun W=>?_) (fun W=>?_);·
  refine A2<|Zo Wh (A7 (cs:=#[_,_,_]) D0 BE Y BW B5) ?_;refine Xe (Xw BE _) ?_;refine AN Y<|Zn [4,5] ?_;refine Zx<|AC<|Zt<|Bo V results233 Y Wh (Ai D0 BE Wn (V)) Y (by
   have Z:D9 q c r=(r,false):=by unfold D9;rw [B2 W]
   exact ⟨.slice pv r.rows.length cv,sr,by rw [Z];rfl,by rw [Z];exact hr,rfl⟩)
 refine AB<|BT<|CT Y<|Zq<|Bi<|Zg<|AN Y<|Zn [2,3,4,6,7] ?_;refine Zx<|AQ<|Zb [6,7,2,3,4] ?_;refine Av (e0:=[(6,_),(7,_)]) (fun m e H=>∃(k:Nat) (K:C1) (J:Nat) (U:List AR),m=r.rows.length -k/\(k<=r.rows.length/2/\BS 10 315 (.slice K k J) k (BA ((Bl r.rows).take k)) U)/\e=[(6,.slice K k J),(7,I4 ((2*k:Nat):Int))]/\H=[U]) (by exact ⟨0,none,0,[],V,⟨CD _,BX 10 _⟩,V,V⟩) Wp ?_;rintro _ _ _ ⟨k,K,J,U,rfl,⟨hk,G⟩,rfl,rfl⟩;refine Zq<|Zq<|Bi<|Zg<|Zm Y<|Ya (n:=1) Y Y<|Zh 0 Cd V rfl Cl Y<|Zl DQ Y ?_;refine Zv (AJ B0 Y)<|Zv (Ak Y Y)<|A6<|Ad Y (fun I=>?_) (fun I=>?_);·
  obtain ⟨x,hx⟩:∃x,r.rows[2*k]?=some x:=⟨_,Bk A0⟩;obtain ⟨y,hy⟩:∃y,r.rows[2*k+1]?=some y:=⟨_,Bk A0⟩;obtain ⟨g,af,cur,z,X,rfl,gm,E⟩:=EG hr A0;injection X with hv1 hv2 hv3
  subst hv1 hv3;obtain ⟨oq,cO⟩:=il E hx;obtain ⟨p8,d9⟩:=il E hy;refine B3<|Zq<|AQ<|Au (n:=16) (0::0::2::0::14::30::0::64::0::256::960::1984::4094::8190::16383::32767::[]) 24576 AG AG V<|A1 0 V (AA Y)<|A1 1 V (AL (off:=0) Cd V rfl Cl Y)<|B6 2 V DQ Y ?_;refine A1 3 V (AA Y)<|A1 4 V (A9 B0 AW Y Y A0)<|Fo 5 V Wh (A7 (cs:=#[_,_,_,_,_]) C5 AW Y A0 cO) ?_;refine A1 6 V (AL (off:=0) Cd V rfl Cl Y)<|B6 7 V DQ Y ?_;refine A1 8 V (AA Y)<|A1 9 V (Ce (n:=1) Y Y A0)<|A1 10 V (A9 B0 AW Y Y A0)<|Fo 11 V Wh (A7 (cs:=#[_,_,_,_,_]) C5 AW Y A0 d9) ?_;refine A1 12 V (BK (vs:=[(0,.agg x.Ax3),(1,.agg y.Ax3)]) (cs:=#[I4 x.t,I4 x.k,I4 x.v.a,I4 x.v.b,I4 x.v.c,I4 y.t,I4 y.k,I4 y.v.a,I4 y.v.b,I4 y.v.c]) Y (AY (pl:=#[(0,5),(5,5)]) ep US (fun _=>by kernel_rfl) AG))<|Yw 13 16383 V (Ah (vs:=[_]) (cs:=[_,_,_,_,_,_,_,_,_,_]) HP Hi ep Y V rfl V rfl V)<|AE fun gp=>Yw 14 32767 V (BL (by_:=80) (sz:=10) HP (V:Tryz.prog.info? 315=some Tryz.t315) V rfl V rfl Y (G) Y (D7 10 gp 1 1 315 (0,0) (BA [⟨x,y⟩]) V) Wo Wo (by exact F7 _) A0 A0) ?_;rintro _ _ ⟨mR,M,rfl⟩;obtain ⟨l8,kz,rfl⟩:=M.form;refine A1 15 V (Aq Y)<|Am<|Zn [2,3,4,6,7] ?_;refine A8<|Zx<|Bi<|Zg<|Zm Y<|Ya (n:=2) Y Y<|AN Y<|DH (e:=[(6,_),(7,_)]) (h:=by exact ⟨k+1,l8,kz,mR,rfl,⟨by omega,BJ M rfl (by rw [Bt (Ye hx hy),Di])⟩,rfl,rfl⟩)
 have ek:k=(Bl r.rows).length:=by rw [Gj];omega
 have gy:=BJ G ek (by rw [ek,HJ]);refine Az<|Zt<|Zt<|AU<|BT<|Zo Wh (A7 cN X1 Y BW (AP V)) ?_;refine Zm Y<|Zc [_,_] Y call257 Y rfl (eO q l9 c p1 p2 e1 h2 gy (by rw [Gj];omega)) ?_;rintro _ _ ⟨_,⟨lv,s5,rfl,h5,rfl⟩,rfl⟩;have Z:D9 q c r=(⟨BU (jnT q c (Bl r.rows)).1,r.val,r.fnd⟩,(jnT q c (Bl r.rows)).2):=by unfold D9;rw [Ax W]
 have bn:=iW q c (Bl r.rows);rw [Gj]at bn;obtain ⟨L,hL⟩:∃L,L=(jnT q c (Bl r.rows)).1:=⟨_,rfl⟩;rw [<-hL]at h5 Z bn;obtain ⟨g5,c5,rfl⟩:=h5.form;refine Sk 4 V<|AN Y<|Zn [3,4,6,8] ?_;refine BT<|Zh 0 Cd V rfl Cl Y<|Xe (Zs Cl Y Y V (hc:=by exact (V:_=(#[.slice none 0 0,I4 r.val,.bool r.fnd]:As))) (hi:=by(simp;done))) ?_;refine A6<|Zq<|Zq<|Bi<|Zg<|Zm Y<|Zv (AJ HP Y)<|Zm Y<|A6<|AQ<|Zb [51,3,4,8,49,50] ?_;refine Av (e0:=[(51,_)]) (fun m e H=>∃(k:Nat) (K:C1) (J:Nat) (U:List AR),m=L.length -k/\(k<=L.length/\BS 5 91 (.slice K (2*k) J) (2*k) (Aa (BU (L.take k))) U)/\e=[(51,I4 (k:Int))]/\H=[[(br,.cells #[.slice K (2*k) J,I4 r.val,.bool r.fnd] 51 (0,0))],U]) (by exact ⟨0,none,0,[],V,⟨CD _,BX 5 _⟩,V,V⟩) Wp ?_;rintro _ _ _ ⟨k,K,J,U,rfl,⟨hk,G⟩,rfl,rfl⟩;refine Zq<|Bi<|Zg<|Zv (Ak Y Y)<|A6<|Zq<|Ad Y (fun I=>?_) (fun I=>?_);·
  obtain ⟨p,hp⟩:∃p,L[k]?=some p:=⟨_,Bk I⟩;obtain ⟨g,af,cur,z,X,rfl,gm,E⟩:=EG h5 A0;injection X with hv1 hv2 hv3
  subst hv1 hv3;obtain ⟨o9,cu⟩:=rU E hp;refine B3<|Zq<|AQ<|Zq<|Bi<|Zg<|BN (A9 HP Hi Y Y A0)<|Zo Wh (A7 (cs:=#[_,_,_,_,_,_,_,_,_,_]) isAgg315 Hi Y A0 cu) ?_;refine Ze (Al ep #[_,_,_,_,_,_,_,_,_,_])<|AE fun bp=>Xe (Xw Hi #[I4 p.l.t,I4 p.l.k,I4 p.l.v.a,I4 p.l.v.b,I4 p.l.v.c,I4 p.r.t,I4 p.r.k,I4 p.r.v.a,I4 p.r.v.b,I4 p.r.v.c]) ?_;refine A6<|Zg<|Zh 0 Cd V rfl Cl Y<|Zl DQ Y ?_;refine Zh 0 US V rfl AW Y<|Zo Wh (A7 (cs:=#[_,_,_,_,_]) C5 AW Y BW B5) ?_;refine Zh 5 US V rfl AW Y<|Zo Wh (A7 (cs:=#[_,_,_,_,_]) C5 AW Y BW B5) ?_;refine Ze (Ah (vs:=[_,_]) (cs:=[_,_,_,_,_,_,_,_,_,_]) B0 AW DS Y V rfl V rfl V)<|AE fun gq=>Ze (BL (by_:=40) (sz:=5) B0 (V:Tryz.prog.info? 91=some Tryz.t91) V rfl V rfl Y (G) Y (D7 5 gq 2 2 91 (0,0) (Aa [p.l,p.r]) V) Wo Wo (by exact CK _) A0 A0) ?_;rintro _ _ ⟨o8,O,rfl⟩;obtain ⟨bf,ax,rfl⟩:=O.form;refine Zh 0 Cd V rfl Cl Y<|Xe (Zs Cl Y Y V (hc:=by exact (V:_=(#[.slice bf (2*k+2) ax,I4 r.val,.bool r.fnd]:As))) (hi:=by(simp;done))) ?_;refine Z0<|Zn [3,4,8,49,50,51] ?_;refine A8<|Zx<|Bi<|GP Y Y Y<|DH (e:=[(51,_)]) (h:=by exact ⟨k+1,bf,ax,o8,rfl,⟨by omega,BJ O rfl (by rw [MN hp,BR])⟩,rfl,rfl⟩)
 have ek:k=L.length:=by omega
 subst ek;rw [HJ]at G;refine Az<|Zt<|Zt<|AU<|BT<|Zo Wh (A7 (cs:=#[_,_,_]) D0 BE Y BW B5) ?_;refine Zm Y<|Xe (Xw BE _) ?_;refine AM Y<|Bo rfl results233 Y Wh (Ai D0 BE Wn (rfl)) Y (by exact ⟨.slice K (2*L.length) J,U,by rw [Z];rfl,by rw [Z];exact BJ G (Dh L).symm rfl,rfl⟩)
def CF(q:QM)(c:Chg)(r:CB):CB×Bool:=
 if q.kd=1\/q.kd=2 then(⟨Cv q c r.rows,r.val,r.fnd⟩,true)
 else if q.kd=3 then(⟨r.rows,if(afQ q c).isSome then r.val+1 else r.val -1,r.fnd⟩,true)
 else if q.kd=4 then(⟨r.rows,r.val+(mQ q (afQ q c) -mQ q (bfQ q c)),r.fnd⟩,true)
 else if q.kd=5 then FH (fun a b=>decide (a<b)) (bfQ q c).isSome (afQ q c).isSome (mQ q (bfQ q c)) (mQ q (afQ q c)) r
 else if q.kd=6 then FH (fun a b=>decide (b<a)) (bfQ q c).isSome (afQ q c).isSome (mQ q (bfQ q c)) (mQ q (afQ q c)) r
 else D9 q c r
theorem dR(q:QM)(c:Chg)(r:CB):(CF q c r).1.rows.length<=r.rows.length+2:=by
 have h:=Ng q c r.rows;unfold CF;split;· exact To h (Nat.le_succ _)
 · split
   · exact ef _ _
   · split
     · exact ef _ _
     · split
       · rw [LK];exact ef _ _
       · split
         · rw [LK];exact ef _ _
         · exact dU q c r
set_option maxHeartbeats 1000000 in
theorem VS(q:QM)(c:Chg)(I J:C1)(o n:Int)(r:CB)(W:C1)(U K b z:Nat)(lt:Int->Int->Bool)(E:∀(args:As) (w:AD),(callFunc z args).run prog w= .ok (.enter z args) w)(G:∀x y:Int,BB prog z #[I4 x,I4 y] [] (.bool (lt x y))):BB prog 256 #[.agg (q.HU c I J o n),.agg #[.slice W U K,I4 r.val,.bool r.fnd],I5 b] [[(b,.cells #[.func (.func z) #[] #[]] 141 (0,0))]] (.tuple #[.agg #[.slice W U K,I4 (FH lt I.isSome J.isSome o n r).1.val,.bool (FH lt I.isSome J.isSome o n r).1.fnd],.bool (FH lt I.isSome J.isSome o n r).2]):=by
 refine Se func256 ntmps256 [0,1,2] ?_;intro u R;refine A2<|Ze (J2 Y (cs:=(q.HU c I J o n)) (Gs q c I J o n))<|AE fun be=>Ze (Bx #[.slice W U K,I4 r.val,.bool r.fnd])<|AE fun br=>Ze (Al GO #[_,_,_])<|AE fun b3=>CT Y<|Zb [2,3,4,5] ?_;refine C9 (e0:=[]) (H0:=[]) (fun e H=>∃(X:Bool),(X=(I.isSome&&(!r.fnd||!lt r.val o)))/\e=[(24,.bool X)]/\H=[]) Wp ?hx_1 ?hy_1
 case hx_1=>
  refine Zg<|Zh 17 GW V rfl N2 Y<|Zl Pu Y ?_;refine Zv (GV UP Y Y)<|Zm Y<|Ae (t:=11) Y V (fun h1=>?_) (fun h1=>?_);focus
   refine Yf 2 Cd V rfl DP Y<|Yl Fc Y ?_;refine Yg (CR Y)<|Zf Y Y ?_;refine Ae (t:=15) Y V (fun h2=>?_) (fun h2=>?_);focus
    refine Sk 9 V ?_
   rotate_left
   focus
    refine Yl isAgg141 Y ?_;refine Yf 1 Cd V rfl A4 Y<|Yl A5 Y ?_;refine Yf 19 GW V rfl A4 Y<|Yl A5 Y ?_;refine Xr [_,_] Y (E) Y V (G (r.val) (o)) ?_;refine Yg (CR Y)<|Sk 2 V ?_
  rotate_left 2
  focus
   refine Sk 13 V ?_
  all_goals
   refine Z0<|FF (e:=[(24,_)]) (h:=by exact ⟨_,by simp_all,V,V⟩)
 rintro _ _ ⟨X,g,rfl,rfl⟩;refine Af Y (fun M=>?_) (fun M=>?_);·
  rw [M]at g;refine Zb [2,3,4,5] ?_;refine C9 (e0:=[(2,_)]) (H0:=[]) (fun e H=>∃(Z:Bool),(Z=((J.isSome&&r.fnd)&&!lt r.val n))/\e=[(7,.bool Z)]/\H=[]) Wp ?hx_5 ?hy_5
  case hx_5=>
   refine Zg<|Zh 18 GW V rfl N2 Y<|Zl Pu Y ?_;refine Zv (GV UP Y Y)<|Zm Y<|Ae (t:=28) Y V (fun h4=>?_) (fun h4=>?_);focus
    refine Yf 2 Cd V rfl DP Y<|Yl Fc Y ?_;refine Sk 2 V ?_;refine Ae (t:=32) Y V (fun h5=>?_) (fun h5=>?_);refine Yl isAgg141 Y ?_;refine Yf 1 Cd V rfl A4 Y<|Yl A5 Y ?_;refine Yf 20 GW V rfl A4 Y<|Yl A5 Y ?_;refine Xr [_,_] Y (E) Y V (G (r.val) (n)) ?_;refine Yg (CR Y)<|HR Y Y<|AN Y<|FF (e:=[(7,_)]) (h:=by exact ⟨_,by simp_all,V,V⟩)
   rotate_left
   focus
    refine Sk 4 V ?_
   all_goals
    refine Sk 8 V<|AN Y<|FF (e:=[(7,_)]) (h:=by exact ⟨_,by simp_all,V,V⟩)
  rintro _ _ ⟨Z,af,rfl,rfl⟩;refine A2<|Zh 20 GW V rfl A4 Y<|Zl A5 Y ?_;refine Zh 1 Cd V rfl A4 Y<|Xe (Zs A4 Y Y V (hi:=by(simp;done))) ?_;refine A6<|A2<|Zo Wh (A7 (cs:=#[_,_,_]) D0 BE Y BW B5) ?_;refine Zm Y<|Xe (Xw BE _) ?_;refine AM Y<|Zt<|Bo V results256 Y Wh (Ai D0 BE Wn (V)) Y (by
   refine ⟨?_,V⟩;unfold FH;rw [<-g];clear g;try(rw [<-m];clear m)
   simp_all<;>rfl)
 rw [M]at g;refine B3<|Zq<|A2<|Zh 18 GW V rfl N2 Y<|Zl Pu Y ?_;refine Zv (GV UP Y Y)<|A6<|Af Y (fun h6=>?_) (fun h6=>?_);focus
  refine Zq<|Zb [2,3,4,5] ?_;refine C9 (e0:=[(2,_)]) (H0:=[]) (fun e H=>∃(w3:Bool),(w3=(!r.fnd||lt n r.val))/\e=[(59,.bool w3)]/\H=[]) Wp ?hx_10 ?hy_10
  case' hx_10=>
   refine Zg<|Zh 2 Cd V rfl DP Y<|Zl Fc Y ?_;refine Zv (CR Y)<|Zm Y<|Ae (t:=52) Y V (fun h7=>?_) (fun h7=>?_);focus
    refine Sk 7 V ?_
   rotate_left
   focus
    refine Yl isAgg141 Y ?_;refine Yf 20 GW V rfl A4 Y<|Yl A5 Y ?_;refine Yf 1 Cd V rfl A4 Y<|Yl A5 Y ?_;refine Xr [_,_] Y (E) Y V (G (n) (r.val)) ?_;refine Zv (BC Y Y) ?_
   all_goals
    refine Z0<|FF (e:=[(59,_)]) (h:=by exact ⟨_,by simp_all,V,V⟩)
  case' hy_10=>
   rintro _ _ ⟨w3,m,rfl,rfl⟩;refine Af Y (fun O=>?_) (fun O=>?_);focus
    rw [O]at m;refine Zg<|Zh 20 GW V rfl A4 Y<|Zl A5 Y ?_;refine Zh 1 Cd V rfl A4 Y<|Xe (Zs A4 Y Y V (hi:=by(simp;done))) ?_;refine A6<|Zg<|Zh 2 Cd V rfl DP Y<|Xe (Zs DP Y Y V (hi:=by(simp;done))) ?_;refine Z0 ?_
   rotate_left
   focus
    rw [O]at m;refine B3<|Zg<|Zh 2 Cd V rfl DP Y<|Xe (Zs DP Y Y V (hi:=by(simp;done))) ?_;refine Z0 ?_
 rotate_left 2
 focus
  refine AB ?_
 all_goals
  refine BT<|Zo Wh (A7 (cs:=#[_,_,_]) D0 BE Y BW B5) ?_;refine Xe (Xw BE _) ?_;refine AM Y<|Bo V results256 Y Wh (Ai D0 BE Wn (V)) Y (by
   refine ⟨?_,V⟩;unfold FH;rw [<-g];clear g;try(rw [<-m];clear m)
   simp_all<;>rfl)
theorem qR(x y:Int):BB prog 229 #[I4 x,I4 y] [] (.bool (decide (x<y))):=by
 refine Se func229 ntmps229 [0,1] ?_;intro u R;refine A2<|AF Y<|A2<|Sk 2 V<|Zv (Dq Y Y)<|AM Y<|AO V results229 Y (by exact ⟨V,V⟩)
theorem qV(x y:Int):BB prog 231 #[I4 x,I4 y] [] (.bool (decide (y<x))):=by
 refine Se func231 ntmps231 [0,1] ?_;intro u R;refine A2<|AF Y<|A2<|Sk 2 V<|Zv (EE Y Y)<|AM Y<|AO V results231 Y (by exact ⟨V,V⟩)
def Hm(k:Int):Nat:=if k=1 then 222 else if k=2 then 222 else if k=3 then 224 else if k=4 then 226 else if k=5 then 256 else if k=6 then 256 else 233
def JO(b5 b6:Nat)(k:Int):List A3:=if k=5 then [I5 b5]else if k=6 then [I5 b6]else []
theorem Vp{lm:List (Int×A3)}{g m:Nat}(h:∀p,p∈lm↔p∈Mm g m)(hn:(lm.map (·.1)).Nodup){k:Int}(z:1<=k/\k<=7):Je k lm=some (.agg #[.func (.func (IZ k)) #[] #[],.func (.func (Hm k)) #[] (JO g m k).toArray]):=by
 obtain h9|h9|h9|h9|h9|h9|h9:k=1\/k=2\/k=3\/k=4\/k=5\/k=6\/k=7:=by omega
 all_goals subst h9
 all_goals exact ZA h hn (by simp [Mm,IZ,Hm,JO])
theorem Sr{k:Int}(g:1<=k/\k<=7):∀(args:As) (w:AD),(callFunc (Hm k) args).run prog w= .ok (.enter (Hm k) args) w:=by
 obtain h|h|h|h|h|h|h:k=1\/k=2\/k=3\/k=4\/k=5\/k=6\/k=7:=by omega
 all_goals (subst h;simp only [Hm];first|exact call222|exact call224|exact call226|exact call256|exact call233)
theorem IB{P:Program}{f:FuncId}{args:As}{H H1:Hp}{Q z:A3->Hp->Prop}(h:CJ P f args H Q)(F:Hp)(K:H1.flatten.Perm (H++F).flatten)(M:∀v H',Q v H'->∃g E,z v g/\(H'.flatten++F.flatten).Perm (g.flatten++E)):CJ P f args H1 z:=fun u R w O=>
 Calls.mono (h u (F++R) w (O.perm (by rw [Kx,<-G0,Kx (L₁:=H++F)];exact K.append_right _))) fun e U J=>by
  rcases J with⟨v,H',rfl,m,h2⟩|⟨ch,H',rfl,m,h2⟩
  · obtain ⟨g,E,G,I⟩:=M v H' m
    refine .inl ⟨v,g,V,G,h2.sub ⟨E,?_⟩⟩;rw [Kx,Kx,Kx,<-G0];refine (I.append_right _).trans ?_;rw [G0,G0];exact S4.append_left _
  · exact m.elim
def MIn(q:QM)(c:Chg):Prop:=(-1000000000<=mQ q (bfQ q c)/\mQ q (bfQ q c)<=1000000000)/\-1000000000<=mQ q (afQ q c)/\mQ q (afQ q c)<=1000000000
theorem xC{b:Bool}{x:AV}(h:b=true->x.ok):-1000000000<=mQ q (IQ q b x)/\mQ q (IQ q b x)<=1000000000:=by
 unfold IQ;split
 · rename_i h9
   rw [HB]at h9;exact NB (h h9.1) q.bq
 · exact ⟨by show(-1000000000:Int)<=0;decide,by show(0:Int)<=1000000000;decide⟩
theorem Z5(q:QM)(h:c.ok):MIn q c:=by
 obtain ⟨_,h2,_⟩:=h;refine ⟨xC fun g=>?_,xC fun g=>?_⟩
 · rw [KE g]at h2
   exact Fi.1 fun m=>h2 (.inl ⟨g,m⟩)
 · rw [Hl g]at h2
   exact Fi.1 fun m=>h2 (.inr ⟨g,m⟩)
theorem TU(q:QM)(c:Chg)(hq:BH q)(hm:MIn q c){I J:C1}{s1:List AR}(af:JQ I (bfQ q c) s1)(K:JQ J (afQ q c) s2)(g m:Nat)(r:CB)(U:C1)(M:Nat)(sr:List AR)(O:BS 5 91 (.slice U r.rows.length M) r.rows.length (Aa r.rows) sr)(hn:r.rows.length<=100000000)(hv:-4000000000000000000<=r.val/\r.val<=4000000000000000000):
 CJ prog (Hm q.kd) (.agg (q.HU c I J (mQ q (bfQ q c)) (mQ q (afQ q c))):: .agg #[.slice U r.rows.length M,I4 r.val,.bool r.fnd]::JO g m q.kd).toArray [sr,s2,[(g,.cells #[.func (.func 229) #[] #[]] 141 (0,0))],[(m,.cells #[.func (.func 231) #[] #[]] 141 (0,0))]] (fun w H'=>∃z G,w= .tuple #[.agg #[z,I4 (CF q c r).1.val,.bool (CF q c r).1.fnd],.bool (CF q c r).2]/\BS 5 91 z (CF q c r).1.rows.length (Aa (CF q c r).1.rows) G/\H'=[G]):=by
 have e1:=af.some_;have e2:=K.some_
 have Z:=hq.2.1;have hk:q.kd=1\/q.kd=2\/q.kd=3\/q.kd=4\/q.kd=5\/q.kd=6\/q.kd=7:=by have:=hq.2.2.2;omega
 have E:(q.kd=1\/q.kd=2)->CF q c r=(⟨Cv q c r.rows,r.val,r.fnd⟩,true):=fun h=>by unfold CF;rw [B2 h]
 have P1:=dF q c I J (mQ q (bfQ q c)) (mQ q (afQ q c)) Z O hn K;have P7:=dK q Z c I J e1 K O hn
 have P3:=YW q c I J (mQ q (bfQ q c)) (mQ q (afQ q c)) U r.rows.length M hv;have P4:=kI q c I J (mQ q (bfQ q c)) (mQ q (afQ q c)) U r.rows.length M hv hm
 have P5:=VS q c I J (mQ q (bfQ q c)) (mQ q (afQ q c)) r U r.rows.length M g 229 (fun a b=>decide (a<b)) call229 qR;have P6:=VS q c I J (mQ q (bfQ q c)) (mQ q (afQ q c)) r U r.rows.length M m 231 (fun a b=>decide (b<a)) call231 qV
 rw [e2]at P3;rw [e1,e2]at P5 P6;rcases hk with h|h|h|h|h|h|h
 · rw [show Hm q.kd=222 by rw [h];rfl,show JO g m q.kd=[] by rw [h];rfl,E (.inl h)]
   refine IB P1 [[(g,.cells #[.func (.func 229) #[] #[]] 141 (0,0))],[(m,.cells #[.func (.func 231) #[] #[]] 141 (0,0))]] C4 ?_;rintro w H' ⟨z,G,rfl,X,rfl⟩;exact ⟨[G],_,⟨z,G,V,X,V⟩,by simp;exact .refl _⟩
 · rw [show Hm q.kd=222 by rw [h];rfl,show JO g m q.kd=[] by rw [h];rfl,E (.inr h)]
   refine IB P1 [[(g,.cells #[.func (.func 229) #[] #[]] 141 (0,0))],[(m,.cells #[.func (.func 231) #[] #[]] 141 (0,0))]] C4 ?_;rintro w H' ⟨z,G,rfl,X,rfl⟩;exact ⟨[G],_,⟨z,G,V,X,V⟩,by simp;exact .refl _⟩
 · rw [show Hm q.kd=224 by rw [h];rfl,show JO g m q.kd=[] by rw [h];rfl,show CF q c r=(⟨r.rows,if(afQ q c).isSome then r.val+1 else r.val -1,r.fnd⟩,true) by unfold CF;rw [Ax A0,B2 h]]
   refine IB P3 [sr,s2,[(g,.cells #[.func (.func 229) #[] #[]] 141 (0,0))],[(m,.cells #[.func (.func 231) #[] #[]] 141 (0,0))]] C4 ?_;rintro w H' ⟨rfl,rfl⟩;exact ⟨[sr],_,⟨_,sr,V,O,V⟩,by simp;exact .refl _⟩
 · rw [show Hm q.kd=226 by rw [h];rfl,show JO g m q.kd=[] by rw [h];rfl,show CF q c r=(⟨r.rows,r.val+(mQ q (afQ q c) -mQ q (bfQ q c)),r.fnd⟩,true) by unfold CF;rw [Ax A0,Ax A0,B2 h]]
   refine IB P4 [sr,s2,[(g,.cells #[.func (.func 229) #[] #[]] 141 (0,0))],[(m,.cells #[.func (.func 231) #[] #[]] 141 (0,0))]] C4 ?_;rintro w H' ⟨rfl,rfl⟩;exact ⟨[sr],_,⟨_,sr,V,O,V⟩,by simp;exact .refl _⟩
 · have W:CF q c r=FH (fun a b=>decide (a<b)) (bfQ q c).isSome (afQ q c).isSome (mQ q (bfQ q c)) (mQ q (afQ q c)) r:=by unfold CF;rw [Ax A0,Ax A0,Ax A0,B2 h]
   have e8:(CF q c r).1.rows=r.rows:=by rw [W,LK]
   rw [show Hm q.kd=256 by rw [h];rfl,show JO g m q.kd=[I5 g] by rw [h];rfl];rw [<-W]at P5;refine IB P5 [sr,s2,[(m,.cells #[.func (.func 231) #[] #[]] 141 (0,0))]] (by simp;rw [<-G0,<-G0];exact cY) ?_;rintro w H' ⟨rfl,rfl⟩;exact ⟨[sr],[(g,_)]++s2++_,⟨_,sr,rfl,by rw [e8];exact O,rfl⟩,by simp;exact cY.symm⟩
 · have W:CF q c r=FH (fun a b=>decide (b<a)) (bfQ q c).isSome (afQ q c).isSome (mQ q (bfQ q c)) (mQ q (afQ q c)) r:=by unfold CF;rw [Ax A0,Ax A0,Ax A0,Ax A0,B2 h]
   have e8:(CF q c r).1.rows=r.rows:=by rw [W,LK]
   rw [show Hm q.kd=256 by rw [h];rfl,show JO g m q.kd=[I5 m] by rw [h];rfl];rw [<-W]at P6;refine IB P6 [sr,s2,[(g,.cells #[.func (.func 229) #[] #[]] 141 (0,0))]] (by simp;rw [<-G0,<-G0];exact ((List.Perm.swap _ _ []).append_left _).trans cY) ?_;rintro w H' ⟨rfl,rfl⟩;exact ⟨[sr],[(m,_)]++s2++_,⟨_,sr,rfl,by rw [e8];exact O,rfl⟩,by simp;exact cY.symm⟩
 · rw [show Hm q.kd=233 by rw [h];rfl,show JO g m q.kd=[] by rw [h];rfl,show CF q c r=D9 q c r by unfold CF;rw [Ax A0,Ax A0,Ax A0,Ax A0,Ax A0]]
   refine IB P7 [[(g,.cells #[.func (.func 229) #[] #[]] 141 (0,0))],[(m,.cells #[.func (.func 231) #[] #[]] 141 (0,0))]] C4 ?_;rintro w H' ⟨z,G,rfl,X,rfl⟩;exact ⟨[G],_,⟨z,G,V,X,V⟩,by simp;exact .refl _⟩
def DZ(q:QM)(c:Chg):Bool:=decide c.ok&&Dc q c
def Ch(q:QM)(c:Chg)(r:CB):CB×Bool:=if DZ q c then(if(CF q c r).2 then((CF q c r).1,true)else(CB.none,false))else(r,true)
def J6(q:QM)(r:CB):List Chg->Option CB
 |[]=>some r
 |c::cs=>if(Ch q c r).2 then J6 q (Ch q c r).1 cs else none
theorem SI(q:QM):∀(a:List Chg) (r:CB) (b:List Chg),J6 q r (a++b)=(J6 q r a).bind fun g=>J6 q g b
 |[],_,_=>rfl
 |c::a,r,b=>by
  show(if(Ch q c r).2 then J6 q (Ch q c r).1 (a++b)else none)=(if(Ch q c r).2 then J6 q (Ch q c r).1 a else none).bind fun g=>J6 q g b;split;· exact SI q a _ b
  · rfl
def CL(q:QM)(r:CB)(cs:List Chg):CB×Bool×Bool:=match J6 q r cs with
 |some r'=>(r',cs.any (DZ q),true)
 |none=>(CB.none,true,false)
theorem jS(q:QM)(c:Chg)(r:CB):(Ch q c r).1.rows.length<=r.rows.length+2:=by
 have h:=dR q c r;unfold Ch;split
 · split
   · exact h
   · exact CD _
 · exact ef _ _
theorem dQ(g:MIn q c){B:Int}(h:-B<=r.val/\r.val<=B)(h0:0<=B):-(B+2000000000)<=(CF q c r).1.val/\(CF q c r).1.val<=B+2000000000:=by
 obtain ⟨⟨m,h2⟩,z,E⟩:=g;have hx:∀lt b a,-(B+2000000000)<=(FH lt b a (mQ q (bfQ q c)) (mQ q (afQ q c)) r).1.val/\(FH lt b a (mQ q (bfQ q c)) (mQ q (afQ q c)) r).1.val<=B+2000000000:=fun lt b a=>by
  unfold FH;split;· constructor<;>(simp only;omega)
  · split
    · simp only
      split<;>(constructor<;>omega)
    · constructor<;>(simp only;omega)
 unfold CF;split;· constructor<;>(simp only;omega)
 · split
   · simp only
     split<;>(constructor<;>omega)
   · split
     · constructor<;>(simp only;omega)
     · split
       · exact hx _ _ _
       · split
         · exact hx _ _ _
         · rw [dS];constructor<;>omega
theorem jR{B:Int}(h:-B<=r.val/\r.val<=B)(h0:0<=B):-(B+2000000000)<=(Ch q c r).1.val/\(Ch q c r).1.val<=B+2000000000:=by
 unfold Ch;split
 · rename_i h9
   unfold DZ at h9;rw [HB]at h9;split;· exact dQ (Z5 q (I2 h9.1)) h h0
   · constructor<;>(simp only [CB.none];omega)
 · constructor<;>(simp only;omega)
variable{cs:List Chg}
theorem Ko{g:CB}{x:Chg}(h:J6 q r (cs.take k)=some g)(hx:cs[k]?=some x):J6 q r (cs.take (k+1))=if(Ch q x g).2 then some (Ch q x g).1 else none:=by
 rw [Bt hx,SI,h];show J6 q g [x]=_
 unfold J6 J6;rfl
theorem Q4(h:J6 q r (cs.take k)=none):J6 q r cs=none:=by
 rw [<-Ln k cs,SI,h];rfl
theorem NS{x:Chg}(f:Chg->Bool)(hx:cs[k]?=some x):(cs.take (k+1)).any f=((cs.take k).any f||f x):=by
 rw [Bt hx,List.any_append,kf,kl,gR]
theorem RU{q:QM}:∀(cs:List Chg) (r r':CB) (B:Int) (n:Nat),J6 q r cs=some r'->(-B<=r.val/\r.val<=B)->0<=B->r.rows.length<=n->(-(B+2000000000*(cs.length:Int))<=r'.val/\r'.val<=B+2000000000*(cs.length:Int))/\r'.rows.length<=n+2*cs.length
 |[],r,r',B,n,h,h1,h2,h3=>by
  unfold J6 at h;injection h with h
  subst h;simp only [My];exact ⟨⟨by omega,by omega⟩,h3⟩
 |c::cs,r,r',B,n,h,h1,h2,h3=>by
  unfold J6 at h;split at h
  · have g:=jR (q:=q) (c:=c) h1 h2
    have z:=jS q c r;have m:=RU cs _ r' (B+2000000000) (n+2) h g A0 A0
    rw [GB];obtain ⟨⟨E,G⟩,I⟩:=m;refine ⟨⟨?_,?_⟩,by omega⟩<;>(push_cast;omega)
  · cases h
set_option maxHeartbeats 1000000 in
theorem dO(q:QM)(m:BH q)(c:Chg){A:List AR}(hr:CZ A rv r.rows)(hn:r.rows.length<=100000000)(hv:-4000000000000000000<=r.val/\r.val<=4000000000000000000):CJ prog 151 #[.agg q.Ax4,.agg #[rv,I4 r.val,.bool r.fnd],.agg c.Ax2] [A] (fun w H'=>∃ax s',w= .tuple #[.agg #[ax,I4 (Ch q c r).1.val,.bool (Ch q c r).1.fnd],.bool (Ch q c r).2]/\BS 5 91 ax (Ch q c r).1.rows.length (Aa (Ch q c r).1.rows) s'/\H'=[s',A]):=by
 have cO:=mL;obtain ⟨pv,cv,rfl,_⟩:=id hr;refine Se func151 ntmps151 [0,1,2] ?_;intro u R;refine A2<|Ze (Bx q.Ax4)<|AE fun bq=>Ze (Bx #[.slice pv r.rows.length cv,I4 r.val,.bool r.fnd])<|AE fun br=>Ze (Bx c.Ax2)<|AE fun bc=>Ze (Al GO #[_,_,_])<|AE fun bo=>AF Y<|A2<|Zh 0 Cd V rfl Cl Y<|Zl DQ Y<|Zc [_] Y call98 Y V (J9 hr A0) ?_;rintro _ _ ⟨_,⟨s1,h1,rfl⟩,rfl⟩;obtain ⟨g1,c1,rfl⟩:=h1.form;refine Zh 0 Cd V rfl Cl Y<|Xe (Zs Cl Y Y V (hi:=by(simp;done)))<|A6<|Zq<|A2<|Zo Wh (A7 (cs:=#[_,_,_,_,_,_,_]) DE CN Y BW B5)<|Zo Wh (A7 (cs:=#[_,_,_,_,_,_,_,_,_,_]) G1 D2 Y BW B5)<|Xr [_,_] Y call150 Y V (Oc q c) ?_;rw [show(decide (BH q)&&(decide c.ok&&Dc q c))=DZ q c by rw [Cp m];rfl];refine Zv (CR Y)<|Z0<|Zn [3,4,5,6,17] ?_;refine Zx<|Af Y (fun ht=>?_) (fun ht=>?_);·
  have g:DZ q c=false:=by simpa using ht
  refine A2<|Zo Wh (A7 (cs:=#[_,_,_]) D0 BE Y BW B5)<|Xe (Xw BE _)<|AM Y<|Zt<|Bo V results151 Y Wh (Ai D0 BE Wn (V)) Y (by
   have M:Ch q c r=(r,true):=by unfold Ch;rw [g];rfl
   exact ⟨.slice g1 r.rows.length c1,s1,by rw [M];rfl,by rw [M];exact h1,rfl⟩)
 have g:DZ q c=true:=by simpa using ht
 have af:c.ok:=by unfold DZ at g;rw [HB]at g;exact I2 g.1
 refine B3<|Zb [3,4,5,6] ?_;refine C9 (e0:=[(3,_),(4,_),(5,_)]) (H0:=[s1]) (fun e H=>∃(I:Nat) (G:C1) (E:Nat) (O:List AR),(BS 5 91 (.slice G (CF q c r).1.rows.length E) (CF q c r).1.rows.length (Aa (CF q c r).1.rows) O)/\e=[(8,I5 I),(9,.bool (CF q c r).2)]/\H=[[(I,.cells #[.slice G (CF q c r).1.rows.length E,I4 (CF q c r).1.val,.bool (CF q c r).1.fnd] 51 (0,0))],O]) Wp ?hx_2 ?hy_2
 case hx_2=>
  refine Au (n:=16) (0::0::2::7::15::0::0::97::0::511::1023::2047::2047::0::12287::32767::[]) 25217 AG AG V<|A1 1 V (AL (off:=0) CH V rfl A4 Y)<|B6 2 V A5 Y<|Fo 5 V Wh (A7 (cs:=#[_,_,_,_,_,_,_]) DE CN Y BW B5)<|Fo 6 V Wh (A7 (cs:=#[_,_,_,_,_,_,_,_,_,_]) G1 D2 Y BW B5)<|Fo 8 V Wh (A7 (cs:=#[_,_,_]) D0 BE Y BW B5)<|Zz (l:=[0,13])<|C6 [true,true,true,true] [(8,(_,_)),(6,(_,_)),(5,(_,_)),(2,(_,_))] V rfl (Zw [] Y call188 Y V (OE)) ?hk_3 DC ?hl_3
  case' hk_3=>
   rintro _ _ ⟨_,⟨mb,es,ck,lm,X,Z,rfl,hm,hp,rfl⟩,rfl⟩;refine ⟨Zk (Zk (Zk (Zk (Ab)))),?_⟩;have z:=Vp hp hm.keys m.kind
   refine Fo 3 rfl Wh (QP Ij Wk Wr hm (fun _ _=>trivial) (trivial) ((by rw [z];exact rfl:_=Value.agg #[.func (.func (IZ q.kd)) #[] #[],.func (.func (Hm q.kd)) #[] (JO X Z q.kd).toArray])) Y Y)<|A1 4 rfl (X4 Wg rfl isAgg234 Y rfl)<|Zz (l:=[7,13])<|C6 [true,true,false,false,true] [(3,(_,_)),(8,(_,_)),(2,(_,_))] rfl rfl (Zw [_,_] Y call189 Y rfl (Ka q m.2.1 (by have:=m.2.2.2;omega) c)) ?hk_4 DC ?hl_4
   case' hk_4=>
    rintro _ _ ⟨_,⟨p1,p2,bf,bn,rfl,J,K,rfl⟩,rfl⟩;refine CA<|Zz (l:=[9,13])<|C6 [false,false,false] [] V rfl (Zw [_,_] Y (Sr m.kind) Y V (TU q c m (Z5 q af) J K X Z r g1 c1 s1 h1 hn hv)) ?hk_5 DC ?hl_5
    case' hk_5=>
     rintro _ _ ⟨_,⟨cu,O,rfl,U,rfl⟩,rfl⟩;refine ⟨Ab,?_⟩;obtain ⟨G,E,rfl⟩:=U.form;refine A1 10 V (AA Y)<|A1 11 V (Bn Y V)<|A1 12 V (Bn Y V)<|Zz (l:=[13])<|C6 [] [] V rfl (Al GO #[_,_,_]) ?_ (fun _ _ h=>h.elim) Ar;rintro _ _ ⟨I,rfl,rfl⟩;refine CA<|Yw 14 32767 V (Xw BE #[.slice G (CF q c r).1.rows.length E,I4 (CF q c r).1.val,.bool (CF q c r).1.fnd])<|DA<|A1 15 V (Aq Y)<|Am<|HC (by exact ⟨I,G,E,O,U,V,V⟩)
    case' hl_5=>
     refine C6 [true,true,true] [(3,(_,_)),(8,(_,_)),(2,(_,_))] V rfl (Al GO #[_,_,_]) ?hk_9 (fun _ _ h=>h.elim) ?hl_9
     case' hk_9=>
      rintro _ _ ⟨I,rfl,rfl⟩
     case' hl_9=>
      exact Ar
   case' hl_4=>
    refine C6 [true,true,true,true,true] [(3,(_,_)),(8,(_,_)),(6,(_,_)),(5,(_,_)),(2,(_,_))] V rfl (Al GO #[_,_,_]) ?hk_13 (fun _ _ h=>h.elim) ?hl_13
    case' hk_13=>
     rintro _ _ ⟨I,rfl,rfl⟩;refine CA<|Zz (l:=[7])<|C6 [true,true,false,false,true] [(3,(_,_)),(8,(_,_)),(2,(_,_))] V rfl (Zw [_,_] Y call189 Y V (Ka q m.2.1 (by have:=m.2.2.2;omega) c)) ?hk_14 DC ?hl_14
     case' hk_14=>
      rintro _ _ ⟨_,⟨p1,p2,bf,bn,rfl,J,K,rfl⟩,rfl⟩
     case' hl_14=>
      exact Ar
    case' hl_13=>
     exact Ar
  case' hl_3=>
   refine C6 [true,true,true,true] [(8,(_,_)),(6,(_,_)),(5,(_,_)),(2,(_,_))] V rfl (Al GO #[_,_,_]) ?hk_18 (fun _ _ h=>h.elim) ?hl_18
   case' hk_18=>
    rintro _ _ ⟨I,rfl,rfl⟩;refine CA<|Zz (l:=[0])<|C6 [true,true,true,true] [(8,(_,_)),(6,(_,_)),(5,(_,_)),(2,(_,_))] V rfl (Zw [] Y call188 Y V (OE)) ?hk_19 DC ?hl_19
    case' hk_19=>
     rintro _ _ ⟨_,⟨mb,es,ck,lm,X,Z,rfl,hm,hp,rfl⟩,rfl⟩;refine ⟨Zk (Zk (Zk (Zk (Ab)))),?_⟩;have z:=Vp hp hm.keys m.kind
     refine Fo 3 rfl Wh (QP Ij Wk Wr hm (fun _ _=>trivial) (trivial) ((by rw [z];exact rfl:_=Value.agg #[.func (.func (IZ q.kd)) #[] #[],.func (.func (Hm q.kd)) #[] (JO X Z q.kd).toArray])) Y Y)<|A1 4 rfl (X4 Wg rfl isAgg234 Y rfl)<|Zz (l:=[7])<|C6 [true,true,false,false,true] [(3,(_,_)),(8,(_,_)),(2,(_,_))] rfl rfl (Zw [_,_] Y call189 Y rfl (Ka q m.2.1 (by have:=m.2.2.2;omega) c)) ?hk_20 DC ?hl_20
     case' hk_20=>
      rintro _ _ ⟨_,⟨p1,p2,bf,bn,rfl,J,K,rfl⟩,rfl⟩
     case' hl_20=>
      exact Ar
    case' hl_19=>
     exact Ar
   case' hl_18=>
    exact Ar
  all_goals
   refine CA<|Zz (l:=[9])<|C6 [false,false,false] [] V rfl (Zw [_,_] Y (Sr m.kind) Y V (TU q c m (Z5 q af) J K X Z r g1 c1 s1 h1 hn hv)) ?_ DC Ar;rintro _ _ ⟨_,⟨cu,O,rfl,U,rfl⟩,rfl⟩;refine ⟨Ab,?_⟩;obtain ⟨G,E,rfl⟩:=U.form;refine A1 10 V (AA Y)<|A1 11 V (Bn Y V)<|A1 12 V (Bn Y V)<|Zz (l:=[14])<|C6 [] [] V rfl (Xw BE #[.slice G (CF q c r).1.rows.length E,I4 (CF q c r).1.val,.bool (CF q c r).1.fnd]) ?_ (fun _ _ h=>h.elim) Ar;rintro _ _ ⟨rfl,rfl⟩;refine CA<|A1 15 V (Aq Y)<|Am<|HC (by exact ⟨I,G,E,O,U,V,V⟩)
 rintro _ _ ⟨I,G,E,O,U,rfl,rfl⟩;refine C0 Y<|Zv (CR Y)<|A6<|Af Y (fun hk=>?_) (fun hk=>?_);·
  have W:(CF q c r).2=false:=by simpa using hk
  refine Zq<|Bi<|Zg<|Zv (BK (vs:=[]) (cs:=#[_,_,_]) Y (AY (pl:=#[(0,1),(1,1),(2,1)]) GO Cd (fun _=>by kernel_rfl) V))<|Xe (Xw BE _)<|AM Y<|Zt<|Bo V results151 Y Wh (Ai D0 BE Wn (V)) Y (by
   have M:Ch q c r=(CB.none,false):=by unfold Ch;rw [g,B2 rfl,W];rfl
   exact ⟨.slice none 0 0,[],by rw [M];rfl,by rw [M];exact BX 5 _,rfl⟩)
 have W:(CF q c r).2=true:=by simpa using hk
 refine AB<|BT<|Zo Wh (A7 (cs:=#[_,_,_]) D0 BE Y BW B5)<|Xe (Xw BE _)<|AM Y<|Bo V results151 Y Wh (Ai D0 BE Wn (V)) Y (by
  have M:Ch q c r=((CF q c r).1,true):=by unfold Ch;rw [g,B2 rfl,W];rfl
  exact ⟨.slice G _ E,O,by rw [M];rfl,by rw [M];exact U,rfl⟩)
set_option maxHeartbeats 1000000 in
theorem fe(q:QM)(hq:BH q)(p:Int)(qa:C1)(cap:Nat)(cs:List Chg){MC:List AR}(hC:DJ MC (.slice qa cs.length cap) cs)(kz:cs.length<=1000){A:List AR}(hr:CZ A rv r.rows)(hn:r.rows.length<=10000000)(hv:-2000000000000000000<=r.val/\r.val<=2000000000000000000):CJ prog 99 #[.agg q.Ax4,.agg #[rv,I4 r.val,.bool r.fnd],.agg #[I4 p,.slice qa cs.length cap]] [A,MC] (fun w H'=>∃W s',w= .tuple #[.agg #[W,I4 (CL q r cs).1.val,.bool (CL q r cs).1.fnd],.bool (CL q r cs).2.1,.bool (CL q r cs).2.2]/\BS 5 91 W (CL q r cs).1.rows.length (Aa (CL q r cs).1.rows) s'/\H'=[s',A,MC]):=by
 have l9:=mL;obtain ⟨pv,cv,rfl,_⟩:=id hr;obtain ⟨pc,gq,d9,l8,ax⟩:=id hC;injection d9 with hv1 hv2 hv3
 subst hv1 hv3;refine Se func99 ntmps99 [0,1,2] ?_;intro u R;refine A2<|Ze (Bx q.Ax4)<|AE fun bq=>Ze (Bx #[.slice pv r.rows.length cv,I4 r.val,.bool r.fnd])<|AE fun br=>Ze (Bx #[I4 p,.slice qa cs.length cap])<|AE fun bc=>Ze (Al GO #[_,_,_])<|AE fun bo=>Za Y<|AF Y<|A2<|AF Y<|A2<|Zh 0 Cd V rfl Cl Y<|Zl DQ Y<|Zc [_] Y call98 Y V (J9 hr A0) ?_;rintro _ _ ⟨_,⟨s1,h1,rfl⟩,rfl⟩;obtain ⟨g1,c1,rfl⟩:=h1.form;refine Zh 0 Cd V rfl Cl Y<|Xe (Zs Cl Y Y V (hi:=by(simp;done)))<|A6<|Zq<|A2<|Zh 1 G3 V rfl ID Y<|Zl J0 Y<|Zv (AJ GF Y)<|Zm Y<|Z0<|Zn [3,4,6,9,18,19,20] ?_;refine Zx<|AQ<|Zb [9,20,3,4,6,18,19] ?_;refine Av (e0:=[(9,_),(20,_)]) (fun m e H=>∃(k:Nat) (g:CB) (Z:C1) (X:Nat) (sk:List AR),m=cs.length -k/\(k<=cs.length/\J6 q r (cs.take k)=some g/\BS 5 91 (.slice Z g.rows.length X) g.rows.length (Aa g.rows) sk)/\e=[(9,.bool ((cs.take k).any (DZ q))),(20,I4 (k:Int))]/\H=[[(br,.cells #[.slice Z g.rows.length X,I4 g.val,.bool g.fnd] 51 (0,0))],sk]) (by exact ⟨0,r,g1,c1,s1,rfl,⟨CD _,by rw [Hh];rfl,h1⟩,rfl,rfl⟩) Wp ?_;rintro _ _ _ ⟨k,g,Z,X,sk,rfl,⟨hk,z,U⟩,rfl,rfl⟩;obtain ⟨cu,bn⟩:=RU (cs.take k) r g 2000000000000000000 10000000 z hv A0 hn;have bf:(cs.take k).length=k:=by rw [CI];omega
 rw [bf]at cu bn;have af:=Ca U A0
 refine A2<|Zv (Ak Y Y)<|A6<|Zq<|Ad Y (fun O=>?_) (fun O=>?_);·
  obtain ⟨y,hy⟩:∃y,cs[k]?=some y:=⟨_,Bk O⟩;obtain ⟨g2,kv,J,T2,gm,rfl,cO,gy,M⟩:=ax k y hy;refine B3<|Zq<|AQ<|A2<|BN (A9 GF D2 Y Y A0)<|Cj (cs:=[(g2,.cells J T2 gm)]) (by simp [cO]) (A7 (cs:=y.Ax2) G1 D2 Y A0 M) V rfl<|Ze (Al MT #[_,_,_,_,_,_,_,_,_,_])<|AE fun bx=>Xe (Xw D2 y.Ax2)<|A6<|A2<|Sk 2 V ?_;refine Ae (t:=25) Y V (fun E=>?_) (fun E=>?_);focus
   have e9:(cs.take (k+1)).any (DZ q)=true:=by rw [NS _ hy,E];rfl
   refine Sk 4 V ?_
  rotate_left
  focus
   have e9:(cs.take (k+1)).any (DZ q)=DZ q y:=by rw [NS _ hy,E];rfl
   refine DK Y Wh (A7 (cs:=#[_,_,_,_,_,_,_]) DE CN Y BW B5) V rfl<|DK Y Wh (A7 (cs:=#[_,_,_,_,_,_,_,_,_,_]) G1 D2 Y BW B5) V rfl<|Xr [_,_] Y call150 Y V (Oc q y) ?_;rw [show(decide (BH q)&&(decide y.ok&&Dc q y))=DZ q y by rw [Cp hq];rfl];refine Zv (BC Y Y) ?_
  all_goals
   refine AF Y<|A2<|AN Y<|Zn [3,4,6,9,11,18,19,20] ?_;refine BT<|Zo Wh (A7 (cs:=#[_,_,_,_,_,_,_]) DE CN Y BW B5)<|Zo Wh (A7 (cs:=#[_,_,_]) D0 BE Y BW B5)<|Zo Wh (A7 (cs:=#[_,_,_,_,_,_,_,_,_,_]) G1 D2 Y BW B5)<|Zc [_,_,_] Y call151 Y V (dO q hq y af A0 A0) ?_;rintro _ _ ⟨_,⟨lv,s3,rfl,h3,rfl⟩,rfl⟩;obtain ⟨g3,c3,rfl⟩:=h3.form;refine Sk 3 rfl<|Xe (Ao BE Y Y Ft Wu (by exact (rfl:_=(#[.slice g3 (Ch q y g).1.rows.length c3,I4 (Ch q y g).1.val,.bool (Ch q y g).1.fnd]:As))) DO BW (by exact Aw _))<|AF Y<|B7 Y<|Zv (CR Y)<|A6<|Af Y (fun I=>?_) (fun I=>?_);·
    have G:(Ch q y g).2=false:=by simpa using I
    have K:CL q r cs=(CB.none,true,false):=by unfold CL;rw [Q4 (k:=k+1) (by rw [Ko z hy,G];rfl)]
    refine Zq<|Bi<|Zg<|Zv (BK (vs:=[]) (cs:=#[_,_,_]) Y (AY (pl:=#[(0,1),(1,1),(2,1)]) GO Cd (fun _=>by kernel_rfl) V))<|Xe (Xw BE _)<|Za Y<|AN Y<|Zn [6,7,8] ?_;refine Zx<|AC<|AX<|Zt<|Zt<|AX<|Zt<|IA rfl results99 Y Wh (Ai D0 BE Wn (rfl)) Y Y (by exact ⟨.slice none 0 0,[],by rw [K];rfl,by rw [K];exact BX 5 _,rfl⟩)
   have G:(Ch q y g).2=true:=by simpa using I
   refine AB<|A8<|Zx<|GP Y Y Y<|DH (e:=[(9,_),(20,_)]) (h:=by exact ⟨k+1,(Ch q y g).1,g3,c3,s3,rfl,⟨by omega,by rw [Ko z hy,B2 G],h3⟩,by rw [e9],rfl⟩)
 have ek:k=cs.length:=by omega
 subst ek;rw [HJ]at z⊢;have K:CL q r cs=(g,cs.any (DZ q),true):=by unfold CL;rw [z]
 refine Az<|Zt<|Zt<|AU<|BT<|Zo Wh (A7 (cs:=#[_,_,_]) D0 BE Y BW B5)<|Zm Y<|Xe (Xw BE _)<|Za Y<|AM Y<|IA rfl results99 Y Wh (Ai D0 BE Wn (rfl)) Y Y (by exact ⟨.slice Z _ X,sk,by rw [K];rfl,by rw [K];exact U,rfl⟩)
end Go.Proofs.YtljkoipiekbijaaGreatDoor
