/- The reference of chapter 2: Sum, Chain, Head. -/
import Derived.Test.YtljkoipiekbijaaGreatDoorRf2
set_option linter.unusedVariables false
set_option linter.unusedSimpArgs false
namespace Go.Proofs.YtljkoipiekbijaaGreatDoor
open Go.Proofs.Tryz
open Go Go.RowKit Gw
set_option maxRecDepth 100000
attribute [local irreducible] Gw.At Gw.Nx Gw.Ops
theorem wG(b l cap n:Nat)(h:l<cap)(e:n=64):Value.slice (EJ (some ⟨b,0,none⟩) l cap 1) n (cap -l)= .slice (some ⟨b,l,none⟩) 64 (cap -l):=by
 subst e;unfold EJ;rw [Ax A0,N5,Cq,MA,Dd]
theorem kS(l:List UInt32)(i:Nat)(h:i<l.length):((l.take (i+1)).flatMap KW).map u8v=((l.take i).flatMap KW).map u8v++[.int .u8 (((l.getD i 0)>>>UInt32.ofNat 24).toUInt8.toNat:Int),.int .u8 (((l.getD i 0)>>>UInt32.ofNat 16).toUInt8.toNat:Int),.int .u8 (((l.getD i 0)>>>UInt32.ofNat 8).toUInt8.toNat:Int),.int .u8 ((l.getD i 0).toUInt8.toNat:Int)]:=by
 have e:l.take (i+1)=l.take i++[l.getD i 0]:=by
  have:=NC (fun x:UInt32=>x) l i 0 h;simpa using this
 rw [e,O2,HD];rfl
theorem TC(l:List UInt32):(l.flatMap KW).length=4*l.length:=by
 induction l with
 |nil=>rfl
 |cons a l ih=>simp only [L0,C7,ih,GB,KW,My];omega
theorem NE(l:List UInt8)(hs:l.length<=140737488355000):BB prog 154 #[.string (str l)] [] (.string (str (sha l))):=by
 have o9:=mL;obtain ⟨M,hM⟩:∃M,(Ed l).length=64*M:=⟨(Ed l).length/64,by have:=Su l;omega⟩;have oq:=O7 l
 have p9:JU l.length<64:=by unfold JU;omega
 refine Se func154 ntmps154 [0] ?_;intro u R;refine A2<|AF Y<|A2<|Ze (Ah (vs:=[_,_,_,_,_,_,_,_]) (cs:=[_,_,_,_,_,_,_,_]) HO EV cJ Y V rfl V rfl V)<|AE fun g0=>AF Y<|B7 Y<|Zc [_] Y call196 Y V (jm l hs) ?_;rintro _ _ ⟨_,⟨sp,ax,rfl⟩,rfl⟩;obtain ⟨gp,y,K,zp,rfl,rfl,U,gy,l8,z,mR⟩:=ax.some (by rw [C2];omega);rw [C2]at U z⊢;refine CT Y<|A2<|AF Y<|AQ<|Zb [3,5,4] ?_;refine Av (e0:=[(3,_),(5,_)]) (fun m e H=>∃(k:Nat) (v:A3) (G:List AR),m=M -k/\(k<=M/\Row 249 v ((Ga k h0 (Ed l)).list.map CP) G)/\e=[(3,v),(5,I4 ((64*k:Nat):Int))]/\H=[G]) (by exact ⟨0,_,_,V,⟨CD _,iA _ g0 (h0.list.map CP) 8 V AH⟩,V,V⟩) Wp ?_;rintro _ _ _ ⟨k,v,G,rfl,⟨hk,bn⟩,rfl,rfl⟩;obtain ⟨gh,I,J,zh,rfl,rfl,O,gm,kv,g,l9⟩:=bn.some (by show 0<8;decide);rw [show(List.map CP (Ga k h0 (Ed l)).list).length=8 from rfl]at O⊢;refine Zq<|A2<|Sk 2 V<|Zv (AJ GC Y)<|Zv (Ak Y Y)<|A6<|Ad Y (fun af=>?_) (fun af=>?_);·
  refine B3<|Zq<|AQ<|Zg<|Sk 4 V<|Ya (n:=64) Y Y ?_
  (refine BN (Ir GC KB Y Y Y ?_ ?_) ?_;(focus (omega));(focus (omega)))
  rw [wG gp (64*k) y _ A0 A0];refine Zc [_,_] Y call197 Y rfl (YG gh I gp (64*k) (y -64*k) J K _ _ zh zp (Ga k h0 (Ed l)) (((Ed l).drop (64*k)).take 64) g (R7 (by rw [C2];exact z) k A0) (by rw [CI,D4];omega)) ?_;rintro _ _ ⟨_,⟨sq,bf,rfl⟩,rfl⟩;refine AN Y<|A8<|Zx<|Zg<|Zm Y<|Ya (n:=64) Y Y<|AN Y<|DH (e:=[(3,_),(5,_)]) (h:=by exact ⟨k+1,_,_,rfl,⟨by omega,by rw [N7];exact bf⟩,rfl,rfl⟩)
 have ek:M=k:=by omega
 subst ek;refine Az<|Zt<|Zt<|AU<|BT<|CT Y<|A2<|AF Y<|AQ<|Bi<|Zb [6,7,3] ?_;refine Av (e0:=[(6,_),(7,_)]) (fun m e H=>∃(i:Nat) (v:A3) (G:List AR),m=8 -i/\(i<=8/\Row 5 v ((((Ga M h0 (Ed l)).list.take i).flatMap KW).map u8v) G)/\e=[(6,v),(7,I4 (i:Int))]/\H=[G]) (by exact ⟨0,_,[],V,⟨CD _,JZ _⟩,V,V⟩) Wp ?_;rintro _ _ _ ⟨i,v,G,rfl,⟨hi,E⟩,rfl,rfl⟩;obtain ⟨gv,cv,rfl⟩:=E.form;have p8:((Ga M h0 (Ed l)).list.take i).length<=i:=cV ..
 refine C0 Y<|Zv (Ak (n:=8) Y Y)<|A6<|Ad Y (fun Z=>?_) (fun Z=>?_);·
  refine B3<|Zq<|AQ<|Au (n:=27) (0::0::0::6::14::30::62::0::0::384::896::1920::3968::0::0::24576::57344::122880::253952::0::0::1572864::3670016::7864320::16777214::33554431::67108863::[]) 50331648 AG AG V<|A1 0 V (AA Y)<|A1 1 V (AA Y)<|A1 2 V (AA Y)<|A1 3 V (BI HO EV Y Y A0)<|B6 4 V Gk Y (hv:=by exact Hw g i A0) ?_;refine A1 5 V (G8 (n:=24) Y Y A0)<|A1 6 V (H7 PB IF Y)<|A1 7 V (AA Y)<|A1 8 V (AA Y)<|A1 9 V (BI HO EV Y Y A0)<|B6 10 V Gk Y (hv:=by exact Hw g i A0) ?_;refine A1 11 V (G8 (n:=16) Y Y A0)<|A1 12 V (H7 PB IF Y)<|A1 13 V (AA Y)<|A1 14 V (AA Y)<|A1 15 V (BI HO EV Y Y A0)<|B6 16 V Gk Y (hv:=by exact Hw g i A0) ?_;refine A1 17 V (G8 (n:=8) Y Y A0)<|A1 18 V (H7 PB IF Y)<|A1 19 V (AA Y)<|A1 20 V (AA Y)<|A1 21 V (BI HO EV Y Y A0)<|B6 22 V Gk Y (hv:=by exact Hw g i A0) ?_;refine A1 23 V (H7 PB IF Y)<|Zz (l:=[24])<|C6 [false,false,false,false] [] V rfl (Ah (vs:=[_,_,_,_]) (cs:=[_,_,_,_]) GC KB Pr Y V rfl V rfl V) ?_ (fun _ _ h=>h.elim) Ar;rintro _ _ ⟨g4,rfl,rfl⟩;refine CA<|Yw 25 67108863 V (EX (by_:=1) (news:=[_,_,_,_]) GC (V:Tryz.prog.info? 5=some Tryz.t5) V rfl V rfl Y E Y Wo Wh B5 V HH AH (by(simp only [C2,TC];omega)) (by(simp only [C2,TC];omega))) ?_;rintro _ _ ⟨sw,W,rfl⟩;obtain ⟨gw,cw,rfl⟩:=W.form;refine A1 26 V (Aq Y)<|Am<|Zn [3,6,7] ?_;refine A8<|Zx<|Zg<|Zm Y<|Ya (n:=1) Y Y<|AN Y<|DH (e:=[(6,_),(7,_)]) (h:=by exact ⟨i+1,_,_,rfl,⟨by omega,by rw [kS (Ga M h0 (Ed l)).list i (show i<8 by omega)];exact W⟩,rfl,rfl⟩)
 have ei:i=8:=by omega
 subst ei;obtain ⟨go,cO,d9,zo,cu,rfl,o8,gq,kz,X,lv⟩:=E.some (by rw [C2,TC];show 0<4*8;decide);injection cu with e1 e2 e3
 subst e1 e3;refine Az<|Zt<|Zt<|AU<|Zx<|B7 Y<|Zo Wh (Dm GC IF HM Y (by exact ⟨X,by simp⟩)) ?_;refine AM Y<|AO rfl results154 Y (by exact ⟨by rw [gu l M hM];rfl,rfl⟩)
theorem Qq(h r:List UInt8)(m:h.length+r.length<=140737488354999):BB prog 105 #[.string (str h),.string (str r)] [] (.string (str (OU h r))):=by
 have y:=Be h;have z:=Be r
 refine Jy func105 V ntmps105 V ?_;intro u R;have g:(⟨#[2]⟩:ByteArray)=str [2]:=rfl
 refine Zb [0,1] ?_;refine A2<|AF Y<|B7 Y<|BN (EH Y Y (by rw [g,Be,Be];simp;omega))<|Zm Y<|BN (EH Y Y (by rw [g,Ec,Be,Be];simp;omega)) ?_;rw [g,Ec,Ec];refine Xr [_] Y call154 Y V (NE ([2]++h++r) Of) ?_;refine AM Y<|AO V results105 Y (by exact ⟨by simp [OU],V⟩)
theorem xc(n:Nat):zz (n:Int)=2*n:=by unfold zz;rw [Ax A0];omega
theorem je(n:Nat)(h2:n<=4611686018427387903):BB prog 177 #[I4 (n:Int)] [] (.int .u64 ((zz (n:Int):Nat):Int)):=by
 refine Se func177 ntmps177 [0] ?_;intro u R;refine A2<|AF Y<|C0 Y<|Zv (Ak (n:=0) Y Y)<|A6<|Ad Y (fun g=>by omega)<|fun g=>B3<|B7 Y<|BN (K7 Ge ab Y A0)<|BN (Nj (n:=2) Y Y A0)<|AM Y<|AO rfl results177 Y (by exact ⟨by rw [xc];congr 1;omega,rfl⟩)
theorem xZ(m:Nat)(h:0<m):zz (-(m:Int))=2*m -1:=by unfold zz;rw [B2 A0];omega
def putE(n:Int):Int:=if n< -4611686018427387903 then 10 else 0
theorem ni(m:Nat)(h0:0<m)(h2:m<=4611686018427387903):BB prog 177 #[I4 (-(m:Int))] [] (.int .u64 ((zz (-(m:Int)):Nat):Int)):=by
 refine Se func177 ntmps177 [0] ?_;intro u R;refine A2<|AF Y<|C0 Y<|Zv (Dq Y Y)<|A6<|Ad Y (fun g=>?_) (fun g=>?_);·
  refine B7 Y<|KH (TA (c:=(m:Int)) Y (by rw [IntKind.wrap_i64];omega)) rfl rfl ?_;refine BN (K7 Ge ab Y A0)<|BN (Nj (n:=2) Y Y A0) ?_
  (refine BN (Ni (n:=1) Y Y ?_ ?_) ?_;(focus (omega));(focus (omega)))
  refine AM Y<|Zt<|AO rfl results177 Y (by exact ⟨by rw [xZ m h0];congr 1;omega,rfl⟩)
 exfalso;omega
theorem zY(n:Int)(g:-4611686018427387903<=n)(h2:n<=4611686018427387903):BB prog 177 #[I4 n] [] (.int .u64 ((zz n:Nat):Int)):=by
 by_cases h:n<0
 · obtain ⟨m,rfl⟩:∃m:Nat,n=-(m:Int):=⟨n.natAbs,by omega⟩
   exact ni m A0 A0
 · obtain ⟨m,rfl⟩:∃m:Nat,n=(m:Int):=⟨n.natAbs,by omega⟩
   exact je m A0
theorem SK(n:Int)(h1:-4611686018427387903<=n)(h2:n<=4611686018427387903):BB prog 128 #[I4 n] [] (.tuple #[.string (str (MG n)),I4 0]):=by
 have ek:=mL;have ax:=mY n A0 A0
 have J:=H9 n A0 A0;unfold MG at J;rw [C2]at J;refine Se func128 ntmps128 [0] ?_;intro u R;refine A2<|Za Y<|AF Y<|C0 Y<|Zv (Dq Y Y)<|Zm Y<|AZ (t:=8) Y V (fun U=>by omega)<|fun U=>Zf Y Y<|Yg (EE Y Y)<|H3 Y Y<|A6<|Ad Y (fun W=>by omega)<|fun W=>B3<|B7 Y<|Xr [_] Y call177 Y V (zY n h1 h2) ?_;refine AF Y<|A2<|CT Y<|AQ<|Bi<|Zb [4,5] ?_;refine Av (e0:=[(4,_),(5,_)]) (fun m e H=>∃(pre:List (Nat×Bool)) (y:Nat) (v:A3) (sv:List AR),m=0+y/\(OH (zz n)=pre++OH y/\y<9223372036854775808/\Row 5 v ((pre.map gb).map u8v) sv)/\e=[(4,.int .u64 (y:Int)),(5,v)]/\H=[sv]) (by exact ⟨[],zz n,_,[],V,⟨V,ax,JZ _⟩,V,V⟩) Wp ?_;rintro _ _ _ ⟨pre,y,v,sv,rfl,⟨G,hy,z⟩,rfl,rfl⟩;have Z:=congrArg List.length G
 rw [C7,Iw y,GB]at Z;obtain ⟨gv,cv,rfl⟩:=z.form;refine C0 Y<|Zv (El (n:=128) Y Y)<|A6<|Ad Y (fun X=>?_) (fun X=>?_);·
  refine B3<|AQ<|A2<|Sk 2 rfl<|KH (Me (m:=(y:Int)) (n:=128) (c:=((y%128:Nat):Int)) Y Y AH (by rw [oB A0];rfl)) rfl rfl ?_;refine BN (UM (n:=128) Y Y A0)<|BN (Kj ab IF Y A0)<|Ze (Ah (vs:=[_]) (cs:=[_]) GC KB Pr Y V rfl V rfl V)<|AE fun b1=>Ze (EX (by_:=1) (news:=[_]) GC (V:Tryz.prog.info? 5=some Tryz.t5) V rfl V rfl Y z Y Wo Wh B5 V HH AH (by(simp only [C2];omega)) (by(simp only [C2];omega))) ?_;rintro _ _ ⟨sq,K,rfl⟩;obtain ⟨gq,cq,rfl⟩:=K.form;refine AF Y<|Zg<|Zm Y<|KH (Ve (m:=(y:Int)) (n:=128) (c:=((y/128:Nat):Int)) Y Y AH (by rw [oA A0,IntKind.wrap_u64];omega)) rfl rfl ?_;refine AN Y<|Zn [4,5] ?_;refine A8<|Zn [4,5] ?_;refine Ac (e':=[(4,_),(5,_)]) (by
   exact ⟨pre++[(y%128,false)],y/128,_,_,rfl,⟨by rw [G,Iw y,Ax A0,CC A0];simp,by omega,by
    have g:=eY (y%128,false) (gS _ AH);rw [HD,HD,RK,RK,g];exact K⟩,rfl,rfl⟩)
 have I:(OH (zz n)).map gb=pre.map gb++[gb (y,true)]:=by rw [G,Iw y,B2 A0,Cp A0,cD A0];simp
 have g:=eY (y,true) (by show y<128;omega);refine Az<|Zt<|Zt<|AU<|BT<|Sk 2 V ?_;refine BN (Kj ab IF Y A0)<|Ze (Ah (vs:=[_]) (cs:=[_]) GC KB Pr Y V rfl V rfl V)<|AE fun b3=>Ze (EX (by_:=1) (news:=[_]) GC (V:Tryz.prog.info? 5=some Tryz.t5) V rfl V rfl Y z Y Wo Wh B5 V HH AH (by(simp only [C2];omega)) (by(simp only [C2];omega))) ?_;rintro _ _ ⟨sw,E,rfl⟩;obtain ⟨gw,cw,rfl⟩:=E.form;have e9:List.map u8v (List.map gb pre)++[Value.int .u8 (y:Int)]=(MG n).map u8v:=by
  unfold MG;rw [I,HD,RK,g];rfl
 rw [e9]at E⊢;obtain ⟨g9,c9,bf,z9,af,rfl,d9,bn,cu,O,cO⟩:=E.some (by rw [C2];exact aP _);rw [af];refine Zo Wh (Dm GC IF HM Y (by exact ⟨O,by simp⟩)) ?_;refine Za Y<|AM Y<|Cn V results128 Y Y (by exact ⟨V,V⟩)
theorem X0(n:Nat)(J:2<=n)(h2:n<=1000000000000):BB prog 149 #[I4 (n:Int)] [] (I4 ((Bw n:Nat):Int)):=by
 refine Se func149 ntmps149 [0] ?_;intro u R;refine A2<|AF Y<|A2<|CT Y<|AQ<|Zb [3,0] ?_;refine Av (e0:=[(3,_)]) (fun m e H=>∃(z k:Nat),m=n -k/\(k=2^z/\0<k/\k<n)/\e=[(3,I4 (k:Int))]/\H=[]) (by exact ⟨0,1,V,⟨V,by omega,by omega⟩,V,V⟩) Wp ?_;rintro _ _ _ ⟨z,k,rfl,⟨g,G,E⟩,rfl,rfl⟩;refine Zq<|A2<|Sk 3 V ?_
 (refine BN (C8 Y Y ?_ ?_) ?_;(focus (first|omega|(simp;omega)));(focus (first|omega|(simp;omega))))
 refine Zv (Ak Y Y)<|A6<|Ad Y (fun y=>?_) (fun y=>?_);·
  refine B3<|AQ<|Zg<|Zm Y<|BN (Dl (m:=2) Y Y (by first|omega|(simp;omega)))<|AN Y<|A8<|DH (e:=[(3,_)]) (h:=by exact ⟨z+1,2*k,rfl,⟨by rw [cG,g];omega,by omega,by omega⟩,rfl,rfl⟩)
 have I:Bw n=k:=by rw [g];exact iT (by rw [<-g];exact E) (by rw [cG,<-g];omega)
 refine Az<|Zt<|Zt<|AU<|Zx<|B7 Y<|AM Y<|AO rfl results149 Y (by exact ⟨by rw [I],rfl⟩)
theorem iE(s:Bs)(g:s.length<=140737488354000):BB prog 155 #[.string (str s)] [] (.string (str (M9 s))):=by
 refine Se func155 ntmps155 [0] ?_;intro u R;refine A2<|AF Y<|B7 Y<|BN (EH Y Y (by(rw [Be];show 1+_<=_;omega)))<|Xr [_] Y call154 Y rfl ((Ec [0] s)▸NE ([0]++s) (by rw [C7];simp;omega)) ?_;refine AM Y<|AO V results155 Y (by exact ⟨V,V⟩)
theorem Wz(a b:Bs)(g:a.length<=1000000000)(m:b.length<=1000000000):BB prog 156 #[.string (str a),.string (str b)] [] (.string (str (Gt a b))):=by
 refine Se func156 ntmps156 [0,1] ?_;intro u R;refine A2<|AF Y<|B7 Y<|BN (EH Y Y (by(show 1+_<=_;rw [Be];omega)))<|Zm Y<|BN (EH Y Y (by(show(str [1]++str a).size+(str b).size<=_;rw [Ec,Be,Be,C7];simp;omega)))<|Xr [_] Y call154 Y rfl ((by have h:=NE ([1]++a++b) (by rw [C7,C7];simp;omega);rw [<-Ec,<-Ec]at h;exact h:BB prog 154 #[.string (str [1]++str a++str b)] [] (.string (str (sha ([1]++a++b)))))) ?_;refine AM Y<|AO V results156 Y (by exact ⟨V,V⟩)
variable{M:List AR}{v:A3}
theorem P9(n:Nat)(U:∀{M:List AR} {v:A3} {l:List Bs},l.length<n->DU M v l->l.length<=1000000->(∀s∈l,s.length<=140737488354000)->BB prog 102 #[v] [M] (.string (str (DW l)))){ls:List Bs}(bn:ls.length=n)(hv:DU M v ls)(hn:ls.length<=1000000)(I:∀s∈ls,s.length<=140737488354000):BB prog 102 #[v] [M] (.string (str (DW ls))):=by
 have cO:=mL;obtain ⟨p,cap,rfl,hl,Z⟩:=id hv;refine Se func102 ntmps102 [0] ?_;intro u R;refine A2<|AF Y<|C0 Y<|Zv (AJ DB Y)<|Zv (Bg (n:=0) Y Y)<|A6<|Ad Y (fun h0=>?_) (fun h0=>?_);·
  have e1:ls=[]:=N3 h0;refine A2<|Xr [_] Y call154 Y V (NE [] C4) ?_;refine AM Y<|Zt<|AO rfl results102 Y (by exact ⟨by rw [e1,Y7],rfl⟩)
 refine B3<|C0 Y<|Zv (AJ DB Y)<|Zv (Bg (n:=1) Y Y)<|A6<|Ad Y (fun X=>?_) (fun X=>?_);·
  obtain ⟨x,rfl⟩:∃x,ls=[x]:=by
   match ls,X with
   |[x],_=>exact ⟨x,rfl⟩
  obtain ⟨g,off,cur,T,zz,rfl,G,y⟩:=Z 0 x rfl;have J:=I x C4
  refine B7 Y<|BN (BO (j:=0) DB F2 Y Y Fl)<|Cj (cs:=[(g,.cells cur T zz)]) (by simp [G]) (BZ HG Y (by exact y)) rfl rfl ?_;refine Xr [_] Y call155 Y V (iE x J) ?_;refine AM Y<|Zt<|AO rfl results102 Y (by exact ⟨by rw [SV],rfl⟩)
 have z:2<=ls.length:=by omega
 have E:=He z;have bf:=GZ ls.length
 have m:(ls.take (Bw ls.length)).length=Bw ls.length:=by rw [CI];omega
 obtain ⟨g8,af,W,T8,d9,rfl,cu,ax⟩:=Z 0 _ (Bk A0);have O:=hv.take (Bw ls.length) A0
 have K:=hv.drop (Bw ls.length) E;refine B3<|B7 Y<|Zv (AJ DB Y)<|Xr [_] Y call149 Y V (X0 ls.length z A0) ?_;refine CT Y<|Au (n:=10) (0::0::3::7::0::0::48::127::255::511::[]) 392 AG AG V<|A1 0 V (AA Y)<|A1 1 V (AA Y)<|A1 2 V (Bb DB F2 Y Y A0)<|A1 4 V (AA Y)<|A1 5 V (AA Y) ?_
 (refine Dr (D':=119) 6 (FJ DB F2 Y Y ?_ ?_) ?_;(focus (omega));(focus (omega)))
 refine Yw 3 127 rfl (Zu [_] Y cS Y rfl (U (l:=ls.take (Bw ls.length)) (by rw [m];omega) (by exact O) (by rw [m];omega) (fun s h=>I s (Ks h))))<|DA<|Yw 7 255 rfl (Zu [_] Y cS Y rfl (U (l:=ls.drop (Bw ls.length)) (by rw [D4];omega) (by exact K) (by rw [D4];omega) (fun s h=>I s (Lo h))))<|DA<|Yw 8 511 rfl (Zu [_,_] Y call156 Y rfl (Wz _ _ (by rw [FP];omega) (by rw [FP];omega)))<|DA<|A1 9 V (Aq Y)<|Am<|Zn [2] ?_;refine Zx<|AC<|AO rfl results102 Y (by exact ⟨by rw [NF z],rfl⟩)
theorem Lc:∀(n:Nat) {M:List AR} {v:A3} {ls:List Bs},ls.length<=n->DU M v ls->ls.length<=1000000->(∀s∈ls,s.length<=140737488354000)->BB prog 102 #[v] [M] (.string (str (DW ls)))
 |0,_,_,ls,h,hv,hn,hs=>P9 ls.length (fun z=>absurd z A0) rfl hv hn hs
 |n+1,_,_,ls,h,hv,hn,hs=>P9 ls.length (fun z y g m=>Lc n A0 y g m) rfl hv hn hs
theorem Sg(g off cap:Nat)(cur:As)(T:An)(z:Nat×Nat)(ls:List Int)(G:Ip cur off ls)(hn:ls.length<=1073741824)(J:∀n∈ls,-4611686018427387903<=n/\n<=4611686018427387903):
 BB prog 157 #[.slice (some ⟨g,off,none⟩) ls.length cap] [[(g,.cells cur T z)]] (.string (str (Cw ls))):=by
 have U:=mL;refine Se func157 ntmps157 [0] ?_;intro u R;refine A2<|AF Y<|A2<|CT Y<|A2<|AF Y<|AQ<|Zb [3,4,0] ?_;refine Av (e0:=[(3,_),(4,_)]) (fun m e H=>∃(i:Nat),m=ls.length -i/\(i<=ls.length)/\e=[(3,.string (str (Cw (ls.take i)))),(4,I4 (i:Int))]/\H=[]) (by exact ⟨0,V,CD _,V,V⟩) Wp ?_;rintro _ _ _ ⟨i,rfl,hi,rfl,rfl⟩;refine Zq<|A2<|Sk 2 V<|Zv (AJ HF Y)<|Zv (Ak Y Y)<|A6<|Ad Y (fun E=>?_) (fun E=>?_);·
  obtain ⟨x,hx⟩:∃x,ls[i]?=some x:=⟨_,Bk E⟩;have y:=J x (Fm hx)
  have I:ls.take (i+1)=ls.take i++[x]:=by rw [OK,hx];rfl
  have W:=De (ls.take i) (fun m O=>J m (Ks O));have X:(ls.take i).length<=i:=cV ..
  have K:=H9 x y.1 y.2;refine B3<|Zq<|AQ<|A2<|Sk 2 V ?_;refine BN (BO HF A4 Y Y A0)<|Zl A5 Y (hv:=by exact G i x hx) ?_;refine Xr [_] Y call128 Y V (SK x y.1 y.2) ?_;refine Sk 4 V<|AN Y<|Zn [0,3,4,5] ?_;refine Zx<|Zg<|Sk 2 V ?_;refine BN (EH Y Y (by rw [Be,Be];omega))<|AN Y<|A8<|Zx<|Zg<|Zm Y<|Ya (n:=1) Y Y<|AN Y<|DH (e:=[(3,_),(4,_)]) (h:=by exact ⟨i+1,rfl,by omega,by rw [I,Qt,<-Ec],rfl⟩)
 refine Az<|Zt<|Zt<|AU<|Zx<|B7 Y<|AM Y<|AO rfl results157 Y (by exact ⟨by rw [Hx A0],rfl⟩)
theorem lJ(a b c d e:Int):Ip #[I4 a,I4 b,I4 c,I4 d,I4 e] 0 [a,b,c,d,e]:=by
 intro i n h;rcases i with _|_|_|_|_|i
 all_goals first|(simp at h;subst h;rfl)|(simp at h)
theorem oC{r:AV}(h:r.ok):∀n∈[r.t,r.k,r.v.a,r.v.b,r.v.c],-4611686018427387903<=n/\n<=4611686018427387903:=by
 intro n hn;have g:=(Ow h).1
 have h2:=(Ow h).2;simp only [H4,PJ,R0]at hn g h2;rcases hn with rfl|rfl|rfl|rfl|rfl
 · exact g _ (.inl rfl)
 · exact g _ (.inr rfl)
 · exact h2 _ (.inl rfl)
 · exact h2 _ (.inr (.inl rfl))
 · exact h2 _ (.inr (.inr rfl))
theorem aO(r:AV):Cw [r.t,r.k,r.v.a,r.v.b,r.v.c]=Im r:=by simp [Im,Cw]
theorem VG(r:AV)(g:r.ok):BB prog 129 #[.agg r.Ax3] [] (.tuple #[.string (str (Im r)),I4 0]):=by
 refine Se func129 ntmps129 [0] ?_;intro u R;refine A2<|Ze (Bx #[_,_,_,_,_])<|AE fun m=>Za Y<|CT Y<|A2<|Zo Wh (Pa #[_,_,_,_,_] C5 AW Y) ?_;refine Xr [_] Y call176 Y V (MU r) ?_;rw [Cp g];refine Zv (CR Y)<|A6<|Af Y (fun hv=>by cases hv)<|fun hv=>AB<|BT<|Zh 0 F1 V rfl A4 Y<|Zl A5 Y ?_;refine Zh 1 F1 V rfl A4 Y<|Zl A5 Y ?_;refine Zh 2 F1 V rfl Dg Y ?_;refine BN (Cf (j:=0) HS A4 Y Y Fl)<|Zl A5 Y ?_;refine Zh 2 F1 V rfl Dg Y ?_;refine BN (Cf (j:=1) HS A4 Y Y Fl)<|Zl A5 Y ?_;refine Zh 2 F1 V rfl Dg Y ?_;refine BN (Cf (j:=2) HS A4 Y Y Fl)<|Zl A5 Y ?_;refine Ze (Ah (vs:=[_,_,_,_,_]) (cs:=[_,_,_,_,_]) HF A4 K1 Y V rfl V rfl V)<|AE fun gb=>Xr [_] Y call157 Y V (Sg gb 0 5 _ _ _ [r.t,r.k,r.v.a,r.v.b,r.v.c] (lJ r.t r.k r.v.a r.v.b r.v.c) C4 (oC g)) ?_;refine Za Y<|AN Y<|Zn [2,3] ?_;refine Zx<|AC<|Cn rfl results129 Y Y (by exact ⟨by rw [aO],rfl⟩)
theorem Qs{L:List AV}(hv:CZ M v L)(hn:L.length<=1000000)(K:∀r∈L,r.ok):CJ prog 94 #[v] [M] (fun r H'=>∃E,BS 1 9 r L.length ((Km L).map EF) E/\H'=[E,M]):=by
 have ax:=mL;obtain ⟨p,cap,rfl,hl,hg⟩:=hv;refine Se func94 ntmps94 [0] ?_;intro u R;refine A2<|AF Y<|A2<|CT Y<|A2<|AF Y<|AQ<|Bi<|Zb [3,4,0] ?_;refine Av (e0:=[(3,_),(4,_)]) (fun m e H=>∃(i:Nat) (U:A3) (E:List AR),m=L.length -i/\(i<=L.length/\BS 1 9 U i ((Km (L.take i)).map EF) E)/\e=[(3,U),(4,I4 (i:Int))]/\H=[E]) (by exact ⟨0,.slice none 0 0,[],V,⟨CD _,BX 1 _⟩,V,V⟩) Wp ?_;rintro _ _ _ ⟨i,U,E,rfl,⟨hi,y⟩,rfl,rfl⟩;obtain ⟨qe,ce,rfl⟩:=y.form;refine Zq<|A2<|Sk 2 V<|Zv (AJ B0 Y)<|Zv (Ak Y Y)<|A6<|Ad Y (fun I=>?_) (fun I=>?_);·
  obtain ⟨x,hx⟩:∃x,L[i]?=some x:=⟨_,Bk I⟩;obtain ⟨g,off,cur,T,zz,rfl,J,W,G⟩:=hg i x hx;have O:=K x (Fm hx)
  refine B3<|Zq<|AQ<|A2<|Sk 2 V ?_;refine BN (A9 B0 AW Y Y A0)<|Cj (cs:=[(g,.cells cur T zz)]) (by simp [J]) (A7 (cs:=x.Ax3) C5 AW Y A0 G) V rfl ?_;refine Xr [_] Y call129 Y V (VG x O) ?_;refine Sk 4 V<|AN Y<|Zn [0,3,4,5] ?_;refine Zx<|Zg<|Sk 2 V<|Ze (Ah (vs:=[_]) (cs:=[_]) DB F2 N1 Y V rfl V rfl V)<|AE fun b1=>Ze (Dw (by_:=16) (sz:=1) (news:=[_]) DB (V:Tryz.prog.info? 9=some Tryz.t9) V rfl V rfl Y y Y Wo Wh B5 V HH AH A0 A0) ?_;rintro _ _ ⟨bf,z,rfl⟩;obtain ⟨af,X,rfl⟩:=z.form;refine AN Y<|A8<|Zx<|Zg<|Zm Y<|Ya (n:=1) Y Y<|AN Y<|DH (e:=[(3,_),(4,_)]) (h:=by exact ⟨i+1,_,_,rfl,⟨by omega,BJ z rfl (by rw [aN hx])⟩,rfl,rfl⟩)
 have Z:i=L.length:=by omega
 subst Z;rw [HJ]at y;refine Az<|Zt<|Zt<|AU<|Zx<|B7 Y<|AM Y<|AO V results94 Y (by exact ⟨E,y,V⟩)
theorem VK(rp:Nat)(p:Int)(w:A3)(rs:List AV)(y:List AR)(g:BS 5 91 w rs.length (Aa rs) y)(hn:rs.length<=2000)(t:Int)(c:Nat)(hc:c<=3):CJ prog 93 #[I5 rp,I4 t,I4 (c:Int)] [[(rp,.cells #[w,I4 p] 138 (0,0))],y] (fun r H'=>∃m,BS 5 91 r (BF rs t c).length (Aa (BF rs t c)) m/\H'=[m,[(rp,.cells #[w,I4 p] 138 (0,0))],y]):=by
 refine Se func93 ntmps93 [0,1,2] ?_;intro u R;refine A2<|AF Y<|A2<|Sk 3 V<|Zc [_,_,_,_,_] Y call38 Y V (YN rp p w rs y t c (-1000000000) 1000000000 g hn hc) ?_;rintro _ _ ⟨_,⟨m,z,rfl⟩,rfl⟩;refine AM Y<|AO V results93 Y (by exact ⟨m,z,V⟩)
theorem nM{rs:List AV}{t c:Nat}(g:t<4)(hc:c<4):(NU rs).take (4*t+c+1)=(NU rs).take (4*t+c)++[bH rs (t,c)]:=by
 refine Bt ?_;unfold NU;rw [HL,nJ t g c hc];rfl
theorem YS(rp:Nat)(p:Int)(w:A3)(rs:List AV)(W:List AR)(O:BS 5 91 w rs.length (Aa rs) W)(hn:rs.length<=2000)(hs:BP rs)(J:∀r∈rs,r.ok):CJ prog 95 #[I5 rp] [[(rp,.cells #[w,I4 p] 138 (0,0))],W] (fun r H'=>∃E,BS 1 9 r 16 ((NU rs).map EF) E/\H'=[E,[(rp,.cells #[w,I4 p] 138 (0,0))],W]):=by
 have cO:=mL;refine Se func95 ntmps95 [0] ?_;intro u R;refine A2<|AF Y<|A2<|CT Y<|A2<|AF Y<|AQ<|Bi<|Zb [3,4,0] ?_;refine Av (e0:=[(3,_),(4,_)]) (fun m e H=>∃(t:Nat) (X:A3) (E:List AR),m=4 -t/\(t<=4/\BS 1 9 X (4*t) (((NU rs).take (4*t)).map EF) E)/\e=[(3,X),(4,I4 (t:Int))]/\H=[E]) (by exact ⟨0,.slice none 0 0,[],V,⟨by omega,BX 1 _⟩,V,V⟩) Wp ?_;rintro _ _ _ ⟨t,X,E,rfl,⟨ht,K⟩,rfl,rfl⟩;refine C0 Y<|Zv (Ak (n:=4) Y Y)<|A6<|Ad Y (fun U=>?_) (fun U=>?_);·
  refine B3<|Zq<|AQ<|A2<|AF Y<|AQ<|Zb [3,5,0,4] ?_;refine Av (e0:=[(3,_),(5,_)]) (fun m e H=>∃(c:Nat) (G:A3) (y:List AR),m=4 -c/\(c<=4/\BS 1 9 G (4*t+c) (((NU rs).take (4*t+c)).map EF) y)/\e=[(3,G),(5,I4 (c:Int))]/\H=[y]) (by exact ⟨0,X,E,V,⟨by omega,K⟩,V,V⟩) Wp ?_;rintro _ _ _ ⟨c,G,y,rfl,⟨hc,g⟩,rfl,rfl⟩;obtain ⟨qo,co,rfl⟩:=g.form;refine C0 Y<|Zv (Ak (n:=4) Y Y)<|A6<|Ad Y (fun I=>?_) (fun I=>?_);·
   have d9:=GX hs (t:Int) c;refine B3<|Zq<|AQ<|A2<|Sk 3 V<|Zc [_,_,_] Y call93 Y V (VK rp p w rs W O hn (t:Int) c A0) ?_;rintro _ _ ⟨_,⟨sx,hx,rfl⟩,rfl⟩;have ax:=Ca hx A0
   refine Zc [_] Y call94 Y V (Qs ax A0 (fun r h=>J r (I7 h))) ?_;rintro _ _ ⟨_,⟨se,he,rfl⟩,rfl⟩;obtain ⟨qe,ce,rfl⟩:=he.form;have af:DU se (.slice qe (BF rs (t:Int) c).length ce) (Km (BF rs (t:Int) c)):=Ev (BJ he (Ea _).symm rfl) (by rw [Ea];omega)
   have cu:=H9 ((BF rs (t:Int) c).length:Int) A0 A0;refine AF Y<|B7 Y<|Zv (AJ DB Y)<|Xr [_] Y call128 Y V (SK _ A0 A0) ?_;refine Sk 4 V<|AN Y<|Zn [0,3,4,5,6,7] ?_;refine Zx<|Zg<|Sk 3 rfl<|Xr [_] Y cS Y rfl (Lc _ (B4 _) af (by rw [Ea];omega) (fun s h=>by have:=Rb (fun r hr=>J r (I7 hr)) s h;omega)) ?_;refine BN (EH Y Y (by rw [Be,Be,FP];omega))<|Ze (Ah (vs:=[_]) (cs:=[_]) DB F2 N1 Y rfl rfl rfl rfl rfl)<|AE fun b1=>Ze (Dw (by_:=16) (sz:=1) (news:=[_]) DB (V:Tryz.prog.info? 9=some Tryz.t9) V rfl V rfl Y g Y Wo Wh B5 V HH AH A0 A0) ?_;rintro _ _ ⟨ek,z,rfl⟩;obtain ⟨bn,bf,rfl⟩:=z.form;refine AN Y<|A8<|Zx<|Zg<|Zm Y<|Ya (n:=1) Y Y<|AN Y<|DH (e:=[(3,_),(5,_)]) (h:=by exact ⟨c+1,_,_,rfl,⟨by omega,BJ z rfl (by rw [<-cF,nM U I,HD];unfold bH;rw [RK];unfold EF;rw [<-Ec])⟩,rfl,rfl⟩)
  refine Az<|Zt<|Zt<|AU<|A8<|Zx<|Zg<|Zm Y<|Ya (n:=1) Y Y<|AN Y<|DH (e:=[(3,_),(4,_)]) (h:=by exact ⟨t+1,_,y,V,⟨by omega,by have Z:c=4:=A0;subst Z;exact g⟩,V,V⟩)
 have Z:t=4:=by omega
 subst Z;refine Az<|Zt<|Zt<|AU<|Zx<|B7 Y<|AM Y<|AO rfl results95 Y (by exact ⟨E,BJ K rfl (by rw [Hx (by rw [Fq];omega)]),rfl⟩)
theorem Jc:∀(n:Nat) (l:List Bs) (i:Nat),l.length<=n->(Dx l i).length<=l.length
 |n,l,i,hn=>by
  rcases FA l.length 2 with h|h
  · rw [Jp A0];simp
  · have m:=He h
    have h2:=GZ l.length
    match n,hn with
    |0,hn=>omega
    |n+1,hn=>
     by_cases hi:i<Bw l.length
     · have g:=Jc n (l.take (Bw l.length)) i (by rw [CI];omega)
       rw [CI]at g;rw [GR h hi,C7,HI];omega
     · have g:=Jc n (l.drop (Bw l.length)) (i -Bw l.length) (by rw [D4];omega)
       rw [D4]at g;rw [Fg h hi,C7,HI];omega
theorem Nf(n:Nat)(IH:∀{M:List AR} {v:A3} {ls:List Bs} (i:Nat),i<ls.length->ls.length<n->DU M v ls->ls.length<=1000000->(∀s∈ls,s.length<=140737488354000)->CJ prog 96 #[v,I4 (i:Int)] [M] (fun r H'=>∃G sp,r= .tuple #[G,I4 0]/\BS 1 9 G (Dx ls i).length ((Dx ls i).map EF) sp/\H'=[sp,M])){ls:List Bs}(i:Nat)(bn:i<ls.length)(cO:ls.length=n)(hv:DU M v ls)(hn:ls.length<=1000000)(O:∀s∈ls,s.length<=140737488354000):CJ prog 96 #[v,I4 (i:Int)] [M] (fun r H'=>∃G sp,r= .tuple #[G,I4 0]/\BS 1 9 G (Dx ls i).length ((Dx ls i).map EF) sp/\H'=[sp,M]):=by
 have ek:=mL;obtain ⟨p,cap,rfl,hl,hg⟩:=id hv;refine Se func96 ntmps96 [0,1] ?_;intro u R;refine A2<|Za Y<|AF Y<|C0 Y<|Zv (Ak (n:=0) Y Y)<|Zm Y<|AZ (t:=13) Y V (fun k1=>by omega)<|fun k1=>Sk 2 V<|Yg (AJ DB Y)<|Yg (El Y Y)<|H3 Y Y<|A6<|Ad Y (fun k2=>by omega)<|fun k2=>B3<|C0 Y<|Zv (AJ DB Y)<|Zv (Bg (n:=1) Y Y)<|Z0<|Zn [0,1,21] ?_;refine Zx<|Ad Y (fun h1=>?_) (fun h1=>?_);·
  refine Zq<|Bi<|Zg<|Za Y<|AM Y<|Zt<|Cn rfl results96 Y Y (by exact ⟨_,[],rfl,by rw [Jp A0];exact BX 1 _,rfl⟩)
 have I:2<=ls.length:=by omega
 have X:=He I;have cu:=GZ ls.length
 have m:(ls.take (Bw ls.length)).length=Bw ls.length:=by rw [CI];omega
 have z:(ls.drop (Bw ls.length)).length=ls.length -Bw ls.length:=D4 ..;obtain ⟨g8,ax,af,T8,gy,rfl,d9,bf⟩:=hg 0 _ (Bk A0);have K:=hv.take (Bw ls.length) A0
 have J:=hv.drop (Bw ls.length) X;have gm:=Jc _ (ls.take (Bw ls.length)) i (B4 _)
 have gq:=Jc _ (ls.drop (Bw ls.length)) (i -Bw ls.length) (B4 _);refine B3<|B7 Y<|Zv (AJ DB Y)<|Xr [_] Y call149 Y V (X0 ls.length I A0) ?_;refine CT Y<|A2<|Sk 2 V<|Zv (Ak Y Y)<|A6<|Ad Y (fun y=>?_) (fun y=>?_);·
  refine A2<|Sk 2 V ?_;refine BN (Bb DB F2 Y Y A0)<|Zm Y<|Zc [_,_] Y call96 Y rfl (IH (ls:=ls.take (Bw ls.length)) i (by rw [m];omega) (by rw [m];omega) (by exact K) (by rw [m];omega) (fun s h=>O s (Ks h))) ?_;rintro _ _ ⟨_,⟨G,sp,rfl,E,rfl⟩,rfl⟩;obtain ⟨qp,cp,rfl⟩:=E.form;refine Sk 4 V<|AN Y<|Zn [0,6,7] ?_;refine BT<|Sk 3 V ?_
  (refine BN (FJ DB F2 Y Y ?_ ?_) ?_;(focus (omega));(focus (omega)))
  refine Xr [_] Y cS Y rfl (Lc _ (B4 _) (ls:=ls.drop (Bw ls.length)) (by exact J) (by rw [D4];omega) (fun s h=>O s (Lo h))) ?_;refine Ze (Ah (vs:=[_]) (cs:=[_]) DB F2 N1 Y V rfl V rfl V)<|AE fun g3=>Ze (Dw (by_:=16) (sz:=1) (news:=[_]) DB (V:Tryz.prog.info? 9=some Tryz.t9) V rfl V rfl Y E Y Wo Wh B5 V HH AH A0 A0) ?_;rintro _ _ ⟨Z,g,rfl⟩;obtain ⟨W,U,rfl⟩:=g.form;refine Za Y<|AM Y<|Zt<|Cn rfl results96 Y Y (by exact ⟨_,_,rfl,BJ g (by rw [GR I y,C7];rfl) (by rw [GR I y,HD];rfl),rfl⟩)
 refine AB<|BT<|Sk 2 V ?_
 (refine BN (FJ DB F2 Y Y ?_ ?_) ?_;(focus (omega));(focus (omega)))
 refine Sk 2 rfl<|Yb Y Y<|Zc [_,_] Y call96 Y rfl (IH (ls:=ls.drop (Bw ls.length)) (i -Bw ls.length) (by rw [z];omega) (by rw [z];omega) (by exact J) (by rw [z];omega) (fun s h=>O s (Lo h))) ?_;rintro _ _ ⟨_,⟨G,sp,rfl,E,rfl⟩,rfl⟩;obtain ⟨qp,cp,rfl⟩:=E.form;refine Sk 4 V<|AN Y<|Zn [0,6,9] ?_;refine BT<|Sk 3 V ?_;refine BN (Bb DB F2 Y Y A0)<|Xr [_] Y cS Y rfl (Lc _ (B4 _) (ls:=ls.take (Bw ls.length)) (by exact K) (by rw [m];omega) (fun s h=>O s (Ks h))) ?_;refine Ze (Ah (vs:=[_]) (cs:=[_]) DB F2 N1 Y V rfl V rfl V)<|AE fun g3=>Ze (Dw (by_:=16) (sz:=1) (news:=[_]) DB (V:Tryz.prog.info? 9=some Tryz.t9) V rfl V rfl Y E Y Wo Wh B5 V HH AH A0 A0) ?_;rintro _ _ ⟨Z,g,rfl⟩;obtain ⟨W,U,rfl⟩:=g.form;refine Za Y<|AM Y<|Cn rfl results96 Y Y (by exact ⟨_,_,rfl,BJ g (by rw [Fg I y,C7];rfl) (by rw [Fg I y,HD];rfl),rfl⟩)
theorem YR:∀(n:Nat) {M:List AR} {v:A3} {ls:List Bs} (i:Nat),i<ls.length->ls.length<=n->DU M v ls->ls.length<=1000000->(∀s∈ls,s.length<=140737488354000)->CJ prog 96 #[v,I4 (i:Int)] [M] (fun r H'=>∃E sp,r= .tuple #[E,I4 0]/\BS 1 9 E (Dx ls i).length ((Dx ls i).map EF) sp/\H'=[sp,M])
 |0,_,_,ls,i,hi,h,hv,hn,hs=>Nf ls.length (fun _ _ z=>absurd z A0) i hi rfl hv hn hs
 |n+1,_,_,ls,i,hi,h,hv,hn,hs=>Nf ls.length (fun j G z y g m=>YR n j G A0 y g m) i hi rfl hv hn hs
theorem Kv(rp:Nat)(p:Int)(w:A3)(rs:List AV)(E:List AR)(g:BS 5 91 w rs.length (Aa rs) E)(hn:rs.length<=2000)(G:BP rs)(z:∀r∈rs,r.ok):BB prog 49 #[I5 rp] [[(rp,.cells #[w,I4 p] 138 (0,0))],E] (.string (str (Eu rs))):=by
 have I:=mL;refine Se func49 ntmps49 [0] ?_;intro u R;refine A2<|AF Y<|B7 Y<|Zc [_] Y call95 Y V (YS rp p w rs E g hn G z) ?_;rintro _ _ ⟨_,⟨J,m,rfl⟩,rfl⟩;have y:=Ev (BJ m (Fq rs).symm rfl) (by rw [Fq];omega)
 obtain ⟨qt,ct,rfl⟩:=m.form;refine Xr [_] Y cS Y rfl (Lc _ (B4 _) y (by rw [Fq];omega) (fun s h=>by obtain ⟨x,_,rfl⟩:=HX.1 h;have:=Rn G hn x;omega)) ?_;refine AM Y<|AO V results49 Y (by exact ⟨V,V⟩)
theorem sH{f k:Nat}{v lo:Int}(g:f<=k->lo<=v)(h2:k<f->v<lo)(h:v<lo):min k f+1=min (k+1) f:=by
 rcases FA k f with h9|h9
 · omega
 · have:=g h9;omega
theorem sG{f k:Nat}{v lo:Int}(g:f<=k->lo<=v)(h2:k<f->v<lo)(h:¬v<lo):min k f=min (k+1) f:=by
 rcases FA k f with h9|h9
 · have:=h2 h9;omega
 · omega
set_option maxHeartbeats 1000000 in
theorem dD(rp:Nat)(p:Int)(w:A3)(rs:List AV)(sv:List AR)(ax:BS 5 91 w rs.length (Aa rs) sv)(hn:rs.length<=2000)(hs:BP rs)(cu:∀r∈rs,r.ok)(t c:Nat)(ht:t<=3)(hc:c<=3)(lo hi:Int)(pz:lo<=hi):
 CJ prog 39 #[I5 rp,I4 (t:Int),I4 (c:Int),I4 lo,I4 hi] [[(rp,.cells #[w,I4 p] 138 (0,0))],sv] (fun r H'=>∃vr vp vt G sp y J so,r= .tuple #[.agg #[I4 (t:Int),I4 (c:Int),I4 lo,I4 hi,I4 (((BF rs (t:Int) c).length:Nat):Int),I4 (((CE (BF rs (t:Int) c) c lo):Nat):Int),vr,vp,vt],I4 0]/\BS 5 91 vr (((BF rs (t:Int) c).drop (CE (BF rs (t:Int) c) c lo)).take ((toT (BF rs (t:Int) c) c hi) -(CE (BF rs (t:Int) c) c lo))).length (Aa (((BF rs (t:Int) c).drop (CE (BF rs (t:Int) c) c lo)).take ((toT (BF rs (t:Int) c) c hi) -(CE (BF rs (t:Int) c) c lo)))) G/\BS 1 47 vp ((toT (BF rs (t:Int) c) c hi) -(CE (BF rs (t:Int) c) c lo)) y sp/\FV J y (JN (BF rs (t:Int) c) (CE (BF rs (t:Int) c) c lo) ((toT (BF rs (t:Int) c) c hi) -(CE (BF rs (t:Int) c) c lo)))/\BS 1 9 vt 16 ((NU rs).map EF) so/\H'=[G,sp,J,so,[(rp,.cells #[w,I4 p] 138 (0,0))],sv]):=by
 have vo:=mL;have ve:=GX hs (t:Int) c
 have p8:=Fz (geV c lo) (BF rs (t:Int) c);have pg:=Fz (gtV c hi) (BF rs (t:Int) c)
 have tT:=OJ hs t c lo hi pz;have pq:(CE (BF rs (t:Int) c) c lo)=Cg (geV c lo) (BF rs (t:Int) c) -1:=rfl
 have q9:(toT (BF rs (t:Int) c) c hi)=min (Cg (gtV c hi) (BF rs (t:Int) c)+1) (BF rs (t:Int) c).length:=rfl;refine Se func39 ntmps39 [0,1,2,3,4] ?_;intro u R;refine A2<|Ze (Al N0 #[_,_,_,_,_,_,_,_,_])<|AE fun rb=>AF Y<|C0 Y<|Zv (Ak (n:=0) Y Y)<|Zm Y<|AZ (t:=26) Y V (fun k1=>by omega)<|fun k1=>Zf Y Y<|Yg (El (n:=4) Y Y)<|Sk 2 V ?_;refine AZ (t:=30) Y V (fun k2=>by omega)<|fun k2=>Zf Y Y<|Yg (Ak (n:=0) Y Y)<|Sk 2 V ?_;refine AZ (t:=34) Y V (fun k3=>by omega)<|fun k3=>Zf Y Y<|Yg (El (n:=4) Y Y)<|Sk 2 V ?_;refine AZ (t:=38) Y V (fun k3=>by omega)<|fun k3=>Sk 2 V<|Yg (EE Y Y)<|H3 Y Y<|Z0<|Zn [0,1,2,3,4,10,42] ?_;refine Zx<|Ad Y (fun k4=>by omega)<|fun k4=>AB<|BT<|Sk 3 V<|Zc [_,_,_] Y call93 Y V (VK rp p w rs sv ax hn (t:Int) c hc) ?_;rintro _ _ ⟨_,⟨sr,l9,rfl⟩,rfl⟩;obtain ⟨qr,cr,rfl⟩:=l9.form;have kz:=Ca l9 A0
 obtain ⟨p9,qw,e9,vw,hg⟩:=id kz;injection e9 with e91 e92 e93
 subst e91 e93;refine AF Y<|B7 Y<|Zc [_] Y call94 Y V (Qs kz A0 (fun r h=>cu r (I7 h))) ?_;rintro _ _ ⟨_,⟨se,he,rfl⟩,rfl⟩;obtain ⟨qe,ce,rfl⟩:=he.form;have oq:DU se (.slice qe (BF rs (t:Int) c).length ce) (Km (BF rs (t:Int) c)):=Ev (BJ he (Ea _).symm rfl) (by rw [Ea];omega)
 refine AF Y<|A2<|AF Y<|A2<|CT Y<|A2<|AF Y<|AQ<|Zb [14,15,16,0,1,2,3,4,10,12,13] ?_;refine Av (e0:=[(14,_),(15,_),(16,_)]) (fun m e H=>∃(k i j:Nat),m=(BF rs (t:Int) c).length -k/\(k<=(BF rs (t:Int) c).length/\i=min k (Cg (geV c lo) (BF rs (t:Int) c))/\j=min k (Cg (gtV c hi) (BF rs (t:Int) c)))/\e=[(14,I4 (i:Int)),(15,I4 (j:Int)),(16,I4 (k:Int))]/\H=[]) (by exact ⟨0,0,0,V,⟨CD _,(Nat.zero_min _).symm,(Nat.zero_min _).symm⟩,V,V⟩) Wp ?_;rintro _ _ _ ⟨k,i,j,rfl,⟨hk,K,O⟩,rfl,rfl⟩;refine Zq<|A2<|Sk 2 V<|Zv (AJ B0 Y)<|Zv (Ak Y Y)<|A6<|Ad Y (fun W=>?_) (fun W=>?_);·
  obtain ⟨x,hx⟩:∃x,(BF rs (t:Int) c)[k]?=some x:=⟨_,Bk W⟩;obtain ⟨g,off,cur,T,zz,rfl,bn,lv,I⟩:=hg _ x hx;have U:=Z6 hs t c lo hx
  have X:Cg (gtV c hi) (BF rs (t:Int) c)<=k->hi+1<=Dz x c:=fun h=>by have:=(Vu hs t c hi hx).1 h;omega
  have Z:k<Cg (gtV c hi) (BF rs (t:Int) c)->Dz x c<hi+1:=fun h=>by have:=(Vu hs t c hi hx).2 h;omega
  refine B3<|Zq<|AQ<|A2<|Sk 2 V ?_;refine BN (A9 B0 AW Y Y Fl)<|Cj (cs:=[(g,.cells cur T zz)]) (by simp [bn]) (A7 (cs:=x.Ax3) C5 AW Y A0 I) rfl rfl ?_;refine Zm Y<|Xr [_,_] Y Q2 Y V (MS x c hc) ?_;refine AF Y<|Zb [14,0,1,2,3,4,10,12,13,15,16,17] ?_;refine C9 (e0:=[(14,_)]) (H0:=[]) (fun e H=>∃(i2:Nat),(i2=min (k+1) (Cg (geV c lo) (BF rs (t:Int) c)))/\e=[(14,I4 (i2:Int))]/\H=[]) Wp ?hx_2 ?hy_2
  case hx_2=>
   refine A2<|Sk 2 V<|Zv (Dq Y Y)<|A6<|Ad Y (fun gy=>?_) (fun gy=>?_);·
    refine Zg<|Zm Y<|Ya (n:=1) Y Y<|AN Y<|FF (e:=[(14,_)]) (h:=by exact ⟨i+1,by rw [K];exact sH U.1 U.2 gy,rfl,rfl⟩)
   refine AB<|FF (e:=[(14,_)]) (h:=by exact ⟨i,by rw [K];exact sG U.1 U.2 gy,rfl,rfl⟩)
  rintro _ _ ⟨i2,l8,rfl,rfl⟩;refine A2<|Sk 2 V<|Zv (JB Y Y)<|A6<|Ad Y (fun qa=>?_) (fun qa=>?_);·
   refine Zg<|Zm Y<|Ya (n:=1) Y Y<|AN Y<|A8<|Zx<|Zg<|Zm Y<|Ya (n:=1) Y Y<|AN Y<|DH (e:=[(14,_),(15,_),(16,_)]) (h:=by exact ⟨k+1,i2,j+1,rfl,⟨by omega,l8,by rw [O];exact sH (lo:=hi+1) X Z A0⟩,rfl,rfl⟩)
  refine AB<|A8<|Zx<|Zg<|Zm Y<|Ya (n:=1) Y Y<|AN Y<|DH (e:=[(14,_),(15,_),(16,_)]) (h:=by exact ⟨k+1,i2,j,rfl,⟨by omega,l8,by rw [O];exact sG (lo:=hi+1) X Z A0⟩,rfl,rfl⟩)
 have ek:k=(BF rs (t:Int) c).length:=by omega
 subst ek;rw [Nat.min_eq_right p8]at K;rw [Nat.min_eq_right pg]at O;subst K O;refine Az<|Zt<|Zt<|AU<|Zx<|Zb [14,0,1,2,3,4,10,12,13,15] ?_;refine C9 (e0:=[(14,_)]) (H0:=[]) (fun e H=>(True)/\e=[(18,I4 (((CE (BF rs (t:Int) c) c lo):Nat):Int))]/\H=[]) Wp ?hx_7 ?hy_7
 case hx_7=>
  refine Zg<|Zm Y ?_
  (refine BN (GI Y Y (IntWalk.i64_in _ ?_)) ?_;(focus (omega)))
  refine Zv (TB Y Y)<|AN Y<|HC (by exact ⟨trivial,by(rw [pq];done),V⟩)
 rintro _ _ ⟨_,rfl,rfl⟩;refine Zb [15,0,1,2,3,4,10,12,13,18] ?_;refine C9 (e0:=[(15,_)]) (H0:=[]) (fun e H=>(True)/\e=[(19,I4 (((toT (BF rs (t:Int) c) c hi):Nat):Int))]/\H=[]) Wp ?hx_9 ?hy_9
 case hx_9=>
  refine Zg<|Zm Y<|Ya (n:=1) Y Y<|Zm Y<|Zv (AJ B0 Y)<|Zv (L8 Y Y)<|AN Y<|HC (by exact ⟨trivial,by(rw [q9];done),V⟩)
 rintro _ _ ⟨_,rfl,rfl⟩;refine A2<|Sk 5 V<|Zv (AJ B0 Y)<|Sk 2 V<|Zc [_] Y call95 Y V (YS rp p w rs sv ax hn hs cu) ?_;rintro _ _ ⟨_,⟨so,gq,rfl⟩,rfl⟩;have sO:=Ev (BJ gq (Fq rs).symm rfl) (by rw [Fq];omega)
 obtain ⟨qt,ct,rfl⟩:=gq.form;refine Zv (BK (vs:=[(0,I4 (t:Int)),(1,I4 (c:Int)),(2,I4 lo),(3,I4 hi),(4,I4 (((BF rs (t:Int) c).length:Nat):Int)),(5,I4 (((CE (BF rs (t:Int) c) c lo):Nat):Int)),(8,.slice qt 16 ct)]) (cs:=#[I4 (t:Int),I4 (c:Int),I4 lo,I4 hi,I4 (((BF rs (t:Int) c).length:Nat):Int),I4 (((CE (BF rs (t:Int) c) c lo):Nat):Int),.slice none 0 0,.slice none 0 0,.slice qt 16 ct]) Y (AY (pl:=#[(0,1),(1,1),(2,1),(3,1),(4,1),(5,1),(6,1),(7,1),(8,1)]) N0 Bm (fun _=>by kernel_rfl) AG))<|Ze (Al N0 #[_,_,_,_,_,_,_,_,_])<|AE fun pb=>Xe (Xw DM #[I4 (t:Int),I4 (c:Int),I4 lo,I4 hi,I4 (((BF rs (t:Int) c).length:Nat):Int),I4 (((CE (BF rs (t:Int) c) c lo):Nat):Int),.slice none 0 0,.slice none 0 0,.slice qt 16 ct]) ?_;refine A6<|C0 Y<|AN Y<|Zn [10,12,13,19,20,21] ?_;refine Zx<|AQ<|Bi<|Bi<|Bi<|Zb [21,10,12,13,19,20] ?_;refine Av (e0:=[(21,_)]) (fun m e H=>∃(k:Nat) (kv:A3) (G:List AR) (vp:A3) (sp:List AR) (y:List A3) (J:List AR),m=(toT (BF rs (t:Int) c) c hi) -(CE (BF rs (t:Int) c) c lo) -k/\(k<=(toT (BF rs (t:Int) c) c hi) -(CE (BF rs (t:Int) c) c lo)/\BS 5 91 kv k (Aa (((BF rs (t:Int) c).drop (CE (BF rs (t:Int) c) c lo)).take k)) G/\BS 1 47 vp k y sp/\FV J y (JN (BF rs (t:Int) c) (CE (BF rs (t:Int) c) c lo) k))/\e=[(21,I4 (((CE (BF rs (t:Int) c) c lo)+k:Nat):Int))]/\H=[[(pb,.cells #[I4 (t:Int),I4 (c:Int),I4 lo,I4 hi,I4 (((BF rs (t:Int) c).length:Nat):Int),I4 (((CE (BF rs (t:Int) c) c lo):Nat):Int),kv,vp,.slice qt 16 ct] 49 (0,0))],G,sp,J]) (by exact ⟨0,.slice none 0 0,[],.slice none 0 0,[],[],[],rfl,⟨CD _,by rw [Hh];exact BX 5 _,BX 1 _,VT _⟩,rfl,rfl⟩) Wp ?_;rintro _ _ _ ⟨k,kv,G,vp,sp,y,J,rfl,⟨hk,gm,cO,hP⟩,rfl,rfl⟩;obtain ⟨q2,c2,rfl⟩:=gm.form;obtain ⟨q3,c3,rfl⟩:=cO.form;refine Zq<|A2<|Sk 2 V<|Zv (Ak Y Y)<|A6<|Ad Y (fun W=>?_) (fun W=>?_);·
  obtain ⟨x,hx⟩:∃x,(BF rs (t:Int) c)[(CE (BF rs (t:Int) c) c lo)+k]?=some x:=⟨_,Bk A0⟩;obtain ⟨g,off,cur,T,zz,rfl,bn,lv,I⟩:=hg _ x hx;have qb:((BF rs (t:Int) c).drop (CE (BF rs (t:Int) c) c lo))[k]?=some x:=by rw [Ly];exact hx
  refine B3<|Zq<|AQ<|A2<|Sk 2 rfl<|Zc [_,_] Y call96 Y rfl (YR _ ((CE (BF rs (t:Int) c) c lo)+k) (by rw [Ea];omega) (B4 _) oq (by rw [Ea];omega) (fun s h=>by have:=Rb (fun r hr=>cu r (I7 hr)) s h;omega)) ?_;rintro _ _ ⟨_,⟨qo,E,rfl,z,rfl⟩,rfl⟩;have d9:(Dx (Km (BF rs (t:Int) c)) ((CE (BF rs (t:Int) c) c lo)+k)).length<=maxLen:=iG z
  have o9:=Ev z d9;have o8:=Qv (BF rs (t:Int) c) (CE (BF rs (t:Int) c) c lo) k▸hP.snoc (o9.mono (fun c h=>HE J h)) (fun c h=>G2 E h)
  obtain ⟨qx,cx,rfl⟩:=z.form;refine Sk 4 V<|CT Y<|ES (s1:=E) (s2:=J) Wo Wo ?_;refine Au (n:=10) (0::1::0::0::12::28::60::127::255::511::[]) 704 AG AG V<|A1 0 V (AL (off:=6) Bm V rfl Cl Y)<|B6 1 V DQ Y ?_;refine A1 2 rfl (AA Y)<|A1 3 rfl (AA Y)<|A1 4 rfl (A9 B0 AW Y Y Fl)<|CX (b:=g) (x:= .cells cur T zz) (D':=63) 5 rfl rfl rfl (by simp [bn]) (A7 (cs:=x.Ax3) C5 AW Y A0 I) ?_;refine Yz 6 60 127 [5,1] [false,true] [(1,(_,_))] V Y V rfl V rfl (Ah (vs:=[_]) (cs:=[_,_,_,_,_]) B0 AW DS Y V rfl V rfl V)<|AE fun mR=>CA<|Yw 7 255 V (BL (by_:=40) (sz:=5) B0 (V:Tryz.prog.info? 91=some Tryz.t91) V rfl V rfl Y (gm) Y (D7 5 mR 1 1 91 (0,0) [I4 x.t,I4 x.k,I4 x.v.a,I4 x.v.b,I4 x.v.c] V) Wo Wo HH A0 A0) ?_;rintro _ _ ⟨vz,af,rfl⟩;obtain ⟨r9,qy,rfl⟩:=af.form;refine A1 8 rfl (AL (off:=6) Bm rfl rfl Cl Y)<|Zz (l:=[9])<|C6 [] [] rfl rfl (Zs Cl Y Y rfl (hi:=by first|omega|decide|(simp;done))) ?_ (fun _ _ h=>h.elim) Ar;rintro _ _ ⟨rfl,rfl⟩;refine CA<|Am<|Zn [10,12,13,19,20,21,22] ?_;refine Zx<|Zg<|Zh 7 Bm V rfl Mn Y<|Zl Q1 Y ?_;refine Zm Y<|Ze (Ah (vs:=[_]) (cs:=[_]) LR Hj dd Y V rfl V rfl V)<|AE fun sj=>Ze (Dw (by_:=24) (sz:=1) (news:=[_]) LR (V:Tryz.prog.info? 47=some Tryz.t47) V rfl V rfl Y cO Y Wo Wh B5 V ar AH A0 A0) ?_;rintro _ _ ⟨wo,bf,rfl⟩;obtain ⟨sw,qz,rfl⟩:=bf.form;refine Zh 7 Bm rfl rfl Mn Y<|Xe (Zs Mn Y Y rfl (hi:=by first|omega|decide|(simp;done))) ?_;refine Z0<|A8<|Zx<|Zg<|Zm Y<|Ya (n:=1) Y Y<|AN Y<|DH (e:=[(21,_)]) (h:=by exact ⟨k+1,_,_,_,_,y++[_],E++J,rfl,⟨by omega,BJ af rfl (by rw [Bt qb,BR];rfl),BJ bf rfl rfl,o8⟩,rfl,rfl⟩)
 have ek:k=(toT (BF rs (t:Int) c) c hi) -(CE (BF rs (t:Int) c) c lo):=by omega
 subst ek;refine Az<|Zt<|Zt<|AU<|BT<|Zo Wh (Pa #[I4 (t:Int),I4 (c:Int),I4 lo,I4 hi,I4 (((BF rs (t:Int) c).length:Nat):Int),I4 (((CE (BF rs (t:Int) c) c lo):Nat):Int),.slice q2 _ c2,.slice q3 _ c3,.slice qt 16 ct] It DM Y) ?_;refine Xe (Xw DM #[I4 (t:Int),I4 (c:Int),I4 lo,I4 hi,I4 (((BF rs (t:Int) c).length:Nat):Int),I4 (((CE (BF rs (t:Int) c) c lo):Nat):Int),.slice q2 _ c2,.slice q3 _ c3,.slice qt 16 ct]) ?_;refine AM Y<|Bo rfl results39 Y Wh (Ai It DM Wn (rfl)) Y (by exact ⟨_,_,_,G,sp,y,J,so,rfl,BJ gm (by rw [CI,D4];omega) rfl,cO,hP,gq,rfl⟩)
end Go.Proofs.YtljkoipiekbijaaGreatDoor
