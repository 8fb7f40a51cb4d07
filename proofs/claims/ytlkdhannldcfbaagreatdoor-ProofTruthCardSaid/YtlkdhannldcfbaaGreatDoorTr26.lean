/- The reference of chapter 2: Sum, Chain, Head. -/
import Derived.Test.YtlkdhannldcfbaaGreatDoorRf2
set_option linter.unusedVariables false
set_option linter.unusedSimpArgs false
namespace Go.Proofs.YtlkdhannldcfbaaGreatDoor
open Go.Proofs.Tryz
open Go Go.RowKit Gw
set_option maxRecDepth 100000
attribute [local irreducible] Gw.At Gw.Nx Gw.Ops
theorem vK(b l cap n:Nat)(h:l<cap)(e:n=64):Value.slice (EF (some ⟨b,0,none⟩) l cap 1) n (cap -l)= .slice (some ⟨b,l,none⟩) 64 (cap -l):=by
 subst e;unfold EF;rw [As A0,L7,Cb,Iv,C6]
theorem jk(l:List UInt32)(i:Nat)(h:i<l.length):((l.take (i+1)).flatMap KJ).map u8v=((l.take i).flatMap KJ).map u8v++[.int .u8 (((l.getD i 0)>>>UInt32.ofNat 24).toUInt8.toNat:Int),.int .u8 (((l.getD i 0)>>>UInt32.ofNat 16).toUInt8.toNat:Int),.int .u8 (((l.getD i 0)>>>UInt32.ofNat 8).toUInt8.toNat:Int),.int .u8 ((l.getD i 0).toUInt8.toNat:Int)]:=by
 have e:l.take (i+1)=l.take i++[l.getD i 0]:=by
  have:=NG (fun x:UInt32=>x) l i 0 h;simpa using this
 rw [e,Ly,Dg];rfl
theorem TC(l:List UInt32):(l.flatMap KJ).length=4*l.length:=by
 induction l with
 |nil=>rfl
 |cons a l ih=>simp only [HF,zq,ih,D3,KJ,KK];omega
theorem H7(l:List UInt8)(hs:l.length<=140737488355000):BC prog 42 #[.string (str l)] [] (.string (str (sha l))):=by
 have p8:=mL;obtain ⟨M,hM⟩:∃M,(Ec l).length=64*M:=⟨(Ec l).length/64,by have:=Sr l;omega⟩;have p9:=OA l
 have pq:JM l.length<64:=by unfold JM;omega
 refine Se func42 ntmps42 [0] ?_;intro u R;refine A1<|A3 Y<|A1<|Ze (Af (vs:=[_,_,_,_,_,_,_,_]) (cs:=[_,_,_,_,_,_,_,_]) G3 CI Wf Y V rfl V rfl V)<|AF fun g0=>A3 Y<|A1<|Zm Y<|Zc [_] Y call97 Y V (jN l hs) ?_;rintro _ _ ⟨_,⟨sp,bf,rfl⟩,rfl⟩;obtain ⟨gp,y,O,zp,rfl,rfl,W,kv,l9,E,o8⟩:=bf.some (by rw [zu];omega);rw [zu]at W E⊢;refine A3 Y<|Zq<|A1<|A3 Y<|AX<|Zb [3,5,4] ?_;refine BB (e0:=[(3,_),(5,_)]) (fun m e H=>∃(k:Nat) (v:A4) (I:List AU),m=M -k/\(k<=M/\Row 164 v ((GM k h0 (Ec l)).list.map CB) I)/\e=[(3,v),(5,I4 ((64*k:Nat):Int))]/\H=[I]) (by exact ⟨0,_,_,V,⟨C2 _,gQ _ g0 (h0.list.map CB) 8 V AK⟩,V,V⟩) Wp ?_;rintro _ _ _ ⟨k,v,I,rfl,⟨hk,cu⟩,rfl,rfl⟩;obtain ⟨gh,J,K,zh,rfl,rfl,U,gq,kz,g,lv⟩:=cu.some (by show 0<8;decide);rw [show(List.map CB (GM k h0 (Ec l)).list).length=8 from rfl]at U⊢;refine Zq<|A1<|Zm Y<|Zm Y<|Zv (AP DS Y)<|Zv (Au Y Y)<|AD<|Ak Y (fun ax=>?_) (fun ax=>?_);·
  refine AB<|Zx<|Zq<|AX<|Zg<|Zm Y<|Zm Y<|Zm Y<|Zm Y<|Ya (n:=64) Y Y ?_
  (refine Ap (Nk DS HN Y Y Y ?_ ?_) ?_;(focus (omega));(focus (omega)))
  rw [vK gp (64*k) y _ A0 A0];refine Zc [_,_] Y call98 Y rfl (YS gh J gp (64*k) (y -64*k) K O _ _ zh zp (GM k h0 (Ec l)) (((Ec l).drop (64*k)).take 64) g (RH (by rw [zu];exact E) k A0) (by rw [zy,C0];omega)) ?_;rintro _ _ ⟨_,⟨sq,bn,rfl⟩,rfl⟩;refine AH Y<|A8<|Zx<|Zg<|Zm Y<|Ya (n:=64) Y Y<|AH Y<|Zn [3,5,4] ?_;refine AZ (e':=[(3,_),(5,_)]) (by exact ⟨k+1,_,_,rfl,⟨by omega,by rw [N8];exact bn⟩,rfl,rfl⟩)
 have ek:M=k:=by omega
 subst ek;refine Aw<|Zt<|Zt<|AQ<|Zx<|A1<|A3 Y<|Zq<|A1<|A3 Y<|AX<|Bl<|Zb [6,7,3] ?_;refine BB (e0:=[(6,_),(7,_)]) (fun m e H=>∃(i:Nat) (v:A4) (I:List AU),m=8 -i/\(i<=8/\Row 5 v ((((GM M h0 (Ec l)).list.take i).flatMap KJ).map u8v) I)/\e=[(6,v),(7,I4 (i:Int))]/\H=[I]) (by exact ⟨0,_,[],V,⟨C2 _,JO _⟩,V,V⟩) Wp ?_;rintro _ _ _ ⟨i,v,I,rfl,⟨hi,G⟩,rfl,rfl⟩;obtain ⟨gv,cv,rfl⟩:=G.form;have pg:((GM M h0 (Ec l)).list.take i).length<=i:=cI ..
 refine Zq<|A1<|Zm Y<|Zv (Au (n:=8) Y Y)<|AD<|Ak Y (fun af=>?_) (fun af=>?_);·
  refine AB<|Zx<|Zq<|AX<|BJ (n:=27) (0::0::0::6::14::30::62::0::0::384::896::1920::3968::0::0::24576::57344::122880::253952::0::0::1572864::3670016::7864320::16777214::33554431::67108863::[]) 50331648 AG AG V<|A2 0 V (AJ Y)<|A2 1 V (AJ Y)<|A2 2 V (AJ Y)<|A2 3 V (BD G3 CI Y Y A0)<|B2 4 V EV Y (hv:=by exact Gz g i A0) ?_;refine A2 5 V (Fv (n:=24) Y Y A0)<|A2 6 V (Gg MT HG Y)<|A2 7 V (AJ Y)<|A2 8 V (AJ Y)<|A2 9 V (BD G3 CI Y Y A0)<|B2 10 V EV Y (hv:=by exact Gz g i A0) ?_;refine A2 11 V (Fv (n:=16) Y Y A0)<|A2 12 V (Gg MT HG Y)<|A2 13 V (AJ Y)<|A2 14 V (AJ Y)<|A2 15 V (BD G3 CI Y Y A0)<|B2 16 V EV Y (hv:=by exact Gz g i A0) ?_;refine A2 17 V (Fv (n:=8) Y Y A0)<|A2 18 V (Gg MT HG Y)<|A2 19 V (AJ Y)<|A2 20 V (AJ Y)<|A2 21 V (BD G3 CI Y Y A0)<|B2 22 V EV Y (hv:=by exact Gz g i A0) ?_;refine A2 23 V (Gg MT HG Y)<|Zz (l:=[24])<|BE [false,false,false,false] [] V rfl (Af (vs:=[_,_,_,_]) (cs:=[_,_,_,_]) DS HN Mz Y V rfl V rfl V) ?_ (fun _ _ h=>h.elim) Ay;rintro _ _ ⟨g4,rfl,rfl⟩;refine BT<|Yw 25 67108863 V (EQ (by_:=1) (news:=[_,_,_,_]) DS (V:Tryz.prog.info? 5=some Tryz.t5) V rfl V rfl Y G Y Wo Wh An V GF AK (by(simp only [zu,TC];omega)) (by(simp only [zu,TC];omega))) ?_;rintro _ _ ⟨sw,X,rfl⟩;obtain ⟨gw,cw,rfl⟩:=X.form;refine A2 26 V (BF Y)<|Ao<|Zn [3,6,7] ?_;refine A8<|Zx<|Zg<|Zm Y<|Ya (n:=1) Y Y<|AH Y<|Zn [6,7,3] ?_;refine AZ (e':=[(6,_),(7,_)]) (by exact ⟨i+1,_,_,rfl,⟨by omega,by rw [jk (GM M h0 (Ec l)).list i (show i<8 by omega)];exact X⟩,rfl,rfl⟩)
 have ei:i=8:=by omega
 subst ei;obtain ⟨go,d9,gm,zo,cO,rfl,o9,gy,l8,Z,mR⟩:=G.some (by rw [zu,TC];show 0<4*8;decide);injection cO with e1 e2 e3
 subst e1 e3;refine Aw<|Zt<|Zt<|AQ<|Zx<|A1<|Zm Y<|Zo Wh (Dh DS HG HE Y (by exact ⟨Z,by simp⟩)) ?_;refine A3 Y<|AA<|AC rfl results42 Y (by exact ⟨by rw [gN l M hM];rfl,rfl⟩)
theorem Qw(h r:List UInt8)(m:h.length+r.length<=140737488354999):BC prog 66 #[.string (str h),.string (str r)] [] (.string (str (Jt h r))):=by
 have y:=BO h;have E:=BO r
 refine Jf func66 V ntmps66 V ?_;intro u R;have g:(⟨#[2]⟩:ByteArray)=str [2]:=rfl
 refine Zb [0,1] ?_;refine A1<|A3 Y<|A1<|Zm Y<|Ap (CY Y Y (by rw [g,BO,BO];simp;omega))<|Zm Y<|Ap (CY Y Y (by rw [g,CZ,BO,BO];simp;omega)) ?_;rw [g,CZ,CZ];refine Xr [_] Y call42 Y V (H7 ([2]++h++r) Lo) ?_;refine A3 Y<|AA<|AC V results66 Y (by exact ⟨by simp [Jt],V⟩)
theorem wP(n:Nat):zz (n:Int)=2*n:=by unfold zz;rw [As A0];omega
theorem jH(n:Nat)(h2:n<=4611686018427387903):BC prog 162 #[I4 (n:Int)] [] (.int .u64 ((zz (n:Int):Nat):Int)):=by
 refine Se func162 ntmps162 [0] ?_;intro u R;refine A1<|A3 Y<|Zq<|A1<|Zm Y<|Zv (Au (n:=0) Y Y)<|AD<|Ak Y (fun g=>by omega)<|fun g=>AB<|Zx<|A1<|Zm Y<|Ap (Jm F0 UP Y A0)<|Ap (Nl (n:=2) Y Y A0)<|A3 Y<|AA<|AC rfl results162 Y (by exact ⟨by rw [wP];congr 1;omega,rfl⟩)
theorem wO(m:Nat)(h:0<m):zz (-(m:Int))=2*m -1:=by unfold zz;rw [B0 A0];omega
def putE(n:Int):Int:=if n< -4611686018427387903 then 10 else 0
theorem nI(m:Nat)(h0:0<m)(h2:m<=4611686018427387903):BC prog 162 #[I4 (-(m:Int))] [] (.int .u64 ((zz (-(m:Int)):Nat):Int)):=by
 refine Se func162 ntmps162 [0] ?_;intro u R;refine A1<|A3 Y<|Zq<|A1<|Zm Y<|Zv (ET Y Y)<|AD<|Ak Y (fun g=>?_) (fun g=>?_);·
  refine A1<|Zm Y<|KY (TA (c:=(m:Int)) Y (by rw [IntKind.wrap_i64];omega)) rfl rfl ?_;refine Ap (Jm F0 UP Y A0)<|Ap (Nl (n:=2) Y Y A0) ?_
  (refine Ap (Nj (n:=1) Y Y ?_ ?_) ?_;(focus (omega));(focus (omega)))
  refine A3 Y<|AA<|Zt<|AC rfl results162 Y (by exact ⟨by rw [wO m h0];congr 1;omega,rfl⟩)
 exfalso;omega
theorem yD(n:Int)(g:-4611686018427387903<=n)(h2:n<=4611686018427387903):BC prog 162 #[I4 n] [] (.int .u64 ((zz n:Nat):Int)):=by
 by_cases h:n<0
 · obtain ⟨m,rfl⟩:∃m:Nat,n=-(m:Int):=⟨n.natAbs,by omega⟩
   exact nI m A0 A0
 · obtain ⟨m,rfl⟩:∃m:Nat,n=(m:Int):=⟨n.natAbs,by omega⟩
   exact jH m A0
theorem YD(n:Int)(h1:-4611686018427387903<=n)(h2:n<=4611686018427387903):BC prog 124 #[I4 n] [] (.tuple #[.string (str (JS n)),I4 0]):=by
 have gm:=mL;have bf:=lY n A0 A0
 have K:=I8 n A0 A0;unfold JS at K;rw [zu]at K;refine Se func124 ntmps124 [0] ?_;intro u R;refine A1<|Za Y<|A3 Y<|Zq<|A1<|Zm Y<|Zv (ET Y Y)<|Zm Y<|Ai (t:=8) Y V (fun W=>by omega)<|fun W=>Zf Y Y<|Yg (EI Y Y)<|Zv (AL Y Y)<|AD<|Ak Y (fun X=>by omega)<|fun X=>AB<|Zx<|A1<|Zm Y<|Xr [_] Y call162 Y V (yD n h1 h2) ?_;refine A3 Y<|A1<|A3 Y<|Zq<|AX<|Bl<|Zb [4,5] ?_;refine BB (e0:=[(4,_),(5,_)]) (fun m e H=>∃(pre:List (Nat×Bool)) (y:Nat) (v:A4) (sv:List AU),m=0+y/\(Mt (zz n)=pre++Mt y/\y<9223372036854775808/\Row 5 v ((pre.map gb).map u8v) sv)/\e=[(4,.int .u64 (y:Int)),(5,v)]/\H=[sv]) (by exact ⟨[],zz n,_,[],V,⟨V,bf,JO _⟩,V,V⟩) Wp ?_;rintro _ _ _ ⟨pre,y,v,sv,rfl,⟨I,hy,E⟩,rfl,rfl⟩;have af:=congrArg List.length I
 rw [zq,Gp y,D3]at af;obtain ⟨gv,cv,rfl⟩:=E.form;refine Zq<|A1<|Zm Y<|Zv (Fw (n:=128) Y Y)<|AD<|Ak Y (fun Z=>?_) (fun Z=>?_);·
  refine AB<|Zx<|AX<|A1<|Zm Y<|Zm Y<|KY (KH (m:=(y:Int)) (n:=128) (c:=((y%128:Nat):Int)) Y Y AK (by rw [kf A0];rfl)) rfl rfl ?_;refine Ap (UN (n:=128) Y Y A0)<|Ap (KX UP HG Y A0)<|Ze (Af (vs:=[_]) (cs:=[_]) DS HN Mz Y V rfl V rfl V)<|AF fun b1=>Ze (EQ (by_:=1) (news:=[_]) DS (V:Tryz.prog.info? 5=some Tryz.t5) V rfl V rfl Y E Y Wo Wh An V GF AK (by(simp only [zu];omega)) (by(simp only [zu];omega))) ?_;rintro _ _ ⟨sq,O,rfl⟩;obtain ⟨gq,cq,rfl⟩:=O.form;refine A3 Y<|Zg<|Zm Y<|KY (Va (m:=(y:Int)) (n:=128) (c:=((y/128:Nat):Int)) Y Y AK (by rw [ke A0,IntKind.wrap_u64];omega)) rfl rfl ?_;refine AH Y<|Zn [4,5] ?_;refine A8<|Zn [4,5] ?_;refine AZ (e':=[(4,_),(5,_)]) (by
   exact ⟨pre++[(y%128,false)],y/128,_,_,rfl,⟨by rw [I,Gp y,As A0,Bm A0];simp,by omega,by
    have g:=dn (y%128,false) (eS _ AK);rw [Dg,Dg,LL,LL,g];exact O⟩,rfl,rfl⟩)
 have J:(Mt (zz n)).map gb=pre.map gb++[gb (y,true)]:=by rw [I,Gp y,B0 A0,CA A0,WD A0];simp
 have g:=dn (y,true) (by show y<128;omega);refine Aw<|Zt<|Zt<|AQ<|Zx<|A1<|Zm Y<|Zm Y<|Ap (KX UP HG Y A0)<|Ze (Af (vs:=[_]) (cs:=[_]) DS HN Mz Y V rfl V rfl V)<|AF fun b3=>Ze (EQ (by_:=1) (news:=[_]) DS (V:Tryz.prog.info? 5=some Tryz.t5) V rfl V rfl Y E Y Wo Wh An V GF AK (by(simp only [zu];omega)) (by(simp only [zu];omega))) ?_;rintro _ _ ⟨sw,G,rfl⟩;obtain ⟨gw,cw,rfl⟩:=G.form;have e9:List.map u8v (List.map gb pre)++[Value.int .u8 (y:Int)]=(JS n).map u8v:=by
  unfold JS;rw [J,Dg,LL,g];rfl
 rw [e9]at G⊢;obtain ⟨g9,c9,bn,z9,ax,rfl,ek,cu,cO,U,d9⟩:=G.some (by rw [zu];exact aK _);rw [ax];refine Zo Wh (Dh DS HG HE Y (by exact ⟨U,by simp⟩)) ?_;refine Za Y<|A3 Y<|AA<|Dv V results124 Y Y (by exact ⟨V,V⟩)
theorem X3(n:Nat)(K:2<=n)(h2:n<=1000000000000):BC prog 122 #[I4 (n:Int)] [] (I4 ((BV n:Nat):Int)):=by
 refine Se func122 ntmps122 [0] ?_;intro u R;refine A1<|A3 Y<|A1<|A3 Y<|Zq<|AX<|Zb [3,0] ?_;refine BB (e0:=[(3,_)]) (fun m e H=>∃(E k:Nat),m=n -k/\(k=2^E/\0<k/\k<n)/\e=[(3,I4 (k:Int))]/\H=[]) (by exact ⟨0,1,V,⟨V,by omega,by omega⟩,V,V⟩) Wp ?_;rintro _ _ _ ⟨E,k,rfl,⟨g,I,G⟩,rfl,rfl⟩;refine Zq<|A1<|Zm Y<|Zm Y<|Zm Y ?_
 (refine Ap (Bo Y Y ?_ ?_) ?_;(focus (first|omega|(simp;omega)));(focus (first|omega|(simp;omega))))
 refine Zv (Au Y Y)<|AD<|Ak Y (fun y=>?_) (fun y=>?_);·
  refine AB<|Zx<|AX<|Zg<|Zm Y<|Ap (Df (m:=2) Y Y (by first|omega|(simp;omega)))<|AH Y<|A8<|Zn [3,0] ?_;refine AZ (e':=[(3,_)]) (by exact ⟨E+1,2*k,rfl,⟨by rw [Wc,g];omega,by omega,by omega⟩,rfl,rfl⟩)
 have J:BV n=k:=by rw [g];exact iE (by rw [<-g];exact G) (by rw [Wc,<-g];omega)
 refine Aw<|Zt<|Zt<|AQ<|Zx<|A1<|Zm Y<|A3 Y<|AA<|AC rfl results122 Y (by exact ⟨by rw [J],rfl⟩)
theorem uG(s:Bs)(g:s.length<=140737488354000):BC prog 121 #[.string (str s)] [] (.string (str (Np s))):=by
 refine Se func121 ntmps121 [0] ?_;intro u R;refine A1<|A3 Y<|A1<|Zm Y<|Ap (CY Y Y (by(rw [BO];show 1+_<=_;omega)))<|Xr [_] Y call42 Y rfl ((CZ [0] s)▸H7 ([0]++s) (by rw [zq];simp;omega)) ?_;refine A3 Y<|AA<|AC V results121 Y (by exact ⟨V,V⟩)
theorem uF(a b:Bs)(g:a.length<=1000000000)(m:b.length<=1000000000):BC prog 123 #[.string (str a),.string (str b)] [] (.string (str (He a b))):=by
 refine Se func123 ntmps123 [0,1] ?_;intro u R;refine A1<|A3 Y<|A1<|Zm Y<|Ap (CY Y Y (by(show 1+_<=_;rw [BO];omega)))<|Zm Y<|Ap (CY Y Y (by(show(str [1]++str a).size+(str b).size<=_;rw [CZ,BO,BO,zq];simp;omega)))<|Xr [_] Y call42 Y rfl ((by have h:=H7 ([1]++a++b) (by rw [zq,zq];simp;omega);rw [<-CZ,<-CZ]at h;exact h:BC prog 42 #[.string (str [1]++str a++str b)] [] (.string (str (sha ([1]++a++b)))))) ?_;refine A3 Y<|AA<|AC V results123 Y (by exact ⟨V,V⟩)
variable{M:List AU}{v:A4}
theorem Oy(n:Nat)(W:∀{M:List AU} {v:A4} {l:List Bs},l.length<n->DK M v l->l.length<=1000000->(∀s∈l,s.length<=140737488354000)->BC prog 58 #[v] [M] (.string (str (Cs l)))){ls:List Bs}(bn:ls.length=n)(hv:DK M v ls)(hn:ls.length<=1000000)(J:∀s∈ls,s.length<=140737488354000):BC prog 58 #[v] [M] (.string (str (Cs ls))):=by
 have cO:=mL;obtain ⟨p,cap,rfl,hl,hg⟩:=id hv;refine Se func58 ntmps58 [0] ?_;intro u R;refine A1<|A3 Y<|Zq<|A1<|Zm Y<|Zv (AP Bk Y)<|Zv (Bb (n:=0) Y Y)<|AD<|Ak Y (fun h0=>?_) (fun h0=>?_);·
  have e1:ls=[]:=Lq h0;refine A1<|Xr [_] Y call42 Y V (H7 [] B3) ?_;refine A3 Y<|AA<|Zt<|AC rfl results58 Y (by exact ⟨by rw [e1,YJ],rfl⟩)
 refine AB<|Zx<|Zq<|A1<|Zm Y<|Zv (AP Bk Y)<|Zv (Bb (n:=1) Y Y)<|AD<|Ak Y (fun Z=>?_) (fun Z=>?_);·
  obtain ⟨x,rfl⟩:∃x,ls=[x]:=by
   match ls,Z with
   |[x],_=>exact ⟨x,rfl⟩
  obtain ⟨g,off,cur,T,zz,rfl,I,y⟩:=hg 0 x rfl;have K:=J x B3
  refine A1<|Zm Y<|Ap (BP (j:=0) Bk CH Y Y CT)<|Ca (cs:=[(g,.cells cur T zz)]) (by simp [I]) (Bj Fm Y (by exact y)) rfl rfl ?_;refine Xr [_] Y call121 Y V (uG x K) ?_;refine A3 Y<|AA<|Zt<|AC rfl results58 Y (by exact ⟨by rw [Kl],rfl⟩)
 have E:2<=ls.length:=by omega
 have G:=FK E;have bf:=En ls.length
 have m:(ls.take (BV ls.length)).length=BV ls.length:=by rw [zy];omega
 obtain ⟨g8,af,X,T8,d9,rfl,cu,ax⟩:=hg 0 _ (zn A0);have U:=hv.take (BV ls.length) A0
 have O:=hv.drop (BV ls.length) G;refine AB<|Zx<|A1<|Zm Y<|Zv (AP Bk Y)<|Xr [_] Y call122 Y V (X3 ls.length E A0) ?_;refine A3 Y<|Zq<|BJ (n:=10) (0::0::3::7::0::0::48::127::255::511::[]) 392 AG AG V<|A2 0 V (AJ Y)<|A2 1 V (AJ Y)<|A2 2 V (Bc Bk CH Y Y A0)<|A2 4 V (AJ Y)<|A2 5 V (AJ Y) ?_
 (refine Bq (D':=119) 6 (FJ Bk CH Y Y ?_ ?_) ?_;(focus (omega));(focus (omega)))
 refine Yw 3 127 rfl (Zu [_] Y call58 Y rfl (W (l:=ls.take (BV ls.length)) (by rw [m];omega) (by exact U) (by rw [m];omega) (fun s h=>J s (HI h))))<|C3<|Yw 7 255 rfl (Zu [_] Y call58 Y rfl (W (l:=ls.drop (BV ls.length)) (by rw [C0];omega) (by exact O) (by rw [C0];omega) (fun s h=>J s (ID h))))<|C3<|Yw 8 511 rfl (Zu [_,_] Y call123 Y rfl (uF _ _ (by rw [Dk];omega) (by rw [Dk];omega)))<|C3<|A2 9 V (BF Y)<|Ao<|Zn [2] ?_;refine Zx<|AA<|AC rfl results58 Y (by exact ⟨by rw [IQ E],rfl⟩)
theorem Oz:∀(n:Nat) {M:List AU} {v:A4} {ls:List Bs},ls.length<=n->DK M v ls->ls.length<=1000000->(∀s∈ls,s.length<=140737488354000)->BC prog 58 #[v] [M] (.string (str (Cs ls)))
 |0,_,_,ls,h,hv,hn,hs=>Oy ls.length (fun E=>absurd E A0) rfl hv hn hs
 |n+1,_,_,ls,h,hv,hn,hs=>Oy ls.length (fun E y g m=>Oz n A0 y g m) rfl hv hn hs
theorem Sc(g off cap:Nat)(cur:AN)(T:AM)(z:Nat×Nat)(ls:List Int)(G:Ic cur off ls)(hn:ls.length<=1073741824)(J:∀n∈ls,-4611686018427387903<=n/\n<=4611686018427387903):
 BC prog 127 #[.slice (some ⟨g,off,none⟩) ls.length cap] [[(g,.cells cur T z)]] (.string (str (CW ls))):=by
 have U:=mL;refine Se func127 ntmps127 [0] ?_;intro u R;refine A1<|A3 Y<|A1<|A3 Y<|Zq<|A1<|A3 Y<|AX<|Zb [3,4,0] ?_;refine BB (e0:=[(3,_),(4,_)]) (fun m e H=>∃(i:Nat),m=ls.length -i/\(i<=ls.length)/\e=[(3,.string (str (CW (ls.take i)))),(4,I4 (i:Int))]/\H=[]) (by exact ⟨0,V,C2 _,V,V⟩) Wp ?_;rintro _ _ _ ⟨i,rfl,hi,rfl,rfl⟩;refine Zq<|A1<|Zm Y<|Zm Y<|Zv (AP Fi Y)<|Zv (Au Y Y)<|AD<|Ak Y (fun E=>?_) (fun E=>?_);·
  obtain ⟨x,hx⟩:∃x,ls[i]?=some x:=⟨_,zn E⟩;have y:=J x (Cd hx)
  have I:ls.take (i+1)=ls.take i++[x]:=by rw [Kx,hx];rfl
  have W:=DT (ls.take i) (fun m O=>J m (HI O));have X:(ls.take i).length<=i:=cI ..
  have K:=I8 x y.1 y.2;refine AB<|Zx<|Zq<|AX<|A1<|Zm Y<|Zm Y<|Ap (BP Fi A5 Y Y A0)<|Zl AE Y (hv:=by exact G i x hx) ?_;refine Xr [_] Y call124 Y V (YD x y.1 y.2) ?_;refine Zm Y<|Zd Y V<|Zd Y V<|Za Y<|AH Y<|Zn [0,3,4,5] ?_;refine Zx<|Zg<|Zm Y<|Zm Y<|Ap (CY Y Y (by rw [BO,BO];omega))<|AH Y<|A8<|Zx<|Zg<|Zm Y<|Ya (n:=1) Y Y<|AH Y<|Zn [3,4,0] ?_;refine AZ (e':=[(3,_),(4,_)]) (by exact ⟨i+1,rfl,by omega,by rw [I,R3,<-CZ],rfl⟩)
 refine Aw<|Zt<|Zt<|AQ<|Zx<|A1<|Zm Y<|A3 Y<|AA<|AC rfl results127 Y (by exact ⟨by rw [HK A0],rfl⟩)
theorem kP(a b c d e:Int):Ic #[I4 a,I4 b,I4 c,I4 d,I4 e] 0 [a,b,c,d,e]:=by
 intro i n h;rcases i with _|_|_|_|_|i
 all_goals first|(simp at h;subst h;rfl)|(simp at h)
variable{r:AY}
theorem nQ(h:r.ok):∀n∈[r.t,r.k,r.v.a,r.v.b,r.v.c],-4611686018427387903<=n/\n<=4611686018427387903:=by
 intro n hn;have g:=(Ou h).1
 have h2:=(Ou h).2;simp only [E4,Mu,N3]at hn g h2;rcases hn with rfl|rfl|rfl|rfl|rfl
 · exact g _ (.inl rfl)
 · exact g _ (.inr rfl)
 · exact h2 _ (.inl rfl)
 · exact h2 _ (.inr (.inl rfl))
 · exact h2 _ (.inr (.inr rfl))
theorem aJ(r:AY):CW [r.t,r.k,r.v.a,r.v.b,r.v.c]=Ep r:=by simp [Ep,CW]
theorem VI(r:AY)(g:r.ok):BC prog 93 #[.agg #[I4 r.t,I4 r.k,I4 r.v.a,I4 r.v.b,I4 r.v.c]] [] (.tuple #[.string (str (Ep r)),I4 0]):=by
 refine Se func93 ntmps93 [0] ?_;intro u R;refine A1<|Ze (Bx #[_,_,_,_,_])<|AF fun m=>Za Y<|A3 Y<|Zq<|A1<|Zo Wh (Pa #[_,_,_,_,_] C7 Ax Y) ?_;refine Xr [_] Y call151 Y V (Ox r) ?_;rw [CA g];refine Zv (Cj Y)<|AD<|Ad Y (fun hv=>by cases hv)<|fun hv=>AB<|Zx<|A1<|Zh 0 Ds V rfl A5 Y<|Zl AE Y ?_;refine Zh 1 Ds V rfl A5 Y<|Zl AE Y ?_;refine Zh 2 Ds V rfl CD Y ?_;refine Ap (BK (j:=0) G1 A5 Y Y CT)<|Zl AE Y ?_;refine Zh 2 Ds V rfl CD Y ?_;refine Ap (BK (j:=1) G1 A5 Y Y CT)<|Zl AE Y ?_;refine Zh 2 Ds V rfl CD Y ?_;refine Ap (BK (j:=2) G1 A5 Y Y CT)<|Zl AE Y ?_;refine Ze (Af (vs:=[_,_,_,_,_]) (cs:=[_,_,_,_,_]) Fi A5 HL Y V rfl V rfl V)<|AF fun gb=>Xr [_] Y call127 Y V (Sc gb 0 5 _ _ _ [r.t,r.k,r.v.a,r.v.b,r.v.c] (kP r.t r.k r.v.a r.v.b r.v.c) B3 (nQ g)) ?_;refine Za Y<|AH Y<|Zn [2,3] ?_;refine Zx<|AA<|Dv rfl results93 Y Y (by exact ⟨by rw [aJ],rfl⟩)
theorem Qz{L:List AY}(hv:Da M v L)(hn:L.length<=1000000)(O:∀r∈L,r.ok):Bz prog 95 #[v] [M] (fun r H'=>∃G,BZ 1 9 r L.length ((Gu L).map Ci) G/\H'=[G,M]):=by
 have ax:=mL;obtain ⟨p,cap,rfl,hl,hg⟩:=hv;refine Se func95 ntmps95 [0] ?_;intro u R;refine A1<|A3 Y<|A1<|A3 Y<|Zq<|A1<|A3 Y<|AX<|Bl<|Zb [3,4,0] ?_;refine BB (e0:=[(3,_),(4,_)]) (fun m e H=>∃(i:Nat) (W:A4) (G:List AU),m=L.length -i/\(i<=L.length/\BZ 1 9 W i ((Gu (L.take i)).map Ci) G)/\e=[(3,W),(4,I4 (i:Int))]/\H=[G]) (by exact ⟨0,.slice none 0 0,[],V,⟨C2 _,Ba 1 _⟩,V,V⟩) Wp ?_;rintro _ _ _ ⟨i,W,G,rfl,⟨hi,y⟩,rfl,rfl⟩;obtain ⟨qe,ce,rfl⟩:=y.form;refine Zq<|A1<|Zm Y<|Zm Y<|Zv (AP B4 Y)<|Zv (Au Y Y)<|AD<|Ak Y (fun J=>?_) (fun J=>?_);·
  obtain ⟨x,hx⟩:∃x,L[i]?=some x:=⟨_,zn J⟩;obtain ⟨g,off,cur,T,zz,rfl,K,X,I⟩:=hg i x hx;have U:=O x (Cd hx)
  refine AB<|Zx<|Zq<|AX<|A1<|Zm Y<|Zm Y<|Ap (AO B4 Ax Y Y A0)<|Ca (cs:=[(g,.cells cur T zz)]) (by simp [K]) (A9 (cs:=#[I4 x.t,I4 x.k,I4 x.v.a,I4 x.v.b,I4 x.v.c]) C7 Ax Y A0 I) V rfl ?_;refine Xr [_] Y call93 Y V (VI x U) ?_;refine Zm Y<|Zd Y V<|Zd Y V<|Za Y<|AH Y<|Zn [0,3,4,5] ?_;refine Zx<|Zg<|Zm Y<|Zm Y<|Ze (Af (vs:=[_]) (cs:=[_]) Bk CH HR Y V rfl V rfl V)<|AF fun b1=>Ze (Db (by_:=16) (sz:=1) (news:=[_]) Bk (V:Tryz.prog.info? 9=some Tryz.t9) V rfl V rfl Y y Y Wo Wh An V GF AK A0 A0) ?_;rintro _ _ ⟨bf,E,rfl⟩;obtain ⟨af,Z,rfl⟩:=E.form;refine AH Y<|A8<|Zx<|Zg<|Zm Y<|Ya (n:=1) Y Y<|AH Y<|Zn [3,4,0] ?_;refine AZ (e':=[(3,_),(4,_)]) (by exact ⟨i+1,_,_,rfl,⟨by omega,BH E rfl (by rw [aI hx])⟩,rfl,rfl⟩)
 have ei:i=L.length:=by omega
 subst ei;rw [G0]at y;refine Aw<|Zt<|Zt<|AQ<|Zx<|A1<|Zm Y<|A3 Y<|AA<|AC V results95 Y (by exact ⟨G,y,V⟩)
theorem VJ(rp:Nat)(p:Int)(w:A4)(rs:List AY)(y:List AU)(g:BZ 5 98 w rs.length (Ac rs) y)(hn:rs.length<=2000)(t:Int)(c:Nat)(hc:c<=3):Bz prog 96 #[I5 rp,I4 t,I4 (c:Int)] [[(rp,.cells #[w,I4 p] 130 (0,0))],y] (fun r H'=>∃m,BZ 5 98 r (BI rs t c).length (Ac (BI rs t c)) m/\H'=[m,[(rp,.cells #[w,I4 p] 130 (0,0))],y]):=by
 refine Se func96 ntmps96 [0,1,2] ?_;intro u R;refine A1<|A3 Y<|A1<|Zm Y<|Zm Y<|Zm Y<|Zc [_,_,_,_,_] Y call152 Y V (ni rp p w rs y t c (-1000000000) 1000000000 g hn hc) ?_;rintro _ _ ⟨_,⟨m,E,rfl⟩,rfl⟩;refine A3 Y<|AA<|AC V results96 Y (by exact ⟨m,E,V⟩)
variable{rs:List AY}{c t:Nat}
theorem mY(g:t<4)(hc:c<4):(Im rs).take (4*t+c+1)=(Im rs).take (4*t+c)++[WZ rs (t,c)]:=by
 refine C8 ?_;unfold Im;rw [FG,Ut t g c hc];rfl
theorem YX(rp:Nat)(p:Int)(w:A4)(rs:List AY)(X:List AU)(U:BZ 5 98 w rs.length (Ac rs) X)(hn:rs.length<=2000)(hs:BL rs)(K:∀r∈rs,r.ok):Bz prog 59 #[I5 rp] [[(rp,.cells #[w,I4 p] 130 (0,0))],X] (fun r H'=>∃G,BZ 1 9 r 16 ((Im rs).map Ci) G/\H'=[G,[(rp,.cells #[w,I4 p] 130 (0,0))],X]):=by
 have cO:=mL;refine Se func59 ntmps59 [0] ?_;intro u R;refine A1<|A3 Y<|A1<|A3 Y<|Zq<|A1<|A3 Y<|AX<|Bl<|Zb [3,4,0] ?_;refine BB (e0:=[(3,_),(4,_)]) (fun m e H=>∃(t:Nat) (Z:A4) (G:List AU),m=4 -t/\(t<=4/\BZ 1 9 Z (4*t) (((Im rs).take (4*t)).map Ci) G)/\e=[(3,Z),(4,I4 (t:Int))]/\H=[G]) (by exact ⟨0,.slice none 0 0,[],V,⟨by omega,Ba 1 _⟩,V,V⟩) Wp ?_;rintro _ _ _ ⟨t,Z,G,rfl,⟨ht,O⟩,rfl,rfl⟩;refine Zq<|A1<|Zm Y<|Zv (Au (n:=4) Y Y)<|AD<|Ak Y (fun W=>?_) (fun W=>?_);·
  refine AB<|Zx<|Zq<|AX<|A1<|A3 Y<|AX<|Zb [3,5,0,4] ?_;refine BB (e0:=[(3,_),(5,_)]) (fun m e H=>∃(c:Nat) (I:A4) (y:List AU),m=4 -c/\(c<=4/\BZ 1 9 I (4*t+c) (((Im rs).take (4*t+c)).map Ci) y)/\e=[(3,I),(5,I4 (c:Int))]/\H=[y]) (by exact ⟨0,Z,G,V,⟨by omega,O⟩,V,V⟩) Wp ?_;rintro _ _ _ ⟨c,I,y,rfl,⟨hc,g⟩,rfl,rfl⟩;obtain ⟨qo,co,rfl⟩:=g.form;refine Zq<|A1<|Zm Y<|Zv (Au (n:=4) Y Y)<|AD<|Ak Y (fun J=>?_) (fun J=>?_);·
   have d9:=Fh hs (t:Int) c;refine AB<|Zx<|Zq<|AX<|A1<|Zm Y<|Zm Y<|Zm Y<|Zc [_,_,_] Y call96 Y V (VJ rp p w rs X U hn (t:Int) c A0) ?_;rintro _ _ ⟨_,⟨sx,hx,rfl⟩,rfl⟩;have ax:=D6 hx A0
   refine Zc [_] Y call95 Y V (Qz ax A0 (fun r h=>K r (GV h))) ?_;rintro _ _ ⟨_,⟨se,he,rfl⟩,rfl⟩;obtain ⟨qe,ce,rfl⟩:=he.form;have af:DK se (.slice qe (BI rs (t:Int) c).length ce) (Gu (BI rs (t:Int) c)):=Eu (BH he (EJ _).symm rfl) (by rw [EJ];omega)
   have cu:=I8 ((BI rs (t:Int) c).length:Int) A0 A0;refine A3 Y<|A1<|Zm Y<|Zv (AP Bk Y)<|Xr [_] Y call124 Y V (YD _ A0 A0) ?_;refine Zm Y<|Zd Y V<|Zd Y V<|Za Y<|AH Y<|Zn [0,3,4,5,6,7] ?_;refine Zx<|Zg<|Zm Y<|Zm Y<|Zm Y<|Xr [_] Y call58 Y rfl (Oz _ (B8 _) af (by rw [EJ];omega) (fun s h=>by have:=PX (fun r hr=>K r (GV hr)) s h;omega)) ?_;refine Ap (CY Y Y (by rw [BO,BO,Dk];omega))<|Ze (Af (vs:=[_]) (cs:=[_]) Bk CH HR Y rfl rfl rfl rfl rfl)<|AF fun b1=>Ze (Db (by_:=16) (sz:=1) (news:=[_]) Bk (V:Tryz.prog.info? 9=some Tryz.t9) V rfl V rfl Y g Y Wo Wh An V GF AK A0 A0) ?_;rintro _ _ ⟨ek,E,rfl⟩;obtain ⟨bn,bf,rfl⟩:=E.form;refine AH Y<|A8<|Zx<|Zg<|Zm Y<|Ya (n:=1) Y Y<|AH Y<|Zn [3,5,0,4] ?_;refine AZ (e':=[(3,_),(5,_)]) (by exact ⟨c+1,_,_,rfl,⟨by omega,BH E rfl (by rw [<-SU,mY W J,Dg];unfold WZ;rw [LL];unfold Ci;rw [<-CZ])⟩,rfl,rfl⟩)
  refine Aw<|Zt<|Zt<|AQ<|A8<|Zx<|Zg<|Zm Y<|Ya (n:=1) Y Y<|AH Y<|Zn [3,4,0] ?_;refine AZ (e':=[(3,_),(4,_)]) (by exact ⟨t+1,_,y,V,⟨by omega,by have e4:c=4:=A0;subst e4;exact g⟩,V,V⟩)
 have e4:t=4:=by omega
 subst e4;refine Aw<|Zt<|Zt<|AQ<|Zx<|A1<|Zm Y<|A3 Y<|AA<|AC rfl results59 Y (by exact ⟨G,BH O rfl (by rw [HK (by rw [FO];omega)]),rfl⟩)
theorem Km(rp:Nat)(p:Int)(w:A4)(rs:List AY)(G:List AU)(g:BZ 5 98 w rs.length (Ac rs) G)(hn:rs.length<=2000)(I:BL rs)(E:∀r∈rs,r.ok):BC prog 25 #[I5 rp] [[(rp,.cells #[w,I4 p] 130 (0,0))],G] (.string (str (E8 rs))):=by
 have J:=mL;refine Se func25 ntmps25 [0] ?_;intro u R;refine A1<|A3 Y<|A1<|Zm Y<|Zc [_] Y call59 Y V (YX rp p w rs G g hn I E) ?_;rintro _ _ ⟨_,⟨K,m,rfl⟩,rfl⟩;have y:=Eu (BH m (FO rs).symm rfl) (by rw [FO];omega)
 obtain ⟨qt,ct,rfl⟩:=m.form;refine Xr [_] Y call58 Y rfl (Oz _ (B8 _) y (by rw [FO];omega) (fun s h=>by obtain ⟨x,_,rfl⟩:=GB.1 h;have:=MS I hn x;omega)) ?_;refine A3 Y<|AA<|AC V results25 Y (by exact ⟨V,V⟩)
theorem Si(a b:List Int):CW (a++b)=CW a++CW b:=by unfold CW;rw [Ly]
theorem xu{c:Chg}(h:c.ok)(g:c.had=true):∀n∈[c.o.a,c.o.b,c.o.c],-4611686018427387903<=n/\n<=4611686018427387903:=fun n hn=>(PZ h).2.1 n (by
 unfold vs2;split;· rw [Ul g];exact E3 _ hn
 · rw [Ul g];exact hn)
theorem xw{c:Chg}(h:c.ok)(g:c.has=true):∀n∈[c.n.a,c.n.b,c.n.c],-4611686018427387903<=n/\n<=4611686018427387903:=fun n hn=>(PZ h).2.1 n (by rw [Uk g];exact DA _ hn)
set_option maxHeartbeats 1000000 in
theorem VH(p:Int)(q:B7)(cap:Nat)(cs:List Chg)(M:List AU)(hO:Dq M (.slice q cs.length cap) cs)(G:E9 p cs):BC prog 65 #[.agg #[I4 p,.slice q cs.length cap]] [M] (.tuple #[.string (str (Er p cs)),I4 0]):=by
 have gm:=mL;obtain ⟨p9,Z,e9,kz,hg⟩:=id hO;injection e9 with e91 e92 e93
 subst e91 e93;have O:=PR G
 have af:=G.len;refine Se func65 ntmps65 [0] ?_;intro u R;refine A1<|Ze (Bx #[_,_])<|AF fun b1=>Za Y<|A3 Y<|Zq<|A1<|Zo Wh (Pa #[_,_] HX E6 Y) ?_;refine Xr [_] Y call60 Y V (QD p q cap cs M hO) ?_;rw [CA G];refine Zv (Cj Y)<|AD<|Ad Y (fun hv=>by cases hv)<|fun hv=>AB<|Zx<|A1<|Zh 0 Ft V rfl A5 Y<|Zl AE Y ?_;refine Zh 1 Ft V rfl Hx Y<|Zl J1 Y ?_;refine Zv (AP Fk Y)<|Ze (Af (vs:=[_,_]) (cs:=[_,_]) Fi A5 HL Y V rfl V rfl V)<|AF fun gb=>Xr [_] Y call127 Y V (Sc gb 0 2 _ _ _ [p,(cs.length:Int)] (LH [p,(cs.length:Int)]) B3 O) ?_;refine AH Y<|Zn [1,4] ?_;refine Zx<|Zq<|A1<|A3 Y<|AX<|Zb [4,5,1] ?_;refine BB (e0:=[(4,_),(5,_)]) (fun m e H=>∃(i:Nat),m=cs.length -i/\(i<=cs.length)/\e=[(4,.string (str ((CW [p,(cs.length:Int)]++(cs.take i).flatMap LQ)))),(5,I4 (i:Int))]/\H=[]) (by exact ⟨0,rfl,C2 _,by rw [Hj,fh,H3];rfl,rfl⟩) Wp ?_;rintro _ _ _ ⟨i,rfl,hi,rfl,rfl⟩;refine Zq<|A1<|Zm Y<|Zh 1 Ft V rfl Hx Y<|Zl J1 Y ?_;refine Zv (AP Fk Y)<|Zv (Au Y Y)<|AD<|Ak Y (fun J=>?_) (fun J=>?_);·
  obtain ⟨x,hx⟩:∃x,cs[i]?=some x:=⟨_,zn J⟩;obtain ⟨g,off,cur,T,zz,rfl,hm,l8,W⟩:=hg i x hx;have I:=G.all i x hx
  obtain ⟨K,X,gy,kv⟩:=PZ I;have ax:=DT _ K
  have bf:=DT _ X;have l9:=Vy G i
  have cu:=eF x;have bn:(CW (vs1 x)).length<=(CW (vs2 x)).length:=by unfold vs2;split;rw [Si,zq];omega;omega
  have cO:[x.t,x.k,fl2 x].length=3:=rfl;refine AB<|Zx<|Zq<|AX<|A1<|Zh 1 Ft V rfl Hx Y<|Zl J1 Y ?_;refine Zm Y<|Ap (AO Fk C5 Y Y CT)<|Ca (cs:=[(g,.cells cur T zz)]) (by simp [hm]) (A9 (cs:=#[I4 x.t,I4 x.k,.bool x.had,I4 x.o.a,I4 x.o.b,I4 x.o.c,.bool x.has,I4 x.n.a,I4 x.n.b,I4 x.n.c]) GC C5 Y A0 W) rfl rfl ?_;refine Ze (Al K1 #[_,_,_,_,_,_,_,_,_,_])<|AF fun cb=>Xe (Xw C5 #[I4 x.t,I4 x.k,.bool x.had,I4 x.o.a,I4 x.o.b,I4 x.o.c,.bool x.has,I4 x.n.a,I4 x.n.b,I4 x.n.c]) ?_;refine AD<|A1<|AH Y<|Zn [1,4,5,6,7] ?_;refine Zx<|Zb [7,1,4,5,6] ?_;refine CL (e0:=[(7,_)]) (H0:=[]) (fun e H=>(True)/\e=[(7,I4 (fl1 x))]/\H=[]) Wp ?hx_2 ?hy_2
  case hx_2=>
   refine A1<|Zh 2 B9 V rfl Cl Y<|Zl DH Y ?_;refine AD<|Ad Y (fun y=>?_) (fun y=>?_);·
    refine Zg<|AH Y<|Zn [7,1,4,5,6] ?_;refine Aq (e':=[(7,_)]) (by exact ⟨trivial,by first|rw [qX y]|rw [qY y],rfl⟩)
   refine AB<|Zn [7,1,4,5,6] ?_;refine Aq (e':=[(7,_)]) (by exact ⟨trivial,by first|rw [qX y]|rw [qY y],rfl⟩)
  rintro _ _ ⟨_,rfl,rfl⟩;refine Zb [7,1,4,5,6] ?_;refine CL (e0:=[(7,_)]) (H0:=[]) (fun e H=>(True)/\e=[(7,I4 (fl2 x))]/\H=[]) Wp ?hx_5 ?hy_5
  case hx_5=>
   refine A1<|Zh 6 B9 V rfl Cl Y<|Zl DH Y ?_;refine AD<|Ad Y (fun E=>?_) (fun E=>?_);·
    refine Zg<|Zm Y<|Yi Y Y<|AH Y<|Zn [7,1,4,5,6] ?_;refine Aq (e':=[(7,_)]) (by exact ⟨trivial,by first|rw [qV E]|rw [qW E],rfl⟩)
   refine AB<|Zn [7,1,4,5,6] ?_;refine Aq (e':=[(7,_)]) (by exact ⟨trivial,by first|rw [qV E]|rw [qW E],rfl⟩)
  rintro _ _ ⟨_,rfl,rfl⟩;refine Zb [4,7,1,5,6] ?_;refine CL (e0:=[(4,_),(7,_)]) (H0:=[]) (fun e H=>(True)/\e=[(4,.string (str ((CW [p,(cs.length:Int)]++(cs.take i).flatMap LQ)++CW [x.t,x.k,fl2 x])))]/\H=[]) Wp ?hx_8 ?hy_8
  case hx_8=>
   refine Zg<|Zm Y<|Zh 0 B9 V rfl A5 Y<|Zl AE Y ?_;refine Zh 1 B9 V rfl A5 Y<|Zl AE Y ?_;refine Zm Y<|Ze (Af (vs:=[_,_,_]) (cs:=[_,_,_]) Fi A5 HL Y V rfl V rfl V)<|AF fun gp=>Xr [_] Y call127 Y V (Sc gp 0 3 _ _ _ [x.t,x.k,fl2 x] (LH [x.t,x.k,fl2 x]) B3 K) ?_;refine Ap (CY Y Y (by rw [BO,BO];omega))<|AH Y<|Zn [4,1,5,6] ?_;refine Aq (e':=[(4,_)]) (by exact ⟨trivial,by rw [CZ],rfl⟩)
  rintro _ _ ⟨_,rfl,rfl⟩;have d9:((CW [p,(cs.length:Int)]++(cs.take i).flatMap LQ)++CW [x.t,x.k,fl2 x]).length=_:=zq
  refine Zb [4,1,5,6] ?_;refine CL (e0:=[(4,_)]) (H0:=[]) (fun e H=>(True)/\e=[(4,.string (str ((CW [p,(cs.length:Int)]++(cs.take i).flatMap LQ)++CW [x.t,x.k,fl2 x]++CW (vs1 x))))]/\H=[]) Wp ?hx_10 ?hy_10
  case hx_10=>
   refine A1<|Zh 2 B9 V rfl Cl Y<|Zl DH Y ?_;refine AD<|Ad Y (fun y=>?_) (fun y=>?_);·
    refine Zg<|Zm Y<|Zh 3 B9 V rfl CD Y ?_;refine Ap (BK (j:=0) G1 A5 Y Y CT)<|Zl AE Y ?_;refine Zh 3 B9 V rfl CD Y ?_;refine Ap (BK (j:=1) G1 A5 Y Y CT)<|Zl AE Y ?_;refine Zh 3 B9 V rfl CD Y ?_;refine Ap (BK (j:=2) G1 A5 Y Y CT)<|Zl AE Y ?_;refine Ze (Af (vs:=[_,_,_]) (cs:=[_,_,_]) Fi A5 HL Y V rfl V rfl V)<|AF fun gq=>Xr [_] Y call127 Y V (Sc gq 0 3 _ _ _ [x.o.a,x.o.b,x.o.c] (LH [x.o.a,x.o.b,x.o.c]) B3 (xu I y)) ?_;refine Ap (CY Y Y (by(have U:=DT _ (xu I y);simp only [D3,KK]at U;rw [BO,BO];omega)))<|AH Y<|Zn [4,1,5,6] ?_;refine Aq (e':=[(4,_)]) (by exact ⟨trivial,by(rw [Ul y,CZ];done),V⟩)
   refine AB<|Zn [4,1,5,6] ?_;refine Aq (e':=[(4,_)]) (by exact ⟨trivial,by(rw [mD y];simp [CW];done),V⟩)
  rintro _ _ ⟨_,rfl,rfl⟩;have ek:((CW [p,(cs.length:Int)]++(cs.take i).flatMap LQ)++CW [x.t,x.k,fl2 x]++CW (vs1 x)).length=_:=zq
  refine A1<|Zh 6 B9 V rfl Cl Y<|Zl DH Y ?_;refine AD<|Ad Y (fun E=>?_) (fun E=>?_);·
   refine Zg<|Zm Y<|Zh 7 B9 V rfl CD Y ?_;refine Ap (BK (j:=0) G1 A5 Y Y CT)<|Zl AE Y ?_;refine Zh 7 B9 V rfl CD Y ?_;refine Ap (BK (j:=1) G1 A5 Y Y CT)<|Zl AE Y ?_;refine Zh 7 B9 V rfl CD Y ?_;refine Ap (BK (j:=2) G1 A5 Y Y CT)<|Zl AE Y ?_;refine Ze (Af (vs:=[_,_,_]) (cs:=[_,_,_]) Fi A5 HL Y V rfl V rfl V)<|AF fun gr=>Xr [_] Y call127 Y V (Sc gr 0 3 _ _ _ [x.n.a,x.n.b,x.n.c] (LH [x.n.a,x.n.b,x.n.c]) B3 (xw I E)) ?_;refine Ap (CY Y Y (by(have U:=DT _ (xw I E);simp only [D3,KK]at U;rw [BO,BO];omega)))<|AH Y<|Zn [1,4,5] ?_;refine A8<|Zx<|Zg<|Zm Y<|Ya (n:=1) Y Y<|AH Y<|Zn [4,5,1] ?_;refine AZ (e':=[(4,_),(5,_)]) (by exact ⟨i+1,rfl,by omega,by rw [Tv _ hx,Uk E,Si,CZ];simp only [D2],rfl⟩)
  refine AB<|A8<|Zx<|Zg<|Zm Y<|Ya (n:=1) Y Y<|AH Y<|Zn [4,5,1] ?_;refine AZ (e':=[(4,_),(5,_)]) (by exact ⟨i+1,rfl,by omega,by rw [Tv _ hx,Xu E];simp only [D2],rfl⟩)
 refine Aw<|Zt<|Zt<|AQ<|Zx<|A1<|Zm Y<|Za Y<|A3 Y<|AA<|Dv rfl results65 Y Y (by exact ⟨by rw [HK A0];rfl,rfl⟩)
theorem ng(h:Ct)(E:h.ok):BC prog 64 #[.agg #[I4 h.p,.string (str h.ch),.string (str h.st)]] [] (.bool true):=by
 obtain ⟨⟨I,h2⟩,J,K⟩:=E;refine Se func64 ntmps64 [0] ?_;intro u R;refine A1<|Ze (Bx #[_,_,_])<|AF fun G=>A3 Y<|A1<|Zh 0 HD V rfl A5 Y<|Zl AE Y ?_;refine Zv (I1 Y Y)<|Zm Y<|Ai (t:=6) Y V (fun g=>?_) (fun g=>?_);·
  refine Yf 0 HD V rfl A5 Y<|Yl AE Y ?_;refine Yg (KI Y Y)<|Zv (AR Y Y)<|Zm Y<|Ai (t:=11) Y V (fun m=>?_) (fun m=>?_);·
   refine Yf 1 HD V rfl CH Y<|Yl Fm Y ?_;refine Yg (Ev HE Y)<|Yg (Bb (n:=32) Y Y)<|Zv (AR Y Y)<|Zm Y<|Ai (t:=17) Y V (fun y=>?_) (fun y=>?_);·
    refine Yf 2 HD V rfl CH Y<|Yl Fm Y ?_;refine Yg (Ev HE Y)<|Yg (Bb (n:=32) Y Y)<|Zv (AR Y Y)<|AH Y<|Zn [2] ?_;refine Zx<|AA<|AC rfl results64 Y (by exact ⟨congrArg Value.bool (CA (by rw [BO];omega)),rfl⟩)
   exfalso;first|omega|(rw [BO]at y;omega)
  exfalso;first|omega|(rw [BO]at m;omega)
 exfalso;first|omega|(rw [BO]at g;omega)
theorem uE(h:Ct)(r:Bg)(st:List UInt8)(I:Dq M (.slice r.q r.cs.length r.cap) r.cs)(hn:GQ h r st):BC prog 27 #[.agg #[I4 h.p,.string (str h.ch),.string (str h.st)],.agg #[I4 r.p,.slice r.q r.cs.length r.cap],.string (str st)] [M] (.tuple #[.agg #[I4 (Gi h r st).p,.string (str (Gi h r st).ch),.string (str (Gi h r st).st)],I4 0]):=by
 have X:=mL;obtain ⟨g,m,Z,hp⟩:=id hn;have O:=m.1
 have U:=m.2.1;have W:=M7 g
 have J:=g.len;refine Se func27 ntmps27 [0,1,2] ?_;intro u R;refine A1<|Ze (Bx #[_,_,_])<|AF fun b1=>Ze (Bx #[_,_])<|AF fun b2=>Ze (Al J0 #[_,_,_])<|AF fun b3=>A3 Y<|Zq<|A1<|Zo Wh (A9 (cs:=#[_,_,_]) HC DG Y Wb (by exact BA V)) ?_;refine Xr [_] Y call64 Y V (ng h m) ?_;refine Zv (Cj Y)<|Zm Y<|Ah (t:=13) Y V (fun y=>by cases y)<|fun y=>DF Y Wh (A9 (cs:=#[_,_]) HX E6 Y Wb (by exact BA V)) V rfl ?_;refine Xr [_] Y call60 Y V (QD r.p r.q r.cap r.cs M I) ?_;rw [CA g];refine Yg (Cj Y)<|Zv (AL Y Y)<|Zm Y<|Ah (t:=18) Y V (fun E=>by cases E)<|fun E=>Yf 0 Ft V rfl A5 Y<|Yl AE Y ?_;refine Yf 0 HD V rfl A5 Y<|Yl AE Y ?_
 (refine DV Y (EU Y Y (IntWalk.i64_in _ ?_)) rfl rfl ?_;(focus (omega)))
 refine Yg (IC Y Y)<|Zv (AL Y Y)<|Zm Y<|Ai (t:=26) Y V (fun K=>by omega)<|fun K=>Zf Y Y<|Yg (Ev HE Y)<|Yg (E5 (n:=32) Y Y)<|Zv (AL Y Y)<|Z0<|Zn [2,3,4,6,30] ?_;refine Zx<|Ak Y (fun G=>?_) (fun G=>?_);·
  exfalso;rw [BO]at G;omega
 refine AB<|Zx<|A1<|Zo Wh (A9 (cs:=#[_,_]) HX E6 Y Wb (by exact BA V)) ?_;refine Xr [_] Y call65 Y V (VH r.p r.q r.cap r.cs M I g) ?_;refine Zm Y<|Zd Y V<|Zd Y V<|Za Y<|A3 Y<|Zq<|BJ (n:=10) (0::1::0::4::0::28::0::127::255::511::[]) 288 AG AG V<|A2 0 V (AV (off:=0) Ft V rfl A5 Y)<|B2 1 V AE Y ?_;refine A2 2 V (AV (off:=1) HD V rfl CH Y)<|B2 3 V Fm Y ?_;refine A2 4 V (AJ Y)<|A2 6 V (AJ Y)<|Zz (l:=[5])<|BE [false,true] [(1,(_,_))] V rfl (Zu [_,_] Y call66 Y V (Qw h.ch (Er r.p r.cs) A0)) ?_ (fun _ _ h=>h.elim) Ay;rintro _ _ ⟨rfl,rfl⟩;refine BT<|A2 7 rfl (BQ (vs:=[(0,_),(1,_),(2,_)]) (cs:=#[_,_,_]) Y (Aa (pl:=#[(0,1),(1,1),(2,1)]) J0 HD (fun _=>by kernel_rfl) rfl))<|Yw 8 511 rfl (BN DG Y Y (by(simp [Value.oneCell',Value.cells];done)) Wu (by exact DD rfl) Ek Wb (by exact BU _))<|C3<|A2 9 V (BF Y)<|Ao<|Zn [6,7] ?_;refine Zx<|AA<|CJ V results27 Y Wh (Ar HC DG Wn (BA V)) Y (by exact ⟨V,V⟩)
def Dr(l:List Bg):Nat->Ct
 |0=>⟨0,DL,E8 []⟩
 |i+1=>match l[i]?with
  |some r=>Gi (Dr l i) r (E8 (Bd (l.take (i+1))))
  |none=>Dr l i
def Ms(l:List Bg)(n:Nat):List Ct:=(List.range n).map (Dr l)
theorem ZK(l:List Bg)(n:Nat):Ms l (n+1)=Ms l n++[Dr l n]:=by unfold Ms;rw [cQ,Dg];rfl
variable{l:List Bg}{i:Nat}
theorem Lv{r:Bg}(g:l[i]?=some r):Dr l (i+1)=Gi (Dr l i) r (E8 (Bd (l.take (i+1)))):=by
 rw [Dr,g]
theorem QA(rs:List AY):(E8 rs).length=32:=Dk _
theorem Hg(h r:Bs):(Jt h r).length=32:=Es _
theorem Fj(m:DN l)(E:l.length<=9000):∀i,i<=l.length->(Dr l i).ok/\(Dr l i).p=(i:Int)/\(Dr l i).st=E8 (Bd (l.take i))
 |0,_=>⟨⟨⟨by show(0:Int)<=0;decide,by show(0:Int)<=10000;decide⟩,List.length_replicate,QA _⟩,rfl,by rw [Hj];rfl⟩
 |i+1,hi=>by
  obtain ⟨r,g⟩:∃r,l[i]?=some r:=⟨_,zn A0⟩;have y:r.p=(i:Int)+1:=(m i r g).1.pos
  rw [Lv g];exact ⟨⟨⟨by show 0<=r.p;omega,by show r.p<=10000;omega⟩,Hg _ _,QA _⟩,by show r.p=_;rw [y];rfl,rfl⟩
theorem oq(y:DN l)(I:l.length<=9000){r:Bg}(E:l[i]?=some r){st:Bs}(g:st.length=32):GQ (Dr l i) r st:=by
 have hi:=(zt.1 E).1;obtain ⟨G,h2,_⟩:=Fj y I i A0;have m:=(y i r E).1
 exact ⟨m.ok,G,g,by rw [h2];exact m.pos⟩
set_option maxHeartbeats 2000000 in
theorem QE{lv:A4}(hl:Cw M lv l)(I:DN l)(kv:l.length<=9000):Bz prog 8 #[lv] [M] (fun w H'=>∃sh,BZ 3 48 w (l.length+1) (IX (Ms l (l.length+1))) sh/\H'=[sh,M]):=by
 have pg:=mL;obtain ⟨pl,cl,rfl,⟨p8,p9⟩,hg⟩:=id hl;refine Se func8 ntmps8 [0] ?_;intro u R;refine A1<|A3 Y<|A1<|Zc [] Y call24 Y V (bX) ?_;rintro _ _ ⟨_,⟨sp,rfl,rfl⟩,rfl⟩;refine A3 Y<|Bl<|Zb [0,3] ?_;refine CL (e0:=[]) (H0:=[[(sp,.cells #[.slice none 0 0,I4 0] 130 (0,0))],[]]) (fun e H=>∃(E:Nat),(True)/\e=[(4,I5 E)]/\H=[[(sp,.cells #[.slice none 0 0,I4 0] 130 (0,0))],[],[(E,.cells #[I4 (⟨0,DL,E8 []⟩:Ct).p,.string (str (⟨0,DL,E8 []⟩:Ct).ch),.string (str (⟨0,DL,E8 []⟩:Ct).st)] 48 (0,0))]]) Wp ?hx_1 ?hy_1
 case hx_1=>
  refine BJ (n:=7) (0::1::0::4::15::0::63::[]) 105 AG AG V<|A2 2 V (AJ Y)<|Zz (l:=[0,3,5])<|BE [] [] V rfl (Gy (by_:=1) (l:=32) (c:=32) DS (V:Tryz.prog.info? 5=some Tryz.t5) V rfl V rfl Y Y ?_ ?_ ?_) ?hk_2 (fun _ _ h=>h.elim) ?hl_2
  (focus (decide))
  (focus (decide))
  (focus (decide))
  case hk_2=>
   rintro _ _ ⟨mk,rfl,rfl⟩;refine BT<|Fc 1 V Wh (Dh DS HG HE Y (by exact (show(_=List.map u8v DL)/\DL.length=_ from⟨V,V⟩))) ?_;refine Zz (l:=[3,5])<|BE [true] [(1,(_,_))] V rfl (Zu [_] Y call25 Y V (Km sp 0 (.slice none 0 0) [] [] (Ba 5 _) AK .nil B3)) ?_ (fun _ _ h=>h.elim) ?_;·
    rintro _ _ ⟨rfl,rfl⟩;refine BT<|A2 4 V (BQ (vs:=[(1,.string (str DL)),(2,.string (str (E8 [])))]) (cs:=#[I4 0,.string (str DL),.string (str (E8 []))]) Y (Aa (pl:=#[(0,1),(1,1),(2,1)]) J0 HD (fun _=>by kernel_rfl) AG))<|Yz 5 0 63 [1] [true] [(1,(_,_))] V Y V rfl V rfl (Al J0 #[_,_,_])<|AF fun E=>BT<|Yw 6 127 V (Xw DG #[I4 0,.string (str DL),.string (str (E8 []))])<|C3<|Ao<|Zn [4,0,3] ?_;refine Aq (e':=[(4,_)]) (by exact ⟨E,trivial,V,V⟩)
   refine BE [true] [(1,(_,_))] V rfl (Al J0 #[_,_,_]) ?_ (fun _ _ h=>h.elim) Ay;rintro _ _ ⟨E,rfl,rfl⟩;refine BT<|Yz 3 4 47 [1] [true] [(1,(_,_))] V Y V rfl V rfl (Zu [_] Y call25 Y V (Km sp 0 (.slice none 0 0) [] [] (Ba 5 _) AK .nil B3))<|C3<|BT<|A2 4 V (BQ (vs:=[(1,.string (str DL)),(2,.string (str (E8 [])))]) (cs:=#[I4 0,.string (str DL),.string (str (E8 []))]) Y (Aa (pl:=#[(0,1),(1,1),(2,1)]) J0 HD (fun _=>by kernel_rfl) AG))<|Yw 6 127 V (Xw DG #[I4 0,.string (str DL),.string (str (E8 []))])<|C3<|Ao<|Zn [4,0,3] ?_;refine Aq (e':=[(4,_)]) (by exact ⟨E,trivial,V,V⟩)
  refine BE [] [] V rfl (Zu [_] Y call25 Y V (Km sp 0 (.slice none 0 0) [] [] (Ba 5 _) AK .nil B3)) ?_ (fun _ _ h=>h.elim) ?_;·
   rintro _ _ ⟨rfl,rfl⟩;refine BT<|Zz (l:=[0,5])<|BE [] [] V rfl (Gy (by_:=1) (l:=32) (c:=32) DS (V:Tryz.prog.info? 5=some Tryz.t5) V rfl V rfl Y Y ?_ ?_ ?_) ?hk_12 (fun _ _ h=>h.elim) ?hl_12
   (focus (decide))
   (focus (decide))
   (focus (decide))
   case hk_12=>
    rintro _ _ ⟨mk,rfl,rfl⟩;refine BT<|Fc 1 V Wh (Dh DS HG HE Y (by exact (show(_=List.map u8v DL)/\DL.length=_ from⟨V,V⟩))) ?_;refine A2 4 V (BQ (vs:=[(1,.string (str DL)),(2,.string (str (E8 [])))]) (cs:=#[I4 0,.string (str DL),.string (str (E8 []))]) Y (Aa (pl:=#[(0,1),(1,1),(2,1)]) J0 HD (fun _=>by kernel_rfl) AG))<|Yz 5 0 63 [1] [true] [(1,(_,_))] V Y V rfl V rfl (Al J0 #[_,_,_])<|AF fun E=>BT<|Yw 6 127 V (Xw DG #[I4 0,.string (str DL),.string (str (E8 []))])<|C3<|Ao<|Zn [4,0,3] ?_;refine Aq (e':=[(4,_)]) (by exact ⟨E,trivial,V,V⟩)
   refine BE [] [] V rfl (Al J0 #[_,_,_]) ?_ (fun _ _ h=>h.elim) Ay;rintro _ _ ⟨E,rfl,rfl⟩;refine BT<|Yw 0 45 V (Gy (by_:=1) (l:=32) (c:=32) DS (V:Tryz.prog.info? 5=some Tryz.t5) V rfl V rfl Y Y ?_ ?_ ?_) ?_
   (focus (decide))
   (focus (decide))
   (focus (decide))
   rintro _ _ ⟨mk,rfl,rfl⟩;refine Fc 1 V Wh (Dh DS HG HE Y (by exact (show(_=List.map u8v DL)/\DL.length=_ from⟨V,V⟩))) ?_;refine A2 4 V (BQ (vs:=[(1,.string (str DL)),(2,.string (str (E8 [])))]) (cs:=#[I4 0,.string (str DL),.string (str (E8 []))]) Y (Aa (pl:=#[(0,1),(1,1),(2,1)]) J0 HD (fun _=>by kernel_rfl) AG))<|Yw 6 127 V (Xw DG #[I4 0,.string (str DL),.string (str (E8 []))])<|C3<|Ao<|Zn [4,0,3] ?_;refine Aq (e':=[(4,_)]) (by exact ⟨E,trivial,V,V⟩)
  refine BE [] [] V rfl (Al J0 #[_,_,_]) ?_ (fun _ _ h=>h.elim) Ay;rintro _ _ ⟨E,rfl,rfl⟩;refine BT<|Zz (l:=[0,3])<|BE [] [] V rfl (Gy (by_:=1) (l:=32) (c:=32) DS (V:Tryz.prog.info? 5=some Tryz.t5) V rfl V rfl Y Y ?_ ?_ ?_) ?hk_21 (fun _ _ h=>h.elim) ?hl_21
  (focus (decide))
  (focus (decide))
  (focus (decide))
  case hk_21=>
   rintro _ _ ⟨mk,rfl,rfl⟩;refine BT<|Fc 1 V Wh (Dh DS HG HE Y (by exact (show(_=List.map u8v DL)/\DL.length=_ from⟨V,V⟩))) ?_;refine Yz 3 4 47 [1] [true] [(1,(_,_))] V Y V rfl V rfl (Zu [_] Y call25 Y V (Km sp 0 (.slice none 0 0) [] [] (Ba 5 _) AK .nil B3))<|C3<|BT<|A2 4 V (BQ (vs:=[(1,.string (str DL)),(2,.string (str (E8 [])))]) (cs:=#[I4 0,.string (str DL),.string (str (E8 []))]) Y (Aa (pl:=#[(0,1),(1,1),(2,1)]) J0 HD (fun _=>by kernel_rfl) AG))<|Yw 6 127 V (Xw DG #[I4 0,.string (str DL),.string (str (E8 []))])<|C3<|Ao<|Zn [4,0,3] ?_;refine Aq (e':=[(4,_)]) (by exact ⟨E,trivial,V,V⟩)
  refine BE [] [] V rfl (Zu [_] Y call25 Y V (Km sp 0 (.slice none 0 0) [] [] (Ba 5 _) AK .nil B3)) ?_ (fun _ _ h=>h.elim) Ay;rintro _ _ ⟨rfl,rfl⟩;refine BT<|Yw 0 45 V (Gy (by_:=1) (l:=32) (c:=32) DS (V:Tryz.prog.info? 5=some Tryz.t5) V rfl V rfl Y Y ?_ ?_ ?_) ?_
  (focus (decide))
  (focus (decide))
  (focus (decide))
  rintro _ _ ⟨mk,rfl,rfl⟩;refine Fc 1 V Wh (Dh DS HG HE Y (by exact (show(_=List.map u8v DL)/\DL.length=_ from⟨V,V⟩))) ?_;refine A2 4 V (BQ (vs:=[(1,.string (str DL)),(2,.string (str (E8 [])))]) (cs:=#[I4 0,.string (str DL),.string (str (E8 []))]) Y (Aa (pl:=#[(0,1),(1,1),(2,1)]) J0 HD (fun _=>by kernel_rfl) AG))<|Yw 6 127 V (Xw DG #[I4 0,.string (str DL),.string (str (E8 []))])<|C3<|Ao<|Zn [4,0,3] ?_;refine Aq (e':=[(4,_)]) (by exact ⟨E,trivial,V,V⟩)
 rintro _ _ ⟨E,_,rfl,rfl⟩;refine A1<|Zo Wh (A9 (cs:=#[_,_,_]) HC DG Y Wb (by exact BA V)) ?_;refine Ze (Af (vs:=[_]) (cs:=[_,_,_]) My DG J0 Y V rfl V rfl V)<|AF fun X=>A3 Y<|Zq<|A1<|A3 Y<|AX<|Zb [5,6,0,3,4] ?_;refine BB (e0:=[(5,_),(6,_)]) (fun m e H=>∃(i:Nat) (rs:List AY) (h:Ct) (w:A4) (sv:List AU) (X:B7) (co:Nat) (so:List AU),m=l.length -i/\(i<=l.length/\rs=Bd (l.take i)/\h=Dr l i/\BZ 5 98 w rs.length (Ac rs) sv/\BZ 3 48 (.slice X (i+1) co) (i+1) (IX (Ms l (i+1))) so)/\e=[(5,.slice X (i+1) co),(6,I4 (i:Int))]/\H=[[(sp,.cells #[w,I4 (i:Int)] 130 (0,0))],sv,[(E,.cells #[I4 h.p,.string (str h.ch),.string (str h.st)] 48 (0,0))],so]) (by exact ⟨0,[],⟨0,DL,E8 []⟩,.slice none 0 0,[],some ⟨X,0,none⟩,1,_,rfl,⟨C2 _,by rw [Hj];rfl,rfl,Ba 5 _,EX 3 48 X 1 [I4 (⟨0,DL,E8 []⟩:Ct).p,.string (str (⟨0,DL,E8 []⟩:Ct).ch),.string (str (⟨0,DL,E8 []⟩:Ct).st)] rfl AK⟩,rfl,rfl⟩) Wp ?_;rintro _ _ _ ⟨i,rs,h,w,sv,X,co,so,rfl,⟨hi,cO,hh,mR,ek⟩,rfl,rfl⟩;refine Zq<|A1<|Zm Y<|Zm Y<|Zv (AP Fl Y)<|Zv (Au Y Y)<|AD<|Ak Y (fun kz=>?_) (fun kz=>?_);·
  obtain ⟨r,Z⟩:∃r,l[i]?=some r:=⟨_,zn A0⟩;obtain ⟨af,g,off,cur,T,zz,rfl,bf,o9,O⟩:=hg i r Z;obtain ⟨hA,_⟩:=I i r Z;have l9:=hA.pos
  obtain ⟨W,ax⟩:=I.rows i A0;rw [<-cO]at hA W ax;obtain ⟨d9,bn⟩:=U5 W hA;obtain ⟨y,G⟩:∃y,y=Dc rs r.cs:=⟨_,rfl⟩;have J:y=Bd (l.take (i+1)):=by rw [C8 Z,Ew,<-cO,G]
  rw [<-G]at d9 bn;have cu:∀x∈y,x.ok:=by rw [J];exact I.rowsOk (i+1) A0
  have l8:GQ h r (E8 y):=by rw [hh];exact oq I kv Z (QA _)
  refine AB<|Zx<|Zq<|AX<|A1<|Zm Y<|Zm Y<|Zm Y<|Ap (AO Fl E6 Y Y CT)<|Ca (cs:=[(g,.cells cur T zz)]) (by simp [bf]) (A9 (cs:=#[I4 r.p,.slice r.q r.cs.length r.cap]) HX E6 Y A0 O) rfl rfl ?_;refine Zc [_,_] Y call26 Y V (Qx sp (i:Int) r.p w rs sv M r.q r.cap r.cs mR af W ax A0 hA) ?_;rintro _ _ ⟨_,⟨rfl,v2,gm,K,rfl⟩,rfl⟩;rw [<-G]at K;rw [show r.p=((i+1:Nat):Int) by rw [l9];rfl];refine AD<|Zq<|BJ (n:=12) (0::0::0::6::14::0::32::127::255::511::511::1023::[]) 2240 AG AG V<|Fc 0 V Wh (A9 (cs:=#[_,_,_]) HC DG Y Wb (by exact BA V)) ?_;refine A2 1 rfl (AJ Y)<|A2 2 rfl (AJ Y)<|A2 3 rfl (AO Fl E6 Y Y CT)<|Gf (b:=g) (x:= .cells cur T zz) (D':=31) 4 rfl rfl rfl (by simp [bf]) (A9 (cs:=#[I4 r.p,.slice r.q r.cs.length r.cap]) HX E6 Y A0 O) ?_;refine A2 5 V (AJ Y)<|Zz (l:=[6])<|BE [true,true] [(4,(_,_)),(0,(_,_))] V rfl (Zu [_] Y call25 Y V (Km sp _ v2 y gm K bn d9 cu)) ?_ (fun _ _ h=>h.elim) Ay;rintro _ _ ⟨rfl,rfl⟩;refine ⟨OL (by simp [*]) (Zk (Ae)),?_⟩;refine Yw 7 255 V (Zu [_,_,_] Y call27 Y V (uE h r (E8 y) af l8))<|C3<|A2 8 rfl (AJ Y)<|A2 9 rfl (Ch Y rfl)<|A2 10 rfl (Ch Y rfl)<|Zz (l:=[11])<|BE [] [] rfl rfl (BN DG Y Y HU Wu (by exact DD rfl) Ek Wb (by exact BU _)) ?_ (fun _ _ h=>h.elim) Ay;rintro _ _ ⟨rfl,rfl⟩;refine BT<|Ao<|Zn [0,3,4,5,6] ?_;refine Zx<|Zg<|Zm Y<|Zo Wh (A9 (cs:=#[_,_,_]) HC DG Y Wb (by exact BA V)) ?_;refine Ze (Af (vs:=[_]) (cs:=[_,_,_]) My DG J0 Y V rfl V rfl V)<|AF fun gb=>Ze (BR (by_:=40) (sz:=3) My (V:Tryz.prog.info? 48=some Tryz.t48) V rfl V rfl Y (ek) Y (Dy 3 gb 1 1 48 (0,0) [I4 (Gi h r (E8 y)).p,.string (str (Gi h r (E8 y)).ch),.string (str (Gi h r (E8 y)).st)] V) Wo Wo GF A0 A0) ?_;rintro _ _ ⟨o8,U,rfl⟩;obtain ⟨gy,gq,rfl⟩:=U.form;refine AH Y<|A8<|Zx<|Zg<|Zm Y<|Ya (n:=1) Y Y<|AH Y<|Zn [5,6,0,3,4] ?_
  refine AZ (e':=[(5,_),(6,_)]) (by exact ⟨i+1,y,Gi h r (E8 y),v2,gm,gy,gq,o8,rfl,⟨by omega,J,by rw [Lv Z,<-hh,<-J],K,BH U rfl (by rw [ZK l (i+1),UR,Lv Z,<-hh,<-J];rfl)⟩,rfl,rfl⟩)
 have ei:i=l.length:=by omega
 subst ei;refine Aw<|Zt<|Zt<|AQ<|Zx<|A1<|Zm Y<|A3 Y<|AA<|AC V results8 Y (by exact ⟨so,ek,V⟩)
theorem Il{z:Int}(k:Int)(m:1<=k)(g:-9223372036854775808<=z)(h2:z<=9223372036854775807):-9223372036854775808<=z.tdiv k/\z.tdiv k<=9223372036854775807:=by
 have h:=Int.natAbs_tdiv_le_natAbs z k;rcases Int.lt_or_le z 0 with hz|hz
 · have:z.tdiv k<=0:=by
    obtain ⟨y,rfl⟩:∃y,z=-y:=⟨-z,by omega⟩;rw [Int.neg_tdiv];have:=Int.tdiv_nonneg (a:=y) (b:=k) A0 A0
    omega
   omega
 · have:=Int.tdiv_nonneg hz (show(0:Int)<=k by omega)
   omega
variable{hi lo:Int}
theorem NE{kd tb cl bq ot:Int}(h:(0<=tb/\tb<=3)/\(0<=cl/\cl<=3)/\(-1000000000<=lo/\lo<=hi/\hi<=1000000000)/\
 ((kd=1/\cl=0/\lo=hi/\(1<=lo/\lo<=1000000)/\bq=0/\ot=0)\/((kd=2\/kd=3)/\bq=0/\ot=0)\/
  ((kd=4\/kd=5\/kd=6)/\(1<=bq/\bq<=3)/\ot=0)\/(kd=7/\(1<=bq/\bq<=3)/\(0<=ot/\ot<=3)))):BS ⟨kd,tb,cl,lo,hi,bq,ot⟩:=h
variable{a:Nat}
theorem rH{g o sz:Nat}(h:a<c):EF (some ⟨g,o,none⟩) a c sz=some ⟨g,o+a*sz,none⟩:=by
 unfold EF;rw [As A0,L7,Cb]
variable{p:B7}{b cap:Nat}
theorem Ma(h:Cw M (.slice p l.length cap) l)(I:a<=b)(W:b<=l.length):Cw M (.slice (EF p a cap 2) (b -a) (cap -a)) ((l.drop a).take (b -a)):=by
 obtain ⟨Z,y,e,⟨X,K⟩,J⟩:=h;injection e with e1 e2 e3
 subst e1 e3;have E:((l.drop a).take (b -a)).length=b -a:=by rw [zy,C0];omega
 refine ⟨_,_,by rw [E],⟨by omega,by omega⟩,fun i x hx=>?_⟩;rw [Gk]at hx;split at hx
 · rw [Hh]at hx
   obtain ⟨G,g,off,cur,T,zz,rfl,O,U,m⟩:=J (a+i) x hx;rw [rH A0];exact ⟨G,g,_,cur,T,zz,rfl,O,by omega,by rw [show off+a*2+i*2=off+(a+i)*2 by omega];exact m⟩
 · cases hx
theorem nz(rs:List AY)(c:Chg):(Ei rs c).length<=rs.length+1:=by
 unfold Ei OE;simp only [zq,zy,C0];split<;>simp only [FF,KK]<;>omega
theorem Sg:∀(cs:List Chg) (rs:List AY),(Dc rs cs).length<=rs.length+cs.length
 |[],_=>B8 _
 |c::cs,rs=>by
  have g:=Sg cs (Ei rs c);have h2:=nz rs c
  rw [D3];exact SZ g A0
theorem DN.few(h:DN l):∀i,i<=l.length->(Bd (l.take i)).length<=3*i
 |0,_=>by rw [Hj];exact B8 _
 |i+1,hi=>by
  obtain ⟨r,g⟩:∃r,l[i]?=some r:=⟨_,zn A0⟩;rw [C8 g,Ew];have m:=Sg r.cs (Bd (l.take i))
  have h2:=DN.few h i A0;have y:=(h i r g).2
  omega
theorem wL{q:B7}(m:Cw M (.slice q l.length cap) l)(g:DN l)(I:l.length<=1000000)(k:Nat)(y:k<=l.length):Bz prog 10 #[.slice q l.length cap,I4 (k:Int)] [M] (fun r H'=>∃v s,r= .tuple #[v,I4 0]/\Pk v (k:Int) (Bd (l.take k)) s/\H'=[s,M]):=by
 refine Dw (yB q cap l M m g I k y) V ?_;rintro r H' ⟨sp,O,es,E,lm,rfl,J,G,rfl⟩;obtain ⟨K,hn⟩:=g.rows k y;exact ⟨_,⟨_,_,V,⟨sp,O,es,E,lm,V,J,G,K,hn,V⟩,V⟩,by simp⟩
theorem Pf{E:List AU}(q:QM)(J base:Int)(U:-1000000000000<=base/\base<=1000000000000){I:B7}{y:Nat}{L:List RP}(O:FE (E++M) (.slice I L.length y) L)(g:L.length<=1000000){r:CP}(X:Cz q L=some r){G:A4}(W:Cw (E++M) G l)(m:∀x∈l,x.cs.length<=1000):Bz prog 16 #[.agg #[I4 q.kd,I4 q.tb,I4 q.cl,I4 q.lo,I4 q.hi,I4 q.bq,I4 q.ot,I4 J,I4 base,.slice I L.length y],G] [E,M] (fun w H'=>∃(z:Fq) (s:List AU) (b:Bool),((b=true/\EG q base L l=some z.a/\z.ok (s++E++M))\/(b=false/\EG q base L l=none/\z=AZ0))/\w= .tuple #[.agg z.Ao7,.bool b]/\H'=[s,E,M]):=by
 refine Dw (aU q J base U O g X W m) B3 ?_;rintro w H' ⟨z,s,b,K,rfl,rfl⟩;exact ⟨_,⟨z,s,b,by simpa only [D2]using K,V,V⟩,by simp⟩
theorem Pb{E:List AU}(base until_:Ct){z:Fq}(hz:z.ok (E++M))(K:∀x∈z.a.ranges,x.small)(m:z.a.ranges.length<=1000000)(I:-1000000000000<=z.a.base/\z.a.base<=1000000000000)(g:∀x∈z.a.recs,x.cs.length<=1000){r:CP}(J:Cz z.a.q z.a.ranges=some r)(y:AM)(G:Nat×Nat):BC prog 9 #[.agg #[I4 base.p,.string (str base.ch),.string (str base.st)],.agg #[I4 until_.p,.string (str until_.ch),.string (str until_.st)],.agg z.Ao7] [[(1,.cells (Di.map CB).toArray y G)],E,M] (.bool (decide (Ee base until_ z.a))):=by
 refine Dw (vO base until_ hz K m I g J y G) B3 ?_;rintro r H' ⟨rfl,rfl⟩;exact ⟨_,⟨V,V⟩,by simp⟩
def FC(l:List Bg)(a b:Nat):List Bg:=(l.drop a).take (b -a)
theorem QJ(g:b<=l.length):(FC l a b).length=b -a:=by unfold FC;rw [zy,C0];omega
variable{k:Nat}
theorem Yo{x:Bg}(h:(FC l a b)[k]?=some x):l[a+k]?=some x/\k<b -a:=by
 unfold FC at h;rw [Gk]at h;split at h;· rename_i h9;rw [Hh]at h;exact ⟨h,h9⟩
 · cases h
theorem Ku(h:DN l)(a b:Nat):∀x∈FC l a b,x.cs.length<=1000:=fun x hx=>by
 obtain ⟨k,g⟩:=H4 hx;have:=(h _ x (Yo g).1).2
 omega
theorem GD(h:DN l)(y:l.length<=20)(g:k<=l.length)(q:QM):(CX (Bd (l.take k)) q).length<=100:=by
 have m:=h.few k g;have h2:=(@Lf (Bd (l.take k)) q.tb q.cl.toNat q.lo q.hi).1
 unfold CX;omega
theorem LF(rs:List AY)(q:QM):(Em rs q).length<=1+(CX rs q).length:=by
 unfold Em;split;· rw [D3,zu];omega
 · simp
noncomputable def Ed(l:List Bg)(a b:Nat)(q:QM):Option JX:=EG q (a:Int) (Em (Bd (l.take a)) q) (FC l a b)
variable{q:QM}
theorem V6{st g:CP×Int}(h:Gr q (a:Int) 0 st (FC l a b)=some g):Gr q (a:Int) 0 st ((l.drop a).take (b -a))=some g:=h
theorem Gv(g:DN l)(m:l.length<=20)(K:a<=b)(O:b<=l.length)(I:BS q){x:JX}(h:Ed l a b q=some x):x=⟨q,D5 (Bd (l.take b)) q,x.since,(b:Int),(a:Int),Em (Bd (l.take a)) q,FC l a b⟩/\sG q l a (b -a) x.since:=by
 obtain ⟨U,hn⟩:=g.rows a A0;have E:=FY U hn (g.rowsOk a A0) I (GD g m A0 q)
 have y:=QJ (l:=l) (a:=a) O;unfold Ed at h;rw [LV E A0]at h;cases hr:Gr q (a:Int) 0 (D5 (Bd (l.take a)) q,(a:Int)) (FC l a b)with
 |none=>rw [hr]at h;cases h
 |some st=>
  rw [hr]at h;injection h with h
  obtain ⟨G,J⟩:=Q4 I g (by omega:a<=l.length) (b -a) A0 st (V6 hr);rw [show a+(b -a)=b by omega]at G;subst h;refine ⟨?_,J⟩;simp only [y,G];congr 1;omega
theorem uZ(E:DN l)(J:b<=l.length)(G:l.length<=20):∀(k:Nat) (x:Bg),(FC l a b)[k]?=some x->(a:Int)<=9223372036854775806 -((0+k:Nat):Int)/\x.p=(a:Int)+1+((0+k:Nat):Int):=fun k x y=>by
 obtain ⟨g,h2⟩:=Yo y;have m:x.p=((a+k:Nat):Int)+1:=(E _ x g).1.pos
 have I:=(zt.1 g).1;exact ⟨by omega,by rw [m];push_cast;omega⟩
theorem RI(y:DN l)(g:l.length<=20)(I:a<=b)(G:b<=l.length)(O:BS q)(J:1<=q.kd/\q.kd<=4):Ed l a b q≠none:=by
 obtain ⟨U,hn⟩:=y.rows a A0;have E:=FY U hn (y.rowsOk a A0) O (GD y g A0 q)
 have K:=QJ (l:=l) (a:=a) G;obtain ⟨st,m⟩:=SL J (FC l a b) 0 (D5 (Bd (l.take a)) q,(a:Int)) (uZ y G g);unfold Ed;rw [LV E A0,m];exact fun h=>by cases h
theorem Z6(g:BL rs)(hn:rs.length<=2000)(q:QM):∀x∈Em rs q,x.small:=fun x hx=>by
 unfold Em at hx;rcases E4.1 hx with rfl|hx
 · exact ⟨R4 g hn _ _ _ _,Mf g hn _ _ _ _⟩
 · split at hx
   · obtain ⟨r,_,rfl⟩:=GB.1 hx
     exact ⟨R4 g hn _ _ _ _,Mf g hn _ _ _ _⟩
   · cases hx
theorem kE(y:BL rs)(hn:rs.length<=2000)(g:∀r∈rs,r.ok)(m:BS q):∀x∈Em rs q,Ke (E8 rs) x:=fun x hx=>by
 have G:=m.1;have h2:=m.2.1
 have E:=m.2.2.1.2.1;have I:0<=q.ot/\q.ot<=3:=by have:=m.2.2.2;omega
 unfold Em at hx;rcases E4.1 hx with rfl|hx
 · exact Um y hn g _ _ A0 A0 _ _ E
 · split at hx
   · obtain ⟨r,_,rfl⟩:=GB.1 hx
     exact Um y hn g _ _ A0 A0 _ _ (cT _)
   · cases hx
theorem Rt{l:List Bg}(m:DN l)(I:l.length<=9000){st:Bs}(g:st.length=32){a:Nat}:∀k,a+k<=l.length->∃h,IB st (Dr l a) ((l.drop a).take k)=some h/\h.p=((a+k:Nat):Int)/\h.ch=(Dr l (a+k)).ch/\h.ok/\(k=0->h=Dr l a)/\(0<k->h.st=st)
 |0,hk=>by
  obtain ⟨Z,h2,_⟩:=Fj m I a A0;exact ⟨Dr l a,by rw [Hj];rfl,h2,rfl,Z,fun _=>rfl,fun h=>by omega⟩
 |k+1,hk=>by
  obtain ⟨h,O,U,W,X,_,_⟩:=Rt m I g (a:=a) k A0;obtain ⟨r,E⟩:∃r,l[a+k]?=some r:=⟨_,zn A0⟩;have G:(l.drop a)[k]?=some r:=by rw [Hh];exact E
  obtain ⟨J,_⟩:=m _ r E;have K:r.p=((a+k:Nat):Int)+1:=J.pos
  have y:GQ h r st:=⟨J.ok,X,g,by rw [U];exact K⟩;refine ⟨Gi h r st,by rw [Nv O G,B0 y],by show r.p=_;rw [K];rfl,?_,⟨⟨by show 0<=r.p;omega,by show r.p<=10000;omega⟩,Hg _ _,g⟩,fun h=>by omega,fun _=>rfl⟩;show Jt h.ch _=_
  rw [W,show a+(k+1)=a+k+1 by omega,Lv E];rfl
theorem RA(m:DN l)(g:l.length<=9000)(U:a<=b)(W:b<=l.length):Ju (Dr l a) (FC l a b) (Dr l b):=by
 obtain ⟨K,_,_⟩:=Fj m g a A0;obtain ⟨h2,O,Z⟩:=Fj m g b W;obtain ⟨h,G,y,E,X,I,J⟩:=Rt m g h2.2.2 (a:=a) (b -a) A0;refine ⟨K,h2,?_⟩;unfold FC;rw [G];rcases Lz (b -a)with h0|h0
 · rw [I h0,show a=b by omega]
 · rw [show a+(b -a)=b by omega]at y E
   exact congrArg some (iL.2 ⟨by rw [y,O],E,J h0⟩)
theorem ZR(I:DN l)(E:l.length<=9000)(G:a<=b)(J:b<=l.length){u:Ct}(h:Ju (Dr l a) (FC l a b) u):u.p=(b:Int):=by
 obtain ⟨w,m,y,_⟩:=Rt I E h.2.1.2.2 (a:=a) (b -a) A0;have g:=h.2.2
 unfold FC at g;rw [m]at g;injection g with g
 rw [<-g,y];congr 1;omega
theorem JX.eqv_refl(a:JX):a.eqv a:=⟨rfl,rfl,rfl,rfl,rfl,rfl,rfl⟩
theorem RL(g:DN l)(E:l.length<=20)(m:a<=b)(G:b<=l.length)(J:BS q){x:JX}(h:Ed l a b q=some x):Ee (Dr l a) (Dr l b) x:=by
 obtain ⟨O,hn⟩:=g.rows a A0;obtain ⟨e,_⟩:=Gv g E m G J h;have h2:=(Fj g A0 b G).2.1
 obtain ⟨_,K,I⟩:=Fj g A0 a A0;unfold Ed at h;have hx:x.q=q/\x.base=(a:Int)/\x.ranges=Em (Bd (l.take a)) q/\x.recs=FC l a b/\x.until_=(b:Int):=by rw [e];exact ⟨rfl,rfl,rfl,rfl,rfl⟩
 refine ⟨by rw [K,hx.2.1],by rw [h2,hx.2.2.2.2],by rw [hx.2.2.2.1];exact RA g A0 m G,fun y hy=>?_,x,by rw [hx.1,hx.2.1,hx.2.2.1,hx.2.2.2.1];exact h,x.eqv_refl⟩;rw [I];exact kE O hn (g.rowsOk a A0) J y (by rw [<-hx.2.2.1];exact hy)
theorem ed(J:DN l)(E:l.length<=20)(m:a<=b)(I:b<=l.length)(O:BS q){x y:JX}(h:Ed l a b q=some x)(hy:y.q=x.q/\y.base=x.base/\y.ranges=x.ranges/\y.recs=x.recs){u:Ct}:Ee (Dr l a) u y->y.eqv x/\u.p=y.until_/\u.p=(b:Int):=fun hc=>by
 obtain ⟨e,_⟩:=Gv J E m I O h;have hx:x.q=q/\x.base=(a:Int)/\x.ranges=Em (Bd (l.take a)) q/\x.recs=FC l a b:=by rw [e];exact ⟨rfl,rfl,rfl,rfl⟩
 obtain ⟨_,h2,G,_,z,g,K⟩:=hc;rw [hy.1,hy.2.1,hy.2.2.1,hy.2.2.2,hx.1,hx.2.1,hx.2.2.1,hx.2.2.2]at g;unfold Ed at h;rw [h]at g;injection g with g
 subst g;rw [hy.2.2.2,hx.2.2.2]at G;exact ⟨K,h2,ZR J A0 m I G⟩
def exC(k n:Int):Chg:=⟨0,k,false,⟨0,0,0⟩,true,⟨n,0,0⟩⟩
def exL(p1 p2 p3:B7):List Bg:=[⟨1,p1,1,[exC 5 10]⟩,⟨2,p2,1,[exC 6 99]⟩,⟨3,p3,1,[exC 7 11]⟩]
def exQ:QM:=⟨3,0,1,10,19,0,0⟩
theorem Gt:BS exQ:=by decide
theorem xD{p k n:Int}(g:1<=p/\p<=10000)(h:(exC k n).ok):E9 p [exC k n]:=⟨g,⟨B8 _,by show 1<=8;decide⟩,fun i c hc=>by
 match i,hc with
 |0,hc=>injection hc with hc;rw [<-hc];exact h
 |i+1,hc=>simp at hc,fun i b c m hc=>by simp at hc⟩
def exR:Nat->List AY
 |0=>[]
 |1=>[⟨0,5,⟨10,0,0⟩⟩]
 |2=>[⟨0,5,⟨10,0,0⟩⟩,⟨0,6,⟨99,0,0⟩⟩]
 |_=>[⟨0,5,⟨10,0,0⟩⟩,⟨0,6,⟨99,0,0⟩⟩,⟨0,7,⟨11,0,0⟩⟩]
theorem iP(g m y:B7):Bd ((exL g m y).take 0)=exR 0/\Bd ((exL g m y).take 1)=exR 1/\Bd ((exL g m y).take 2)=exR 2/\Bd ((exL g m y).take 3)=exR 3:=⟨rfl,by kernel_rfl,by kernel_rfl,by kernel_rfl⟩
theorem eG{p k n:Int}(m:1<=p+1/\p+1<=10000)(h:(exC k n).ok)(g:Gb rs (exC k n))(hz:Hq rs [exC k n]<=2000):Nt rs p (p+1) [exC k n]:=⟨xD m h,rfl,fun c hc=>by rw [D0.1 hc];exact g,hz⟩
theorem eH(m y E:B7):DN (exL m y E):=fun i r g=>by
 obtain ⟨h0,G,h2,_⟩:=iP m y E
 match i,g with
 |0,g=>injection g with g;subst g;rw [h0];exact ⟨eG (p:=0) AK AK (by unfold Gb;decide) AK,by show 1<=3;decide⟩
 |1,g=>injection g with g;subst g;rw [G];exact ⟨eG (p:=1) AK AK (by unfold Gb;decide) AK,by show 1<=3;decide⟩
 |2,g=>injection g with g;subst g;rw [h2];exact ⟨eG (p:=2) AK AK (by unfold Gb;decide) AK,by show 1<=3;decide⟩
 |i+3,g=>simp [exL]at g
theorem qy(E m g:B7):(∃x,Ed (exL E m g) 1 2 exQ=some x/\x.res.val=1/\x.since=1/\x.until_=2)/\∃y,Ed (exL E m g) 1 3 exQ=some y/\y.res.val=2/\y.since=3/\y.until_=3:=by
 have I:=eH E m g;obtain ⟨_,_,h2,h3⟩:=iP E m g;have O:1<=exQ.kd/\exQ.kd<=4:=by decide
 refine ⟨?_,?_⟩
 · cases h:Ed (exL E m g) 1 2 exQ with
   |none=>exact absurd h (RI I (by show 3<=20;decide) AK (by show 2<=3;decide) Gt O)
   |some x=>
    obtain ⟨e,K⟩:=Gv I (by show 3<=20;decide) AK (by show 2<=3;decide) Gt h;refine ⟨x,rfl,?_,?_,by rw [e];rfl⟩;· rw [e,h2];exact (by decide:(D5 (exR 2) exQ).val=1)
    · obtain ⟨⟨U,W⟩,X,_⟩:=K
      rcases (by omega:x.since=1\/x.since=2)with h9|h9
      · exact h9
      · obtain ⟨j,r,hj,J,G⟩:=X (by rw [h9];decide)
        obtain rfl:j=1:=by omega
        injection J with J
        subst J;have:MR exQ ⟨2,m,1,[exC 6 99]⟩=false:=(by decide:[exC 6 99].any (Et exQ)=false)
        rw [this]at G;cases G
 · cases h:Ed (exL E m g) 1 3 exQ with
   |none=>exact absurd h (RI I (by show 3<=20;decide) AK (by show 3<=3;decide) Gt O)
   |some x=>
    obtain ⟨e,K⟩:=Gv I (by show 3<=20;decide) AK (by show 3<=3;decide) Gt h;refine ⟨x,rfl,?_,?_,by rw [e];rfl⟩;· rw [e,h3];exact (by decide:(D5 (exR 3) exQ).val=2)
    · obtain ⟨⟨U,W⟩,_,Z⟩:=K
      rcases (by omega:x.since=3\/x.since<=2)with h9|h9
      · exact h9
      · have G:=Z 2 ⟨3,g,1,[exC 7 11]⟩ A0 AK rfl
        have:MR exQ ⟨3,g,1,[exC 7 11]⟩=true:=(by decide:[exC 7 11].any (Et exQ)=true);rw [this]at G;cases G
theorem qm(m y g:B7):EG exQ 1 (Em (Bd ((exL m y g).take 1)) exQ) (FC (exL m y g) 2 3)=none:=by
 have E:=eH m y g;obtain ⟨J,hn⟩:=E.rows 1 (by show 1<=3;decide);have G:=FY J hn (E.rowsOk 1 (by show 1<=3;decide)) Gt (GD E (by show 3<=20;decide) (by show 1<=3;decide) exQ)
 rw [LV G (by show 1<=64;decide)];rw [show FC (exL m y g) 2 3=[⟨3,g,1,[exC 7 11]⟩] from rfl];unfold Gr;rw [As (fun I=>by have:=I.2.2;revert this;show(3:Int)=1+1+((0:Nat):Int)->False;decide)];rfl
def gT(rs:List AY)(t c:Nat)(lo hi:Int)(f e:Nat):RP:=⟨(t:Int),(c:Int),lo,hi,((BI rs (t:Int) c).length:Nat),(f:Nat),((BI rs (t:Int) c).drop f).take (e -f),Jk (BI rs (t:Int) c) f (e -f),Im rs⟩
structure Xj(rs:List AY)(t c:Nat)(lo hi:Int)(f e:Nat):Prop where
 fe:f<=e
 el:e<=(BI rs (t:Int) c).length
 ne:0<(BI rs (t:Int) c).length->f<e
 low:∀(j:Nat) (r:AY),(BI rs (t:Int) c)[j]?=some r->f<j->j<e->lo<=DZ r c
 high:∀(j:Nat) (r:AY),(BI rs (t:Int) c)[j]?=some r->f<=j->j+1<e->DZ r c<=hi
 first:∀r,(BI rs (t:Int) c)[f]?=some r->f=0\/DZ r c<lo
 last:∀r,f<e->(BI rs (t:Int) c)[e -1]?=some r->e=(BI rs (t:Int) c).length\/hi<DZ r c
variable{e f:Nat}
theorem oD(h:Xj rs t c lo hi f e):(gT rs t c lo hi f e).rows.length=e -f:=by
 have:=h.el;show(((BI rs (t:Int) c).drop _).take _).length=_
 rw [zy,C0];omega
theorem WB(U:BL rs)(hn:rs.length<=2000)(J:∀r∈rs,r.ok)(t c:Nat)(ht:t<=3)(hc:c<=3)(G:lo<=hi)(h:Xj rs t c lo hi f e):Fp (gT rs t c lo hi f e):=by
 have y:=oD h;have h1:=h.fe
 have h2:=h.el;have h3:=h.ne
 have Z:=Fh U (t:Int) c;have hv:∀r:AY,Bh r ((c:Nat):Int)=DZ r c:=fun r=>KT r c hc
 refine ⟨⟨⟨?_,?_⟩,?_,?_⟩,G,⟨?_,?_⟩,⟨?_,?_⟩,?_,?_,?_,?_,?_⟩;· show(0:Int)<=(t:Int);omega
 · show(t:Int)<4;omega
 · show(0:Int)<=(c:Int);omega
 · show(c:Int)<4;omega
 · show(0:Int)<=((BI rs (t:Int) c).length:Int);omega
 · show((BI rs (t:Int) c).length:Int)<=2000;omega
 · show(0:Int)<=((f:Nat):Int);omega
 · show((f:Nat):Int)<=((BI rs (t:Int) c).length:Int);omega
 · rw [y];show _<=((BI rs (t:Int) c).length:Int) -((f:Nat):Int);omega
 · rw [y];intro h0;show((BI rs (t:Int) c).length:Int)=0;omega
 · intro j r m
   obtain ⟨W,g⟩:=Ho m;have O:=PI (Cd g)
   have I:=h.low _ r g;have E:=h.high _ r g
   refine ⟨⟨J r O.1,O.2,?_,?_⟩,?_⟩;· intro h;change Bh r (c:Int)<lo at h;rw [hv]at h;omega
   · intro h;change hi<Bh r (c:Int)at h;rw [hv]at h;rw [y];omega
   · intro X q hq
     obtain ⟨_,K⟩:=Ho hq;have:=rf (OD U (t:Int) c) A0 K g
     unfold RS;show Bh q (c:Int)<Bh r (c:Int)\/Bh q (c:Int)=Bh r (c:Int)/\q.k<r.k
     rw [hv,hv];exact this
 · intro r m
   obtain ⟨_,g⟩:=Ho m;have I:=h.first r g
   show((f:Nat):Int)=0\/Bh r (c:Int)<lo;rw [hv];omega
 · intro r m
   rw [y]at m⊢;obtain ⟨W,g⟩:=Ho m;rw [show f+(e -f -1)=e -1 by omega]at g;have E:=h.last r A0 g
   show((f:Nat):Int)+_=((BI rs (t:Int) c).length:Int)\/hi<Bh r (c:Int);rw [hv];omega
theorem jd(G:BL rs)(hn:rs.length<=2000)(y:∀r∈rs,r.ok)(t c:Nat)(O:t<=3)(hc:c<=3)(m:lo<=hi)(h:Xj rs t c lo hi f e):ES (gT rs t c lo hi f e)=Cg rs (t:Int) c lo hi:=by
 have J:=WB G hn y t c O hc m h;have h1:=h.fe
 have h2:=h.el;have Z:=h.ne
 have hv:∀r:AY,Bh r ((c:Nat):Int)=DZ r c:=fun r=>KT r c hc;rw [<-ZV G y t c O hc lo hi m,Q6 J];show(((BI rs (t:Int) c).drop f).take (e -f)).filter _=_
 have e0:BI rs (t:Int) c=(BI rs (t:Int) c).take f++(((BI rs (t:Int) c).drop f).take (e -f)++(BI rs (t:Int) c).drop e):=by
  have X:(BI rs (t:Int) c).drop e=((BI rs (t:Int) c).drop f).drop (e -f):=by
   rw [ab];congr 1;omega
  rw [X,HW,HW]
 conv=>rhs;rw [e0]
 rw [KB,KB];have z1:((BI rs (t:Int) c).take f).filter (inR (t:Int) c lo hi)=[]:=by
  rw [er];intro r E I;obtain ⟨i,g⟩:=H4 E;rw [Gk]at g;split at g
  · have K:=(zt.1 g).1
    obtain ⟨x,hx⟩:∃x,(BI rs (t:Int) c)[f]?=some x:=⟨_,zn A0⟩;have U:=h.first x hx
    have W:=PH G (show i<=f by omega) g hx;have:=HH I
    omega
  · cases g
 have z2:((BI rs (t:Int) c).drop e).filter (inR (t:Int) c lo hi)=[]:=by
  rw [er];intro r E I;obtain ⟨i,g⟩:=H4 E;rw [Hh]at g;have K:=(zt.1 g).1
  obtain ⟨x,hx⟩:∃x,(BI rs (t:Int) c)[e -1]?=some x:=⟨_,zn A0⟩;have U:=h.last x (Z A0) hx
  have W:=PH G (show e -1<=e+i by omega) hx g;have:=HH I
  omega
 rw [z1,z2,L5,H3];refine cJ ?_;intro r E;have hm:=PI (ID (HI E))
 unfold inB inR;show decide (lo<=Bh r (c:Int)/\Bh r (c:Int)<=hi)=_
 rw [hv];exact decide_eq_decide.2 ⟨fun h=>⟨hm.2,h⟩,fun h=>h.2⟩
theorem iW{g o sz:Nat}(h:a<c):EF (some ⟨g,o,none⟩) a c sz=some ⟨g,o+a*sz,none⟩:=by
 unfold EF;rw [As A0,L7,Cb]
theorem Da.sub{n:Nat}(h:Da M (.slice p n cap) rs)(K:a<=b)(O:b<=rs.length):Da M (.slice (EF p a cap 5) (b -a) (cap -a)) ((rs.drop a).take (b -a)):=by
 obtain ⟨U,y,e,G,E⟩:=h;injection e with e1 e2 e3
 subst e1 e2 e3;refine ⟨_,_,by rw [zy,C0,LO A0],by rw [zy,C0];omega,fun i x hx=>?_⟩;rw [Gk]at hx;split at hx
 · rw [Hh]at hx
   obtain ⟨g,off,cur,T,zz,rfl,I,J,m⟩:=E (a+i) x hx;rw [iW A0];exact ⟨g,_,cur,T,zz,rfl,I,by omega,by rw [show off+a*5+i*5=off+(a+i)*5 by omega];exact m⟩
 · cases hx
theorem G5.sub{n:Nat}{ps:List (List Bs)}(h:G5 M (.slice p n cap) ps)(K:a<=b)(O:b<=ps.length):G5 M (.slice (EF p a cap 1) (b -a) (cap -a)) ((ps.drop a).take (b -a)):=by
 obtain ⟨U,y,e,G,E⟩:=h;injection e with e1 e2 e3
 subst e1 e2 e3;refine ⟨_,_,by rw [zy,C0,LO A0],by rw [zy,C0];omega,fun i x hx=>?_⟩;rw [Gk]at hx;split at hx
 · rw [Hh]at hx
   obtain ⟨q,c,J,g,off,cur,T,zz,rfl,I,m⟩:=E (a+i) x hx;rw [iW A0];exact ⟨q,c,J,g,_,cur,T,zz,rfl,I,by rw [show off+a*1+i=off+(a+i) by omega];exact m⟩
 · cases hx
theorem vG{z w:Nat}(h:gb (z%128,decide (z<128))=gb (w%128,decide (w<128))):z%128=w%128/\(z<128↔w<128):=by
 unfold gb at h;have h2:=congrArg UInt8.toNat h
 rw [fY,fY]at h2;by_cases hz:z<128<;>by_cases g:w<128<;>simp [hz,g]at h2⊢<;>omega
theorem ZM:∀(n z w:Nat) (x y:List UInt8),z<=n->(Mt z).map gb++x=(Mt w).map gb++y->z=w/\x=y
 |n,z,w,x,y,hn,h=>by
  rw [Gp z,Gp w,HJ,HJ,TX,TX]at h;injection h with h1 h2
  obtain ⟨G,m⟩:=vG h1;by_cases hz:z<128
  · have g:=m.1 hz
    rw [B0 hz,B0 g]at h2;exact ⟨by omega,by simpa using h2⟩
  · have g:¬w<128:=fun g=>hz (m.2 g)
    rw [As hz,As g]at h2
    match n,hn with
    |0,hn=>omega
    |n+1,hn=>
     obtain ⟨I,E⟩:=ZM n (z/128) (w/128) x y A0 h2;exact ⟨by omega,E⟩
theorem wQ{a b:Int}(h:zz a=zz b):a=b:=by
 unfold zz at h;by_cases g:a<0<;>by_cases m:b<0<;>simp [g,m]at h<;>omega
theorem Js{a b:Int}{x y:List UInt8}(h:JS a++x=JS b++y):a=b/\x=y:=by
 obtain ⟨g,h2⟩:=ZM _ _ _ _ _ (B8 _) h;exact ⟨wQ g,h2⟩
theorem eQ{s:AY}(h:Ep r=Ep s):r=s:=by
 have e:∀q:AY,Ep q=JS q.t++(JS q.k++(JS q.v.a++(JS q.v.b++(JS q.v.c++[])))):=fun q=>by simp [Ep,CW]
 rw [e,e]at h;obtain ⟨g,h⟩:=Js h;obtain ⟨h2,h⟩:=Js h;obtain ⟨m,h⟩:=Js h;obtain ⟨y,h⟩:=Js h;obtain ⟨E,_⟩:=Js h;obtain ⟨t,k,⟨a,b,c⟩⟩:=r;obtain ⟨K,J,⟨G,I,c'⟩⟩:=s;simp only at g h2 m y E;subst g h2 m y E;rfl
def Cq(l:List Bs):List Bs:=
 if h:2<=l.length then Cq (l.take (BV l.length))++Cq (l.drop (BV l.length))++[1::(Cs (l.take (BV l.length))++Cs (l.drop (BV l.length)))]
 else match l with
  |[]=>[[]]
  |x::_=>[0::x]
termination_by l.length
decreasing_by
 · have:=FK h;rw [zy];omega
 · have:=En l.length;rw [C0];omega
theorem OO:Cq []=[[]]:=by rw [Cq];rfl
theorem IY(x:Bs):Cq [x]=[0::x]:=by rw [Cq];rfl
theorem GK{l:List Bs}(h:2<=l.length):Cq l=Cq (l.take (BV l.length))++Cq (l.drop (BV l.length))++[1::(Cs (l.take (BV l.length))++Cs (l.drop (BV l.length)))]:=by
 rw [Cq,dif_pos h]
theorem Fa:∀(n:Nat) (l:List Bs),l.length<=n->(Cq l).length<=2*l.length+1/\(0<l.length->(Cq l).length+1<=2*l.length)
 |n,l,hn=>by
  rcases DP l.length 2 with h|h
  · match l,h with
    |[],_=>rw [OO];simp
    |[x],_=>rw [IY];simp
  · have y:=FK h
    have h2:=En l.length
    match n,hn with
    |0,hn=>omega
    |n+1,hn=>
     have g:=Fa n (l.take (BV l.length)) (by rw [zy];omega);have m:=Fa n (l.drop (BV l.length)) (by rw [C0];omega)
     rw [zy]at g;rw [C0]at m;rw [GK h,zq,zq,FF];omega
theorem LJ:∀(n:Nat) (l:List Bs) (m:Nat),l.length<=n->65<=m->(∀s∈l,s.length+1<=m)->∀s∈Cq l,s.length<=m
 |n,l,m,hn,hm,hl,s,hs=>by
  rcases DP l.length 2 with h|h
  · match l,h with
    |[],_=>rw [OO,D0]at hs;subst hs;simp
    |[x],_=>rw [IY,D0]at hs;subst hs;have:=hl x B3;rw [D3];omega
  · have g:=FK h
    have h2:=En l.length
    match n,hn with
    |0,hn=>omega
    |n+1,hn=>
     rw [GK h,DM,DM,D0]at hs;rcases hs with(hs|hs)|hs
     · exact LJ n _ m (by rw [zy];omega) hm (fun s h=>hl s (HI h)) s hs
     · exact LJ n _ m (by rw [C0];omega) hm (fun s h=>hl s (ID h)) s hs
     · subst hs
       rw [D3,zq,Dk,Dk];omega
def NC(a b:List Bs):Prop:=∃x∈a,∃y∈b,x≠y/\sha x=sha y
theorem NC.mono{a b g m:List Bs}(h:NC a b)(E:∀x∈a,x∈g)(G:∀x∈b,x∈m):NC g m:=by
 obtain ⟨x,hx,y,hy,h⟩:=h;exact ⟨x,E x hx,y,G y hy,h⟩
theorem QS{a b c d:Bs}(m:a.length=32)(hc:c.length=32){A B:List Bs}(g:(1::(a++b))∈A)(h2:(1::(c++d))∈B)(h:sha (1::(a++b))=sha (1::(c++d))):(a=c/\b=d)\/NC A B:=by
 by_cases e:(1::(a++b):Bs)=1::(c++d)
 · injection e with _ e
   exact .inl (List.append_inj e A0)
 · exact .inr ⟨_,g,_,h2,e,h⟩
theorem Vm{a c:Bs}{A B:List Bs}(g:(0::a)∈A)(h2:(0::c)∈B)(h:sha (0::a)=sha (0::c)):a=c\/NC A B:=by
 by_cases e:(0::a:Bs)=0::c
 · injection e with _ e
   exact .inl e
 · exact .inr ⟨_,g,_,h2,e,h⟩
theorem Q9:∀(n:Nat) (a b:List Bs),a.length<=n->a.length=b.length->Cs a=Cs b->a=b\/NC (Cq a) (Cq b)
 |n,a,b,hn,hab,h=>by
  rcases DP a.length 2 with h2|h2
  · match a,b,hab,h2 with
    |[],[],_,_=>exact .inl rfl
    |[x],[y],_,_=>
     rw [Kl,Kl]at h;rw [IY,IY];rcases Vm (D0.2 rfl) (D0.2 rfl) h with e|e
     · exact .inl (by rw [e])
     · exact .inr e
  · have G:=FK h2
    have I:=En a.length
    match n,hn with
    |0,hn=>omega
    |n+1,hn=>
     have g:2<=b.length:=by omega
     rw [IQ h2,IQ g,<-hab]at h;rw [GK h2,GK g,<-hab];rcases QS (Dk _) (Dk _) (DA _ (D0.2 rfl)) (DA _ (D0.2 rfl)) h with⟨m,E⟩|e
     · rcases Q9 n (a.take (BV a.length)) (b.take (BV a.length)) (by rw [zy];omega) (by rw [zy,zy,hab]) m with f1|f1
       · rcases Q9 n (a.drop (BV a.length)) (b.drop (BV a.length)) (by rw [C0];omega) (by rw [C0,C0,hab]) E with f2|f2
         · exact .inl (by rw [<-HW (BV a.length) a,f1,f2,HW])
         · exact .inr (f2.mono (fun x hx=>E3 _ (DA _ hx)) (fun x hx=>E3 _ (DA _ hx)))
       · exact .inr (f1.mono (fun x hx=>E3 _ (E3 _ hx)) (fun x hx=>E3 _ (E3 _ hx)))
     · exact .inr e
def EC(s:Bs):Nat->Nat->List Bs->List Bs
 |_,_,[]=>[0::s]
 |n,i,x::rp=>if n<=1 then [0::s]else if i<BV n then EC s (BV n) i rp++[1::(sha ((EC s (BV n) i rp).getLastD [])++x)]else EC s (n -BV n) (i -BV n) rp++[1::(x++sha ((EC s (n -BV n) (i -BV n) rp).getLastD []))]
theorem Y7(l:Bs):(sha l).length=32:=Es l
theorem Xy{s:Bs}:∀(rp:List Bs) (n i:Nat) (v:Bs),Kg s n i rp=some v->v=sha ((EC s n i rp).getLastD []):=by
 intro rp;induction rp with
 |nil=>
  intro n i v h;unfold Kg at h;split at h;· injection h with h;rw [<-h];rfl
  · cases h
 |cons x rp ih=>
  intro n i v h;unfold Kg at h;split at h;· cases h
  · rename_i hn
    split at h
    · rename_i hi
      obtain ⟨w,g,rfl⟩:=S8.1 h;rw [EC,As hn,B0 hi,List.getLastD_concat,<-ih _ _ _ g];rfl
    · rename_i hi
      obtain ⟨w,g,rfl⟩:=S8.1 h;rw [EC,As hn,As hi,List.getLastD_concat,<-ih _ _ _ g];rfl
theorem jc(s:Bs):∀(rp:List Bs) (n i:Nat),(0::s)∈EC s n i rp:=by
 intro rp;induction rp with
 |nil=>intro n i;exact D0.2 rfl
 |cons x rp ih=>
  intro n i;rw [EC];split;· exact D0.2 rfl
  · split
    · exact E3 _ (ih _ _)
    · exact E3 _ (ih _ _)
theorem mF{s:Bs}:∀(rp:List Bs) (l:List Bs) (i:Nat),i<l.length->(∀x∈rp,x.length=32)->Kg s l.length i rp=some (Cs l)->(l[i]?=some s/\rp=(EK l i).reverse)\/NC (EC s l.length i rp) (Cq l):=by
 intro rp;induction rp with
 |nil=>
  intro l i hi X h;unfold Kg at h;split at h
  · rename_i hn
    match l,hi,hn with
    |[x],hi,_=>
     injection h with h
     rw [Kl]at h;rw [IY];rcases Vm (a:=s) (c:=x) (jc s _ _ _) (D0.2 rfl) h with e|e
     · obtain rfl:i=0:=by simpa using hi
       exact .inl ⟨by rw [e];rfl,by rw [Kq B3];rfl⟩
     · exact .inr e
  · cases h
 |cons x rp ih=>
  intro l i hi X h;unfold Kg at h;split at h;· cases h
  · rename_i hn
    have h2:2<=l.length:=by omega
    have Z:=FK h2;have l2:=En l.length
    have hx:=X x B3;have J:∀y∈rp,y.length=32:=fun y hy=>X y (HQ _ hy)
    rw [IQ h2]at h;rw [GK h2];split at h
    · rename_i hi2
      obtain ⟨w,E,G⟩:=S8.1 h;have m:=Xy rp _ _ _ E
      have K:w.length=32:=by rw [m];exact Y7 _
      rw [EC,As hn,B0 hi2,<-m];rcases QS K (Dk _) (DA _ (D0.2 rfl)) (DA _ (D0.2 rfl)) G with⟨O,U⟩|e
      · have g:(l.take (BV l.length)).length=BV l.length:=by rw [zy];omega
        rw [O]at E;have:=ih (l.take (BV l.length)) i (by rw [g];exact hi2) J (by rw [g];exact E)
        rw [g]at this;rcases this with⟨I,W⟩|f
        · rw [Gk,B0 hi2]at I
          exact .inl ⟨I,by rw [Iy h2 hi2,SM,<-W,<-U];rfl⟩
        · exact .inr (f.mono (fun y hy=>E3 _ hy) (fun y hy=>E3 _ (E3 _ hy)))
      · exact .inr e
    · rename_i hi2
      obtain ⟨w,E,G⟩:=S8.1 h;have m:=Xy rp _ _ _ E
      have K:w.length=32:=by rw [m];exact Y7 _
      rw [EC,As hn,As hi2,<-m];rcases QS hx (Dk _) (DA _ (D0.2 rfl)) (DA _ (D0.2 rfl)) G with⟨O,U⟩|e
      · have g:(l.drop (BV l.length)).length=l.length -BV l.length:=C0 ..
        rw [U]at E;have:=ih (l.drop (BV l.length)) (i -BV l.length) (by rw [g];omega) J (by rw [g];exact E)
        rw [g]at this;rcases this with⟨I,W⟩|f
        · rw [Hh,show BV l.length+(i -BV l.length)=i by omega]at I
          exact .inl ⟨I,by rw [Hu h2 hi2,SM,<-W,<-O];rfl⟩
        · exact .inr (f.mono (fun y hy=>E3 _ hy) (fun y hy=>E3 _ (DA _ hy)))
      · exact .inr e
def Kc(rs:List AY):List Bs:=Cq (Im rs)++tcs.flatMap fun x=>Cq (Gu (BI rs (x.1:Int) x.2))
theorem vW:∀x∈Cq (Im rs),x∈Kc rs:=fun x hx=>E3 _ hx
theorem vX(g:t<4)(hc:c<4):∀x∈Cq (Gu (BI rs (t:Int) c)),x∈Kc rs:=fun x hx=>
 DA _ (N6.2 ⟨(t,c),Cd (Ut t g c hc),hx⟩)
theorem wU(rs:List AY)(g:t<4)(hc:c<4):(Im rs)[4*t+c]?=some (WZ rs (t,c)):=by
 unfold Im;rw [FG,Ut t g c hc];rfl
theorem WC{a:List Bs}{y x:Bs}(hx:a[i]?=some x)(h:∀z∈a.take i,¬(z≠y/\sha z=sha y))(h2:¬(x≠y/\sha x=sha y)):∀z∈a.take (i+1),¬(z≠y/\sha z=sha y):=by
 rw [C8 hx];intro z hz;rcases DM.1 hz with h9|h9
 · exact h z h9
 · rw [D0.1 h9];exact h2
noncomputable instance(a b:List Bs):Decidable (NC a b):=Classical.propDecidable _
def yC(x:Bs):A4:=Ci (sha x)
theorem Je(l:List Bs):∀u∈l.map Ci,u.oneCell'=true:=by
 intro u g;obtain ⟨x,_,rfl⟩:=GB.1 g;rfl
theorem MK(n:Nat)(IH:∀{M:List AU} {v:A4} {ls:List Bs},ls.length<n->DK M v ls->ls.length<=1000000->(∀s∈ls,s.length<=140737488354000)->Bz prog 92 #[v] [M] (fun r H'=>∃W,BZ 1 9 r (Cq ls).length ((Cq ls).map Ci) W/\H'=[W,M])){ls:List Bs}(kv:ls.length=n)(hv:DK M v ls)(hn:ls.length<=1000000)(I:∀s∈ls,s.length<=140737488354000):Bz prog 92 #[v] [M] (fun r H'=>∃W,BZ 1 9 r (Cq ls).length ((Cq ls).map Ci) W/\H'=[W,M]):=by
 have l8:=mL;obtain ⟨p,cap,rfl,hl,hg⟩:=id hv;refine Se func92 ntmps92 [0] ?_;intro u R;refine A1<|A3 Y<|Zq<|A1<|Zm Y<|Zv (AP Bk Y)<|Zv (Bb (n:=0) Y Y)<|AD<|Ak Y (fun h0=>?_) (fun h0=>?_);·
  have e1:ls=[]:=Lq h0;refine A1<|Ze (Af (vs:=[_]) (cs:=[_]) Bk CH HR Y V rfl V rfl V)<|AF fun Z=>A3 Y<|AA<|Zt<|AC rfl results92 Y (by exact ⟨_,by rw [e1,OO];exact EX 1 9 Z 1 [Ci []] rfl AK,rfl⟩)
 refine AB<|Zx<|Zq<|A1<|Zm Y<|Zv (AP Bk Y)<|Zv (Bb (n:=1) Y Y)<|AD<|Ak Y (fun h1=>?_) (fun h1=>?_);·
  obtain ⟨x,rfl⟩:∃x,ls=[x]:=by
   match ls,h1 with
   |[x],_=>exact ⟨x,rfl⟩
  obtain ⟨g,off,cur,T,zz,rfl,ax,G⟩:=hg 0 x rfl;have l9:=I x B3
  refine A1<|Zm Y<|Ap (BP (j:=0) Bk CH Y Y CT)<|Ca (cs:=[(g,.cells cur T zz)]) (by simp [ax]) (Bj Fm Y (by exact G)) rfl rfl ?_;refine Ap (CY Y Y (by first|(show 1+_<=_;rw [BO];omega)))<|Ze (Af (vs:=[_]) (cs:=[_]) Bk CH HR Y rfl rfl rfl rfl rfl)<|AF fun Z=>AH Y<|Zn [2] ?_;refine Zx<|AA<|Zt<|AC rfl results92 Y (by exact ⟨_,by rw [IY];exact BH (EX 1 9 Z 1 [.string (str [0]++str x)] rfl AK) rfl (by rw [CZ];rfl),rfl⟩)
 have X:2<=ls.length:=by omega
 have af:=FK X;have gy:=En ls.length
 have m:(ls.take (BV ls.length)).length=BV ls.length:=by rw [zy];omega
 have bn:(ls.drop (BV ls.length)).length=ls.length -BV ls.length:=C0 ..;obtain ⟨g8,cu,bf,T8,p8,rfl,kz,gq⟩:=hg 0 _ (zn A0);have K:=hv.take (BV ls.length) A0
 have J:=hv.drop (BV ls.length) af;have lv:=Fa _ (ls.take (BV ls.length)) (B8 _)
 have mR:=Fa _ (ls.drop (BV ls.length)) (B8 _);refine AB<|Zx<|A1<|Zm Y<|Zv (AP Bk Y)<|Xr [_] Y call122 Y V (X3 ls.length X A0) ?_;refine A3 Y<|Zq<|BJ (n:=10) (0::0::3::7::0::0::48::127::255::511::[]) 392 AG AG V<|A2 0 V (AJ Y)<|A2 1 V (AJ Y)<|A2 2 V (Bc Bk CH Y Y A0)<|A2 4 V (AJ Y)<|A2 5 V (AJ Y) ?_
 (refine Bq (D':=119) 6 (FJ Bk CH Y Y ?_ ?_) ?_;(focus (omega));(focus (omega)))
 refine Zz (l:=[3])<|BE [] [] rfl rfl (Zw [_] Y call92 Y rfl (IH (ls:=ls.take (BV ls.length)) (by rw [m];omega) (by exact K) (by rw [m];omega) (fun s h=>I s (HI h)))) ?_ Co Ay;rintro _ _ ⟨_,⟨s1,O,rfl⟩,rfl⟩;refine ⟨Ae,?_⟩;obtain ⟨q1,c1,rfl⟩:=O.form;refine Zz (l:=[7])<|BE [] [] rfl rfl (Zw [_] Y call92 Y rfl (IH (ls:=ls.drop (BV ls.length)) (by rw [C0];omega) (by exact J) (by rw [C0];omega) (fun s h=>I s (ID h)))) ?_ Co Ay;rintro _ _ ⟨_,⟨s2,U,rfl⟩,rfl⟩;refine ⟨Ae,?_⟩;obtain ⟨q2,c2,rfl⟩:=U.form;refine Yw 8 511 V (BR (by_:=16) (sz:=1) Bk (V:Tryz.prog.info? 9=some Tryz.t9) V rfl V rfl Y (O) Y (Ig U) Wo Wo (by exact Je _) A0 A0) ?_;rintro _ _ ⟨o8,y,rfl⟩;obtain ⟨ek,cO,rfl⟩:=y.form;refine A2 9 V (BF Y)<|Ao<|Zn [0,3,4] ?_;refine Zx<|Zq<|BJ (n:=14) (0::0::0::6::14::30::0::0::192::478::1022::2046::4095::8191::[]) 6672 AG AG rfl<|A2 0 rfl (AJ Y)<|A2 1 rfl (AJ Y)<|A2 2 rfl (AJ Y)<|A2 3 rfl (Bc Bk CH Y Y CT)<|A2 6 rfl (AJ Y)<|A2 7 rfl (AJ Y) ?_
 (refine Bq (D':=463) 8 (FJ Bk CH Y Y ?_ ?_) ?_;(focus (first|omega|decide|(simp;done)));(focus (first|omega|decide|(simp;done))))
 refine Yw 4 479 rfl (Zu [_] Y call58 Y rfl (Oz _ (B8 _) (ls:=ls.take (BV ls.length)) (by exact K) (by rw [m];omega) (fun s h=>I s (HI h))))<|C3<|A2 5 rfl (CY Y Y (by(show 1+_<=_;rw [BO,Dk];omega)))<|Yw 9 1023 rfl (Zu [_] Y call58 Y rfl (Oz _ (B8 _) (ls:=ls.drop (BV ls.length)) (by exact J) (by rw [C0];omega) (fun s h=>I s (ID h))))<|C3<|A2 10 rfl (CY Y Y (by(show(str [1]++str _).size+(str _).size<=_;rw [CZ,BO,BO,zq,Dk,Dk];decide)))<|Yw 11 4095 rfl (Af (vs:=[_]) (cs:=[_]) Bk CH HR Y rfl rfl rfl rfl rfl)<|AF fun g3=>Yw 12 8191 V (Db (by_:=16) (sz:=1) (news:=[_]) Bk (V:Tryz.prog.info? 9=some Tryz.t9) V rfl V rfl Y y Y Wo Wh An V GF AK A0 A0) ?_;rintro _ _ ⟨o9,E,rfl⟩;obtain ⟨gm,d9,rfl⟩:=E.form;refine A2 13 V (BF Y)<|Ao<|Zn [2] ?_;refine Zx<|AA<|AC rfl results92 Y (by exact ⟨_,BH E (by rw [GK X,zq,zq];rfl) (by rw [GK X,Dg,Dg,LL];unfold Ci;rw [show(⟨#[1]⟩:ByteArray)=str [1] from rfl,CZ,CZ];rfl),rfl⟩)
theorem Lg:∀(n:Nat) {M:List AU} {v:A4} {ls:List Bs},ls.length<=n->DK M v ls->ls.length<=1000000->(∀s∈ls,s.length<=140737488354000)->Bz prog 92 #[v] [M] (fun r H'=>∃G,BZ 1 9 r (Cq ls).length ((Cq ls).map Ci) G/\H'=[G,M])
 |0,_,_,ls,h,hv,hn,hs=>MK ls.length (fun E=>absurd E A0) rfl hv hn hs
 |n+1,_,_,ls,h,hv,hn,hs=>MK ls.length (fun E y g m=>Lg n A0 y g m) rfl hv hn hs
theorem nu{M':List AU}{va vb:A4}{a b:List Bs}(ha:DK M va a)(hb:DK M' vb b)(q9:a.length<=1000000000000)(l8:∀s∈a,s.length<=140737488354000)(l9:∀s∈b,s.length<=140737488354000):BC prog 14 #[va,vb] [M,M'] (.bool (decide (NC a b))):=by
 have q8:=mL;obtain ⟨pa,ca,rfl,pq,cu⟩:=ha;obtain ⟨pb,cb,rfl,pz,kv⟩:=hb;refine Se func14 ntmps14 [0,1] ?_;intro u R;refine A1<|A3 Y<|A1<|A3 Y<|Zq<|A1<|A3 Y<|AX<|Bl<|Zb [5,6,0,1] ?_;refine BB (e0:=[(5,_),(6,_)]) (fun m e H=>∃(i:Nat) (vx:A4) (sx:List AU),m=a.length -i/\(i<=a.length/\BZ 1 9 vx i ((a.take i).map yC) sx)/\e=[(5,vx),(6,I4 (i:Int))]/\H=[sx]) (by exact ⟨0,.slice none 0 0,[],V,⟨C2 _,Ba 1 _⟩,V,V⟩) Wp ?_;rintro _ _ _ ⟨i,vx,sx,rfl,⟨hi,K⟩,rfl,rfl⟩;obtain ⟨qx,cx,rfl⟩:=K.form;refine Zq<|A1<|Zm Y<|Zm Y<|Zv (AP Bk Y)<|Zv (Au Y Y)<|AD<|Ak Y (fun ek=>?_) (fun ek=>?_);·
  obtain ⟨x,hx⟩:∃x,a[i]?=some x:=⟨_,zn ek⟩;obtain ⟨g1,gq,E,T1,ax,rfl,af,G⟩:=cu i x hx;have qa:=l8 x (Cd hx)
  refine AB<|Zx<|Zq<|AX<|Zg<|Zm Y<|Zm Y<|Zm Y<|Ap (BP Bk CH Y Y CT)<|Ca (cs:=[(g1,.cells E T1 ax)]) (by simp [af]) (Bj Fm Y (by exact G)) rfl rfl ?_;refine Xr [_] Y call42 Y V (H7 x A0) ?_;refine Ze (Af (vs:=[_]) (cs:=[_]) Bk CH HR Y V rfl V rfl V)<|AF fun gs=>Ze (Db (by_:=16) (sz:=1) (news:=[_]) Bk (V:Tryz.prog.info? 9=some Tryz.t9) V rfl V rfl Y K Y Wo Wh An V GF AK A0 A0) ?_;rintro _ _ ⟨qc,X,rfl⟩;obtain ⟨pg,p9,rfl⟩:=X.form;refine AH Y<|Zn [0,1,5,6] ?_;refine A8<|Zx<|Zg<|Zm Y<|Ya (n:=1) Y Y<|AH Y<|Zn [5,6,0,1] ?_;refine AZ (e':=[(5,_),(6,_)]) (by exact ⟨i+1,_,_,rfl,⟨by omega,BH X rfl (by rw [C8 hx,Dg];rfl)⟩,rfl,rfl⟩)
 have ei:i=a.length:=by omega
 subst ei;rw [G0]at K;refine Aw<|Zt<|Zt<|AQ<|Zx<|Zq<|A1<|A3 Y<|AX<|Zb [7,0,1,5] ?_;refine BB (e0:=[(7,_)]) (fun m e H=>∃(k:Nat),m=b.length -k/\(k<=b.length/\∀y∈b.take k,∀z∈a,¬(z≠y/\sha z=sha y))/\e=[(7,I4 (k:Int))]/\H=[]) (by exact ⟨0,V,⟨C2 _,by simp⟩,V,V⟩) Wp ?_;rintro _ _ _ ⟨k,rfl,⟨hk,U⟩,rfl,rfl⟩;refine Zq<|A1<|Zm Y<|Zm Y<|Zv (AP Bk Y)<|Zv (Au Y Y)<|AD<|Ak Y (fun d9=>?_) (fun d9=>?_);·
  obtain ⟨y,hy⟩:∃y,b[k]?=some y:=⟨_,zn d9⟩;obtain ⟨g2,p8,O,T2,gy,rfl,gm,W⟩:=kv k y hy;have qb:=l9 y (Cd hy)
  refine AB<|Zx<|Zq<|AX<|A1<|Zm Y<|Zm Y<|Ap (BP Bk CH Y Y CT)<|Ca (cs:=[(g2,.cells O T2 gy)]) (by simp [gm]) (Bj Fm Y (by exact W)) rfl rfl ?_;refine Xr [_] Y call42 Y V (H7 y A0) ?_;refine A3 Y<|A1<|A3 Y<|AX<|Zb [9,0,1,5,7,8] ?_;refine BB (e0:=[(9,_)]) (fun m e H=>∃(j:Nat),m=a.length -j/\(j<=a.length/\∀z∈a.take j,¬(z≠y/\sha z=sha y))/\e=[(9,I4 (j:Int))]/\H=[]) (by exact ⟨0,V,⟨C2 _,by simp⟩,V,V⟩) Wp ?_;rintro _ _ _ ⟨j,rfl,⟨hj,J⟩,rfl,rfl⟩;refine Zq<|A1<|Zm Y<|Zm Y<|Zv (AP Bk Y)<|Zv (Au Y Y)<|AD<|Ak Y (fun cO=>?_) (fun cO=>?_);·
   obtain ⟨x,hx⟩:∃x,a[j]?=some x:=⟨_,zn cO⟩;obtain ⟨g1,gq,E,T1,ax,rfl,af,G⟩:=cu j x hx;obtain ⟨gx,o8,bf,zx,lv,rfl,o9,kz⟩:=Iq K A0;injection lv with e1 e2 e3
   subst e1 e3;have mR:bf[j]?=some (yC x):=kz j _ (by rw [FG,hx];rfl)
   refine AB<|Zx<|Zq<|AX<|Zq<|BJ (n:=17) (0::0::3::7::0::31::63::127::127::511::1023::127::127::6271::14463::32767::65535::[]) 0 AG AG rfl<|A2 0 rfl (AJ Y)<|A2 1 rfl (AJ Y)<|A2 2 rfl (BD Bk CH Y Y CT)<|B2 3 rfl Fm Y (hv:=by exact mR) ?_;refine A2 4 V (AJ Y)<|A2 5 V (NN Y Y)<|A2 6 V (AJ Y)<|Cc (t:=47) Y (fun g=>?_) (fun g=>?_);·
    first|rw [CA g]|rw [g]|skip
    have bn:=Lc g;refine B1 7 rfl (AJ Y)<|B1 8 rfl (AJ Y)<|B1 9 rfl (BP Bk CH Y Y CT)<|XB (b:=g1) (x:= .cells E T1 ax) (D':=2047) 10 Y rfl rfl rfl (by simp [af]) (Bj Fm Y (by exact G)) ?_;refine B1 11 rfl (AJ Y)<|B1 12 rfl (AJ Y)<|B1 13 rfl (BP Bk CH Y Y CT)<|XB (b:=g2) (x:= .cells O T2 gy) (D':=32767) 14 Y rfl rfl rfl (by simp [gm]) (Bj Fm Y (by exact W)) ?_;refine B1 15 V (NM Y Y)<|A2 16 V (AR Y Y)<|Ao<|Zn [0,1,5,7,8,9,57] ?_;refine Zx<|Ak Y (fun Z=>?_) (fun Z=>?_);·
     refine A1<|A3 Y<|AA<|Ab<|Zt<|Zt<|Ab<|Ab<|Zt<|Zt<|Ab<|Zt<|AC rfl results14 Y (by exact ⟨congrArg Value.bool (CA (show NC a b from⟨x,Cd hx,y,Cd hy,fun e=>Z (by rw [e]),bn⟩)).symm,rfl⟩)
    refine AB<|A8<|Zx<|Zg<|Zm Y<|Ya (n:=1) Y Y<|AH Y<|Zn [9,0,1,5,7,8] ?_;refine AZ (e':=[(9,_)]) (by exact ⟨j+1,V,⟨by omega,WC hx J (by intro I;(exact Z (fun h8=>I.1 (Lc h8))))⟩,V,V⟩)
   first|rw [Bm g]|rw [g]|skip
   refine AW 7 V<|AW 8 V<|AW 9 V<|AW 10 V<|AW 11 V<|AW 12 V<|AW 13 V<|AW 14 V<|AW 15 V<|A2 16 V (AL Y Y)<|Ao<|Zn [0,1,5,7,8,9,57] ?_;refine Zx<|Dj Y<|AB<|A8<|Zx<|Zg<|Zm Y<|Ya (n:=1) Y Y<|AH Y<|Zn [9,0,1,5,7,8] ?_;refine AZ (e':=[(9,_)]) (by exact ⟨j+1,rfl,⟨by omega,WC hx J (by intro I;exact g (by rw [I.2]))⟩,rfl,rfl⟩)
  rw [HK A0]at J;refine Aw<|Zt<|Zt<|AQ<|A8<|Zx<|Zg<|Zm Y<|Ya (n:=1) Y Y<|AH Y<|Zn [7,0,1,5] ?_;refine AZ (e':=[(7,_)]) (by exact ⟨k+1,rfl,⟨by omega,fun w hw=>by rw [C8 hy]at hw;rcases DM.1 hw with I|I;exact U w I;rw [D0.1 I];exact J⟩,rfl,rfl⟩)
 refine Aw<|Zt<|Zt<|AQ<|Zx<|A1<|A3 Y<|AA<|AC rfl results14 Y (by exact ⟨congrArg Value.bool (Bm (show¬NC a b from fun⟨z,hz,y,hy,I⟩=>U y (by rw [HK A0];exact hy) z hz I)).symm,rfl⟩)
def Rc(rs:List AY)(n:Nat):List Bs:=Cq (Im rs)++(tcs.take n).flatMap fun x=>Cq (Gu (BI rs (x.1:Int) x.2))
theorem Xh(rs:List AY):Rc rs 16=Kc rs:=by unfold Rc Kc;rw [show tcs.take 16=tcs from rfl]
theorem ag(rs:List AY):Rc rs 0=Cq (Im rs):=by unfold Rc;simp
theorem U6(rs:List AY)(g:t<4)(hc:c<4):Rc rs (4*t+c+1)=Rc rs (4*t+c)++Cq (Gu (BI rs ((t:Nat):Int) c)):=by
 unfold Rc;rw [C8 (Ut t g c hc),Ly,D2];simp
theorem Xg{rs:List AY}(m:BL rs)(hn:rs.length<=2000):∀n,n<=16->(Rc rs n).length<=33+4001*n
 |0,_=>by
  rw [ag];have:=(Fa _ (Im rs) (B8 _)).1
  rw [FO]at this;omega
 |n+1,h=>by
  have E:=Xg m hn n A0;have e:n=4*(n/4)+n%4:=by omega
  have g:=U6 rs (t:=n/4) (c:=n%4) A0 A0;rw [<-e]at g;have h2:=(Fa _ (Gu (BI rs ((n/4:Nat):Int) (n%4))) (B8 _)).1
  have y:=Fh m ((n/4:Nat):Int) (n%4);rw [EJ]at h2;rw [g,zq];omega
theorem ru(m:BL rs)(hn:rs.length<=2000)(g:∀r∈rs,r.ok):(∀s∈Kc rs,s.length<=1000)/\(Kc rs).length<=100000:=by
 refine ⟨fun s h=>?_,?_⟩
 · rcases DM.1 h with h|h
   · exact LJ _ _ 1000 (B8 _) AK (fun x hx=>by obtain ⟨y,_,rfl⟩:=GB.1 hx;have:=MS m hn y;omega) s h
   · obtain ⟨x,_,h⟩:=N6.1 h
     exact LJ _ _ 1000 (B8 _) AK (fun z hz=>by have:=PX (fun r E=>g r (GV E)) z hz;omega) s h
 · have:=Xg m hn 16 A0
   rw [Xh]at this;omega
theorem uH(rp:Nat)(p:Int)(w:A4)(rs:List AY)(sv:List AU)(E:BZ 5 98 w rs.length (Ac rs) sv)(hn:rs.length<=2000)(hs:BL rs)(K:∀r∈rs,r.ok):Bz prog 41 #[I5 rp] [[(rp,.cells #[w,I4 p] 130 (0,0))],sv] (fun r H'=>∃I,BZ 1 9 r (Kc rs).length ((Kc rs).map Ci) I/\H'=[I,[(rp,.cells #[w,I4 p] 130 (0,0))],sv]):=by
 have gm:=mL;refine Se func41 ntmps41 [0] ?_;intro u R;refine A1<|A3 Y<|A1<|Zm Y<|Zc [_] Y call59 Y V (YX rp p w rs sv E hn hs K) ?_;rintro _ _ ⟨_,⟨sm,bn,rfl⟩,rfl⟩;have ax:=Eu (BH bn (FO rs).symm rfl) (by rw [FO];omega)
 refine Zc [_] Y call92 Y rfl (Lg _ (B8 _) ax (by rw [FO];omega) (fun s h=>by obtain ⟨x,_,rfl⟩:=GB.1 h;have:=MS hs hn x;omega)) ?_;rintro _ _ ⟨_,⟨sh,X,rfl⟩,rfl⟩;rw [<-ag]at X;refine A3 Y<|Zq<|A1<|A3 Y<|AX<|Zb [3,4,0] ?_;refine BB (e0:=[(3,_),(4,_)]) (fun m e H=>∃(t:Nat) (vo:A4) (I:List AU),m=4 -t/\(t<=4/\BZ 1 9 vo (Rc rs (4*t)).length ((Rc rs (4*t)).map Ci) I)/\e=[(3,vo),(4,I4 (t:Int))]/\H=[I]) (by exact ⟨0,_,sh,V,⟨by omega,X⟩,V,V⟩) Wp ?_;rintro _ _ _ ⟨t,vo,I,rfl,⟨ht,Z⟩,rfl,rfl⟩;refine Zq<|A1<|Zm Y<|Zv (Au (n:=4) Y Y)<|AD<|Ak Y (fun O=>?_) (fun O=>?_);·
  refine AB<|Zx<|Zq<|AX<|A1<|A3 Y<|AX<|Zb [3,5,0,4] ?_;refine BB (e0:=[(3,_),(5,_)]) (fun m e H=>∃(c:Nat) (U:A4) (y:List AU),m=4 -c/\(c<=4/\BZ 1 9 U (Rc rs (4*t+c)).length ((Rc rs (4*t+c)).map Ci) y)/\e=[(3,U),(5,I4 (c:Int))]/\H=[y]) (by exact ⟨0,vo,I,V,⟨by omega,Z⟩,V,V⟩) Wp ?_;rintro _ _ _ ⟨c,U,y,rfl,⟨hc,g⟩,rfl,rfl⟩;obtain ⟨qo,co,rfl⟩:=g.form;have ek:=Xg hs hn (4*t+c) A0
  refine Zq<|A1<|Zm Y<|Zv (Au (n:=4) Y Y)<|AD<|Ak Y (fun J=>?_) (fun J=>?_);·
   have gq:=Fh hs (t:Int) c;refine AB<|Zx<|Zq<|AX<|Zg<|Zm Y<|Zm Y<|Zm Y<|Zm Y<|Zc [_,_,_] Y call96 Y V (VJ rp p w rs sv E hn (t:Int) c A0) ?_;rintro _ _ ⟨_,⟨sx,hx,rfl⟩,rfl⟩;have bf:=D6 hx A0
   refine Zc [_] Y call95 Y V (Qz bf A0 (fun r h=>K r (GV h))) ?_;rintro _ _ ⟨_,⟨se,he,rfl⟩,rfl⟩;obtain ⟨qe,ce,rfl⟩:=he.form;have af:DK se (.slice qe (BI rs (t:Int) c).length ce) (Gu (BI rs (t:Int) c)):=Eu (BH he (EJ _).symm rfl) (by rw [EJ];omega)
   have cu:=(Fa _ (Gu (BI rs (t:Int) c)) (B8 _)).1;rw [EJ]at cu;refine Zc [_] Y call92 Y rfl (Lg _ (B8 _) af (by rw [EJ];omega) (fun s h=>by have:=PX (fun r hr=>K r (GV hr)) s h;omega)) ?_;rintro _ _ ⟨_,⟨sg,W,rfl⟩,rfl⟩;obtain ⟨qg,cg,rfl⟩:=W.form;refine Ze (BR (by_:=16) (sz:=1) Bk (V:Tryz.prog.info? 9=some Tryz.t9) V rfl V rfl Y (g) Y (Ig W) Wo Wo (by exact Je _) A0 A0) ?_;rintro _ _ ⟨gy,G,rfl⟩;obtain ⟨d9,cO,rfl⟩:=G.form;refine AH Y<|A8<|Zx<|Zg<|Zm Y<|Ya (n:=1) Y Y<|AH Y<|Zn [3,5,0,4] ?_;refine AZ (e':=[(3,_),(5,_)]) (by exact ⟨c+1,_,_,rfl,⟨by omega,BH G (by rw [<-SU,U6 rs O J,zq]) (by rw [<-SU,U6 rs O J,Dg])⟩,rfl,rfl⟩)
  refine Aw<|Zt<|Zt<|AQ<|A8<|Zx<|Zg<|Zm Y<|Ya (n:=1) Y Y<|AH Y<|Zn [3,4,0] ?_;refine AZ (e':=[(3,_),(4,_)]) (by exact ⟨t+1,_,y,V,⟨by omega,by have e4:c=4:=A0;subst e4;exact g⟩,V,V⟩)
 have e4:t=4:=by omega
 subst e4;refine Aw<|Zt<|Zt<|AQ<|Zx<|A1<|Zm Y<|A3 Y<|AA<|AC rfl results41 Y (by exact ⟨I,BH Z (by rw [<-Xh]) (by rw [<-Xh]),rfl⟩)
structure WQ(rs:List AY)(x:RP):Prop where
 roots:x.roots=Im rs
 ct:x.ct=((BI rs x.tb x.cl.toNat).length:Int)
 row:∀(k:Nat) (r:AY),x.rows[k]?=some r->(BI rs x.tb x.cl.toNat)[x.fi.toNat+k]?=some r
 path:∀(k:Nat) (pf:List Bs),k<x.rows.length->x.paths[k]?=some pf->pf=EK (Gu (BI rs x.tb x.cl.toNat)) (x.fi.toNat+k)
def R5(x:RP)(k:Nat):List Bs:=match x.rows[k]?,x.paths[k]?with
 |some r,some pf=>EC (Ep r) x.ct.toNat (x.fi.toNat+k) pf.reverse
 |_,_=>[]
def CV(x:RP):List Bs:=(Cq x.roots++[[]])++(List.range (min x.rows.length x.paths.length)).flatMap (R5 x)
variable{x:RP}{pf:List Bs}
theorem Sl(m:x.rows[k]?=some r)(g:x.paths[k]?=some pf):R5 x k=EC (Ep r) x.ct.toNat (x.fi.toNat+k) pf.reverse:=by
 unfold R5;rw [m,g]
theorem lJ:∀y∈Cq x.roots,y∈CV x:=fun _ h=>E3 _ (E3 _ h)
theorem lK(m:x.rows[k]?=some r)(g:x.paths[k]?=some pf):∀y∈EC (Ep r) x.ct.toNat (x.fi.toNat+k) pf.reverse,y∈CV x:=fun y h=>by
 have E:=(zt.1 m).1;have h2:=(zt.1 g).1
 exact DA _ (N6.2 ⟨k,L0.2 A0,by rw [Sl m g];exact h⟩)
theorem gY(h:pf.any PL=false):∀y∈pf,y.length=32:=fun y hy=>by
 have:=ff.1 h y hy;unfold PL at this;simpa using this
theorem mE(h:Ke (E8 rs) x):WQ rs x\/NC (CV x) (Kc rs):=by
 by_cases hc:NC (CV x) (Kc rs)
 · exact .inr hc
 left;obtain ⟨⟨bf,cu⟩,ax,bn⟩:=h.comp.tc;obtain ⟨t,ht⟩:=Ml bf;obtain ⟨c,K⟩:=Ml ax;have U:t<4:=by omega
 have m:c<4:=by omega
 have e1:x.roots=Im rs:=by
  rcases Q9 _ x.roots (Im rs) (B8 _) (by rw [FO,h.n16]) h.root with e|e
  · exact e
  · exact absurd (e.mono lJ vW) hc
 obtain ⟨d,hd,O,hz,hv⟩:=h.sum;rw [ht,K,M1,M1,e1,wU rs U m]at O;injection O with O
 unfold WZ at O;obtain ⟨e2,e3⟩:=Js O;have Z:BI rs x.tb x.cl.toNat=BI rs (t:Int) c:=by rw [ht,K,M1]
 have E:∀(k:Nat) (r:AY) (pf:List Bs),x.rows[k]?=some r->x.paths[k]?=some pf->(BI rs (t:Int) c)[x.fi.toNat+k]?=some r/\pf=EK (Gu (BI rs (t:Int) c)) (x.fi.toNat+k):=by
  intro k r pf J X;have g:=(zt.1 J).1
  have hn:=h.comp.n;have hf:=h.comp.fi
  have I:=hv A0 k r pf J X;unfold RU at I;rw [Fo,N5,I2]at I;obtain ⟨af,W⟩:=I;have G:(Gu (BI rs (t:Int) c)).length=x.ct.toNat:=by rw [EJ];simp only at e2;omega
  have hb:=mF (s:=Ep r) pf.reverse (Gu (BI rs (t:Int) c)) (x.fi.toNat+k) (by rw [G];omega) (fun y hy=>gY af y (Wa.1 hy)) (by rw [G,W,e3]);rw [G]at hb;rcases hb with⟨f1,f2⟩|f
  · unfold Gu at f1
    rw [FG]at f1;obtain ⟨q,hq,he⟩:=S8.1 f1;rw [eQ he]at hq;exact ⟨hq,List.reverse_inj.1 f2⟩
  · exact absurd (f.mono (lK J X) (vX U m)) hc
 refine ⟨e1,by rw [Z];exact e2.symm,fun k r J=>?_,fun k pf g X=>?_⟩
 · have g:=(zt.1 J).1
   rw [Z];exact (E k r _ J (zn (by rw [h.np];exact g))).1
 · rw [Z]
   exact (E k _ pf (zn g) X).2
theorem fG(U:WQ rs x)(hc:Fp x):Xj rs x.tb.toNat x.cl.toNat x.lo x.hi x.fi.toNat (x.fi.toNat+x.rows.length)/\x.rows=((BI rs x.tb x.cl.toNat).drop x.fi.toNat).take x.rows.length:=by
 obtain ⟨⟨bn,cu⟩,W,X⟩:=hc.tc;have G:=U.row
 have ax:=U.ct;have af:=hc.n
 have Z:=hc.fi;have I:=hc.none
 have E:BI rs ((x.tb.toNat:Nat):Int) x.cl.toNat=BI rs x.tb x.cl.toNat:=by rw [show((x.tb.toNat:Nat):Int)=x.tb by omega]
 have hv:∀r:AY,Bh r x.cl=DZ r x.cl.toNat:=fun r=>by
  have:=KT r x.cl.toNat A0;rwa [show((x.cl.toNat:Nat):Int)=x.cl by omega]at this
 have m:∀j,x.fi.toNat<=j->j<x.fi.toNat+x.rows.length->∀r,(BI rs x.tb x.cl.toNat)[j]?=some r->x.rows[j -x.fi.toNat]?=some r:=by
  intro j K h2 r g;obtain ⟨q,J⟩:∃q,x.rows[j -x.fi.toNat]?=some q:=⟨_,zn A0⟩;have:=G _ q J
  rw [show x.fi.toNat+(j -x.fi.toNat)=j by omega,g]at this;rw [J,this]
 refine ⟨⟨by omega,by rw [E];omega,fun h0=>?_,fun j r g K h2=>?_,fun j r g K h2=>?_,fun r g=>?_,fun r K g=>?_⟩,?_⟩
 · rw [E]at h0
   by_cases O:x.rows.length=0
   · have:=I O;omega
   · omega
 · rw [E]at g
   have y:=(hc.all _ r (m j A0 h2 r g)).1.2.2.1;rw [hv]at y;omega
 · rw [E]at g
   have y:=(hc.all _ r (m j K A0 r g)).1.2.2.2;rw [hv]at y;omega
 · rw [E]at g
   have bf:=(zt.1 g).1;by_cases O:x.rows.length=0;· have:=I O;omega
   · have y:=hc.first r (by have:=m x.fi.toNat (B8 _) A0 r g;rwa [S1]at this)
     rw [hv]at y;omega
 · rw [E]at g⊢
   have y:=hc.last r (by have:=m (x.fi.toNat+x.rows.length -1) A0 A0 r g;rwa [show x.fi.toNat+x.rows.length -1 -x.fi.toNat=x.rows.length -1 by omega]at this);rw [hv]at y;omega
 · apply OK
   intro j;rw [Gk];split
   · rename_i hj
     obtain ⟨q,J⟩:∃q,x.rows[j]?=some q:=⟨_,zn hj⟩;rw [Hh,G j q J,J]
   · exact Mb A0
theorem U2(E:BL rs)(hn:rs.length<=2000)(g:∀r∈rs,r.ok)(J:WQ rs x)(hc:Fp x):ES x=Cg rs x.tb x.cl.toNat x.lo x.hi:=by
 obtain ⟨m,h2⟩:=fG J hc;obtain ⟨⟨U,W⟩,K,O⟩:=hc.tc;have y:=jd E hn g x.tb.toNat x.cl.toNat A0 A0 hc.lh m
 have I:=WB E hn g x.tb.toNat x.cl.toNat A0 A0 hc.lh m;rw [show((x.tb.toNat:Nat):Int)=x.tb by omega]at y;rw [<-y,Q6 hc,Q6 I];have G:(gT rs x.tb.toNat x.cl.toNat x.lo x.hi x.fi.toNat (x.fi.toNat+x.rows.length)).rows=x.rows:=by
  show((BI rs ((x.tb.toNat:Nat):Int) x.cl.toNat).drop x.fi.toNat).take (x.fi.toNat+x.rows.length -x.fi.toNat)=x.rows;rw [show((x.tb.toNat:Nat):Int)=x.tb by omega,show x.fi.toNat+x.rows.length -x.fi.toNat=x.rows.length by omega];exact h2.symm
 rw [G];refine cJ fun r _=>?_;unfold inB;show decide (x.lo<=Bh r x.cl/\Bh r x.cl<=x.hi)=decide (x.lo<=Bh r ((x.cl.toNat:Nat):Int)/\Bh r ((x.cl.toNat:Nat):Int)<=x.hi)
 rw [show((x.cl.toNat:Nat):Int)=x.cl by omega]
def Ns(r:AY)(j:Nat):AY:=⟨r.t,r.k,⟨if j=0 then r.v.a+1 else r.v.a,if j=1 then r.v.b+1 else r.v.b,if j=2 then r.v.c+1 else r.v.c⟩⟩
end Go.Proofs.YtlkdhannldcfbaaGreatDoor
