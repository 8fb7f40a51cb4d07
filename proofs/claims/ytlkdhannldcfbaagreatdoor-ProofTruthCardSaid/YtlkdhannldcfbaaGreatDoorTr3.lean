/- row.Value, to the world: what the comparator of the sort wants. -/
import Derived.WalkSpells
import Derived.Test.YtlkdhannldcfbaaGreatDoorKs7
import Derived.Shelf.SlSortCmp.NoneTotal
set_option linter.unusedVariables false
set_option linter.unusedSimpArgs false
namespace Go.Proofs.YtlkdhannldcfbaaGreatDoor
open Go.Proofs.Tryz
open Go Go.RowKit Gw
set_option maxRecDepth 100000
attribute [local irreducible] Gw.At Gw.Nx Gw.Ops
open Go.Sort
def Bh(r:AY)(c:Int):Int:=if c=0 then r.k else if c=1 then r.v.a else if c=2 then r.v.b else if c=3 then r.v.c else 0
set_option maxHeartbeats 1000000 in
theorem K4(r:AY)(c:Int)(hc:0<=c/\c<=3)(W:A6):Calls prog 90 #[.agg r.Ao5,I4 c] W fun e g=>e= .returned (I4 (Bh r c))/\∃(q:Nat) (o:Obj),g=grow (W.drewN q) #[o]:=by
 obtain ⟨t,k,⟨m,y,E⟩⟩:=r;rcases (by omega:c=0\/c=1\/c=2\/c=3)with rfl|rfl|rfl|rfl
 all_goals
  go_enter func90,ntmps90
  go_wp2
  go_ret
  exact ⟨rfl,0,_,by rw [alloc_eq_grow];rfl⟩
def orL(x y:Int):Int:=if x=0 then y else x
theorem oQ(b:Nat)(x y:Int)(W:A6)(h0:W.cell? ⟨b,0,none⟩=some (I4 x))(G:W.cell? ⟨b,1,none⟩=some (I4 y)):Calls prog 149 #[I6 b 2 2] W fun e E=>e= .returned (I4 (orL x y))/\E=W:=by
 generalize hz:orL x y=z;have g:=Lib.hid hz
 clear hz
 go_enter func149,ntmps149
 go_wp2
 go_loop [5,8] (fun _ i=>∃(j:Nat),i=I4 j/\(j=0\/(j=1/\x=0)\/(j=2/\x=0/\y=0))) (fun _ i=>2 -(intOf i).toNat)
 case atStart=>exact ⟨0,rfl,.inl rfl⟩
 case round=>
  obtain ⟨j,rfl,m⟩:=hrel;rcases m with rfl|⟨rfl,hx⟩|⟨rfl,hx,hy⟩
  · by_cases hx:x=0
    · subst hx
      go_wp2
      go_round
      case rel=>exact ⟨1,by go_num,by simp⟩
      case measure=>simp [intOf]
    · go_wp2
      go_ret
      exact ⟨by rw [<-g.out];unfold orL;rw [As hx];rfl,rfl⟩
  · subst hx
    by_cases hy:y=0
    · subst hy
      go_wp2
      go_round
      case rel=>exact ⟨2,by go_num,by simp⟩
      case measure=>simp [intOf]
    · go_wp2
      go_ret
      exact ⟨by rw [<-g.out];unfold orL;rw [B0 rfl];rfl,rfl⟩
  · subst hx hy
    go_wp2
    go_ret
    exact ⟨by rw [<-g.out];rfl,rfl⟩
theorem YA{u w:A6}{H:Hp}(h:Sat u H w)(q:Nat)(os:Array Obj):Sat u H (grow (w.drewN q) os):=by
 refine ⟨h.os,h.tape,h.output,h.nodup,fun p m=>?_⟩;have g:=h.lt m
 show(w.heap++os)[p.1]?=_;rw [cC g];exact h.get p m
theorem KT(r:AY)(c:Nat)(hc:c<=3):Bh r (c:Int)=DZ r c:=by
 rcases (by omega:c=0\/c=1\/c=2\/c=3)with rfl|rfl|rfl|rfl<;>rfl
theorem SE(r:AY)(c:Nat)(hc:c<=3):BC prog 90 #[.agg r.Ao5,I4 (c:Int)] [] (I4 (DZ r c)):=fun u R w g=>
 (K4 r (c:Int) A0 w).mono (by
   rintro e m ⟨rfl,q,o,rfl⟩;exact .inl ⟨_,[],rfl,⟨by rw [KT r c hc],rfl⟩,YA g q _⟩)
theorem nZ(r:AY)(t:Int)(c:Nat)(lo hi:Int)(hc:c<=3)(g m y E:Nat):BC prog 89 #[.agg r.Ao5,I5 g,I5 m,I5 y,I5 E] [[(g,.cells #[I4 (c:Int)] 3 (0,0))],[(m,.cells #[I4 t] 3 (0,0))],[(y,.cells #[I4 lo] 3 (0,0))],[(E,.cells #[I4 hi] 3 (0,0))]] (.bool (inR t c lo hi r)):=by
 refine Se func89 ntmps89 [0,1,2,3,4] ?_;intro u R;refine A1<|Ze (Bx #[_,_,_,_,_])<|AF fun g=>A3 Y<|A1<|Zo Wh (Pa #[_,_,_,_,_] C7 Ax Y)<|Zl AE Y<|Xr [_,_] Y Q2 Y V (SE r c hc)<|A3 Y<|A1<|Zh 0 Ds V rfl A5 Y<|Zl AE Y<|Zl AE Y<|Zv (Br Y Y)<|Zm Y<|Ai (t:=15) Y V (fun G=>?_) (fun G=>?_);·
  refine Zf Y Y<|Yl AE Y<|Yg (I1 Y Y)<|Zv (AR Y Y)<|Zm Y<|Ai (t:=20) Y V (fun h2=>?_) (fun h2=>?_);·
   refine Zf Y Y<|Yl AE Y<|Yg (KI Y Y)<|Zv (AR Y Y)<|AH Y<|Zn [6] ?_;refine Zx<|AA<|AC V results89 Y (by exact ⟨by unfold inR;(simp_all;done),V⟩)
  refine A7 Y V<|A7 Y V<|A7 Y V<|Zv (AL Y Y)<|AH Y<|Zn [6] ?_;refine Zx<|AA<|AC V results89 Y (by exact ⟨by unfold inR;(congr 1;simp;omega),V⟩)
 refine A7 Y V<|A7 Y V<|A7 Y V<|Zv (AL Y Y)<|Zm Y<|A7 Y V<|A7 Y V<|A7 Y V<|Zv (AL Y Y)<|AH Y<|Zn [6] ?_;refine Zx<|AA<|AC V results89 Y (by exact ⟨by unfold inR;(simp_all;done),V⟩)
end Go.Proofs.YtlkdhannldcfbaaGreatDoor
namespace Go.Proofs.YtlkdhannldcfbaaGreatDoor
open Go.Proofs.Tryz
open Go Go.RowKit Gw
set_option maxRecDepth 100000
attribute [local irreducible] Gw.At Gw.Nx Gw.Ops
theorem LB:∀(n:Nat) (js:List Nat),js.Nodup->(∀j∈js,j<n)->js.length<=n
 |0,js,_,h=>by
  cases js with
  |nil=>simp
  |cons a l=>exact absurd (h a B3) (Nat.not_lt_zero _)
 |n+1,js,hn,h=>by
  by_cases y:n∈js
  · have m:=LB n (js.erase n) (hn.erase n) (fun j g=>by
     have h2:=(hn.mem_erase_iff).1 g;have E:=h j h2.2
     have G:=h2.1;omega)
    rw [List.length_erase_of_mem y]at m;omega
  · have m:=LB n js hn (fun j g=>by
     have E:=h j g;have G:j≠n:=fun e=>y (e▸g)
     omega)
    omega
def KG(r:AY):(Int×Int)×A4:=((r.t,r.k),SY r)
theorem NL{a b:AY}(h:KG a=KG b):a=b:=YH (Prod.mk.inj h).2
theorem dB{a b:List AY}(E:(a.map KG).Nodup)(h:(a.map KG).Perm (b.map KG)):a.Perm b:=by
 have G:∀{l:List AY},(l.map KG).Nodup->l.Nodup:=fun{l} hl=>by
  rw [T5,cL]at hl;rw [T5];exact hl.imp (fun m e=>m (by rw [e]))
 rw [dr (G E) (G (h.nodup E))];intro x;have g:=h.mem_iff (a:=KG x)
 rw [GB,GB]at g;constructor
 · intro hx
   obtain ⟨y,hy,e⟩:=g.1 ⟨x,hx,rfl⟩;rwa [NL e]at hy
 · intro hx
   obtain ⟨y,hy,e⟩:=g.2 ⟨x,hx,rfl⟩;rwa [NL e]at hy
variable{rs:List AY}
theorem Gx.perm{es:Array MapEntry}{y:Nat}{l:List ((Int×Int)×A4)}(I:FH K2 es y l)(h:Gx l rs)(J:BL rs):l.Perm (rs.map KG):=by
 have G:l.Nodup:=by
  have:=I.keys;rw [T5,cL]at this;rw [T5];exact this.imp (fun g e=>g (by rw [e]))
 have h2:(rs.map KG).Nodup:=by
  rw [T5,cL];refine J.imp (fun{a b} hab e=>?_);have E:=NL e
  subst E;unfold AY.lt2 at hab;omega
 rw [dr G h2];intro p;rw [h.mem p,GB];constructor;· rintro ⟨r,m,rfl⟩;exact ⟨r,m,rfl⟩
 · rintro ⟨r,m,rfl⟩;exact ⟨r,m,rfl⟩
structure Re(lm:List ((Int×Int)×A4))(f:AY->Bool)(js:List Nat)(o:List AY):Prop where
 rows:∃rl:List AY,rl.map KG=Hw lm js/\o=rl.filter f
theorem Y9(lm:List ((Int×Int)×A4))(f:AY->Bool):Re lm f [] []:=⟨[],rfl,rfl⟩
theorem Re.push{lm:List ((Int×Int)×A4)}{rs:List AY}{f:AY->Bool}{js:List Nat}{o:List AY}(h:Re lm f js o){j:Nat}{r:AY}(m:lm[j]?=some (KG r)):Re lm f (js++[j]) (o++(if f r then [r]else [])):=by
 obtain ⟨rl,g,h2⟩:=h.rows;refine ⟨rl++[r],by rw [Dg,g,PD lm js m];rfl,?_⟩;rw [KB,<-h2];cases hf:f r<;>simp [hf]
theorem Re.done{es:Array MapEntry}{y:Nat}{lm:List ((Int×Int)×A4)}(K:FH K2 es y lm)(J:Gx lm rs)(m:BL rs){f:AY->Bool}{js:List Nat}{o:List AY}(h:Re lm f js o)(O:(Hw lm js).Perm lm):o.Perm (rs.filter f):=by
 obtain ⟨rl,G,rfl⟩:=h.rows;have h2:=J.perm K m
 have g:(rl.map KG).Perm (rs.map KG):=by rw [G];exact O.trans h2
 have I:(rs.map KG).Nodup:=by
  rw [T5,cL];refine m.imp (fun{a b} hab e=>?_);have E:=NL e
  subst E;unfold AY.lt2 at hab;omega
 exact (dB (g.symm.nodup I) g).filter f
def leV(c:Nat)(a b:AY):Prop:=DZ a c<DZ b c\/DZ a c=DZ b c/\a.k<=b.k
def fM:Prop:=∀(cb c:Nat) (w:A4) (o:List AY) (s:List AU),c<=3->o.length<=2000->BZ 5 98 w o.length (Ac o) s->
    Bz prog 147 #[w,.func (.func 148) #[] #[I5 cb]] [s,[(cb,.cells #[I4 (c:Int)] 3 (0,0))]]
     (fun r H'=>r= .tuple #[]/\∃(s':List AU) (o':List AY),o'.Perm o/\o'.Pairwise (leV c)/\BZ 5 98 w o'.length (Ac o') s'/\H'=[s',[(cb,.cells #[I4 (c:Int)] 3 (0,0))]])
theorem XR(hS:fM)(sp Z:Nat)(p:Int)(es:Array MapEntry)(E:Nat)(lm:List ((Int×Int)×A4))(rs:List AY)(hm:FH K2 es E lm)(hR:Gx lm rs)(hs:BL rs)(hn:rs.length<=2000)(t:Int)(c:Nat)(lo hi:Int)(hc:c<=3)(b1 b2 b3 b4:Nat):
 Bz prog 88 #[I5 sp,I4 (c:Int),.func (.func 89) #[] #[I5 b1,I5 b2,I5 b3,I5 b4]] [[(sp,.cells #[.map (some Z),I4 p] 124 (0,0))],[(Z,.map es E)],[(b1,.cells #[I4 (c:Int)] 3 (0,0))],[(b2,.cells #[I4 t] 3 (0,0))],[(b3,.cells #[I4 lo] 3 (0,0))],[(b4,.cells #[I4 hi] 3 (0,0))]] (fun r H'=>∃(I:List AU) (o:List AY),BZ 5 98 r o.length (Ac o) I/\o.Perm (rs.filter (inR t c lo hi))/\o.Pairwise (leV c)/\H'=[I,[(sp,.cells #[.map (some Z),I4 p] 124 (0,0))],[(Z,.map es E)],[(b1,.cells #[I4 (c:Int)] 3 (0,0))],[(b2,.cells #[I4 t] 3 (0,0))],[(b3,.cells #[I4 lo] 3 (0,0))],[(b4,.cells #[I4 hi] 3 (0,0))]]):=by
 have l9:=mL;have l8:=hR.len hm hs
 refine Se func88 ntmps88 [0,1,2] ?_;intro u R;refine A1<|Ze (Bx #[_])<|AF fun cb=>A3 Y<|Zq<|A1<|Zm Y<|Zv (Ef ao Y Y)<|AD<|Ad Y (fun h1=>by cases h1)<|fun h1=>AB<|Zx<|A1<|A3 Y<|Zq<|A1<|Zm Y<|Zp Y V<|Zh 0 Up V rfl Wk Y<|Zv (Aj (off:=0) US V rfl dd Y)<|Zl isAgg120 Y<|Ze (Ru cU Y Wh)<|AF fun ib=>AD<|AX<|Bl<|Zb [7,2,4,17] ?_;refine BB (e0:=[(7,_)]) (fun m e H=>∃(js:List Nat) (seen:Array Nat) (o:List AY) (w:A4) (I:List AU),m=lm.length -js.length/\(LZ es js seen/\Re lm (inR t c lo hi) js o/\BZ 5 98 w o.length (Ac o) I/\o.length<=js.length)/\e=[(7,w)]/\H=[[(ib,.mapIter (some Z) E seen E)],I]) (by exact ⟨[],#[],[],.slice none 0 0,[],V,⟨Vo _,Y9 _ _,Ba 5 _,B8 _⟩,V,V⟩) Wp ?_;rintro _ _ _ ⟨js,seen,o,w,I,rfl,⟨O,bn,y,lv⟩,rfl,rfl⟩;obtain ⟨qo,gq,rfl⟩:=y.form;have cu:=LB es.size js O.nodup O.lt
 rw [hm.size]at cu;refine A1<|Ze (Ui hm O Y Wo Wh) ?_;rintro _ _ cO;rcases cO with⟨J,rfl,rfl⟩|⟨jn,pn,seen2,hpn,hjn,hi2,rfl,rfl⟩
 ·
  refine Zd Y V<|AD<|Zq<|Ad Y (fun hb=>by cases hb)<|fun hb=>Aw<|Zt<|Zt<|AQ<|Zx<|A1<|Zm Y<|Zv (Bt (vs:=[]) (us:=[_]) Y Y)<|Zc [_,_] Y call147 Y V (hS cb c _ o I hc A0 y) ?_;rintro _ _ ⟨_,⟨rfl,gm,o2,d9,ek,bf,rfl⟩,rfl⟩;refine AD<|A1<|Zm Y<|A3 Y<|AA<|AC V results88 Y (by exact ⟨gm,o2,bf,d9.trans (bn.done hm hR hs J),ek,V⟩)
 obtain ⟨r,hr,rfl⟩:=(hR.mem pn).1 (Cd hpn);refine Zd Y V<|AD<|Zq<|Ad Y (fun hb=>?_) (fun hb=>?_);·
  have af:=LB es.size (js++[jn]) hi2.nodup hi2.lt;rw [hm.size,zq,FF]at af;have kz:(js++[jn]).length=js.length+1:=by rw [zq];rfl
  have g:=bn.push (r:=r) (rs:=rs) hpn;have X:(inR t c lo hi) r=true->Re lm (inR t c lo hi) (js++[jn]) (o++[r]):=fun h=>by rw [h]at g;exact g
  have U:(inR t c lo hi) r=false->Re lm (inR t c lo hi) (js++[jn]) o:=fun h=>by rw [h]at g;simpa using g
  refine AB<|Zx<|AX<|A1<|Ca (cs:=[(ib,.mapIter (some Z) E seen2 E),(Z,.map es E)]) B3 (TB hm hi2 hpn Y) V rfl<|Zd Y V<|Ze (Al Dd #[_,_,_,_,_])<|AF fun xb=>Xe (Xw Ax r.Ao5)<|AD<|A1<|Zm Y<|Zo Wh (Pa #[_,_,_,_,_] C7 Ax Y)<|Xr [_] Y call89 Y V (nZ r t c lo hi hc b1 b2 b3 b4)<|AD<|Ad Y (fun K=>?_) (fun K=>?_);·
   refine Zg<|Zm Y<|Zo Wh (Pa #[_,_,_,_,_] C7 Ax Y)<|Ze (Af (vs:=[_]) (cs:=[_,_,_,_,_]) B4 Ax Dd Y V rfl V rfl V)<|AF fun gb=>Ze (BR (by_:=40) (sz:=5) B4 (V:Tryz.prog.info? 98=some Tryz.t98) V rfl V rfl Y (y) Y (Dy 5 gb 1 1 98 (0,0) [I4 r.t,I4 r.k,I4 r.v.a,I4 r.v.b,I4 r.v.c] V) Wo Wo GF A0 A0) ?_;rintro _ _ ⟨mR,G,rfl⟩;have ax:=BH G (n':=(o++[r]).length) (xs':=Ac (o++[r])) (by rw [zq];rfl) (by rw [Bf];rfl)
   obtain ⟨kv,gy,rfl⟩:=G.form;refine AH Y<|Zn [2,4,7,17] ?_;refine A8<|Zn [7,2,4,17] ?_;refine AZ (e':=[(7,_)]) (by exact ⟨js++[jn],seen2,o++[r],_,_,rfl,⟨hi2,X K,ax,by rw [zq,zq];simp;omega⟩,rfl,rfl⟩)
  refine AB<|A8<|Zn [7,2,4,17] ?_;refine AZ (e':=[(7,_)]) (by exact ⟨js++[jn],seen2,o,_,I,rfl,⟨hi2,U K,y,by rw [zq];omega⟩,rfl,rfl⟩)
 cases hb
end Go.Proofs.YtlkdhannldcfbaaGreatDoor
namespace Go.Proofs
open Go.Shelf
def Tryz.sortRow_ren:Go.Shelf.Ren:=⟨fun|6=>147|15=>174|14=>177|28=>193|29=>194|20=>196|21=>197|22=>198|23=>199|24=>200|25=>201|26=>202|27=>203|46=>224|47=>225|48=>226|49=>227|50=>228|57=>237|n=>n,fun|22=>36|24=>98|25=>218|3=>3|39=>168|0=>0|53=>164|55=>203|4=>4|46=>279|45=>278|50=>283|5=>5|9=>9|66=>306|70=>310|76=>321|77=>322|n=>n,fun|n=>n⟩
theorem Tryz.sortRow:Go.Proofs.SlLaysF0.n6 prog Tryz.sortRow_ren:={
 mixed:=by kernel_rfl
 f6:=⟨Tryz.f147.name,by decide,func147.trans (congrArg some AG)⟩
 f14:=⟨Tryz.f177.name,by decide,func177.trans (congrArg some AG)⟩
 f15:=func174.trans (congrArg some AG)
 f20:=⟨Tryz.f196.name,by decide,func196.trans (congrArg some AG)⟩
 f21:=⟨Tryz.f197.name,by decide,func197.trans (congrArg some AG)⟩
 f22:=⟨Tryz.f198.name,by decide,func198.trans (congrArg some AG)⟩
 f23:=⟨Tryz.f199.name,by decide,func199.trans (congrArg some AG)⟩
 f24:=⟨Tryz.f200.name,by decide,func200.trans (congrArg some AG)⟩
 f25:=⟨Tryz.f201.name,by decide,func201.trans (congrArg some AG)⟩
 f26:=⟨Tryz.f202.name,by decide,func202.trans (congrArg some AG)⟩
 f27:=⟨Tryz.f203.name,by decide,func203.trans (congrArg some AG)⟩
 f28:=func193.trans (congrArg some AG)
 f29:=func194.trans (congrArg some AG)
 f46:=⟨Tryz.f224.name,by decide,func224.trans (congrArg some AG)⟩
 f47:=func225.trans (congrArg some AG)
 f48:=func226.trans (congrArg some AG)
 f49:=⟨Tryz.f227.name,by decide,func227.trans (congrArg some AG)⟩
 f50:=⟨Tryz.f228.name,by decide,func228.trans (congrArg some AG)⟩
 f57:=⟨Tryz.f237.name,by decide,func237.trans (congrArg some AG)⟩
 t0:=underlying0
 a0:=isAgg0
 z0:=sizeOf0
 v0:=zeroValue0
 t3:=F0
 a3:=AE
 z3:=A5
 v3:=HL
 t4:=On
 a4:=DH
 z4:=Cl
 v4:=ar
 t5:=HG
 a5:=S6
 z5:=HN
 v5:=Mz
 t9:=HE
 a9:=Fm
 z9:=CH
 v9:=HR
 t22:=B4
 a22:=DO
 z22:=C4
 v22:=zeroValue36
 t25:=underlying218
 a25:=isAgg218
 z25:=sizeOf218
 v25:=zeroValue218
 t39:=hG
 a39:=isAgg168
 z39:=sizeOf168
 v39:=zeroValue168
 t45:=underlying278
 a45:=isAgg278
 z45:=sizeOf278
 v45:=zeroValue278
 t46:=underlying279
 a46:=isAgg279
 z46:=sizeOf279
 v46:=zeroValue279
 t50:=underlying283
 a50:=isAgg283
 z50:=sizeOf283
 v50:=zeroValue283
 t53:=MT
 a53:=EV
 z53:=CI
 v53:=Wf
 t55:=UP
 a55:=isAgg203
 z55:=sizeOf203
 v55:=zeroValue203
 t66:=underlying306
 a66:=isAgg306
 z66:=sizeOf306
 v66:=zeroValue306
 t70:=underlying310
 a70:=isAgg310
 z70:=sizeOf310
 v70:=zeroValue310
 t76:=underlying321
 a76:=isAgg321
 z76:=sizeOf321
 v76:=zeroValue321
 t77:=underlying322
 a77:=isAgg322
 z77:=sizeOf322
 v77:=zeroValue322}
end Go.Proofs
namespace Go.Proofs.YtlkdhannldcfbaaGreatDoor
open Go.Proofs.Tryz
open Go Go.RowKit Gw
set_option maxRecDepth 100000
attribute [local irreducible] Gw.At Gw.Nx Gw.Ops
open Go.Sort Go.Shelf
attribute [local go_sem] Gl.evalE Gl.lookE Gl.linUpon Gl.wantedE Gl.yieldE Gl.putE
def lM(c:Nat)(a b:AY):Int:=orL (Lib.compareInt (Bh a (c:Int)) (Bh b (c:Int))) (Lib.compareInt a.k b.k)
def Stg(W:A6)(n:Nat)(w:A6):Prop:=∃q os,os.size=n/\w=grow (W.drewN q) os
theorem tZ(W:A6):Stg W 0 W:=⟨0,#[],rfl,by simp [World.drewN]⟩
variable{w W:A6}{n:Nat}
theorem mh(h:Stg W n w):Stg W n w.drew:=by
 obtain ⟨q,os,rfl,rfl⟩:=h;exact ⟨q+1,os,V,V⟩
theorem Oe(h:Stg W n w)(m:Nat)(g:Array Obj):Stg W (n+g.size) (grow (w.drewN m) g):=by
 obtain ⟨q,os,rfl,rfl⟩:=h;refine ⟨q+m,os++g,by simp,?_⟩;simp [grow,World.drewN,Array.append_assoc,SU]
theorem Ip{b:Nat}{o:Obj}(h:Stg W n w)(m:W.heap[b]?=some o):w.heap[b]?=some o:=by
 obtain ⟨q,os,rfl,rfl⟩:=h;have g:=(Hc.1 m).1
 show(W.heap++os)[b]?=_;rw [cC g];exact m
theorem mg(h:Stg W n w):w.heap.size=W.heap.size+n:=by
 obtain ⟨q,os,rfl,rfl⟩:=h;show(W.heap++os).size=_
 simp
theorem Qh(w:A6)(o:Obj):(w.alloc o).heap[w.heap.size]?=some o:=by
 show(w.heap.push o)[w.heap.size]?=some o;exact Array.getElem?_push_size
theorem fJ(w:A6)(o:Obj):(w.alloc o).heap.size=w.heap.size+1:=Array.size_push _
def zK:Nat->Nat
 |0=>0|1=>1|2=>2|3=>2|4=>2|5=>3|_=>3
def ze(W:A6)(T:Nat)(x y:Int)(k:Nat)(w:A6):Prop:=Stg W (zK k) w/\(5<=k->w.heap[W.heap.size+2]?=some (.cells #[I4 x,I4 y] T (0,0)))
set_option maxHeartbeats 2000000 in
theorem lL(a b:AY)(c:Nat)(hc:c<=3)(cb:Nat)(W:A6)(X:W.heap[cb]?=some (.cells #[I4 (c:Int)] 3 (0,0))):Calls prog 148 #[.agg a.Ao5,.agg b.Ao5,I5 cb] W fun e J=>e= .returned (I4 (lM c a b))/\∃q I,J=grow (W.drewN q) I:=by
 have ax:=(Hc.1 X).1
 go_enter func148,ntmps148
 go_wp2
 generalize hW2:(W.alloc _).alloc _=W2;have U:Stg W 2 W2:=by
  rw [<-hW2,alloc_eq_grow,alloc_eq_grow,grow_grow];exact ⟨0,_,V,V⟩
 have af:Stg (W.alloc (.cells a.Ao5 98 (0,0))) 1 W2:=by
  rw [<-hW2,alloc_eq_grow _ (.cells b.Ao5 98 (0,0))];exact ⟨0,_,V,V⟩
 have hA:=Ip af (Qh _ _);have hB:W2.heap[W.heap.size+1]?=some (.cells b.Ao5 98 (0,0)):=by
  rw [<-hW2,<-fJ W (.cells a.Ao5 98 (0,0))];exact Qh _ _
 have hC:=Ip U X;refine Gl.wp_region_lin [false,false,true,false,false,true,true,false,false,false,false,true,true,true,false] (ze W2 3 (Lib.compareInt (Bh a (c:Int)) (Bh b (c:Int))) (Lib.compareInt a.k b.k)) 20 V AG AG ⟨mh (tZ W2),fun h=>absurd h AK⟩ ?_;intro fr G;have O:=Lib.hid G
 have e2:fr.tmps.getD 2 undef=I5 cb:=by rw [G];rfl
 have e3:fr.tmps.getD 3 undef= .pointer (some ⟨W.heap.size,0,none⟩):=by rw [G];rfl
 have e4:fr.tmps.getD 4 undef= .pointer (some ⟨W.heap.size+1,0,none⟩):=by rw [G];rfl
 clear G;apply Gl.wpLin_keep
 · intro j y g K m
   have E:=Ip g.1 hA;have Z:=D8 (i:=0) E rfl
   have c1:=D8 (i:=1) E rfl;have c2:=D8 (i:=2) E rfl
   have c3:=D8 (i:=3) E rfl;have c4:=D8 (i:=4) E rfl
   go_simp
   exact m _ g
 apply Gl.wpLin_keep
 · intro j y g K m
   have Z:=D8 (i:=0) (Ip g.1 hC) rfl
   go_simp
   exact m _ g
 apply Gl.wpLin_move
 · intro y g K m
   go_simp
   exact (K4 a (c:Int) A0 _).mono (by
    rintro e J ⟨rfl,q,o,rfl⟩;exact ⟨_,V,m _ ⟨Oe g.1 q #[o],fun h=>absurd h AK⟩⟩)
 apply Gl.wpLin_keep
 · intro j y g K m
   have E:=Ip g.1 hB;have Z:=D8 (i:=0) E rfl
   have c1:=D8 (i:=1) E rfl;have c2:=D8 (i:=2) E rfl
   have c3:=D8 (i:=3) E rfl;have c4:=D8 (i:=4) E rfl
   go_simp
   exact m _ g
 apply Gl.wpLin_keep
 · intro j y g K m
   have Z:=D8 (i:=0) (Ip g.1 hC) rfl
   go_simp
   exact m _ g
 apply Gl.wpLin_move
 · intro y g K m
   go_simp
   exact (K4 b (c:Int) A0 _).mono (by
    rintro e J ⟨rfl,q,o,rfl⟩;exact ⟨_,V,m _ ⟨Oe g.1 q #[o],fun h=>absurd h AK⟩⟩)
 apply Gl.wpLin_move
 · intro y g K m
   go_simp
   exact (Tryz.cmp_Compare_int _ _ _).mono (by
    rintro e J ⟨rfl,rfl⟩;exact ⟨_,V,m _ ⟨g.1,fun h=>absurd h AK⟩⟩)
 apply Gl.wpLin_keep
 · intro j y g K m
   go_simp
   exact m _ g
 apply Gl.wpLin_keep
 · intro j y g K m
   have c1:=D8 (i:=1) (Ip g.1 hA) rfl
   go_simp
   exact m _ g
 apply Gl.wpLin_keep
 · intro j y g K m
   go_simp
   exact m _ g
 apply Gl.wpLin_keep
 · intro j y g K m
   have c1:=D8 (i:=1) (Ip g.1 hB) rfl
   go_simp
   exact m _ g
 apply Gl.wpLin_move
 · intro y g K m
   go_simp
   exact (Tryz.cmp_Compare_int _ _ _).mono (by
    rintro e J ⟨rfl,rfl⟩;exact ⟨_,V,m _ ⟨g.1,fun h=>absurd h AK⟩⟩)
 apply Gl.wpLin_move (v:= .slice (some ⟨W2.heap.size+2,0,none⟩) 2 2)
 · intro y g K m
   have hz:=mg g.1;change y.heap.size=W2.heap.size+2 at hz
   go_simp
   have h:=m _ ⟨Oe g.1 0 #[.cells #[I4 (Lib.compareInt (Bh a (c:Int)) (Bh b (c:Int))),I4 (Lib.compareInt a.k b.k)] 3 (0,0)],fun _=>?_⟩
   · rw [alloc_eq_grow]
     exact h
   · rw [<-hz]
     exact Qh y _
 apply Gl.wpLin_move
 · intro y g K m
   have E:=g.2 AK
   go_simp
   exact (oQ _ _ _ _ (D8 (i:=0) E V) (D8 (i:=1) E V)).mono (by
    rintro e J ⟨rfl,rfl⟩;exact ⟨_,V,m _ ⟨g.1,fun _=>E⟩⟩)
 apply Gl.wpLin_keep
 · intro j y g K m
   go_simp
   exact m _ g
 apply Gl.wpLin_done;intro wz hz;rw [O.out];simp only [Gl.putE,Gl.putsE,Act.put,iS,List.set_cons_zero,List.set_cons_succ];obtain ⟨⟨q,os,-,rfl⟩,-⟩:=hz;clear O
 go_wp2
 go_ret
 obtain ⟨q',I,-,h⟩:=Oe U q os;exact ⟨V,q',I,h⟩
end Go.Proofs.YtlkdhannldcfbaaGreatDoor
namespace Go.Proofs.YtlkdhannldcfbaaGreatDoor
open Go.Proofs.Tryz
open Go Go.RowKit Gw
set_option maxRecDepth 100000
attribute [local irreducible] Gw.At Gw.Nx Gw.Ops
open Go.Sort Go.Shelf
instance:Inhabited AY:=⟨⟨0,0,⟨0,0,0⟩⟩⟩
def Tw(r:AY):List A4:=[I4 r.t,I4 r.k,I4 r.v.a,I4 r.v.b,I4 r.v.c]
theorem ltR(c:Nat)(a b:AY):ltOf (lM c) a b=decide (Bh a (c:Int)<Bh b (c:Int)\/Bh a (c:Int)=Bh b (c:Int)/\a.k<b.k):=by
 unfold ltOf lM orL Lib.compareInt;have g:=Int.lt_trichotomy (Bh a (c:Int)) (Bh b (c:Int))
 have h2:=Int.lt_trichotomy a.k b.k;generalize Bh a (c:Int)=x at*;generalize Bh b (c:Int)=y at*;apply decide_eq_decide.2;split<;>split<;>(try split)<;>(try split)<;>omega
theorem zJ(c:Nat):SWO (ltOf (lM c))where
 irrefl x:=by rw [ltR];simp
 trans x y z h1 h2:=by rw [ltR]at*;simp only [I2]at*;omega
 ntrans x y z h1 h2:=by rw [ltR]at*;simp only [Nd]at*;omega
theorem gM:fM:=by
 intro G c w o s hc hn gy;obtain ⟨kz,⟨rfl,h0,rfl⟩|⟨g,cap,cur,z,rfl,rfl,ek,cu,O,kv,ax⟩⟩:=gy
 · intro u R U K
   have ho:o=[]:=Lq h0;subst ho;have hN:=AnyF.slices_SortFunc_none Tryz.sortRow none 0 (.func (.func 148) #[] #[I5 G]) U
   exact hN.mono (by
    rintro e w' ⟨rfl,rfl⟩;exact .inl ⟨_,_,V,⟨V,[],[],.refl _,.nil,Ba _ _,V⟩,K⟩)
 · intro u R U K
   have hb:=K.get (g,.cells cur 98 z) B3;have bn:=K.get (G,.cells #[I4 (c:Int)] 3 (0,0)) B3
   have gq:g≠G:=by
    have:=K.nodup;simp at this;exact this.1.1
   have hH:=dm (w:=U) (g:=g) (cur:=cur) (e:=98) (z:=z) Tw 5 (fun _=>rfl) o hb (by rw [O];omega) ax kv;have eg:∀(args:AN) (w:A6),(callFunc 148 args).run prog w= .ok (.enter 148 args) w:=enters_of func148 AG rfl
   have Z:CmpLays prog 148 #[I5 G] Tw 5 (lM c) g 0 o.toArray.size U:=by
    intro m os dk l8 x y;refine lL x y c hc G _ ?_;have gm:=K.lt (p:=(G,.cells #[I4 (c:Int)] 3 (0,0))) B3
    rw [Py Tw 5 U g m G dk os gq gm];exact bn
   have af:=AnyQ.slices_SortFunc Tryz.sortRow 5 C7 Ax Tw (fun _=>rfl) (fun x v hv=>by simp [Tw]at hv;rcases hv with rfl|rfl|rfl|rfl|rfl<;>rfl) (lM c) (zJ c) 148 #[I5 G] g 0 cap o.toArray U eg Z hH (K.lt (p:=(g,.cells cur 98 z)) B3) Lo;refine af.mono ?_;rintro e w' ⟨rfl,E,n,os,⟨cO,-,hpm⟩,hso,rfl⟩;have I:E.size=o.length:=by simpa using cO
   have hF:(flatK Tw 5 E).toList=Ac E.toList:=Tj Tw 5 (fun _=>rfl) E.toList;have X:(flatK Tw 5 E).size=o.length*5:=by rw [size_flatK,I]
   have J:E.toList.Perm o:=by
    have e1:E.extract 0 o.toArray.size=E:=by
     rw [show o.toArray.size=E.size by rw [I];simp];exact Array.extract_size
    rw [e1]at hpm;simpa using hpm
   have bf:E.toList.length=o.length:=J.length_eq;refine .inl ⟨_,[[(g,.cells (putCells id 0 (flatK Tw 5 E) cur) 98 z)],[(G,.cells #[I4 (c:Int)] 3 (0,0))]],V,⟨V,_,E.toList,J,?_,?_,V⟩,K.sortedK Tw E os⟩
   · rw [ia]
     intro i j hi hj d9;have h:=hso i j (C2 _) d9 Lo
     rw [ltR]at h;simp only [Nd]at h;rw [getElem!_pos E i (by simpa using hi),getElem!_pos E j (by simpa using hj)]at h;rw [KT _ c hc,KT _ c hc]at h;unfold leV;simp only [Array.getElem_toList];omega
   · rw [bf]
     refine ⟨by rw [BG,bf],.inr ⟨g,cap,_,z,rfl,rfl,ek,cu,by rw [VK];exact O,?_,by rw [VK];exact ax⟩⟩;have h:=jV cur (flatK Tw 5 E) (by rw [X,O];omega)
     rw [X,hF]at h;exact h
end Go.Proofs.YtlkdhannldcfbaaGreatDoor
namespace Go.Proofs.YtlkdhannldcfbaaGreatDoor
open Go.Proofs.Tryz
open Go Go.RowKit Gw
set_option maxRecDepth 100000
attribute [local irreducible] Gw.At Gw.Nx Gw.Ops
theorem Vs(c:Nat)(out:List AY)(x:AY):∃A B,out=A++B/\UQ c out x=A++[x]++B/\(∀r∈B,DZ x c<DZ r c)/\(A=[]\/∃m r,A=m++[r]/\DZ r c<=DZ x c):=by
 let q:AY->Bool:=fun r=>decide (DZ x c<DZ r c)
 have e:out=(out.reverse.dropWhile q).reverse++(out.reverse.takeWhile q).reverse:=by
  rw [<-SM,List.takeWhile_append_dropWhile,List.reverse_reverse]
 have y:QI c out (DZ x c)=(out.reverse.dropWhile q).reverse.length:=by
  rw [SO];rfl
 refine ⟨(out.reverse.dropWhile q).reverse,(out.reverse.takeWhile q).reverse,e,?_,?_,?_⟩
 · unfold UQ
   rw [y];generalize (out.reverse.dropWhile q).reverse=A at*;generalize (out.reverse.takeWhile q).reverse=B at*;subst e;rw [Hi,S0];all_goals rfl
 · intro r g
   rw [Wa]at g;have:=List.all_takeWhile (p:=q) (l:=out.reverse)
   rw [Mp]at this;simpa [q]using this r g
 · cases h:out.reverse.dropWhile q with
   |nil=>left;rfl
   |cons r l=>
    right;refine ⟨l.reverse,r,by simp,?_⟩;have:=List.head?_dropWhile_not q out.reverse
    rw [h]at this;simpa [q]using this
theorem Vr(c:Nat)(out:List AY)(x:AY):(UQ c out x).Perm (x::out):=by
 obtain ⟨A,B,g,m,_,_⟩:=Vs c out x;rw [m,g,D2];exact Z3
theorem Td(c:Nat):∀(l out:List AY),(l.foldl (UQ c) out).Perm (out++l)
 |[],out=>by simp
 |x::l,out=>by
  rw [Tl];refine (Td c l _).trans ?_;refine ((Vr c out x).append_right l).trans ?_;exact Z3.symm
variable{c:Nat}
theorem ZJ{out:List AY}{x:AY}(h:out.Pairwise (leV c))(I:∀r∈out,r.k<x.k):(UQ c out x).Pairwise (leV c):=by
 obtain ⟨A,B,J,K,X,U⟩:=Vs c out x;rw [K];rw [J]at h I;rw [N4]at h;obtain ⟨y,h2,O⟩:=h;have E:∀r∈A,DZ r c<=DZ x c:=by
  rcases U with rfl|⟨A',r0,rfl,h0⟩
  · intro r g;simp at g
  · intro r g
    rcases DM.1 g with hr'|hr'
    · rw [N4]at y
      have:=y.2.2 r hr' r0 B3;unfold leV at this;omega
    · rw [D0]at hr'
      subst hr';exact h0
 rw [D2,N4];refine ⟨y,?_,?_⟩
 · rw [SD,RT]
   exact ⟨fun r g=> .inl (X r g),h2⟩
 · intro a G b m
   rw [SD,E4]at m;rcases m with rfl|m
   · have Z:=E a G
     have h5:=I a (E3 _ G);unfold leV;omega
   · exact O a G b m
theorem PS(c:Nat):∀(l out:List AY),out.Pairwise (leV c)->l.Pairwise (fun a b=>a.k<b.k)->(∀r∈out,∀x∈l,r.k<x.k)->(l.foldl (UQ c) out).Pairwise (leV c)
 |[],out,h,_,_=>h
 |x::l,out,h,h2,h3=>by
  rw [Tl];rw [RT]at h2;refine PS c l _ (ZJ h fun r g=>h3 r g x B3) h2.2 ?_;intro r g y hy;have:=(Vr c out x).mem_iff.1 g
  rcases E4.1 this with rfl|hm
  · exact h2.1 y hy
  · exact h3 r hm y (by simp [hy])
variable{rs:List AY}{t:Int}
theorem NP{f:AY->Bool}(I:BL rs)(m:∀r,f r=true->r.t=t):(rs.filter f).Pairwise (fun a b=>a.k<b.k):=by
 have y:(rs.filter f).Pairwise (fun a b=>a.lt2 b.t b.k):=I.filter f;refine y.imp_of_mem ?_;intro a b E G g;have h2:=m a (MD.1 E).2
 have J:=m b (MD.1 G).2;unfold AY.lt2 at g;omega
theorem pY{l:List AY}(h:l.Pairwise (fun a b=>a.k<b.k)):∀a∈l,∀b∈l,a.k=b.k->a=b:=by
 induction l with
 |nil=>intro a g;simp at g
 |cons x l ih=>
  rw [RT]at h;intro a g b m e;rcases E4.1 g with ea|ha'<;>rcases E4.1 m with eb|hb'
  · rw [ea,eb]
  · have:=h.1 b hb';rw [ea]at e;omega
  · have:=h.1 a ha';rw [eb]at e;omega
  · exact ih h.2 a ha' b hb' e
variable{r:AY}
theorem iJ{lo hi:Int}(h:inR t c lo hi r=true):r.t=t:=(HH h).1
theorem Ez(rs:List AY)(t:Int)(c:Nat)(lo hi:Int):(Cg rs t c lo hi).Perm (rs.filter (inR t c lo hi)):=by
 have:=Td c (rs.filter (inR t c lo hi)) [];rw [L5]at this;exact this
theorem F9(m:BL rs)(t:Int)(c:Nat)(lo hi:Int):(Cg rs t c lo hi).Pairwise (leV c):=
 PS c _ [] .nil (NP m fun r h=>iJ h) (by intro r g;simp at g)
theorem Nz(O:BL rs){f:AY->Bool}(J:∀r,f r=true->r.t=t){a b:List AY}(E:a.Perm (rs.filter f))(G:b.Perm (rs.filter f))(I:a.Pairwise (leV c))(h2:b.Pairwise (leV c)):a=b:=by
 have K:=NP O J;refine (E.trans G.symm).eq_of_pairwise ?_ I h2;intro x y hx hy g m;refine pY K x (E.mem_iff.1 hx) y (G.mem_iff.1 hy) ?_;unfold leV at g m;omega
theorem VG(g:BL rs){lo hi:Int}{o:List AY}(m:o.Perm (rs.filter (inR t c lo hi)))(h2:o.Pairwise (leV c)):o=Cg rs t c lo hi:=
 Nz g (fun r h=>iJ h) m (Ez rs t c lo hi) h2 (F9 g t c lo hi)
def inT(t:Int)(r:AY):Bool:=decide (r.t=t)
def G9(rs:List AY)(t:Int):List AY:=rs.filter (inT t)
theorem tQ(g:BL rs){o:List AY}(m:o.Perm (G9 rs t))(h2:o.Pairwise (leV 0)):o=G9 rs t:=by
 refine Nz (f:=inT t) (t:=t) g (fun r h=>HH h) m (.refl _) h2 ?_;refine (NP (t:=t) (f:=inT t) g (fun r h=>HH h)).imp ?_;intro a b h;unfold leV DZ;simp only [B0];omega
theorem uB(r:AY)(t:Int)(g:Nat):BC prog 91 #[.agg r.Ao5,I5 g] [[(g,.cells #[I4 t] 3 (0,0))]] (.bool (inT t r)):=by
 refine Se func91 ntmps91 [0,1] ?_;intro u R;refine A1<|Ze (Bx #[_,_,_,_,_])<|AF fun g=>A3 Y<|A1<|Zh 0 Ds V rfl A5 Y<|Zl AE Y<|Zl AE Y<|Zv (Br Y Y)<|A3 Y<|AA<|AC V results91 Y (by exact ⟨V,V⟩)
theorem aR(hS:fM)(sp Z:Nat)(p:Int)(es:Array MapEntry)(E:Nat)(lm:List ((Int×Int)×A4))(rs:List AY)(hm:FH K2 es E lm)(hR:Gx lm rs)(hs:BL rs)(hn:rs.length<=2000)(t:Int)(c:Nat)(hc:c<=3)(b1:Nat):
 Bz prog 88 #[I5 sp,I4 (c:Int),.func (.func 91) #[] #[I5 b1]] [[(sp,.cells #[.map (some Z),I4 p] 124 (0,0))],[(Z,.map es E)],[(b1,.cells #[I4 t] 3 (0,0))]] (fun r H'=>∃(I:List AU) (o:List AY),BZ 5 98 r o.length (Ac o) I/\o.Perm (rs.filter (inT t))/\o.Pairwise (leV c)/\H'=[I,[(sp,.cells #[.map (some Z),I4 p] 124 (0,0))],[(Z,.map es E)],[(b1,.cells #[I4 t] 3 (0,0))]]):=by
 have l9:=mL;have l8:=hR.len hm hs
 refine Se func88 ntmps88 [0,1,2] ?_;intro u R;refine A1<|Ze (Bx #[_])<|AF fun cb=>A3 Y<|Zq<|A1<|Zm Y<|Zv (Ef ao Y Y)<|AD<|Ad Y (fun h1=>by cases h1)<|fun h1=>AB<|Zx<|A1<|A3 Y<|Zq<|A1<|Zm Y<|Zp Y V<|Zh 0 Up V rfl Wk Y<|Zv (Aj (off:=0) US V rfl dd Y)<|Zl isAgg120 Y<|Ze (Ru cU Y Wh)<|AF fun ib=>AD<|AX<|Bl<|Zb [7,2,4,17] ?_;refine BB (e0:=[(7,_)]) (fun m e H=>∃(js:List Nat) (seen:Array Nat) (o:List AY) (w:A4) (I:List AU),m=lm.length -js.length/\(LZ es js seen/\Re lm (inT t) js o/\BZ 5 98 w o.length (Ac o) I/\o.length<=js.length)/\e=[(7,w)]/\H=[[(ib,.mapIter (some Z) E seen E)],I]) (by exact ⟨[],#[],[],.slice none 0 0,[],V,⟨Vo _,Y9 _ _,Ba 5 _,B8 _⟩,V,V⟩) Wp ?_;rintro _ _ _ ⟨js,seen,o,w,I,rfl,⟨O,bn,y,lv⟩,rfl,rfl⟩;obtain ⟨qo,gq,rfl⟩:=y.form;have cu:=LB es.size js O.nodup O.lt
 rw [hm.size]at cu;refine A1<|Ze (Ui hm O Y Wo Wh) ?_;rintro _ _ cO;rcases cO with⟨J,rfl,rfl⟩|⟨jn,pn,seen2,hpn,hjn,hi2,rfl,rfl⟩
 ·
  refine Zd Y V<|AD<|Zq<|Ad Y (fun hb=>by cases hb)<|fun hb=>Aw<|Zt<|Zt<|AQ<|Zx<|A1<|Zm Y<|Zv (Bt (vs:=[]) (us:=[_]) Y Y)<|Zc [_,_] Y call147 Y V (hS cb c _ o I hc A0 y) ?_;rintro _ _ ⟨_,⟨rfl,gm,o2,d9,ek,bf,rfl⟩,rfl⟩;refine AD<|A1<|Zm Y<|A3 Y<|AA<|AC V results88 Y (by exact ⟨gm,o2,bf,d9.trans (bn.done hm hR hs J),ek,V⟩)
 obtain ⟨r,hr,rfl⟩:=(hR.mem pn).1 (Cd hpn);refine Zd Y V<|AD<|Zq<|Ad Y (fun hb=>?_) (fun hb=>?_);·
  have af:=LB es.size (js++[jn]) hi2.nodup hi2.lt;rw [hm.size,zq,FF]at af;have kz:(js++[jn]).length=js.length+1:=by rw [zq];rfl
  have g:=bn.push (r:=r) (rs:=rs) hpn;have X:(inT t) r=true->Re lm (inT t) (js++[jn]) (o++[r]):=fun h=>by rw [h]at g;exact g
  have U:(inT t) r=false->Re lm (inT t) (js++[jn]) o:=fun h=>by rw [h]at g;simpa using g
  refine AB<|Zx<|AX<|A1<|Ca (cs:=[(ib,.mapIter (some Z) E seen2 E),(Z,.map es E)]) B3 (TB hm hi2 hpn Y) V rfl<|Zd Y V<|Ze (Al Dd #[_,_,_,_,_])<|AF fun xb=>Xe (Xw Ax r.Ao5)<|AD<|A1<|Zm Y<|Zo Wh (Pa #[_,_,_,_,_] C7 Ax Y)<|Xr [_] Y call91 Y V (uB r t b1)<|AD<|Ad Y (fun K=>?_) (fun K=>?_);·
   refine Zg<|Zm Y<|Zo Wh (Pa #[_,_,_,_,_] C7 Ax Y)<|Ze (Af (vs:=[_]) (cs:=[_,_,_,_,_]) B4 Ax Dd Y V rfl V rfl V)<|AF fun gb=>Ze (BR (by_:=40) (sz:=5) B4 (V:Tryz.prog.info? 98=some Tryz.t98) V rfl V rfl Y (y) Y (Dy 5 gb 1 1 98 (0,0) [I4 r.t,I4 r.k,I4 r.v.a,I4 r.v.b,I4 r.v.c] V) Wo Wo GF A0 A0) ?_;rintro _ _ ⟨mR,G,rfl⟩;have ax:=BH G (n':=(o++[r]).length) (xs':=Ac (o++[r])) (by rw [zq];rfl) (by rw [Bf];rfl)
   obtain ⟨kv,gy,rfl⟩:=G.form;refine AH Y<|Zn [2,4,7,17] ?_;refine A8<|Zn [7,2,4,17] ?_;refine AZ (e':=[(7,_)]) (by exact ⟨js++[jn],seen2,o++[r],_,_,rfl,⟨hi2,X K,ax,by rw [zq,zq];simp;omega⟩,rfl,rfl⟩)
  refine AB<|A8<|Zn [7,2,4,17] ?_;refine AZ (e':=[(7,_)]) (by exact ⟨js++[jn],seen2,o,_,I,rfl,⟨hi2,U K,y,by rw [zq];omega⟩,rfl,rfl⟩)
 cases hb
def Pk(v:A4)(p:Int)(rs:List AY)(s:List AU):Prop:=∃sp mb es ck lm,v=I5 sp/\FH K2 es ck lm/\Gx lm rs/\BL rs/\rs.length<=2000/\s=[(sp,.cells #[.map (some mb),I4 p] 124 (0,0)),(mb,.map es ck)]
theorem jE(sp g:Nat)(p:Int)(es:Array MapEntry)(m:Nat)(lm:List ((Int×Int)×A4))(rs:List AY)(hm:FH K2 es m lm)(hR:Gx lm rs)(K:BL rs)(hn:rs.length<=2000)(t:Int)(c:Nat)(lo hi:Int)(hc:c<=3):
 Bz prog 35 #[I5 sp,I4 t,I4 (c:Int),I4 lo,I4 hi] [[(sp,.cells #[.map (some g),I4 p] 124 (0,0))],[(g,.map es m)]] (fun r H'=>∃y,BZ 5 98 r (Cg rs t c lo hi).length (Ac (Cg rs t c lo hi)) y/\H'=[y,[(sp,.cells #[.map (some g),I4 p] 124 (0,0))],[(g,.map es m)]]):=by
 refine Se func35 ntmps35 [0,1,2,3,4] ?_;intro u R;refine A1<|Ze (Bx #[_])<|AF fun U=>Ze (Bx #[_])<|AF fun O=>Ze (Bx #[_])<|AF fun X=>Ze (Bx #[_])<|AF fun Z=>A3 Y<|Zq<|A1<|Zl AE Y ?_;refine Zv (Au (n:=0) Y Y)<|Zm Y<|Ai (t:=13) Y V (fun J=>?_) (fun J=>?_);·
  exfalso;(cases J;done)
 refine Yl AE Y ?_;refine Yg (Fw (n:=4) Y Y)<|Zv (AL Y Y)<|AD<|Ak Y (fun h2=>by omega)<|fun h2=>AB<|Zx<|A1<|Zm Y<|Zl AE Y ?_;refine Zv (Bt (vs:=[]) (us:=[_,_,_,_]) Y Y)<|Zc [_,_,_] Y call88 Y V (XR gM sp g p es m lm rs hm hR K hn t c lo hi hc O U X Z) ?_;rintro _ _ ⟨_,⟨y,o,I,E,G,rfl⟩,rfl⟩;have e9:=VG K E G
 subst e9;refine AH Y<|Zn [10] ?_;refine Zx<|AA<|AC V results35 Y (by exact ⟨y,I,V⟩)
theorem Y5(v:A4)(p:Int)(rs:List AY)(s:List AU)(hv:Pk v p rs s)(t:Int)(c:Nat)(lo hi:Int)(hc:c<=3):Bz prog 35 #[v,I4 t,I4 (c:Int),I4 lo,I4 hi] [s] (fun r H'=>∃g,BZ 5 98 r (Cg rs t c lo hi).length (Ac (Cg rs t c lo hi)) g/\H'=[g,s]):=by
 obtain ⟨sp,J,es,y,lm,rfl,G,E,I,hn,rfl⟩:=hv;refine Dw (jE sp J p es y lm rs G E I hn t c lo hi hc) B3 ?_;rintro r H' ⟨g,m,rfl⟩;exact ⟨_,⟨g,m,V⟩,by simp⟩
theorem nA(sp g:Nat)(p:Int)(es:Array MapEntry)(m:Nat)(lm:List ((Int×Int)×A4))(rs:List AY)(X:FH K2 es m lm)(U:Gx lm rs)(J:BL rs)(hn:rs.length<=2000)(t:Int):
 Bz prog 36 #[I5 sp,I4 t] [[(sp,.cells #[.map (some g),I4 p] 124 (0,0))],[(g,.map es m)]] (fun r H'=>∃y,BZ 5 98 r (G9 rs t).length (Ac (G9 rs t)) y/\H'=[y,[(sp,.cells #[.map (some g),I4 p] 124 (0,0))],[(g,.map es m)]]):=by
 refine Se func36 ntmps36 [0,1] ?_;intro u R;refine A1<|Ze (Bx #[_])<|AF fun K=>A3 Y<|A1<|Zm Y<|Zv (Bt (vs:=[]) (us:=[_]) Y Y)<|Zc [_,_,_] Y call88 Y V (aR gM sp g p es m lm rs X U J hn t 0 A0 K) ?_;rintro _ _ ⟨_,⟨y,o,I,E,G,rfl⟩,rfl⟩;have O:o=G9 rs t:=tQ J E G
 subst O;refine A3 Y<|AA<|AC V results36 Y (by exact ⟨y,I,V⟩)
theorem u6(v:A4)(p:Int)(rs:List AY)(s:List AU)(hv:Pk v p rs s)(t:Int):Bz prog 36 #[v,I4 t] [s] (fun r H'=>∃g,BZ 5 98 r (G9 rs t).length (Ac (G9 rs t)) g/\H'=[g,s]):=by
 obtain ⟨sp,J,es,y,lm,rfl,G,E,I,hn,rfl⟩:=hv;refine Dw (nA sp J p es y lm rs G E I hn t) B3 ?_;rintro r H' ⟨g,m,rfl⟩;exact ⟨_,⟨g,m,V⟩,by simp⟩
def Da(M:List AU)(v:A4)(rs:List AY):Prop:=∃p cap,v= .slice p rs.length cap/\(rs.length<=maxLen/\rs.length<=cap)/\∀(i:Nat) (x:AY),rs[i]?=some x->∃g off cur T zz,p=some ⟨g,off,none⟩/\(g,Obj.cells cur T zz)∈M/\off+i*5+5<=cur.size/\cur.extract (off+i*5) (off+i*5+5)=x.Ao5
variable{e:AM}{v:A4}{s:List AU}
theorem D6(h:BZ 5 e v rs.length (Ac rs) s)(hn:rs.length<=maxLen):Da s v rs:=by
 obtain ⟨b,cap,rfl⟩:=h.form;refine ⟨b,cap,V,⟨hn,Ex h⟩,fun i x hx=>?_⟩;obtain ⟨g,y,cur,z,hv,rfl,E,m⟩:=Ir h i (zt.1 hx).1;injection hv with hv1 hv2 hv3
 refine ⟨g,0,cur,e,z,hv1,by simp,by omega,?_⟩;unfold Ac at m;rw [Gq _ 5 (fun _=>rfl) rs i x hx]at m;rw [C6];exact MA.1 m
variable{M:List AU}
theorem Da.mono{M':List AU}{ls:List AY}(h:Da M v ls)(I:∀c∈M,c∈M'):Da M' v ls:=by
 obtain ⟨p,cap,e,G,E⟩:=h;refine ⟨p,cap,e,G,fun i s J=>?_⟩;obtain ⟨g,off,cur,T,zz,m,y,h2⟩:=E i s J;exact ⟨g,off,cur,T,zz,m,I _ y,h2⟩
theorem GU(r:AY)(c:Int)(hc:0<=c/\c<=3):BC prog 90 #[.agg r.Ao5,I4 c] [] (I4 (Bh r c)):=fun u R w g=>
 (K4 r c hc w).mono (by
   rintro e m ⟨rfl,q,o,rfl⟩;exact .inl ⟨_,[],V,⟨V,V⟩,YA g q _⟩)
variable{cur:AN}{n:Nat}
theorem PU{xs:AN}{a:Nat}(h:cur.extract a (a+n)=xs)(m:a+n<=cur.size)(j:Nat)(g:j<n):cur[a+j]?=xs[j]?:=by
 rw [<-h,Z1,B0 A0]
theorem GL{p q:Prop} [Decidable p] [Decidable q](h:p↔q):Value.bool (decide p)=Value.bool (decide q):=by rw [decide_eq_decide.2 h]
variable{P:Program}{f:FuncId}{args:AN}
theorem Mx(h:BC P f args [] v):BC P f args [M] v:=fun u R w m=>
 Calls.mono (h u ([M]++R) w m) fun e E g=>by
  rcases g with⟨y,H',rfl,⟨rfl,rfl⟩,h2⟩|⟨ch,H',rfl,h1,h2⟩
  · exact .inl ⟨_,[M],rfl,⟨rfl,rfl⟩,h2⟩
  · exact h1.elim
theorem aM{A B:List AU}(h:BC P f args [B] v):BC P f args [A++B] v:=fun u R w m=>
 Calls.mono (h u ([A]++R) w (m.perm (by simp only [HT,GP,LN,H3];rw [<-D2];exact RE.append_right _))) fun e E g=>by
  rcases g with⟨y,H',rfl,⟨rfl,rfl⟩,h2⟩|⟨ch,H',rfl,h1,h2⟩
  · refine .inl ⟨_,[A++B],rfl,⟨rfl,rfl⟩,h2.perm ?_⟩
    simp only [HT,GP,LN,H3];rw [<-D2];exact RE.append_right _
  · exact h1.elim
theorem lI{A B:List AU}(h:BC P f args [A++B] v):BC P f args [A,B] v:=by
 refine Dw h B3 ?_;rintro r H' ⟨rfl,rfl⟩;exact ⟨_,⟨V,V⟩,by simp⟩
variable{α:Type}
theorem C8{xs:List α}{j:Nat}{x:α}(h:xs[j]?=some x):xs.take (j+1)=xs.take j++[x]:=by rw [Kx,h];rfl
theorem Ux{k:Nat}(h:rs[k]?=some r):Ac rs=Ac (rs.take k)++(Ac [r]++Ac (rs.drop (k+1))):=by
 rw [<-Bf,<-Bf];congr 1;obtain ⟨g,rfl⟩:=zt.1 h;rw [SD,<-RC g,HW]
theorem KA{k:Nat}(h:rs[k]?=some r)(j:Nat)(g:j<5):(Ac rs)[k*5+j]?=(Ac [r])[j]?:=by
 have m:=(zt.1 h).1;have e:(Ac (rs.take k)).length=k*5:=by rw [BG,zy];omega
 rw [Ux h,T0 A0,dt (by rw [e,BG];simp;omega),e,ep]
variable{cap:Nat}
theorem K8{p:B7}(h:Da M (.slice p n cap) rs):GR M p (Ac rs):=by
 obtain ⟨X,G,e,U,K⟩:=h;injection e with e1 e2 e3
 subst e1;intro j u I;have y:=(zt.1 I).1
 rw [BG]at y;obtain ⟨x,hx⟩:∃x,rs[j/5]?=some x:=⟨_,zn A0⟩;obtain ⟨g,off,cur,T,zz,rfl,O,E,m⟩:=K (j/5) x hx;refine ⟨g,off,cur,T,zz,V,O,?_⟩;have J:=PU m E (j%5) A0
 have h2:=KA hx (j%5) A0;rw [show j/5*5+j%5=j by omega,I]at h2;rw [show off+j=off+j/5*5+j%5 by omega,J,h2,<-HS];rfl
theorem Iw(hv:Da M v rs)(Z:rs.length<=1000000000000):Bz prog 87 #[v] [M] (fun r H'=>∃sr,BZ 5 98 r rs.length (Ac rs) sr/\H'=[sr,M]):=by
 have U:=mL;obtain ⟨p,cap,rfl,⟨hl,O⟩,K⟩:=id hv;have y:GR M p (Ac rs):=K8 hv
 refine Se func87 ntmps87 [0] ?_;intro u R;refine A1<|A3 Y<|Zq<|A1<|Zm Y<|Zv (Gm B4 Y Y)<|AD<|Ad Y (fun I=>?_) (fun I=>?_);·
  have E:p=none:=by cases p with
   |none=>rfl
   |some x=>cases I
  have h0:rs=[]:=by
   cases rs with
   |nil=>rfl
   |cons x l=>obtain ⟨g,off,cur,T,zz,G,_⟩:=K 0 x rfl;rw [E]at G;cases G
  refine Zq<|Bl<|Zg<|A3 Y<|AA<|Zt<|AC rfl results87 Y (by exact ⟨[],by rw [h0];exact Ba 5 _,rfl⟩)
 refine AB<|Zx<|A1<|Ze (EN B4 Ax)<|AF fun J=>Zm Y<|Ze (Fs (by_:=40) (sz:=5) B4 (V:Tryz.prog.info? 98=some Tryz.t98) V rfl V rfl Y (EX 5 98 J 0 [] V AK) Y (y) (by exact BG _) AK Wo Wo (by exact CE _) A0 A0) ?_;rintro _ _ ⟨X,m,rfl⟩;replace m:=BH m (C6 _) (L5 _);refine A3 Y<|AA<|AC V results87 Y (by exact ⟨_,m,V⟩)
theorem NS{a b:List α}(g:a.length=b.length)(h:∀j,j<a.length->a[j]?=b[j]?):a=b:=by
 apply OK;intro i;rcases DP i a.length with h9|h9
 · exact h i h9
 · rw [Mb h9,Mb A0]
theorem Ea [DecidableEq α]{a b:α}(h:¬a=b):Value.bool false=Value.bool (decide (a=b)):=congrArg Value.bool (Bm h).symm
theorem LP [DecidableEq α]{a b:α}(h:a=b):Value.bool true=Value.bool (decide (a=b)):=congrArg Value.bool (CA h).symm
theorem nR{a b:AY}:U8 a.t b.t a.k b.k a.v b.v↔a=b:=by
 obtain ⟨t,k,v⟩:=a;obtain ⟨m,g,y⟩:=b;simp [U8]
theorem aF{va vb:A4}{a b:List AY}(ha:Da M va a)(hb:Da M vb b):BC prog 37 #[va,vb] [M] (.bool (decide (a=b))):=by
 have kz:=mL;obtain ⟨pa,ca,rfl,gy,X⟩:=ha;obtain ⟨pb,cb,rfl,kv,Z⟩:=hb;refine Se func37 ntmps37 [0,1] ?_;intro u R;refine A1<|A3 Y<|Zq<|A1<|Zm Y<|Zv (AP B4 Y)<|Zm Y<|Zv (AP B4 Y)<|Zv (E5 Y Y)<|AD<|Ak Y (fun K=>?_) (fun K=>?_);·
  refine A1<|A3 Y<|AA<|Zt<|AC rfl results37 Y (by exact ⟨Ea (fun e=>K (by rw [e])),rfl⟩)
 have af:a.length=b.length:=by omega
 refine AB<|Zx<|Zq<|A1<|Zm Y<|Zv (AP B4 Y)<|Zm Y<|AD<|AX<|Zb [13,0,1,12] ?_;refine BB (e0:=[(13,_)]) (fun m e H=>∃(i:Nat),m=a.length -i/\(i<=a.length/\∀j,j<i->a[j]?=b[j]?)/\e=[(13,I4 (i:Int))]/\H=[]) (by exact ⟨0,V,⟨C2 _,by intro j hj;omega⟩,V,V⟩) Wp ?_;rintro _ _ _ ⟨i,rfl,⟨hi,g⟩,rfl,rfl⟩;refine A1<|Zv (Au Y Y)<|AD<|Zq<|Ak Y (fun ax=>?_) (fun ax=>?_);·
  obtain ⟨x,hx⟩:∃x,a[i]?=some x:=⟨_,zn A0⟩;obtain ⟨y,hy⟩:∃y,b[i]?=some y:=⟨_,zn A0⟩;obtain ⟨g1,gm,E,T1,cu,rfl,bf,d9,I⟩:=X i x hx;obtain ⟨g2,gq,G,T2,cO,rfl,bn,ek,J⟩:=Z i y hy;refine AB<|Zx<|Zq<|AX<|A1<|Zm Y<|A3 Y<|Zq<|BJ (n:=9) (0::0::3::7::0::0::48::112::255::[]) 0 AG AG V<|A2 0 V (AJ Y)<|A2 1 V (AJ Y)<|A2 2 V (AO B4 Ax Y Y A0)<|Gf (b:=g1) (x:= .cells E T1 cu) (D':=15) 3 V rfl V (by simp [bf]) (A9 (cs:=x.Ao5) C7 Ax Y A0 I) ?_;refine A2 4 V (AJ Y)<|A2 5 V (AJ Y)<|A2 6 V (AO B4 Ax Y Y A0)<|Gf (b:=g2) (x:= .cells G T2 cO) (D':=255) 7 V rfl V (by simp [bn]) (A9 (cs:=y.Ao5) C7 Ax Y A0 J) ?_;refine A2 8 V (jh AG Ds AG AK AK AK F0 G1 AE A5 HB CD Y Y)<|Ao<|Zx<|Ak Y (fun O=>?_) (fun O=>?_);·
   refine A1<|AH Y<|Zn [4] ?_;refine Zx<|AA<|Ab<|Zt<|Zt<|Ab<|Zt<|AC rfl results37 Y (by exact ⟨Ea (fun e=>by rw [e,hy]at hx;injection hx with hx;exact O (nR.2 hx.symm)),rfl⟩)
  have U:x=y:=nR.1 (G2.1 O);refine AB<|A8<|Zx<|Zg<|Ya (n:=1) Y Y<|Zm Y<|Z0<|Zn [13,0,1,12] ?_;refine AZ (e':=[(13,_)]) (by exact ⟨i+1,rfl,⟨by omega,fun j hj=>by rcases DP j i with h9|h9;exact g j h9;obtain rfl:j=i:=A0;rw [hx,hy];exact congrArg some U⟩,rfl,rfl⟩)
 refine Aw<|Zt<|Zt<|AQ<|Zx<|A1<|A3 Y<|AA<|AC V results37 Y (by exact ⟨LP (NS af (fun j hj=>g j A0)),V⟩)
abbrev Bs:=List UInt8
def Np(s:Bs):Bs:=sha (0::s)
def He(a b:Bs):Bs:=sha (1::(a++b))
def BV(n:Nat):Nat:=2^Nat.log2 (n -1)
theorem En(n:Nat):0<BV n:=ZS _
theorem FK(h:2<=n):BV n<n:=by
 have:=Nat.log2_self_le (n:=n -1) A0;unfold BV;omega
theorem iE{e:Nat}(g:2^e<n)(h2:n<=2^(e+1)):BV n=2^e:=by
 unfold BV;congr 1;refine (Nat.log2_eq_iff (by have:=ZS e;omega)).2 ⟨by omega,by omega⟩
theorem ug(h:2<=n):n<=2*BV n:=by
 have:=Nat.lt_log2_self (n:=n -1);unfold BV;rw [Wc]at this;omega
def Cs(l:List Bs):Bs:=
 if h:2<=l.length then He (Cs (l.take (BV l.length))) (Cs (l.drop (BV l.length)))
 else match l with
  |[]=>sha []
  |x::_=>Np x
termination_by l.length
decreasing_by
 · have:=FK h;rw [zy];omega
 · have:=En l.length;rw [C0];omega
theorem YJ:Cs []=sha []:=by rw [Cs];rfl
theorem Kl(x:Bs):Cs [x]=Np x:=by rw [Cs];rfl
variable{l:List Bs}
theorem IQ(h:2<=l.length):Cs l=He (Cs (l.take (BV l.length))) (Cs (l.drop (BV l.length))):=by
 rw [Cs,dif_pos h]
theorem VF{a b:List Bs}{e:Nat}(g:a.length=2^e)(h0:0<b.length)(y:b.length<=2^e):Cs (a++b)=He (Cs a) (Cs b):=by
 have E:=ZS e;have m:BV (a++b).length=a.length:=by
  rw [g];exact iE (by rw [zq];omega) (by rw [zq,Wc];omega)
 rw [IQ (by rw [zq];omega),m,Hi,S0];· rfl
 · rfl
structure Jw(ps:List (List Bs)):Prop where
 pow:∀p∈ps,∃e,p.length=2^e
 lt:ps.Pairwise (fun a b=>b.length<a.length)
theorem rW:Jw []:=⟨by simp,.nil⟩
theorem o7{a b:Nat}(h:2^a<2^b):2*2^a<=2^b:=by
 have:=(Nat.pow_lt_pow_iff_right (a:=2) A0).1 h
 calc 2*2^a=2^(a+1):=by rw [Wc];omega
  _<=2^b:=Nat.pow_le_pow_right A0 this
variable{p:List Bs}{ps:List (List Bs)}
theorem Jw.tail(h:Jw (p::ps)):Jw ps:=⟨fun q g=>h.pow q (by simp [g]),(RT.1 h.lt).2⟩
theorem Jw.init(h:Jw (ps++[p])):Jw ps:=⟨fun q g=>h.pow q (by simp [g]),(N4.1 h.lt).1⟩
theorem Jw.sum:∀{ps:List (List Bs)} {e:Nat},Jw ps->(∀p∈ps,p.length<2^e)->ps.flatten.length<2^e
 |[],e,_,_=>by simpa using ZS e
 |p::ps,e,h,hl=>by
  obtain ⟨m,g⟩:=h.pow p B3;have h2:=hl p B3
  rw [g]at h2;have E:=o7 h2
  have G:=Jw.sum (e:=m) h.tail (fun q y=>by rw [<-g];exact (RT.1 h.lt).1 q y);rw [GP,zq,g];omega
theorem Jw.nonempty(h:Jw ps)(hn:ps≠[]):0<ps.flatten.length:=by
 cases ps with
 |nil=>exact absurd rfl hn
 |cons p ps=>
  obtain ⟨e,g⟩:=h.pow p B3;have:=ZS e
  rw [GP,zq];omega
theorem Jw.root:∀{ps:List (List Bs)} {q:List Bs},Jw (ps++[q])->ps.foldr (fun p o=>He (Cs p) o) (Cs q)=Cs (ps.flatten++q)
 |[],q,_=>by simp
 |p::ps,q,h=>by
  rw [List.foldr_cons,Jw.root (ps:=ps) (q:=q) h.tail,GP,D2];obtain ⟨e,m⟩:=h.pow p B3;have E:(ps++[q]).flatten=ps.flatten++q:=by simp
  have y:Jw (ps++[q]):=h.tail;have g:0<(ps++[q]).flatten.length:=Jw.nonempty y B3
  have h2:=Jw.sum (e:=e) y (fun r G=>by rw [<-m];exact (RT.1 h.lt).1 r G);rw [E]at g h2;exact (VF m g A0).symm
structure OX(ls:List Bs)(ps:List (List Bs))(q:List Bs)(i:Nat):Prop where
 bin:Jw ps
 pow:∃e,q.length=2^e
 le:∀p∈ps,q.length<=p.length
 flat:ps.flatten++q=ls.take i
variable{ls:List Bs}{i:Nat}
theorem kC{s:Bs}(h:Jw ps)(m:ps.flatten=ls.take i)(E:ls[i]?=some s):OX ls ps [s] (i+1):=
 ⟨h,⟨0,rfl⟩,fun p y=>by
   obtain ⟨e,g⟩:=h.pow p y;have:=ZS e
   rw [g];simp;omega,by rw [Kx,E,m];rfl⟩
theorem OX.step{q:List Bs}(h:OX ls (ps++[p]) q i)(e:p.length=q.length):OX ls ps (p++q) i/\Cs (p++q)=He (Cs p) (Cs q):=by
 obtain ⟨m,g⟩:=h.pow;have J:=ZS m
 refine ⟨⟨h.bin.init,⟨m+1,by rw [zq,e,g,Wc];omega⟩,?_,?_⟩,VF (e.trans g) A0 A0⟩
 · intro r E
   obtain ⟨G,h2⟩:=h.bin.pow r (by simp [E]);have y:=(N4.1 h.bin.lt).2.2 r E p B3
   rw [e,g,h2]at y;have I:=o7 y
   rw [zq,e,g,h2];omega
 · rw [<-h.flat];simp
theorem OX.done{q:List Bs}(h:OX ls ps q i)(G:∀m p,ps=m++[p]->p.length≠q.length):Jw (ps++[q])/\(ps++[q]).flatten=ls.take i:=by
 refine ⟨⟨?_,?_⟩,by rw [<-h.flat];simp⟩
 · intro r y
   rcases DM.1 y with y|y
   · exact h.bin.pow r y
   · rw [D0]at y
     subst y;exact h.pow
 · rw [N4]
   refine ⟨h.bin.lt,List.pairwise_singleton _ _,?_⟩;intro a g b I;rw [D0]at I;subst I;rcases cD ps with rfl|⟨m,p,rfl⟩
   · simp at g
   · have J:=G m p B3
     have h2:=h.le p B3;have E:=h.bin.lt
     simp only [ew]at g E;rw [N4]at E;rcases DM.1 g with g|g
     · have:=E.2.2 a g p B3
       omega
     · rw [D0]at g
       subst g;omega
variable{xs:List A4}
theorem tO(h:cur.toList.take xs.length=xs){x:A4}(hx:xs[i]?=some x):cur[i]?=some x:=by
 have g:=(zt.1 hx).1;rw [<-h,Gk,B0 g,HS]at hx;exact hx
theorem qQ(ps:List (List Bs))(o:Bs):(ps.map Cs).reverse.foldl (fun o r=>He r o) o=ps.foldr (fun p o=>He (Cs p) o) o:=by
 rw [List.foldl_reverse,List.foldr_map]
def DK(M:List AU)(v:A4)(ls:List Bs):Prop:=∃p cap,v= .slice p ls.length cap/\(ls.length<=maxLen/\ls.length<=cap)/\∀(i:Nat) (s:Bs),ls[i]?=some s->∃g off cur T zz,p=some ⟨g,off,none⟩/\(g,Obj.cells cur T zz)∈M/\cur[off+i]?=some (Ci s)
def rtV(p:List Bs):A4:=Ci (Cs p)
def lnV(p:List Bs):A4:=I4 ((p.length:Nat):Int)
theorem Q7{sz:Nat}{b:B7}(h:BZ sz e (.slice b n c) n xs s)(k:Nat)(y:k<=n):BZ sz e (.slice b k c) k (xs.take (k*sz)) s:=by
 obtain ⟨E,h⟩:=h;refine ⟨by rw [zy,E,LO (RM _ y)],?_⟩;rcases h with⟨m,rfl,rfl⟩|⟨g,cap',cur,z,m,rfl,h2,h3,h4,h5,h6⟩
 · injection m with e1 e2 e3
   subst e1 e3;obtain rfl:k=0:=by omega
   exact .inl ⟨V,V,V⟩
 · injection m with e1 e2 e3
   subst e1 e3;refine .inr ⟨g,c,cur,z,V,V,by omega,h3,h4,?_,h6⟩;rw [<-h5,SR,LO (RM _ y)]
theorem Iq(h:BZ 1 e v n xs s)(h0:0<n):∃g cap cur z,v=I6 g n cap/\s=[(g,.cells cur e z)]/\n<=cap/\∀(i:Nat) (x:A4),xs[i]?=some x->cur[i]?=some x:=by
 obtain ⟨G,⟨_,y,_⟩|⟨g,m,cur,z,y,rfl,h2,I,J,E,K⟩⟩:=h;· omega
 · rw [<-G]at E
   exact ⟨g,m,cur,z,y,V,h2,fun i x hx=>tO E hx⟩
theorem DK.mono{M':List AU}(h:DK M v ls)(I:∀c∈M,c∈M'):DK M' v ls:=by
 obtain ⟨p,cap,e,G,E⟩:=h;refine ⟨p,cap,e,G,fun i s J=>?_⟩;obtain ⟨g,off,cur,T,zz,m,y,h2⟩:=E i s J;exact ⟨g,off,cur,T,zz,m,I _ y,h2⟩
theorem Eu(h:BZ 1 e v ls.length (ls.map Ci) s)(hn:ls.length<=maxLen):DK s v ls:=by
 rcases Lz ls.length with h0|h0
 · obtain ⟨b,cap,rfl⟩:=h.form
   exact ⟨b,cap,rfl,⟨hn,by omega⟩,fun i s m=>by rw [Lq h0]at m;simp at m⟩
 · obtain ⟨g,cap,cur,z,rfl,rfl,y,E⟩:=Iq h h0
   refine ⟨_,cap,V,⟨hn,y⟩,fun i s m=>⟨g,0,cur,e,z,V,by simp,?_⟩⟩;rw [C6];exact E i _ (by rw [FG,m];rfl)
theorem Dk(l:List Bs):(Cs l).length=32:=by
 rw [Cs];split;· exact Es _
 · split<;>exact Es _
theorem Vl(s:Bs)(G:s.length<=140737488354000)(g:AM)(E:Nat×Nat):BC prog 133 #[.string (str s)] [[(1,.cells (Di.map CB).toArray g E)]] (.string (str (Np s))):=by
 refine Se func133 ntmps133 [0] ?_;intro u R;refine A1<|A3 Y<|A1<|Zc [_] Y call164 Y V (Mm (str [0])) ?_;rintro _ _ ⟨_,⟨y,rfl,rfl⟩,rfl⟩;refine Zm Y<|Ze (Af (vs:=[_]) (cs:=[_]) Bk CH HR Y V rfl V rfl V)<|AF fun m=>Xr [_] Y call185 Y V (Jp m 0 1 y #[Ci s] _ _ _ _ [s] [0] V B3 B3 Lo _ _)<|A3 Y<|AA<|AC V results133 Y (by exact ⟨by simp [Np],V⟩)
theorem NQ(a b:Bs)(G:a.length<=1000000000)(I:b.length<=1000000000)(g:AM)(E:Nat×Nat):BC prog 134 #[.string (str a),.string (str b)] [[(1,.cells (Di.map CB).toArray g E)]] (.string (str (He a b))):=by
 refine Se func134 ntmps134 [0,1] ?_;intro u R;refine A1<|A3 Y<|A1<|Zc [_] Y call164 Y V (Mm (str [1])) ?_;rintro _ _ ⟨_,⟨y,rfl,rfl⟩,rfl⟩;refine Zm Y<|Zm Y<|Ze (Af (vs:=[_,_]) (cs:=[_,_]) Bk CH HR Y V rfl V rfl V)<|AF fun m=>Xr [_] Y call185 Y V (Jp m 0 2 y #[Ci a,Ci b] _ _ _ _ [a,b] [1] V B3 B3 Lo _ _)<|A3 Y<|AA<|AC V results134 Y (by exact ⟨by simp [He],V⟩)
def bwd{α:Type} [Inhabited α](ls:List α):List (Nat×α):=(List.range ls.length).reverse.map (fun i=>(i,ls.getD i default))
theorem XX [Inhabited α](ls:List α):(bwd ls).length=ls.length:=by simp [bwd]
theorem fD [Inhabited α]{ls:List α}{m:Nat}{s:α}(h:ls[m]?=some s):(bwd ls)[ls.length -(m+1)]?=some (m,s):=by
 have g:=(zt.1 h).1;unfold bwd;rw [FG,List.getElem?_reverse Lo,eJ,cH A0];rw [show ls.length -1 -(ls.length -(m+1))=m by omega];simp [List.getD,h]
theorem XW [Inhabited α](ls:List α):(bwd ls).map Prod.snd=ls.reverse:=by
 apply OK;intro i;by_cases hi:i<ls.length
 · have g:ls[ls.length -1 -i]?=some (ls[ls.length -1 -i]'A0):=zn _
   have h2:=fD g;rw [show ls.length -(ls.length -1 -i+1)=i by omega]at h2;rw [FG,h2,List.getElem?_reverse hi,g];rfl
 · rw [Mb (by rw [zu,XX];omega),Mb Lo]
theorem iZ [Inhabited α]{ls:List α}{x:Nat×α}(h:x∈bwd ls):x.2∈ls:=by
 have g:x.2∈(bwd ls).map Prod.snd:=GB.2 ⟨x,h,rfl⟩;rw [XW,Wa]at g;exact g
theorem Rz{xs:List α}{j:Nat}{x:α}(h:xs[j]?=some x):xs=xs.take j++x::xs.drop (j+1):=by
 have g:=(zt.1 h).1;rw [zn g]at h;injection h with h
 rw [<-h,<-RC g,HW]
theorem qU(xs:List Bs)(q:Bs):(bwd xs).foldl (fun o (x:Nat×Bs)=>He x.2 o) q=xs.reverse.foldl (fun o r=>He r o) q:=by
 rw [<-XW,List.foldl_map]
theorem WX(f:List α->A4)(ps:List (List α))(p q:List α):(((ps++[p])++[q]).map f)[(ps++[p]).length+1 -2]?=some (f p)/\(((ps++[p])++[q]).map f)[(ps++[p]).length+1 -1]?=some (f q):=by
 have e:(ps++[p]).length=ps.length+1:=by simp
 constructor;· rw [show(ps++[p]).length+1 -2=ps.length by omega];simp
 · rw [show(ps++[p]).length+1 -1=ps.length+1 by omega];simp
theorem Xz(f:List α->A4)(ps:List (List α))(p q:List α):(((ps++[p])++[q]).map f).take (((ps++[p]).length+1 -2)*1)=ps.map f:=by
 rw [show((ps++[p]).length+1 -2)*1=(ps.map f).length by simp];simp
theorem uj(f:List α->A4)(ps:List (List α))(q:List α):((ps++[q]).map f)[(ps++[q]).length -1]?=some (f q):=by
 rw [show(ps++[q]).length -1=ps.length by simp];simp
theorem kJ(f:List α->A4)(ps:List (List α))(q:List α):((ps++[q]).map f).take (((ps++[q]).length -1)*1)=ps.map f:=by
 rw [show((ps++[q]).length -1)*1=(ps.map f).length by simp];simp
theorem iF{ps:List α}(h:0<ps.length):∃g p,ps=g++[p]:=by
 rcases cD ps with rfl|⟨a,b,e⟩
 · simp at h
 · exact ⟨a,b,by rw [e,ew]⟩
theorem qR(xs:List (Nat×Bs))(q:Bs)(g:q.length=32):(xs.foldl (fun o (x:Nat×Bs)=>He x.2 o) q).length=32:=by
 rcases cD xs with rfl|⟨ys,y,rfl⟩
 · exact g
 · rw [ew,RW];exact Es _
theorem Ua(p:B7)(n c:Nat):Bz prog 136 #[.slice p n c] [] (fun r H'=>∃b,r= .func (.func 169) #[] #[I5 b]/\H'=[[(b,.cells #[.slice p n c] 56 (0,0))]]):=by
 refine Se func136 ntmps136 [0] ?_;intro u R;refine A1<|Ze (Bx #[_])<|AF fun b=>A3 Y<|A1<|Zv (Bt (vs:=[]) (us:=[_]) Y Y)<|A3 Y<|AA<|AC V results136 Y (by exact ⟨_,V,V⟩)
theorem Ub(hv:DK M v ls)(b:Nat)(hn:ls.length<=1000000000000):
 LY prog 169 #[I5 b] [[(b,.cells #[v] 56 (0,0))]] (fun s=>∀c∈M,c∈s) (fun x=>#[I4 ((x.1:Nat):Int),Ci x.2]) (bwd ls):=by
 have af:=mL;obtain ⟨p,cap,rfl,hl,hg⟩:=hv;intro l J hA hy s y;refine Se func169 ntmps169 [0,1] ?_;intro u R;refine A1<|Zl I0 Y ?_;refine Zv (AP Bk Y) ?_
 (refine Ap (HV Y Y (IntWalk.i64_in _ ?_)) ?_;(focus (omega)))
 refine A3 Y<|AX<|Zb [3,0,1] ?_;refine BB (e0:=[(3,_)]) (fun m e H=>∃(k:Nat) (s:List AU),m=0+k/\(k<=ls.length/\J ((bwd ls).take (ls.length -k)) s)/\e=[(3,I4 ((k:Int) -1))]/\H=[[(b,.cells #[.slice p ls.length cap] 56 (0,0))],s]) (by exact ⟨ls.length,s,rfl,⟨B8 _,by rw [S1,Hj];exact y⟩,rfl,rfl⟩) Wp ?_;rintro _ _ _ ⟨k,s,rfl,⟨hk,y⟩,rfl,rfl⟩;refine Zq<|A1<|Zm Y<|Zv (I1 Y Y)<|AD<|Ak Y (fun X=>?_) (fun X=>?_);·
  obtain ⟨m,rfl⟩:∃m,k=m+1:=⟨k -1,by omega⟩;rw [show(((m+1:Nat):Int) -1)=((m:Nat):Int) by omega];obtain ⟨z9,K⟩:∃z9,ls[m]?=some z9:=⟨_,zn A0⟩;have E:=fD K
  obtain ⟨g,o,cur,T,zz,rfl,hm,G⟩:=hg m z9 K;have I:=G
  have Z:=hy _ _ _ s (Rz E) y;refine AB<|Zx<|Zq<|AX<|A1<|Zm Y<|Zm Y<|Zl I0 Y ?_;refine Zm Y<|Ap (BP Bk CH Y Y A0)<|Ca (cs:=[(g,.cells cur T zz)]) (by simp [hA _ s y _ hm]) (Bj Fm Y I) V rfl ?_;refine Ze (Oa (vs:=[_,_]) Y Y (Z) Wp) ?_;rintro _ _ ⟨_,⟨s',rfl,rfl,O⟩,rfl⟩;refine Zv (Cj Y)<|AD<|Ad Y (fun hb=>by cases hb)<|fun hb=>AB<|A8<|Zx<|Zg<|Zm Y ?_
  (refine Ap (HV Y Y (IntWalk.i64_in _ ?_)) ?_;(focus (omega)))
  refine AH Y<|Zn [3,0,1] ?_;refine AZ (e':=[(3,_)]) (by exact ⟨m,s',rfl,⟨by omega,by rw [show ls.length -m=ls.length -(m+1)+1 by omega,C8 E];exact O⟩,rfl,rfl⟩)
 have U:k=0:=by omega
 subst U;rw [PF,HK (by rw [XX];exact B8 _)]at y;refine Aw<|Zt<|Zt<|AQ<|GX V results169 (by exact ⟨s,V,y⟩)
theorem Kk(hv:DK M v ls)(hn:ls.length<=1000000)(hs:∀s∈ls,s.length<=140737488354000)(Tg:AM)(zg:Nat×Nat):BC prog 70 #[v] [[(1,.cells (Di.map CB).toArray Tg zg)],M] (.string (str (Cs ls))):=by
 have sO:=mL;obtain ⟨p,cap,rfl,hl,hg⟩:=hv;refine GA func70 V ntmps70 V ?_;intro u R;refine Zb [0] ?_;refine A1<|A3 Y<|A1<|A3 Y<|A1<|A3 Y<|Zq<|A1<|Zm Y<|Zv (AP Bk Y)<|Zm Y<|AD<|AX<|Bl<|Bl<|Zb [3,4,13,11,12] ?_;refine BB (e0:=[(3,_),(4,_),(13,_)]) (fun m e H=>∃(i:Nat) (ps:List (List Bs)) (vw:A4) (sw:List AU) (vz:A4) (sz:List AU),m=ls.length -i/\(i<=ls.length/\Jw ps/\ps.flatten=ls.take i/\BZ 1 9 vw ps.length (ps.map rtV) sw/\BZ 1 3 vz ps.length (ps.map lnV) sz/\ps.length<=i)/\e=[(3,vw),(4,vz),(13,I4 (i:Int))]/\H=[sw,sz]) (by exact ⟨0,[],.slice none 0 0,[],.slice none 0 0,[],V,⟨C2 _,rW,V,Ba 1 _,Ba 1 _,B8 _⟩,V,V⟩) Wp ?_;rintro _ _ _ ⟨i,ps,vw,sw,vz,sz,rfl,⟨hi,hB,hf,G,X,q8⟩,rfl,rfl⟩;refine A1<|Zv (Au Y Y)<|AD<|Zq<|Ak Y (fun kz=>?_) (fun kz=>?_);·
  obtain ⟨s9,cO⟩:∃s9,ls[i]?=some s9:=⟨_,zn kz⟩;obtain ⟨g,o,cur,T,zz,rfl,pz,kv⟩:=hg i s9 cO;obtain ⟨qw,cw,rfl⟩:=G.form;obtain ⟨qz,cz,rfl⟩:=X.form;have l9:=hs s9 (Cd cO)
  refine AB<|Zx<|Zq<|AX<|A1<|Ap (BP Bk CH Y Y A0)<|Ca (cs:=[(g,.cells cur T zz)]) (by simp [pz]) (Bj Fm Y kv) V rfl ?_;refine A3 Y<|A1<|Zm Y<|Zm Y<|Xr [_] Y call133 Y V (Vl s9 l9 Tg zg) ?_;refine Ze (Af (vs:=[_]) (cs:=[_]) Bk CH HR Y V rfl V rfl V)<|AF fun b1=>Ze (Db (by_:=16) (sz:=1) (news:=[_]) Bk (V:Tryz.prog.info? 9=some Tryz.t9) V rfl V rfl Y G Y Wo Wh An V GF AK A0 A0) ?_;rintro _ _ ⟨sw,G,rfl⟩;obtain ⟨gw,cw,rfl⟩:=G.form;refine Zm Y<|Ze (Af (vs:=[_]) (cs:=[_]) Fi A5 HL Y V rfl V rfl V)<|AF fun b3=>Ze (Db (by_:=8) (sz:=1) (news:=[_]) Fi (V:Tryz.prog.info? 3=some Tryz.t3) V rfl V rfl Y X Y Wo Wh An V GF AK A0 A0) ?_;rintro _ _ ⟨sz,X,rfl⟩;obtain ⟨gz,cz,rfl⟩:=X.form;refine Za Y<|AH Y<|Zn [3,4,11,12,13] ?_;refine Zx<|A1<|Zm Y<|Zv (AP Fi Y)<|A3 Y<|AX<|Zb [3,4,7,11,12,13] ?_;refine BB (e0:=[(3,_),(4,_),(7,_)]) (fun m e H=>∃(E:List (List Bs)) (q:List Bs) (gq:A4) (ek:List AU) (gy:A4) (gm:List AU),m=0+E.length/\(OX ls E q (i+1)/\BZ 1 9 gq (E.length+1) ((E++[q]).map rtV) ek/\BZ 1 3 gy (E.length+1) ((E++[q]).map lnV) gm/\E.length<=i)/\e=[(3,gq),(4,gy),(7,I4 ((E.length+1:Nat):Int))]/\H=[ek,gm]) (by exact ⟨ps,[s9],_,_,_,_,rfl,⟨kC hB hf cO,BH G rfl (by rw [Dg,LL];unfold rtV;rw [Kl];rfl),BH X rfl (by rw [Dg];rfl),q8⟩,rfl,rfl⟩) Wp ?_;rintro _ _ _ ⟨E,q,gq,ek,gy,gm,rfl,⟨hM,K,O,tT⟩,rfl,rfl⟩;refine Zq<|Zq<|BJ (n:=15) (0::1::3::7::7::23::63::127::7::7::519::1799::3847::8191::16383::[]) 0 AG AG V<|A2 0 V (AJ Y)<|A2 1 V (CO (n:=1) Y Y)<|A2 2 V (AJ Y)<|Cc (t:=29) Y (fun cu=>?_) (fun cu=>?_);·
   rw [CA cu];obtain ⟨y,Z,rfl⟩:=iF (ps:=E) A0;have ve:(y++[Z]).length=y.length+1:=by simp
   obtain ⟨bn,p8,U,o8,rfl,rfl,l8,J⟩:=Iq (id K) A0;obtain ⟨r9,qo,o9,wz,rfl,rfl,qd,af⟩:=Iq (id O) A0;have qc:=af _ _ (WX lnV y Z q).1
   have mR:=af _ _ (WX lnV y Z q).2;have d9:=J _ _ (WX rtV y Z q).1
   have qa:=J _ _ (WX rtV y Z q).2;have q9:q.length<=ls.length:=by have h9:=congrArg List.length hM.flat;rw [zq,zy]at h9;omega
   refine B1 3 V (AJ Y)<|B1 4 V (AJ Y) ?_
   (refine B1 5 rfl (Bo (n:=2) Y Y ?_ ?_) ?_;(focus (omega));(focus (omega)))
   refine B1 6 V (BD Fi A5 Y Y A0)<|D4 7 V Wh (Bj AE Y qc) ?_;refine B1 8 V (AJ Y)<|B1 9 V (AJ Y) ?_
   (refine B1 10 rfl (Bo (n:=1) Y Y ?_ ?_) ?_;(focus (omega));(focus (omega)))
   refine B1 11 V (BD Fi A5 Y Y A0)<|D4 12 V Wh (Bj AE Y mR) ?_;refine B1 13 V (Bb Y Y)<|A2 14 V (AR Y Y)<|Ao<|Zn [3,4,7,11,12,13,41] ?_;refine Zx<|Ak Y (fun he=>?_) (fun he=>?_);·
    have lv:=hM.step he;refine AB<|Zx<|Zq<|AX<|Zq<|BJ (n:=18) (0::0::2::7::0::0::32::112::240::0::0::1024::3584::7680::16368::32752::65535::131071::[]) 114688 AG AG V<|A2 0 V (AJ Y)<|A2 1 V (AJ Y) ?_
    (refine Bq (D':=7) 2 (Bo (n:=2) Y Y ?_ ?_) ?_;(focus (omega));(focus (omega)))
    refine A2 3 V (Bc Bk CH Y Y A0)<|A2 4 V (AJ Y)<|A2 5 V (AJ Y) ?_
    (refine Bq (D':=127) 6 (Bo (n:=2) Y Y ?_ ?_) ?_;(focus (omega));(focus (omega)))
    refine A2 7 rfl (BD Bk CH Y Y (by first|omega|(simp;omega)))<|B2 8 rfl Fm Y (hv:=by exact d9) ?_;refine A2 9 V (AJ Y)<|A2 10 V (AJ Y) ?_
    (refine Bq (D':=4095) 11 (Bo (n:=1) Y Y ?_ ?_) ?_;(focus (omega));(focus (omega)))
    refine A2 12 rfl (BD Bk CH Y Y (by first|omega|(simp;omega)))<|B2 13 rfl Fm Y (hv:=by exact qa) ?_;refine Yw 14 32767 rfl (Zu [_,_] Y call134 Y rfl (NQ (Cs Z) (Cs q) (by rw [Dk];omega) (by rw [Dk];omega) Tg zg))<|C3<|Yw 15 65535 V (Af (vs:=[_]) (cs:=[_]) Bk CH HR Y V rfl V rfl V)<|AF fun b5=>Yw 16 131071 V (Db (by_:=16) (sz:=1) (news:=[_]) Bk (V:Tryz.prog.info? 9=some Tryz.t9) V rfl V rfl Y (Q7 K ((y++[Z]).length+1 -2) A0) Y Wo Wh An V GF AK A0 A0) ?_;rintro _ _ ⟨vo,ax,rfl⟩;obtain ⟨qA,qh,rfl⟩:=ax.form;refine A2 17 V (BF Y)<|Ao<|Zn [3,4,7,11,12,13] ?_;refine Zx<|BJ (n:=13) (0::0::2::7::0::0::32::112::240::496::1008::2047::4095::[]) 3072 AG AG V<|A2 0 V (AJ Y)<|A2 1 V (AJ Y) ?_
    (refine Bq (D':=7) 2 (Bo (n:=2) Y Y ?_ ?_) ?_;(focus (first|omega|(simp;omega)));(focus (first|omega|(simp;omega))))
    refine A2 3 V (Bc Fi A5 Y Y A0)<|A2 4 V (AJ Y)<|A2 5 V (AJ Y) ?_
    (refine Bq (D':=127) 6 (Bo (n:=1) Y Y ?_ ?_) ?_;(focus (first|omega|(simp;omega)));(focus (first|omega|(simp;omega))))
    refine A2 7 rfl (BD Fi A5 Y Y (by first|omega|(simp;omega)))<|B2 8 rfl AE Y (hv:=by exact mR) ?_;refine A2 9 rfl (Df (m:=2) Y Y (by first|omega|(simp;omega)))<|Yw 10 2047 rfl (Af (vs:=[_]) (cs:=[_]) Fi A5 HL Y rfl rfl rfl rfl rfl)<|AF fun b7=>Yw 11 4095 V (Db (by_:=8) (sz:=1) (news:=[_]) Fi (V:Tryz.prog.info? 3=some Tryz.t3) V rfl V rfl Y (Q7 O ((y++[Z]).length+1 -2) A0) Y Wo Wh An V GF AK A0 A0) ?_;rintro _ _ ⟨wo,bf,rfl⟩;obtain ⟨sj,qx,rfl⟩:=bf.form;refine A2 12 V (BF Y)<|Ao<|Zn [3,4,7,11,12,13] ?_;refine A8<|Zx<|Zg<|Zm Y<|Yb (n:=1) Y Y<|AH Y<|Zn [3,4,7,11,12,13] ?_;refine AZ (e':=[(3,_),(4,_),(7,_)]) (by exact ⟨y,Z++q,_,_,_,_,rfl,⟨lv.1,BH ax A0 (by rw [Xz,Dg,LL];unfold rtV;rw [lv.2];rfl),BH bf A0 (by rw [Xz,Dg,LL];unfold lnV;rw [zq,he,<-Nat.two_mul]),by omega⟩,(by rw [show(y++[Z]).length+1 -1=y.length+1 by omega]),rfl⟩)
   have hD:=hM.done (fun a b e9=>by have e8:=List.singleton_inj.1 (eK e9 rfl).2;rw [<-e8];exact he);refine Aw<|Zt<|Zt<|AQ<|A8<|Zx<|Zg<|Ya (n:=1) Y Y<|Zm Y<|Z0<|Zn [3,4,13,11,12] ?_;refine AZ (e':=[(3,_),(4,_),(13,_)]) (by exact ⟨i+1,_,_,_,_,_,rfl,⟨by omega,hD.1,hD.2,BH K B3 rfl,BH O B3 rfl,by rw [zq];simp;omega⟩,rfl,rfl⟩)
  rw [Bm cu];have hD:=hM.done (fun a b e9=>by have e8:=congrArg List.length e9;rw [zq]at e8;simp at e8;omega)
  refine AW 3 V<|AW 4 V<|AW 5 V<|AW 6 V<|AW 7 V<|AW 8 V<|AW 9 V<|AW 10 V<|AW 11 V<|AW 12 V<|AW 13 V<|A2 14 V (AL Y Y)<|Ao<|Zn [3,4,7,11,12,13,41] ?_;refine Zx<|Dj Y<|Aw<|Zt<|Zt<|AQ<|A8<|Zx<|Zg<|Ya (n:=1) Y Y<|Zm Y<|Z0<|Zn [3,4,13,11,12] ?_;refine AZ (e':=[(3,_),(4,_),(13,_)]) (by exact ⟨i+1,_,_,_,_,_,rfl,⟨by omega,hD.1,hD.2,BH K B3 rfl,BH O B3 rfl,by rw [zq];simp;omega⟩,rfl,rfl⟩)
 have ei:i=ls.length:=by omega
 subst ei;rw [HK (B8 _)]at hf;obtain ⟨qw,cw,rfl⟩:=G.form;refine Aw<|Zt<|Zt<|AQ<|Zx<|Zq<|A1<|Zm Y<|Zv (AP Bk Y)<|Zv (Bb (n:=0) Y Y)<|AD<|Ak Y (fun h0=>?_) (fun h0=>?_);·
  have e0:=Lq h0;subst e0;have e1:ls=[]:=hf.symm
  refine A1<|Xr [_] Y call135 Y V (gJ [] B3 Tg zg) ?_;refine A3 Y<|AA<|Zt<|TJ rfl (YM results70 Y) (by exact ⟨by rw [e1,YJ],rfl⟩)
 obtain ⟨y,q,rfl⟩:=iF (ps:=ps) A0;obtain ⟨bn,p8,U,o8,pq,rfl,l8,J⟩:=Iq (id G) A0;injection pq with hev1 hev2 hev3
 subst hev1 hev3;have d9:=J _ _ (uj rtV y q)
 have q9:(y++[q]).length=y.length+1:=by simp
 refine AB<|Zx<|A1<|Zm Y<|Zm Y<|Zv (AP Bk Y)<|Yb (n:=1) Y Y ?_;refine Ap (BD Bk CH Y Y A0)<|Zl Fm Y (hv:=by exact d9) ?_;refine Ze (Al HR #[_])<|AF fun ob=>Xe (Zs CH Y Y V (hc:=by exact (V:_=(#[Ci (Cs q)]:AN)))) ?_;refine AD<|Zq<|A1<|Zm Y<|Zm Y<|Zv (AP Bk Y)<|Yb (n:=1) Y Y ?_;refine Ap (Bc Bk CH Y Y A0)<|Zc [_] Y call136 Y V (Ua _ _ _) ?_;rintro _ _ ⟨_,⟨bb,rfl,rfl⟩,rfl⟩;refine Z0<|Zn [8,89] ?_;refine Zx<|AX<|Zb [8,89] ?_;refine Pi (H0:=_) (R:=_) (I:=(fun pre H=>H=[[(ob,.cells #[Ci (pre.foldl (fun o (x:Nat×Bs)=>He x.2 o) (Cs q))] 9 (0,0))],[(bn,.cells U 9 o8)],[(1,.cells (Di.map CB).toArray Tg zg)]])) (asg:=fun x=>[(10,Ci x.2),(91,Ci x.2),(90,I4 ((x.1:Nat):Int))]) rfl Y call169 (Ub (ls:=y.map Cs) (v:=I6 bn ((y++[q]).length -1) cw) (Eu (BH (Q7 G ((y++[q]).length -1) A0) B3 (by rw [kJ,gR];rfl)) (by rw [zu];omega)) bb (by rw [zu];omega)) (fun pre H1 c d h=>by subst h;intro x hx;simp at hx;simp [hx]) Y rfl Wp (rfl) ?ha_13 ?hbd_13 ?hk_13
 case ha_13=>
  intro _ x _ _;refine Zg<|Za Y<|Z0 ?_;exact om
 case hbd_13=>
  intro l pre x qg u H1 R1 qb hI;subst hI;refine AX<|Zg<|Zm Y<|Zl Fm Y ?_;refine Xr [_,_] Y call134 Y rfl (NQ x.2 _ (by obtain ⟨y9,_,e9⟩:=GB.1 (iZ (QV qb));rw [<-e9,Dk];omega) (by rw [qR _ _ (Dk q)];omega) Tg zg) ?_;refine Xe (Zs CH Y Y V) ?_;refine Z0<|A8<|L8 rfl (by rw [RW])
 intro D1 H2 pg;subst pg;refine Zn [8] ?_;refine A8<|Zx<|A1<|Zl Fm Y ?_;refine A3 Y<|AA<|LA rfl (YM results70 Y) Wo (by exact ⟨by rw [qU,qQ,hB.root,<-hf];simp,rfl⟩)
theorem U4:∀(f x:Nat),0<x->x<2^f->Lib.bitLenAux f x=Nat.log2 x+1
 |0,x,h0,h1=>by simp at h1;omega
 |f+1,x,h0,h1=>by
  unfold Lib.bitLenAux;rw [As A0];rw [Wc]at h1;rcases DP x 2 with h|h
  · have e:x=1:=by omega
    subst e;cases f<;>rfl
  · rw [U4 f (x/2) A0 A0]
    conv=>rhs;rw [Nat.log2_def,B0 h]
    omega
theorem kH(n:Nat)(g:2<=n)(h2:n<=1000000000000):Lib.bitLen (n -1)=Nat.log2 (n -1)+1:=U4 64 (n -1) A0 A0
def EK(l:List Bs)(i:Nat):List Bs:=
 if h:2<=l.length then
  if i<BV l.length then EK (l.take (BV l.length)) i++[Cs (l.drop (BV l.length))]
  else EK (l.drop (BV l.length)) (i -BV l.length)++[Cs (l.take (BV l.length))]
 else []
termination_by l.length
decreasing_by
 · have:=FK h;rw [zy];omega
 · have:=En l.length;rw [C0];omega
theorem Kq(h:l.length<=1)(i:Nat):EK l i=[]:=by rw [EK,dif_neg A0]
theorem Iy(h:2<=l.length)(hi:i<BV l.length):EK l i=EK (l.take (BV l.length)) i++[Cs (l.drop (BV l.length))]:=by rw [EK,dif_pos h,B0 hi]
theorem Hu(h:2<=l.length)(hi:¬i<BV l.length):EK l i=EK (l.drop (BV l.length)) (i -BV l.length)++[Cs (l.take (BV l.length))]:=by rw [EK,dif_pos h,As hi]
theorem KW:∀(n:Nat) (l:List Bs) (i:Nat),l.length<=n->∀x∈EK l i,x.length=32
 |n,l,i,hn,x,hx=>by
  rcases DP l.length 2 with h|h
  · rw [Kq A0]at hx;simp at hx
  · have g:=FK h
    have h2:=En l.length
    match n,hn with
    |0,hn=>omega
    |n+1,hn=>
    by_cases hi:i<BV l.length
    · rw [Iy h hi]at hx
      rcases DM.1 hx with hx|hx
      · exact KW n _ i (by rw [zy];omega) x hx
      · rw [D0]at hx
        rw [hx];exact Dk _
    · rw [Hu h hi]at hx
      rcases DM.1 hx with hx|hx
      · exact KW n _ _ (by rw [C0];omega) x hx
      · rw [D0]at hx
        rw [hx];exact Dk _
theorem DK.take{p:B7}(h:DK M (.slice p ls.length cap) ls)(n:Nat)(hn:n<=ls.length):DK M (.slice p n cap) (ls.take n):=by
 obtain ⟨G,m,e,E,y⟩:=h;injection e with e1 e2 e3
 subst e1 e3;have g:(ls.take n).length=n:=by rw [zy];omega
 refine ⟨p,cap,by rw [g],by rw [g];omega,fun i z hz=>y i z ?_⟩;rw [Gk]at hz;split at hz;· exact hz
 · cases hz
theorem DK.drop{E g:Nat}(h:DK M (.slice (some ⟨E,g,none⟩) ls.length cap) ls)(n:Nat)(hn:n<ls.length):DK M (.slice (some ⟨E,g+n,none⟩) (ls.length -n) (cap -n)) (ls.drop n):=by
 obtain ⟨p',K,e,hl,X⟩:=h;injection e with e1 y e3
 subst e1 e3;refine ⟨_,_,by rw [C0],by rw [C0];omega,fun i z hz=>?_⟩;rw [Hh]at hz;obtain ⟨Z,O,m,U,J,y,I,G⟩:=X (n+i) z hz;injection y with y;injection y with e3 e4
 subst e3 e4;exact ⟨E,g+n,m,U,J,rfl,I,by rw [SU];exact G⟩
theorem kX{w:A6}{g:Nat}{z:Nat×Nat}(enc:Bs->A4){zs:List Bs}(G:w.heap[g]?=some (.cells cur e z))(J:zs.length<=cur.size)(y:MH z cur.size)(K:cur.toList.take zs.length=zs.map enc):Go.Sort.Holds enc w g 0 zs.toArray:=by
 intro j I;have m:j<zs.length:=by simpa using I
 have O:=y j A0;have E:(cur.toList.take zs.length)[j]?=(zs.map enc)[j]?:=by rw [K]
 rw [kh m]at E;refine ⟨?_,?_⟩
 · simp only [World.cell?,G,C6]
   simp only [Option.isSome_none,Mn,Hb];rw [<-HS,E];simp [m]
 · simp only [World.frozen?,G,C6]
   simp;omega
theorem X5(enc:Bs->A4)(cur:AN)(g:List Bs)(h:g.length<=cur.size):(Go.Sort.putCells enc 0 g.toArray cur).toList.take g.length=g.map enc:=by
 apply OK;intro j;rw [Gk];by_cases m:j<g.length
 · rw [B0 m,HS]
   unfold Go.Sort.putCells;rw [Array.getElem?_mapIdx,HO A0];simp [m]
 · rw [As m,Mb Lo]
theorem Sat.sorted_enc{u w:A6}{g:Nat}{z:Nat×Nat}{R:Hp}(enc:Bs->A4)(d:Array Bs)(h:Sat u ([(g,.cells cur e z)]::R) w):Sat u ([(g,.cells (Go.Sort.putCells enc 0 d cur) e z)]::R) (Go.Sort.putRow enc (Go.Sort.ahead w n) g 0 d):=by
 have m:=h.get (g,.cells cur e z) B3;refine h.upd (.here _) V rfl V ?_ fun k y=>?_;· simp [Go.Sort.putRow,Go.Sort.mapBlock,Go.Sort.ahead,RK,m,Go.Sort.onCells]
 · have:g≠k:=fun e=>y e.symm
   simp [Go.Sort.putRow,Go.Sort.mapBlock,Go.Sort.ahead,RK,this]
theorem Wq(h:BZ 1 9 v ls.length (ls.map Ci) s)(hn:ls.length<=1000000000000):Bz prog 160 #[v] [s] (fun r H'=>r= .tuple #[]/\∃O,BZ 1 9 v ls.length (ls.reverse.map Ci) O/\H'=[O]):=by
 obtain ⟨K,⟨rfl,h0,rfl⟩|⟨g,cap,cur,z,rfl,rfl,J,I,m,E,y⟩⟩:=h
 · intro u R w G
   have e:ls=[]:=Lq h0;subst e;exact (Tryz.slices_Reverse_string_empty none 0 w).mono (by
    rintro e Z ⟨rfl,rfl⟩;exact .inl ⟨_,_,V,⟨V,[],Ba 1 _,V⟩,G⟩)
 · intro u R w G
   rw [Iv]at m E;have X:=G.get (g,.cells cur 9 z) B3
   have U:=kX (w:=w) (g:=g) (e:=9) (z:=z) Ci (zs:=ls) X A0 y E;refine (Tryz.slices_Reverse_string g 0 cap ls w U A0).mono ?_;rintro e Z ⟨rfl,n,rfl⟩;refine .inl ⟨_,_,V,⟨V,_,⟨by simp,.inr ⟨g,cap,_,z,V,V,J,I,?_,?_,?_⟩⟩,V⟩,Sat.sorted_enc (n:=n) Ci ls.reverse.toArray G⟩;· rw [Iv];simp [Go.Sort.putCells,m]
   · rw [Iv]
     have:=X5 Ci cur ls.reverse (by rw [SO];omega);rw [SO]at this;exact this
   · simpa [Go.Sort.putCells]using y
theorem Vk(n:Nat)(g:2<=n)(h2:n<=1000000000000):BC prog 141 #[I4 (n:Int)] [] (I4 ((BV n:Nat):Int)):=by
 have y:=kH n g h2;have E:=FK g
 unfold BV at E;have G:(n -1).log2<64:=(Nat.log2_lt A0).2 A0
 refine Se func141 ntmps141 [0] ?_;intro u R;refine A1<|A3 Y<|A1<|Zm Y<|Ap (Bo (n:=1) Y Y (by first|omega|(rw [PA];omega)) (by first|omega|(rw [PA];omega)))<|Ap (Jm F0 hG Y (by first|omega|(rw [PA];omega)))<|Xr [_] Y call174 Y rfl (Ny (H:=[]) (Rl:=fun v=>v=I4 ((Lib.bitLen (n -1):Nat):Int)) (fun w _=>(Tryz.bits_Len ((n -1:Nat):Int) w A0 A0).mono (by rintro e I ⟨rfl,rfl⟩;exact ⟨_,rfl,by rw [M1],Below.refl _ _⟩)) (fun v h=>⟨h,rfl⟩)) ?_;rw [y];refine Ap (Bo (n:=1) Y Y (by first|omega|(rw [PA];omega)) (by first|omega|(rw [PA];omega)))<|Ap (UJ (m:=1) Y Y A0 (by first|omega|(rw [PA];omega)))<|A3 Y<|AA<|AC rfl results141 Y (by exact ⟨by rw [PA,cS];rfl,rfl⟩)
theorem cK(hv:DK M v ls)(hn:ls.length<=1000000)(hs:∀s∈ls,s.length<=140737488354000)(i:Nat)(hi:i<ls.length)(Tg:AM)(zg:Nat×Nat):
 Bz prog 112 #[v,I4 (i:Int)] [[(1,.cells (Di.map CB).toArray Tg zg)],M] (fun r H'=>∃vp sp,r= .tuple #[vp,I4 0]/\BZ 1 9 vp (EK ls i).length ((EK ls i).map Ci) sp/\H'=[sp,[(1,.cells (Di.map CB).toArray Tg zg)],M]):=by
 have l8:=mL;obtain ⟨p,cap,rfl,hl,hg⟩:=id hv;refine Se func112 ntmps112 [0,1] ?_;intro u R;refine A1<|Za Y<|A3 Y<|aY ?_;refine Zq<|A1<|Zm Y<|Zv (Au (n:=0) Y Y)<|Zm Y<|Ai (t:=12) Y V (fun h1=>by omega)<|fun h1=>Zf Y Y<|Zf Y Y<|Yg (AP Bk Y)<|Yg (Fw Y Y)<|Zv (AL Y Y)<|AD<|Ak Y (fun h2=>by omega)<|fun h2=>AB<|Zx<|A1<|A3 Y<|Zq<|aa<|Zx<|Zq<|AX<|Bl<|Zb [0,1,6] ?_;refine BB (e0:=[(0,_),(1,_),(6,_)]) (fun m e H=>∃(g:List Bs) (X:Nat) (p2:B7) (E:Nat) (o:List Bs) (vo:A4) (so:List AU),m=0+g.length/\(DK M (.slice p2 g.length E) g/\X<g.length/\(∀s∈g,s.length<=140737488354000)/\EK ls i=EK g X++o.reverse/\BZ 1 9 vo o.length (o.map Ci) so/\o.length+g.length<=ls.length)/\e=[(0,.slice p2 g.length E),(1,I4 (X:Int)),(6,vo)]/\H=[so]) (by exact ⟨ls,i,p,cap,[],.slice none 0 0,[],V,⟨hv,hi,hs,by simp,Ba 1 _,by simp⟩,V,V⟩) Wp ?_;rintro _ _ _ ⟨g,X,p2,E,o,vo,so,rfl,⟨U,gq,K,G,J,l9⟩,rfl,rfl⟩;obtain ⟨qo,co,rfl⟩:=J.form;refine AX<|Zq<|A1<|Zm Y<|Zv (AP Bk Y)<|Zv (Bb (n:=1) Y Y)<|AD<|Ak Y (fun h1=>?_) (fun h1=>?_);·
  rw [Kq (l:=g) A0,L5]at G;refine Aw<|Zt<|Az V<|Zt<|AQ<|Zx<|A1<|Zm Y<|Zc [_] Y call160 Y V (Wq J A0) ?_;rintro _ _ ⟨_,⟨rfl,cu,Z,rfl⟩,rfl⟩;refine AD<|A1<|Zm Y<|Za Y<|A3 Y<|AA<|Ls ?_;refine Dv rfl results112 Y Y (by exact ⟨_,cu,rfl,BH Z (by rw [G,SO]) (by rw [G]),rfl⟩)
 have h9:2<=g.length:=by omega
 have bn:=FK h9;have gy:=En g.length
 have y:(g.take (BV g.length)).length=BV g.length:=by rw [zy];omega
 obtain ⟨p8,cO,e8,kv,bf⟩:=id U;injection e8 with e81 e82 e83
 subst e81 e83;obtain ⟨g8,ek,d9,T8,lv,rfl,kz,gm⟩:=bf 0 _ (zn A0);have ax:=U.take (BV g.length) A0
 have af:=U.drop (BV g.length) bn;refine AB<|Zx<|A1<|Zm Y<|Zv (AP Bk Y)<|Xr [_] Y call141 Y V (Vk g.length h9 A0) ?_;refine A3 Y<|Zq<|BJ (n:=8) (0::0::3::0::0::24::7::127::[]) 0 AG AG V<|A2 0 V (AJ Y)<|A2 1 V (AJ Y)<|A2 2 V (Bc Bk CH Y Y A0)<|A2 3 V (AJ Y)<|A2 4 V (AJ Y) ?_
 (refine Bq (D':=63) 5 (FJ Bk CH Y Y ?_ ?_) ?_;(focus (omega));(focus (omega)))
 refine A2 6 V (BF Y)<|A2 7 V (BF Y)<|Ao<|Zn [1,6,7,8,9] ?_;refine Zx<|Zq<|A1<|Zm Y<|Zm Y<|Zv (Fw Y Y)<|AD<|Ak Y (fun O=>?_) (fun O=>?_);·
  have O:¬X<BV g.length:=by omega
  refine Zg<|Zm Y<|Zm Y<|Zm Y<|Zm Y<|Yb Y Y<|Za Y<|Za Y<|A3 Y<|A1<|Zm Y<|Zm Y<|Xr [_] Y call70 Y rfl (Kk ax (by rw [y];omega) (fun s h=>K s (HI h)) Tg zg) ?_;refine Ze (Af (vs:=[_]) (cs:=[_]) Bk CH HR Y V rfl V rfl V)<|AF fun b1=>Ze (Db (by_:=16) (sz:=1) (news:=[_]) Bk (V:Tryz.prog.info? 9=some Tryz.t9) V rfl V rfl Y J Y Wo Wh An V GF AK A0 A0) ?_;rintro _ _ ⟨sw,I,rfl⟩;obtain ⟨gw,cw,rfl⟩:=I.form;refine AH Y<|Zn [1,6,8] ?_;refine Zx<|Zg<|Zm Y<|AH Y<|A8<|Zn [0,1,6] ?_;refine AZ (e':=[(0,_),(1,_),(6,_)]) (by exact ⟨g.drop (BV g.length),X -BV g.length,_,_,o++[Cs (g.take (BV g.length))],_,_,(by rw [C0]),⟨(by rw [C0];exact af),by rw [C0];omega,fun s h=>K s (ID h),by rw [G,Hu h9 O,SM,D2];rfl,BH I B3 (by simp;rfl),by rw [zq,C0];simp;omega⟩,(by rw [C0]),rfl⟩)
 refine AB<|Zx<|A1<|Zm Y<|Zm Y<|Xr [_] Y call70 Y rfl (Kk af (by rw [C0];omega) (fun s h=>K s (ID h)) Tg zg) ?_;refine Ze (Af (vs:=[_]) (cs:=[_]) Bk CH HR Y V rfl V rfl V)<|AF fun b3=>Ze (Db (by_:=16) (sz:=1) (news:=[_]) Bk (V:Tryz.prog.info? 9=some Tryz.t9) V rfl V rfl Y J Y Wo Wh An V GF AK A0 A0) ?_;rintro _ _ ⟨sw,I,rfl⟩;obtain ⟨gw,cw,rfl⟩:=I.form;refine A3 Y<|Zg<|Zm Y<|AH Y<|A8<|Zn [0,1,6] ?_;refine AZ (e':=[(0,_),(1,_),(6,_)]) (by exact ⟨g.take (BV g.length),X,_,_,o++[Cs (g.drop (BV g.length))],_,_,(by rw [y]),⟨(by rw [y];exact ax),by rw [y];omega,fun s h=>K s (HI h),by rw [G,Iy h9 A0,SM,D2];rfl,BH I B3 (by simp;rfl),by rw [zq,y];simp;omega⟩,(by rw [y]),rfl⟩)
end Go.Proofs.YtlkdhannldcfbaaGreatDoor
