/- row.Value, to the world: what the comparator of the sort wants. -/
import Derived.WalkSpells
import Derived.Test.YtljkoipiekbijaaGreatDoorKs7
import Derived.Shelf.SlSortCmp.NoneTotal
set_option linter.unusedVariables false
set_option linter.unusedSimpArgs false
namespace Go.Proofs.YtljkoipiekbijaaGreatDoor
open Go.Proofs.Tryz
open Go Go.RowKit Gw
set_option maxRecDepth 100000
attribute [local irreducible] Gw.At Gw.Nx Gw.Ops
open Go.Sort
def Bh(r:AV)(c:Int):Int:=if c=0 then r.k else if c=1 then r.v.a else if c=2 then r.v.b else if c=3 then r.v.c else 0
set_option maxHeartbeats 1000000 in
theorem KL(r:AV)(c:Int)(hc:0<=c/\c<=3)(W:AD):Calls prog 84 #[.agg r.Ax3,I4 c] W fun e g=>e= .returned (I4 (Bh r c))/\∃(q:Nat) (o:Obj),g=grow (W.drewN q) #[o]:=by
 obtain ⟨t,k,⟨m,y,z⟩⟩:=r;rcases (by omega:c=0\/c=1\/c=2\/c=3)with rfl|rfl|rfl|rfl
 all_goals
  go_enter func84,ntmps84
  go_wp2
  go_ret
  exact ⟨rfl,0,_,by rw [alloc_eq_grow];rfl⟩
def orL(x y:Int):Int:=if x=0 then y else x
theorem pM(b:Nat)(x y:Int)(W:AD)(h0:W.cell? ⟨b,0,none⟩=some (I4 x))(G:W.cell? ⟨b,1,none⟩=some (I4 y)):Calls prog 147 #[I6 b 2 2] W fun e E=>e= .returned (I4 (orL x y))/\E=W:=by
 generalize hz:orL x y=z;have g:=Lib.hid hz
 clear hz
 go_enter func147,ntmps147
 go_wp2
 go_loop [5,8] (fun _ i=>∃(j:Nat),i=I4 j/\(j=0\/(j=1/\x=0)\/(j=2/\x=0/\y=0))) (fun _ i=>2 -(intOf i).toNat)
 case atStart=>exact ⟨0,rfl,.inl rfl⟩
 case round=>
  obtain ⟨j,rfl,m⟩:=hrel;rcases m with rfl|⟨rfl,hx⟩|⟨rfl,hx,hy⟩
  · by_cases hx:x=0
    · subst hx
      go_wp2
      go_round
      case rel=>exact ⟨1,by go_num,by simp⟩
      case measure=>simp [intOf]
    · go_wp2
      go_ret
      exact ⟨by rw [<-g.out];unfold orL;rw [Ax hx];rfl,rfl⟩
  · subst hx
    by_cases hy:y=0
    · subst hy
      go_wp2
      go_round
      case rel=>exact ⟨2,by go_num,by simp⟩
      case measure=>simp [intOf]
    · go_wp2
      go_ret
      exact ⟨by rw [<-g.out];unfold orL;rw [B2 rfl];rfl,rfl⟩
  · subst hx hy
    go_wp2
    go_ret
    exact ⟨by rw [<-g.out];rfl,rfl⟩
theorem Y2{u w:AD}{H:Hp}(h:Sat u H w)(q:Nat)(os:Array Obj):Sat u H (grow (w.drewN q) os):=by
 refine ⟨h.os,h.tape,h.output,h.nodup,fun p m=>?_⟩;have g:=h.lt m
 show(w.heap++os)[p.1]?=_;rw [eI g];exact h.get p m
theorem LY(r:AV)(c:Nat)(hc:c<=3):Bh r (c:Int)=Dz r c:=by
 rcases (by omega:c=0\/c=1\/c=2\/c=3)with rfl|rfl|rfl|rfl<;>rfl
theorem Ry(r:AV)(c:Nat)(hc:c<=3):BB prog 84 #[.agg r.Ax3,I4 (c:Int)] [] (I4 (Dz r c)):=fun u R w g=>
 (KL r (c:Int) A0 w).mono (by
   rintro e m ⟨rfl,q,o,rfl⟩;exact .inl ⟨_,[],rfl,⟨by rw [LY r c hc],rfl⟩,Y2 g q _⟩)
theorem oK(r:AV)(t:Int)(c:Nat)(lo hi:Int)(hc:c<=3)(g m y z:Nat):BB prog 91 #[.agg r.Ax3,I5 g,I5 m,I5 y,I5 z] [[(g,.cells #[I4 (c:Int)] 3 (0,0))],[(m,.cells #[I4 t] 3 (0,0))],[(y,.cells #[I4 lo] 3 (0,0))],[(z,.cells #[I4 hi] 3 (0,0))]] (.bool (inR t c lo hi r)):=by
 refine Se func91 ntmps91 [0,1,2,3,4] ?_;intro u R;refine A2<|Ze (Bx #[_,_,_,_,_])<|AE fun g=>AF Y<|A2<|Zo Wh (Pa #[_,_,_,_,_] C5 AW Y)<|Zl A5 Y<|Xr [_,_] Y Sf Y V (Ry r c hc)<|AF Y<|A2<|Zh 0 F1 V rfl A4 Y<|Zl A5 Y<|Zl A5 Y<|Zv (Bd Y Y)<|Zm Y<|AZ (t:=15) Y V (fun E=>?_) (fun E=>?_);focus
  refine Zf Y Y<|Yl A5 Y<|Yg (Fa Y Y)<|Sk 2 V ?_;refine AZ (t:=20) Y V (fun h2=>?_) (fun h2=>?_);focus
   refine Zf Y Y<|Yl A5 Y<|Yg (JB Y Y)<|Zv (Ay Y Y) ?_
  rotate_left
  refine Sk 4 V<|AN Y<|Zn [6] ?_;refine Zx<|AC<|AO V results91 Y (by exact ⟨by unfold inR;(congr 1;simp;omega),V⟩)
 rotate_left
 focus
  refine Sk 9 V ?_
 all_goals
  refine AN Y<|Zn [6] ?_;refine Zx<|AC<|AO V results91 Y (by exact ⟨by unfold inR;(simp_all;done),V⟩)
end Go.Proofs.YtljkoipiekbijaaGreatDoor
namespace Go.Proofs.YtljkoipiekbijaaGreatDoor
open Go.Proofs.Tryz
open Go Go.RowKit Gw
set_option maxRecDepth 100000
attribute [local irreducible] Gw.At Gw.Nx Gw.Ops
theorem PN:∀(n:Nat) (js:List Nat),js.Nodup->(∀j∈js,j<n)->js.length<=n
 |0,js,_,h=>by
  cases js with
  |nil=>simp
  |cons a l=>exact absurd (h a C4) (gC _)
 |n+1,js,hn,h=>by
  by_cases y:n∈js
  · have m:=PN n (js.erase n) (hn.erase n) (fun j g=>by
     have h2:=(hn.mem_erase_iff).1 g;have z:=h j h2.2
     have E:=h2.1;omega)
    rw [List.length_erase_of_mem y]at m;omega
  · have m:=PN n js hn (fun j g=>by
     have z:=h j g;have E:j≠n:=fun e=>y (e▸g)
     omega)
    omega
def KU(r:AV):(Int×Int)×A3:=((r.t,r.k),SS r)
theorem NL{a b:AV}(h:KU a=KU b):a=b:=Y5 (Prod.mk.inj h).2
theorem dM{a b:List AV}(z:(a.map KU).Nodup)(h:(a.map KU).Perm (b.map KU)):a.Perm b:=by
 have E:∀{l:List AV},(l.map KU).Nodup->l.Nodup:=fun{l} hl=>by
  rw [Ys,eV]at hl;rw [Ys];exact hl.imp (fun m e=>m (by rw [e]))
 rw [fc (E z) (E (h.nodup z))];intro x;have g:=h.mem_iff (a:=KU x)
 rw [HX,HX]at g;constructor
 · intro hx
   obtain ⟨y,hy,e⟩:=g.1 ⟨x,hx,rfl⟩;rwa [NL e]at hy
 · intro hx
   obtain ⟨y,hy,e⟩:=g.2 ⟨x,hx,rfl⟩;rwa [NL e]at hy
variable{rs:List AV}
theorem IX.perm{es:Array MapEntry}{y:Nat}{l:List ((Int×Int)×A3)}(G:FY K2 es y l)(h:IX l rs)(I:BP rs):l.Perm (rs.map KU):=by
 have E:l.Nodup:=by
  have:=G.keys;rw [Ys,eV]at this;rw [Ys];exact this.imp (fun g e=>g (by rw [e]))
 have h2:(rs.map KU).Nodup:=by
  rw [Ys,eV];refine I.imp (fun{a b} hab e=>?_);have z:=NL e
  subst z;unfold AV.lt2 at hab;omega
 rw [fc E h2];intro p;rw [h.mem p,HX];constructor;· rintro ⟨r,m,rfl⟩;exact ⟨r,m,rfl⟩
 · rintro ⟨r,m,rfl⟩;exact ⟨r,m,rfl⟩
structure Xc(lm:List ((Int×Int)×A3))(f:AV->Bool)(js:List Nat)(o:List AV):Prop where
 rows:∃rl:List AV,rl.map KU=IM lm js/\o=rl.filter f
theorem ng(lm:List ((Int×Int)×A3))(f:AV->Bool):Xc lm f [] []:=⟨[],rfl,rfl⟩
theorem Xc.push{lm:List ((Int×Int)×A3)}{rs:List AV}{f:AV->Bool}{js:List Nat}{o:List AV}(h:Xc lm f js o){j:Nat}{r:AV}(m:lm[j]?=some (KU r)):Xc lm f (js++[j]) (o++(if f r then [r]else [])):=by
 obtain ⟨rl,g,h2⟩:=h.rows;refine ⟨rl++[r],by rw [HD,g,PG lm js m];rfl,?_⟩;rw [Lz,<-h2];cases hf:f r<;>simp [hf]
theorem Xc.done{es:Array MapEntry}{y:Nat}{lm:List ((Int×Int)×A3)}(J:FY K2 es y lm)(I:IX lm rs)(m:BP rs){f:AV->Bool}{js:List Nat}{o:List AV}(h:Xc lm f js o)(K:(IM lm js).Perm lm):o.Perm (rs.filter f):=by
 obtain ⟨rl,E,rfl⟩:=h.rows;have h2:=I.perm J m
 have g:(rl.map KU).Perm (rs.map KU):=by rw [E];exact K.trans h2
 have G:(rs.map KU).Nodup:=by
  rw [Ys,eV];refine m.imp (fun{a b} hab e=>?_);have z:=NL e
  subst z;unfold AV.lt2 at hab;omega
 exact (dM (g.symm.nodup G) g).filter f
def leV(c:Nat)(a b:AV):Prop:=Dz a c<Dz b c\/Dz a c=Dz b c/\a.k<=b.k
def tN:Prop:=∀(cb c:Nat) (w:A3) (o:List AV) (s:List AR),c<=3->o.length<=2000->BS 5 91 w o.length (Aa o) s->
    CJ prog 145 #[w,.func (.func 146) #[] #[I5 cb]] [s,[(cb,.cells #[I4 (c:Int)] 3 (0,0))]]
     (fun r H'=>r= .tuple #[]/\∃(s':List AR) (o':List AV),o'.Perm o/\o'.Pairwise (leV c)/\BS 5 91 w o'.length (Aa o') s'/\H'=[s',[(cb,.cells #[I4 (c:Int)] 3 (0,0))]])
theorem XQ(hS:tN)(sp X:Nat)(p:Int)(es:Array MapEntry)(z:Nat)(lm:List ((Int×Int)×A3))(rs:List AV)(Z:FY K2 es z lm)(hR:IX lm rs)(hs:BP rs)(hn:rs.length<=2000)(t:Int)(c:Nat)(lo hi:Int)(hc:c<=3)(b1 b2 b3 b4:Nat):
 CJ prog 90 #[I5 sp,I4 (c:Int),.func (.func 91) #[] #[I5 b1,I5 b2,I5 b3,I5 b4]] [[(sp,.cells #[.map (some X),I4 p] 131 (0,0))],[(X,.map es z)],[(b1,.cells #[I4 (c:Int)] 3 (0,0))],[(b2,.cells #[I4 t] 3 (0,0))],[(b3,.cells #[I4 lo] 3 (0,0))],[(b4,.cells #[I4 hi] 3 (0,0))]] (fun r H'=>∃(G:List AR) (o:List AV),BS 5 91 r o.length (Aa o) G/\o.Perm (rs.filter (inR t c lo hi))/\o.Pairwise (leV c)/\H'=[G,[(sp,.cells #[.map (some X),I4 p] 131 (0,0))],[(X,.map es z)],[(b1,.cells #[I4 (c:Int)] 3 (0,0))],[(b2,.cells #[I4 t] 3 (0,0))],[(b3,.cells #[I4 lo] 3 (0,0))],[(b4,.cells #[I4 hi] 3 (0,0))]]):=by
 have l9:=mL;have l8:=hR.len Z hs
 refine Se func90 ntmps90 [0,1,2] ?_;intro u R;refine A2<|Ze (Bx #[_])<|AE fun cb=>AF Y<|C0 Y<|Zv (G9 hQ Y Y)<|A6<|Af Y (fun h1=>by cases h1)<|fun h1=>AB<|BT<|AF Y<|C0 Y<|Zp Y V<|Zh 0 cI V rfl dr Y<|Zv (Aj (off:=0) cH V rfl sizeOf127 Y)<|Zl isAgg127 Y<|Ze (bA hG Y Wh)<|AE fun ib=>A6<|AQ<|Bi<|Zb [7,2,4,17] ?_;refine Av (e0:=[(7,_)]) (fun m e H=>∃(js:List Nat) (seen:Array Nat) (o:List AV) (w:A3) (G:List AR),m=lm.length -js.length/\(ME es js seen/\Xc lm (inR t c lo hi) js o/\BS 5 91 w o.length (Aa o) G/\o.length<=js.length)/\e=[(7,w)]/\H=[[(ib,.mapIter (some X) z seen z)],G]) (by exact ⟨[],#[],[],.slice none 0 0,[],V,⟨lI _,ng _ _,BX 5 _,B4 _⟩,V,V⟩) Wp ?_;rintro _ _ _ ⟨js,seen,o,w,G,rfl,⟨K,bn,y,lv⟩,rfl,rfl⟩;obtain ⟨qo,gq,rfl⟩:=y.form;have cu:=PN es.size js K.nodup K.lt
 rw [Z.size]at cu;refine A2<|Ze (jK Z K Y Wo Wh) ?_;rintro _ _ cO;rcases cO with⟨I,rfl,rfl⟩|⟨jn,pn,seen2,hpn,hjn,hi2,rfl,rfl⟩
 ·
  refine Zd Y V<|A6<|Zq<|Af Y (fun hb=>by cases hb)<|fun hb=>Az<|Zt<|Zt<|AU<|Zx<|B7 Y<|Zv (CV (vs:=[]) (us:=[_]) Y Y)<|Zc [_,_] Y call145 Y V (hS cb c _ o G hc A0 y) ?_;rintro _ _ ⟨_,⟨rfl,gm,o2,d9,ek,bf,rfl⟩,rfl⟩;refine A6<|B7 Y<|AM Y<|AO V results90 Y (by exact ⟨gm,o2,bf,d9.trans (bn.done Z hR hs I),ek,V⟩)
 obtain ⟨r,hr,rfl⟩:=(hR.mem pn).1 (Fm hpn);refine Zd Y V<|A6<|Zq<|Af Y (fun hb=>?_) (fun hb=>?_);·
  have af:=PN es.size (js++[jn]) hi2.nodup hi2.lt;rw [Z.size,C7,HI]at af;have kz:(js++[jn]).length=js.length+1:=by rw [C7];rfl
  have g:=bn.push (r:=r) (rs:=rs) hpn;have U:(inR t c lo hi) r=true->Xc lm (inR t c lo hi) (js++[jn]) (o++[r]):=fun h=>by rw [h]at g;exact g
  have O:(inR t c lo hi) r=false->Xc lm (inR t c lo hi) (js++[jn]) o:=fun h=>by rw [h]at g;simpa using g
  refine B3<|AQ<|A2<|Cj (cs:=[(ib,.mapIter (some X) z seen2 z),(X,.map es z)]) C4 (df Z hi2 hpn Y) V rfl<|Zd Y V<|Ze (Al DS #[_,_,_,_,_])<|AE fun xb=>Xe (Xw AW r.Ax3)<|A6<|B7 Y<|Zo Wh (Pa #[_,_,_,_,_] C5 AW Y)<|Xr [_] Y call91 Y V (oK r t c lo hi hc b1 b2 b3 b4)<|A6<|Af Y (fun J=>?_) (fun J=>?_);·
   refine Zg<|Zm Y<|Zo Wh (Pa #[_,_,_,_,_] C5 AW Y)<|Ze (Ah (vs:=[_]) (cs:=[_,_,_,_,_]) B0 AW DS Y V rfl V rfl V)<|AE fun gb=>Ze (BL (by_:=40) (sz:=5) B0 (V:Tryz.prog.info? 91=some Tryz.t91) V rfl V rfl Y (y) Y (D7 5 gb 1 1 91 (0,0) [I4 r.t,I4 r.k,I4 r.v.a,I4 r.v.b,I4 r.v.c] V) Wo Wo HH A0 A0) ?_;rintro _ _ ⟨mR,E,rfl⟩;have ax:=BJ E (n':=(o++[r]).length) (xs':=Aa (o++[r])) (by rw [C7];rfl) (by rw [BR];rfl)
   obtain ⟨kv,gy,rfl⟩:=E.form;refine AN Y<|Zn [2,4,7,17] ?_;refine A8<|DH (e:=[(7,_)]) (h:=by exact ⟨js++[jn],seen2,o++[r],_,_,rfl,⟨hi2,U J,ax,by rw [C7,C7];simp;omega⟩,rfl,rfl⟩)
  refine AB<|A8<|DH (e:=[(7,_)]) (h:=by exact ⟨js++[jn],seen2,o,_,G,rfl,⟨hi2,O J,y,by rw [C7];omega⟩,rfl,rfl⟩)
 cases hb
end Go.Proofs.YtljkoipiekbijaaGreatDoor
namespace Go.Proofs
open Go.Shelf
def Tryz.sortRow_ren:Go.Shelf.Ren:=⟨fun|6=>145|15=>185|14=>186|28=>211|29=>212|20=>213|21=>214|22=>215|23=>216|24=>217|25=>218|26=>219|27=>220|46=>247|47=>248|48=>249|49=>250|50=>251|57=>262|n=>n,fun|22=>45|24=>91|25=>197|3=>3|39=>215|0=>0|53=>249|55=>214|4=>4|46=>283|45=>282|50=>287|5=>5|9=>9|66=>304|70=>308|76=>324|77=>325|n=>n,fun|n=>n⟩
theorem Tryz.sortRow:Go.Proofs.SlLaysF0.n6 prog Tryz.sortRow_ren:={
 mixed:=by kernel_rfl
 f6:=⟨Tryz.f145.name,by decide,func145.trans (congrArg some AG)⟩
 f14:=⟨Tryz.f186.name,by decide,func186.trans (congrArg some AG)⟩
 f15:=func185.trans (congrArg some AG)
 f20:=⟨Tryz.f213.name,by decide,func213.trans (congrArg some AG)⟩
 f21:=⟨Tryz.f214.name,by decide,func214.trans (congrArg some AG)⟩
 f22:=⟨Tryz.f215.name,by decide,func215.trans (congrArg some AG)⟩
 f23:=⟨Tryz.f216.name,by decide,func216.trans (congrArg some AG)⟩
 f24:=⟨Tryz.f217.name,by decide,func217.trans (congrArg some AG)⟩
 f25:=⟨Tryz.f218.name,by decide,func218.trans (congrArg some AG)⟩
 f26:=⟨Tryz.f219.name,by decide,func219.trans (congrArg some AG)⟩
 f27:=⟨Tryz.f220.name,by decide,func220.trans (congrArg some AG)⟩
 f28:=func211.trans (congrArg some AG)
 f29:=func212.trans (congrArg some AG)
 f46:=⟨Tryz.f247.name,by decide,func247.trans (congrArg some AG)⟩
 f47:=func248.trans (congrArg some AG)
 f48:=func249.trans (congrArg some AG)
 f49:=⟨Tryz.f250.name,by decide,func250.trans (congrArg some AG)⟩
 f50:=⟨Tryz.f251.name,by decide,func251.trans (congrArg some AG)⟩
 f57:=⟨Tryz.f262.name,by decide,func262.trans (congrArg some AG)⟩
 t0:=underlying0
 a0:=isAgg0
 z0:=sizeOf0
 v0:=zeroValue0
 t3:=Ge
 a3:=A5
 z3:=A4
 v3:=K1
 t4:=MY
 a4:=Fc
 z4:=DP
 v4:=de
 t5:=IF
 a5:=Vc
 z5:=KB
 v5:=Pr
 t9:=HM
 a9:=HG
 z9:=F2
 v9:=N1
 t22:=B0
 a22:=DQ
 z22:=Cl
 v22:=zeroValue45
 t25:=underlying197
 a25:=isAgg197
 z25:=sizeOf197
 v25:=zeroValue197
 t39:=km
 a39:=isAgg215
 z39:=sizeOf215
 v39:=zeroValue215
 t45:=underlying282
 a45:=isAgg282
 z45:=sizeOf282
 v45:=zeroValue282
 t46:=underlying283
 a46:=isAgg283
 z46:=sizeOf283
 v46:=zeroValue283
 t50:=underlying287
 a50:=isAgg287
 z50:=sizeOf287
 v50:=zeroValue287
 t53:=PB
 a53:=Gk
 z53:=EV
 v53:=cJ
 t55:=ab
 a55:=isAgg214
 z55:=sizeOf214
 v55:=zeroValue214
 t66:=underlying304
 a66:=isAgg304
 z66:=sizeOf304
 v66:=zeroValue304
 t70:=underlying308
 a70:=isAgg308
 z70:=sizeOf308
 v70:=zeroValue308
 t76:=underlying324
 a76:=isAgg324
 z76:=sizeOf324
 v76:=zeroValue324
 t77:=underlying325
 a77:=isAgg325
 z77:=sizeOf325
 v77:=zeroValue325}
end Go.Proofs
namespace Go.Proofs.YtljkoipiekbijaaGreatDoor
open Go.Proofs.Tryz
open Go Go.RowKit Gw
set_option maxRecDepth 100000
attribute [local irreducible] Gw.At Gw.Nx Gw.Ops
open Go.Sort Go.Shelf
attribute [local go_sem] Gl.evalE Gl.lookE Gl.linUpon Gl.wantedE Gl.yieldE Gl.putE
def mJ(c:Nat)(a b:AV):Int:=orL (Lib.compareInt (Bh a (c:Int)) (Bh b (c:Int))) (Lib.compareInt a.k b.k)
def Stg(W:AD)(n:Nat)(w:AD):Prop:=∃q os,os.size=n/\w=grow (W.drewN q) os
theorem uO(W:AD):Stg W 0 W:=⟨0,#[],rfl,by simp [World.drewN]⟩
variable{w W:AD}{n:Nat}
theorem nQ(h:Stg W n w):Stg W n w.drew:=by
 obtain ⟨q,os,rfl,rfl⟩:=h;exact ⟨q+1,os,V,V⟩
theorem Og(h:Stg W n w)(m:Nat)(g:Array Obj):Stg W (n+g.size) (grow (w.drewN m) g):=by
 obtain ⟨q,os,rfl,rfl⟩:=h;refine ⟨q+m,os++g,by simp,?_⟩;simp [grow,World.drewN,Array.append_assoc,cF]
theorem J5{b:Nat}{o:Obj}(h:Stg W n w)(m:W.heap[b]?=some o):w.heap[b]?=some o:=by
 obtain ⟨q,os,rfl,rfl⟩:=h;have g:=(LO.1 m).1
 show(W.heap++os)[b]?=_;rw [eI g];exact m
theorem nP(h:Stg W n w):w.heap.size=W.heap.size+n:=by
 obtain ⟨q,os,rfl,rfl⟩:=h;show(W.heap++os).size=_
 simp
theorem Qc(w:AD)(o:Obj):(w.alloc o).heap[w.heap.size]?=some o:=by
 show(w.heap.push o)[w.heap.size]?=some o;exact Array.getElem?_push_size
theorem fo(w:AD)(o:Obj):(w.alloc o).heap.size=w.heap.size+1:=Array.size_push _
def qs:Nat->Nat
 |0=>0|1=>1|2=>2|3=>2|4=>2|5=>3|_=>3
def sA(W:AD)(T:Nat)(x y:Int)(k:Nat)(w:AD):Prop:=Stg W (qs k) w/\(5<=k->w.heap[W.heap.size+2]?=some (.cells #[I4 x,I4 y] T (0,0)))
set_option maxHeartbeats 2000000 in
theorem mI(a b:AV)(c:Nat)(hc:c<=3)(cb:Nat)(W:AD)(U:W.heap[cb]?=some (.cells #[I4 (c:Int)] 3 (0,0))):Calls prog 146 #[.agg a.Ax3,.agg b.Ax3,I5 cb] W fun e I=>e= .returned (I4 (mJ c a b))/\∃q G,I=grow (W.drewN q) G:=by
 have ax:=(LO.1 U).1
 go_enter func146,ntmps146
 go_wp2
 generalize hW2:(W.alloc _).alloc _=W2;have O:Stg W 2 W2:=by
  rw [<-hW2,alloc_eq_grow,alloc_eq_grow,grow_grow];exact ⟨0,_,V,V⟩
 have af:Stg (W.alloc (.cells a.Ax3 91 (0,0))) 1 W2:=by
  rw [<-hW2,alloc_eq_grow _ (.cells b.Ax3 91 (0,0))];exact ⟨0,_,V,V⟩
 have hA:=J5 af (Qc _ _);have hB:W2.heap[W.heap.size+1]?=some (.cells b.Ax3 91 (0,0)):=by
  rw [<-hW2,<-fo W (.cells a.Ax3 91 (0,0))];exact Qc _ _
 have hC:=J5 O U;refine Gl.wp_region_lin [false,false,true,false,false,true,true,false,false,false,false,true,true,true,false] (sA W2 3 (Lib.compareInt (Bh a (c:Int)) (Bh b (c:Int))) (Lib.compareInt a.k b.k)) 20 V AG AG ⟨nQ (uO W2),fun h=>absurd h AH⟩ ?_;intro fr E;have J:=Lib.hid E
 have e2:fr.tmps.getD 2 undef=I5 cb:=by rw [E];rfl
 have e3:fr.tmps.getD 3 undef= .pointer (some ⟨W.heap.size,0,none⟩):=by rw [E];rfl
 have e4:fr.tmps.getD 4 undef= .pointer (some ⟨W.heap.size+1,0,none⟩):=by rw [E];rfl
 clear E;apply Gl.wpLin_keep
 · intro j y g K m
   have z:=J5 g.1 hA;have X:=DL (i:=0) z rfl
   have Z:=DL (i:=1) z rfl;have c2:=DL (i:=2) z rfl
   have c3:=DL (i:=3) z rfl;have c4:=DL (i:=4) z rfl
   go_simp
   exact m _ g
 apply Gl.wpLin_keep
 · intro j y g K m
   have X:=DL (i:=0) (J5 g.1 hC) rfl
   go_simp
   exact m _ g
 apply Gl.wpLin_move
 · intro y g K m
   go_simp
   exact (KL a (c:Int) A0 _).mono (by
    rintro e I ⟨rfl,q,o,rfl⟩;exact ⟨_,V,m _ ⟨Og g.1 q #[o],fun h=>absurd h AH⟩⟩)
 apply Gl.wpLin_keep
 · intro j y g K m
   have z:=J5 g.1 hB;have X:=DL (i:=0) z rfl
   have Z:=DL (i:=1) z rfl;have c2:=DL (i:=2) z rfl
   have c3:=DL (i:=3) z rfl;have c4:=DL (i:=4) z rfl
   go_simp
   exact m _ g
 apply Gl.wpLin_keep
 · intro j y g K m
   have X:=DL (i:=0) (J5 g.1 hC) rfl
   go_simp
   exact m _ g
 apply Gl.wpLin_move
 · intro y g K m
   go_simp
   exact (KL b (c:Int) A0 _).mono (by
    rintro e I ⟨rfl,q,o,rfl⟩;exact ⟨_,V,m _ ⟨Og g.1 q #[o],fun h=>absurd h AH⟩⟩)
 apply Gl.wpLin_move
 · intro y g K m
   go_simp
   exact (Tryz.cmp_Compare_int _ _ _).mono (by
    rintro e I ⟨rfl,rfl⟩;exact ⟨_,V,m _ ⟨g.1,fun h=>absurd h AH⟩⟩)
 apply Gl.wpLin_keep
 · intro j y g K m
   go_simp
   exact m _ g
 apply Gl.wpLin_keep
 · intro j y g K m
   have Z:=DL (i:=1) (J5 g.1 hA) rfl
   go_simp
   exact m _ g
 apply Gl.wpLin_keep
 · intro j y g K m
   go_simp
   exact m _ g
 apply Gl.wpLin_keep
 · intro j y g K m
   have Z:=DL (i:=1) (J5 g.1 hB) rfl
   go_simp
   exact m _ g
 apply Gl.wpLin_move
 · intro y g K m
   go_simp
   exact (Tryz.cmp_Compare_int _ _ _).mono (by
    rintro e I ⟨rfl,rfl⟩;exact ⟨_,V,m _ ⟨g.1,fun h=>absurd h AH⟩⟩)
 apply Gl.wpLin_move (v:= .slice (some ⟨W2.heap.size+2,0,none⟩) 2 2)
 · intro y g K m
   have hz:=nP g.1;change y.heap.size=W2.heap.size+2 at hz
   go_simp
   have h:=m _ ⟨Og g.1 0 #[.cells #[I4 (Lib.compareInt (Bh a (c:Int)) (Bh b (c:Int))),I4 (Lib.compareInt a.k b.k)] 3 (0,0)],fun _=>?_⟩
   · rw [alloc_eq_grow]
     exact h
   · rw [<-hz]
     exact Qc y _
 apply Gl.wpLin_move
 · intro y g K m
   have z:=g.2 AH
   go_simp
   exact (pM _ _ _ _ (DL (i:=0) z V) (DL (i:=1) z V)).mono (by
    rintro e I ⟨rfl,rfl⟩;exact ⟨_,V,m _ ⟨g.1,fun _=>z⟩⟩)
 apply Gl.wpLin_keep
 · intro j y g K m
   go_simp
   exact m _ g
 apply Gl.wpLin_done;intro wz hz;rw [J.out];simp only [Gl.putE,Gl.putsE,Act.put,lB,List.set_cons_zero,List.set_cons_succ];obtain ⟨⟨q,os,-,rfl⟩,-⟩:=hz;clear J
 go_wp2
 go_ret
 obtain ⟨q',G,-,h⟩:=Og O q os;exact ⟨V,q',G,h⟩
end Go.Proofs.YtljkoipiekbijaaGreatDoor
namespace Go.Proofs.YtljkoipiekbijaaGreatDoor
open Go.Proofs.Tryz
open Go Go.RowKit Gw
set_option maxRecDepth 100000
attribute [local irreducible] Gw.At Gw.Nx Gw.Ops
open Go.Sort Go.Shelf
instance:Inhabited AV:=⟨⟨0,0,⟨0,0,0⟩⟩⟩
def Tt(r:AV):List A3:=[I4 r.t,I4 r.k,I4 r.v.a,I4 r.v.b,I4 r.v.c]
theorem ltR(c:Nat)(a b:AV):ltOf (mJ c) a b=decide (Bh a (c:Int)<Bh b (c:Int)\/Bh a (c:Int)=Bh b (c:Int)/\a.k<b.k):=by
 unfold ltOf mJ orL Lib.compareInt;have g:=Int.lt_trichotomy (Bh a (c:Int)) (Bh b (c:Int))
 have h2:=Int.lt_trichotomy a.k b.k;generalize Bh a (c:Int)=x at*;generalize Bh b (c:Int)=y at*;apply decide_eq_decide.2;split<;>split<;>(try split)<;>(try split)<;>omega
theorem qq(c:Nat):SWO (ltOf (mJ c))where
 irrefl x:=by rw [ltR];simp
 trans x y z h1 h2:=by rw [ltR]at*;simp only [LL]at*;omega
 ntrans x y z h1 h2:=by rw [ltR]at*;simp only [Rg]at*;omega
theorem uR:tN:=by
 intro G c w o s hc hn gy;obtain ⟨kz,⟨rfl,h0,rfl⟩|⟨g,cap,cur,z,rfl,rfl,ek,cu,O,kv,ax⟩⟩:=gy
 · intro u R U K
   have ho:o=[]:=N3 h0;subst ho;have hN:=AnyF.slices_SortFunc_none Tryz.sortRow none 0 (.func (.func 146) #[] #[I5 G]) U
   exact hN.mono (by
    rintro e w' ⟨rfl,rfl⟩;exact .inl ⟨_,_,V,⟨V,[],[],.refl _,.nil,BX _ _,V⟩,K⟩)
 · intro u R U K
   have hb:=K.get (g,.cells cur 91 z) C4;have bn:=K.get (G,.cells #[I4 (c:Int)] 3 (0,0)) C4
   have gq:g≠G:=by
    have:=K.nodup;simp at this;exact this.1.1
   have hH:=eX (w:=U) (g:=g) (cur:=cur) (e:=91) (z:=z) Tt 5 (fun _=>rfl) o hb (by rw [O];omega) ax kv;have eg:∀(args:As) (w:AD),(callFunc 146 args).run prog w= .ok (.enter 146 args) w:=enters_of func146 AG rfl
   have Z:CmpLays prog 146 #[I5 G] Tt 5 (mJ c) g 0 o.toArray.size U:=by
    intro m os dk l8 x y;refine mI x y c hc G _ ?_;have gm:=K.lt (p:=(G,.cells #[I4 (c:Int)] 3 (0,0))) C4
    rw [Py Tt 5 U g m G dk os gq gm];exact bn
   have af:=AnyQ.slices_SortFunc Tryz.sortRow 5 C5 AW Tt (fun _=>rfl) (fun x v hv=>by simp [Tt]at hv;rcases hv with rfl|rfl|rfl|rfl|rfl<;>rfl) (mJ c) (qq c) 146 #[I5 G] g 0 cap o.toArray U eg Z hH (K.lt (p:=(g,.cells cur 91 z)) C4) Of;refine af.mono ?_;rintro e w' ⟨rfl,E,n,os,⟨cO,-,hpm⟩,hso,rfl⟩;have I:E.size=o.length:=by simpa using cO
   have hF:(flatK Tt 5 E).toList=Aa E.toList:=Tj Tt 5 (fun _=>rfl) E.toList;have X:(flatK Tt 5 E).size=o.length*5:=by rw [size_flatK,I]
   have J:E.toList.Perm o:=by
    have e1:E.extract 0 o.toArray.size=E:=by
     rw [show o.toArray.size=E.size by rw [I];simp];exact Array.extract_size
    rw [e1]at hpm;simpa using hpm
   have bf:E.toList.length=o.length:=J.length_eq;refine .inl ⟨_,[[(g,.cells (putCells id 0 (flatK Tt 5 E) cur) 91 z)],[(G,.cells #[I4 (c:Int)] 3 (0,0))]],V,⟨V,_,E.toList,J,?_,?_,V⟩,K.sortedK Tt E os⟩
   · rw [lE]
     intro i j hi hj d9;have h:=hso i j (CD _) d9 Of
     rw [ltR]at h;simp only [Rg]at h;rw [getElem!_pos E i (by simpa using hi),getElem!_pos E j (by simpa using hj)]at h;rw [LY _ c hc,LY _ c hc]at h;unfold leV;simp only [Array.getElem_toList];omega
   · rw [bf]
     refine ⟨by rw [BG,bf],.inr ⟨g,cap,_,z,rfl,rfl,ek,cu,by rw [VL];exact O,?_,by rw [VL];exact ax⟩⟩;have h:=kH cur (flatK Tt 5 E) (by rw [X,O];omega)
     rw [X,hF]at h;exact h
end Go.Proofs.YtljkoipiekbijaaGreatDoor
namespace Go.Proofs.YtljkoipiekbijaaGreatDoor
open Go.Proofs.Tryz
open Go Go.RowKit Gw
set_option maxRecDepth 100000
attribute [local irreducible] Gw.At Gw.Nx Gw.Ops
theorem Vt(c:Nat)(out:List AV)(x:AV):∃A B,out=A++B/\UO c out x=A++[x]++B/\(∀r∈B,Dz x c<Dz r c)/\(A=[]\/∃m r,A=m++[r]/\Dz r c<=Dz x c):=by
 let q:AV->Bool:=fun r=>decide (Dz x c<Dz r c)
 have e:out=(out.reverse.dropWhile q).reverse++(out.reverse.takeWhile q).reverse:=by
  rw [<-cA,List.takeWhile_append_dropWhile,List.reverse_reverse]
 have y:QE c out (Dz x c)=(out.reverse.dropWhile q).reverse.length:=by
  rw [eR];rfl
 refine ⟨(out.reverse.dropWhile q).reverse,(out.reverse.takeWhile q).reverse,e,?_,?_,?_⟩
 · unfold UO
   rw [y];generalize (out.reverse.dropWhile q).reverse=A at*;generalize (out.reverse.takeWhile q).reverse=B at*;subst e;rw [L7,SJ];all_goals rfl
 · intro r g
   rw [jx]at g;have:=List.all_takeWhile (p:=q) (l:=out.reverse)
   rw [PF]at this;simpa [q]using this r g
 · cases h:out.reverse.dropWhile q with
   |nil=>left;rfl
   |cons r l=>
    right;refine ⟨l.reverse,r,by simp,?_⟩;have:=List.head?_dropWhile_not q out.reverse
    rw [h]at this;simpa [q]using this
theorem Vs(c:Nat)(out:List AV)(x:AV):(UO c out x).Perm (x::out):=by
 obtain ⟨A,B,g,m,_,_⟩:=Vt c out x;rw [m,g,G0];exact cY
theorem Td(c:Nat):∀(l out:List AV),(l.foldl (UO c) out).Perm (out++l)
 |[],out=>by simp
 |x::l,out=>by
  rw [ZS];refine (Td c l _).trans ?_;refine ((Vs c out x).append_right l).trans ?_;exact cY.symm
variable{c:Nat}
theorem ZJ{out:List AV}{x:AV}(h:out.Pairwise (leV c))(G:∀r∈out,r.k<x.k):(UO c out x).Pairwise (leV c):=by
 obtain ⟨A,B,I,J,U,O⟩:=Vt c out x;rw [J];rw [I]at h G;rw [RE]at h;obtain ⟨y,h2,K⟩:=h;have z:∀r∈A,Dz r c<=Dz x c:=by
  rcases O with rfl|⟨A',r0,rfl,h0⟩
  · intro r g;simp at g
  · intro r g
    rcases GS.1 g with hr'|hr'
    · rw [RE]at y
      have:=y.2.2 r hr' r0 C4;unfold leV at this;omega
    · rw [HA]at hr'
      subst hr';exact h0
 rw [G0,RE];refine ⟨y,?_,?_⟩
 · rw [WD,TX]
   exact ⟨fun r g=> .inl (U r g),h2⟩
 · intro a E b m
   rw [WD,H4]at m;rcases m with rfl|m
   · have X:=z a E
     have Z:=G a (HE _ E);unfold leV;omega
   · exact K a E b m
theorem PU(c:Nat):∀(l out:List AV),out.Pairwise (leV c)->l.Pairwise (fun a b=>a.k<b.k)->(∀r∈out,∀x∈l,r.k<x.k)->(l.foldl (UO c) out).Pairwise (leV c)
 |[],out,h,_,_=>h
 |x::l,out,h,h2,h3=>by
  rw [ZS];rw [TX]at h2;refine PU c l _ (ZJ h fun r g=>h3 r g x C4) h2.2 ?_;intro r g y hy;have:=(Vs c out x).mem_iff.1 g
  rcases H4.1 this with rfl|hm
  · exact h2.1 y hy
  · exact h3 r hm y (by simp [hy])
variable{rs:List AV}{t:Int}
theorem QQ{f:AV->Bool}(G:BP rs)(m:∀r,f r=true->r.t=t):(rs.filter f).Pairwise (fun a b=>a.k<b.k):=by
 have y:(rs.filter f).Pairwise (fun a b=>a.lt2 b.t b.k):=G.filter f;refine y.imp_of_mem ?_;intro a b z E g;have h2:=m a (PA.1 z).2
 have I:=m b (PA.1 E).2;unfold AV.lt2 at g;omega
theorem qX{l:List AV}(h:l.Pairwise (fun a b=>a.k<b.k)):∀a∈l,∀b∈l,a.k=b.k->a=b:=by
 induction l with
 |nil=>intro a g;simp at g
 |cons x l ih=>
  rw [TX]at h;intro a g b m e;rcases H4.1 g with ea|ha'<;>rcases H4.1 m with eb|hb'
  · rw [ea,eb]
  · have:=h.1 b hb';rw [ea]at e;omega
  · have:=h.1 a ha';rw [eb]at e;omega
  · exact ih h.2 a ha' b hb' e
variable{r:AV}
theorem iZ{lo hi:Int}(h:inR t c lo hi r=true):r.t=t:=(I2 h).1
theorem Ex(rs:List AV)(t:Int)(c:Nat)(lo hi:Int):(D8 rs t c lo hi).Perm (rs.filter (inR t c lo hi)):=by
 have:=Td c (rs.filter (inR t c lo hi)) [];rw [ON]at this;exact this
theorem F9(m:BP rs)(t:Int)(c:Nat)(lo hi:Int):(D8 rs t c lo hi).Pairwise (leV c):=
 PU c _ [] .nil (QQ m fun r h=>iZ h) (by intro r g;simp at g)
theorem Rt(K:BP rs){f:AV->Bool}(I:∀r,f r=true->r.t=t){a b:List AV}(z:a.Perm (rs.filter f))(E:b.Perm (rs.filter f))(G:a.Pairwise (leV c))(h2:b.Pairwise (leV c)):a=b:=by
 have J:=QQ K I;refine (z.trans E.symm).eq_of_pairwise ?_ G h2;intro x y hx hy g m;refine qX J x (z.mem_iff.1 hx) y (E.mem_iff.1 hy) ?_;unfold leV at g m;omega
theorem VC(g:BP rs){lo hi:Int}{o:List AV}(m:o.Perm (rs.filter (inR t c lo hi)))(h2:o.Pairwise (leV c)):o=D8 rs t c lo hi:=
 Rt g (fun r h=>iZ h) m (Ex rs t c lo hi) h2 (F9 g t c lo hi)
def inT(t:Int)(r:AV):Bool:=decide (r.t=t)
def JL(rs:List AV)(t:Int):List AV:=rs.filter (inT t)
def RO(v:A3)(p:Int)(rs:List AV)(s:List AR):Prop:=∃sp mb es ck lm,v=I5 sp/\FY K2 es ck lm/\IX lm rs/\BP rs/\rs.length<=2000/\s=[(sp,.cells #[.map (some mb),I4 p] 131 (0,0)),(mb,.map es ck)]
theorem jb(sp g:Nat)(p:Int)(es:Array MapEntry)(m:Nat)(lm:List ((Int×Int)×A3))(rs:List AV)(hm:FY K2 es m lm)(hR:IX lm rs)(J:BP rs)(hn:rs.length<=2000)(t:Int)(c:Nat)(lo hi:Int)(hc:c<=3):
 CJ prog 35 #[I5 sp,I4 t,I4 (c:Int),I4 lo,I4 hi] [[(sp,.cells #[.map (some g),I4 p] 131 (0,0))],[(g,.map es m)]] (fun r H'=>∃y,BS 5 91 r (D8 rs t c lo hi).length (Aa (D8 rs t c lo hi)) y/\H'=[y,[(sp,.cells #[.map (some g),I4 p] 131 (0,0))],[(g,.map es m)]]):=by
 refine Se func35 ntmps35 [0,1,2,3,4] ?_;intro u R;refine A2<|Ze (Bx #[_])<|AE fun O=>Ze (Bx #[_])<|AE fun K=>Ze (Bx #[_])<|AE fun U=>Ze (Bx #[_])<|AE fun X=>CT Y<|A2<|Zl A5 Y ?_;refine Zv (Ak (n:=0) Y Y)<|Zm Y<|AZ (t:=13) Y V (fun I=>?_) (fun I=>?_);·
  exfalso;(cases I;done)
 refine Yl A5 Y ?_;refine Yg (El (n:=4) Y Y)<|H3 Y Y<|A6<|Ad Y (fun h2=>by omega)<|fun h2=>B3<|B7 Y<|Zl A5 Y ?_;refine Zv (CV (vs:=[]) (us:=[_,_,_,_]) Y Y)<|Zc [_,_,_] Y call90 Y V (XQ uR sp g p es m lm rs hm hR J hn t c lo hi hc K O U X) ?_;rintro _ _ ⟨_,⟨y,o,G,z,E,rfl⟩,rfl⟩;have Z:=VC J z E
 subst Z;refine AN Y<|Zn [10] ?_;refine Zx<|AC<|AO V results35 Y (by exact ⟨y,G,V⟩)
theorem Xz(v:A3)(p:Int)(rs:List AV)(s:List AR)(hv:RO v p rs s)(t:Int)(c:Nat)(lo hi:Int)(hc:c<=3):CJ prog 35 #[v,I4 t,I4 (c:Int),I4 lo,I4 hi] [s] (fun r H'=>∃g,BS 5 91 r (D8 rs t c lo hi).length (Aa (D8 rs t c lo hi)) g/\H'=[g,s]):=by
 obtain ⟨sp,I,es,y,lm,rfl,E,z,G,hn,rfl⟩:=hv;refine E8 (jb sp I p es y lm rs E z G hn t c lo hi hc) C4 ?_;rintro r H' ⟨g,m,rfl⟩;exact ⟨_,⟨g,m,V⟩,by simp⟩
def CZ(M:List AR)(v:A3)(rs:List AV):Prop:=∃p cap,v= .slice p rs.length cap/\(rs.length<=maxLen/\rs.length<=cap)/\∀(i:Nat) (x:AV),rs[i]?=some x->∃g off cur T zz,p=some ⟨g,off,none⟩/\(g,Obj.cells cur T zz)∈M/\off+i*5+5<=cur.size/\cur.extract (off+i*5) (off+i*5+5)=x.Ax3
variable{e:An}{v:A3}{s:List AR}
theorem Ca(h:BS 5 e v rs.length (Aa rs) s)(hn:rs.length<=maxLen):CZ s v rs:=by
 obtain ⟨b,cap,rfl⟩:=h.form;refine ⟨b,cap,V,⟨hn,Ew h⟩,fun i x hx=>?_⟩;obtain ⟨g,y,cur,z,hv,rfl,E,m⟩:=J7 h i (D3.1 hx).1;injection hv with hv1 hv2 hv3
 refine ⟨g,0,cur,e,z,hv1,by simp,by omega,?_⟩;unfold Aa at m;rw [Hg _ 5 (fun _=>rfl) rs i x hx]at m;rw [Dd];exact L5.1 m
variable{M:List AR}
theorem CZ.mono{M':List AR}{ls:List AV}(h:CZ M v ls)(G:∀c∈M,c∈M'):CZ M' v ls:=by
 obtain ⟨p,cap,e,E,z⟩:=h;refine ⟨p,cap,e,E,fun i s I=>?_⟩;obtain ⟨g,off,cur,T,zz,m,y,h2⟩:=z i s I;exact ⟨g,off,cur,T,zz,m,G _ y,h2⟩
theorem Gf(r:AV)(c:Int)(hc:0<=c/\c<=3):BB prog 84 #[.agg r.Ax3,I4 c] [] (I4 (Bh r c)):=fun u R w g=>
 (KL r c hc w).mono (by
   rintro e m ⟨rfl,q,o,rfl⟩;exact .inl ⟨_,[],V,⟨V,V⟩,Y2 g q _⟩)
variable{cur:As}{n:Nat}
theorem Mv{xs:As}{a:Nat}(h:cur.extract a (a+n)=xs)(m:a+n<=cur.size)(j:Nat)(g:j<n):cur[a+j]?=xs[j]?:=by
 rw [<-h,cU,B2 A0]
theorem F4{p q:Prop} [Decidable p] [Decidable q](h:p↔q):Value.bool (decide p)=Value.bool (decide q):=by rw [decide_eq_decide.2 h]
variable{P:Program}{f:FuncId}{args:As}
theorem Mw(h:BB P f args [] v):BB P f args [M] v:=fun u R w m=>
 Calls.mono (h u ([M]++R) w m) fun e z g=>by
  rcases g with⟨y,H',rfl,⟨rfl,rfl⟩,h2⟩|⟨ch,H',rfl,h1,h2⟩
  · exact .inl ⟨_,[M],rfl,⟨rfl,rfl⟩,h2⟩
  · exact h1.elim
theorem aR{A B:List AR}(h:BB P f args [B] v):BB P f args [A++B] v:=fun u R w m=>
 Calls.mono (h u ([A]++R) w (m.perm (by simp only [Kx,HW,N4,HT];rw [<-G0];exact S4.append_right _))) fun e z g=>by
  rcases g with⟨y,H',rfl,⟨rfl,rfl⟩,h2⟩|⟨ch,H',rfl,h1,h2⟩
  · refine .inl ⟨_,[A++B],rfl,⟨rfl,rfl⟩,h2.perm ?_⟩
    simp only [Kx,HW,N4,HT];rw [<-G0];exact S4.append_right _
  · exact h1.elim
theorem mH{A B:List AR}(h:BB P f args [A++B] v):BB P f args [A,B] v:=by
 refine E8 h C4 ?_;rintro r H' ⟨rfl,rfl⟩;exact ⟨_,⟨V,V⟩,by simp⟩
variable{α:Type}
theorem Bt{xs:List α}{j:Nat}{x:α}(h:xs[j]?=some x):xs.take (j+1)=xs.take j++[x]:=by rw [OK,h];rfl
theorem Uq{k:Nat}(h:rs[k]?=some r):Aa rs=Aa (rs.take k)++(Aa [r]++Aa (rs.drop (k+1))):=by
 rw [<-BR,<-BR];congr 1;obtain ⟨g,rfl⟩:=D3.1 h;rw [WD,<-Sx g,Ln]
theorem KR{k:Nat}(h:rs[k]?=some r)(j:Nat)(g:j<5):(Aa rs)[k*5+j]?=(Aa [r])[j]?:=by
 have m:=(D3.1 h).1;have e:(Aa (rs.take k)).length=k*5:=by rw [BG,CI];omega
 rw [Uq h,Ss A0,ff (by rw [e,BG];simp;omega),e,ie]
variable{cap:Nat}
theorem KO{p:C1}(h:CZ M (.slice p n cap) rs):Gc M p (Aa rs):=by
 obtain ⟨U,E,e,O,J⟩:=h;injection e with e1 e2 e3
 subst e1;intro j u G;have y:=(D3.1 G).1
 rw [BG]at y;obtain ⟨x,hx⟩:∃x,rs[j/5]?=some x:=⟨_,Bk A0⟩;obtain ⟨g,off,cur,T,zz,rfl,K,z,m⟩:=J (j/5) x hx;refine ⟨g,off,cur,T,zz,V,K,?_⟩;have I:=Mv m z (j%5) A0
 have h2:=KR hx (j%5) A0;rw [show j/5*5+j%5=j by omega,G]at h2;rw [show off+j=off+j/5*5+j%5 by omega,I,h2,<-Kf];rfl
theorem J9(hv:CZ M v rs)(X:rs.length<=1000000000000):CJ prog 98 #[v] [M] (fun r H'=>∃sr,BS 5 91 r rs.length (Aa rs) sr/\H'=[sr,M]):=by
 have O:=mL;obtain ⟨p,cap,rfl,⟨Z,K⟩,J⟩:=id hv;have y:Gc M p (Aa rs):=KO hv
 refine Se func98 ntmps98 [0] ?_;intro u R;refine A2<|AF Y<|C0 Y<|Zv (HV B0 Y Y)<|A6<|Af Y (fun G=>?_) (fun G=>?_);·
  have z:p=none:=by cases p with
   |none=>rfl
   |some x=>cases G
  have h0:rs=[]:=by
   cases rs with
   |nil=>rfl
   |cons x l=>obtain ⟨g,off,cur,T,zz,E,_⟩:=J 0 x rfl;rw [z]at E;cases E
  refine Zq<|Bi<|Zg<|AM Y<|Zt<|AO rfl results98 Y (by exact ⟨[],by rw [h0];exact BX 5 _,rfl⟩)
 refine AB<|BT<|Ze (EM B0 AW)<|AE fun I=>Zm Y<|Ze (G6 (by_:=40) (sz:=5) B0 (V:Tryz.prog.info? 91=some Tryz.t91) V rfl V rfl Y (En 5 91 I 0 [] V AH) Y (y) (by exact BG _) AH Wo Wo (by exact CK _) A0 A0) ?_;rintro _ _ ⟨U,m,rfl⟩;replace m:=BJ m (Dd _) (ON _);refine AM Y<|AO V results98 Y (by exact ⟨_,m,V⟩)
theorem Iu{a b:List α}(g:a.length=b.length)(h:∀j,j<a.length->a[j]?=b[j]?):a=b:=by
 apply S8;intro i;rcases FA i a.length with h9|h9
 · exact h i h9
 · rw [RC h9,RC A0]
theorem Co [DecidableEq α]{a b:α}(h:¬a=b):Value.bool false=Value.bool (decide (a=b)):=congrArg Value.bool (CC h).symm
theorem IV [DecidableEq α]{a b:α}(h:a=b):Value.bool true=Value.bool (decide (a=b)):=congrArg Value.bool (Cp h).symm
theorem Q5{a b:AV}:U7 a.t b.t a.k b.k a.v b.v↔a=b:=by
 obtain ⟨t,k,v⟩:=a;obtain ⟨m,g,y⟩:=b;simp [U7]
theorem aK{va vb:A3}{a b:List AV}(ha:CZ M va a)(hb:CZ M vb b):BB prog 131 #[va,vb] [M] (.bool (decide (a=b))):=by
 have kv:=mL;obtain ⟨pa,ca,rfl,gq,U⟩:=ha;obtain ⟨pb,cb,rfl,gy,X⟩:=hb;refine Se func131 ntmps131 [0,1] ?_;intro u R;refine A2<|AF Y<|C0 Y<|Zv (AJ B0 Y)<|Zm Y<|Zv (AJ B0 Y)<|Zv (Cb Y Y)<|A6<|Ad Y (fun J=>?_) (fun J=>?_);·
  refine A2<|AM Y<|Zt<|AO rfl results131 Y (by exact ⟨Co (fun e=>J (by rw [e])),rfl⟩)
 have Z:a.length=b.length:=by omega
 refine B3<|C0 Y<|Zv (AJ B0 Y)<|Zm Y<|A6<|AQ<|Zb [13,0,1,12] ?_;refine Av (e0:=[(13,_)]) (fun m e H=>∃(i:Nat),m=a.length -i/\(i<=a.length/\∀j,j<i->a[j]?=b[j]?)/\e=[(13,I4 (i:Int))]/\H=[]) (by exact ⟨0,V,⟨CD _,by intro j hj;omega⟩,V,V⟩) Wp ?_;rintro _ _ _ ⟨i,rfl,⟨hi,g⟩,rfl,rfl⟩;refine A2<|Zv (Ak Y Y)<|A6<|Zq<|Ad Y (fun af=>?_) (fun af=>?_);·
  obtain ⟨x,hx⟩:∃x,a[i]?=some x:=⟨_,Bk A0⟩;obtain ⟨y,hy⟩:∃y,b[i]?=some y:=⟨_,Bk A0⟩;obtain ⟨g1,ek,z,T1,bn,rfl,ax,cO,G⟩:=U i x hx;obtain ⟨g2,gm,E,T2,cu,rfl,bf,d9,I⟩:=X i y hy;refine B3<|Zq<|AQ<|B7 Y<|CT Y<|Au (n:=9) (0::0::3::7::0::0::48::112::255::[]) 0 AG AG V<|A1 0 V (AA Y)<|A1 1 V (AA Y)<|A1 2 V (A9 B0 AW Y Y A0)<|CX (b:=g1) (x:= .cells z T1 bn) (D':=15) 3 V rfl V (by simp [ax]) (A7 (cs:=x.Ax3) C5 AW Y A0 G) ?_;refine A1 4 V (AA Y)<|A1 5 V (AA Y)<|A1 6 V (A9 B0 AW Y Y A0)<|CX (b:=g2) (x:= .cells E T2 cu) (D':=255) 7 V rfl V (by simp [bf]) (A7 (cs:=y.Ax3) C5 AW Y A0 I) ?_;refine A1 8 V (QL AG F1 AG AH AH AH Ge HS A5 A4 Hv Dg Y Y)<|Am<|Zx<|Ad Y (fun K=>?_) (fun K=>?_);·
   refine A2<|AN Y<|Zn [4] ?_;refine Zx<|AC<|AX<|Zt<|Zt<|AX<|Zt<|AO rfl results131 Y (by exact ⟨Co (fun e=>by rw [e,hy]at hx;injection hx with hx;exact K (Q5.2 hx.symm)),rfl⟩)
  have O:x=y:=Q5.1 (Fi.1 K);refine AB<|A8<|Zx<|GP Y Y Y<|HN (by exact ⟨i+1,rfl,⟨by omega,fun j hj=>by rcases FA j i with h9|h9;exact g j h9;obtain rfl:j=i:=A0;rw [hx,hy];exact congrArg some O⟩,rfl,rfl⟩)
 refine Az<|Zt<|Zt<|AU<|BT<|AM Y<|AO V results131 Y (by exact ⟨IV (Iu Z (fun j hj=>g j A0)),V⟩)
abbrev Bs:=List UInt8
def M9(s:Bs):Bs:=sha (0::s)
def Gt(a b:Bs):Bs:=sha (1::(a++b))
def Bw(n:Nat):Nat:=2^Nat.log2 (n -1)
theorem GZ(n:Nat):0<Bw n:=dT _
theorem He(h:2<=n):Bw n<n:=by
 have:=Nat.log2_self_le (n:=n -1) A0;unfold Bw;omega
theorem iT{e:Nat}(g:2^e<n)(h2:n<=2^(e+1)):Bw n=2^e:=by
 unfold Bw;congr 1;refine (Nat.log2_eq_iff (by have:=dT e;omega)).2 ⟨by omega,by omega⟩
theorem vK(h:2<=n):n<=2*Bw n:=by
 have:=Nat.lt_log2_self (n:=n -1);unfold Bw;rw [cG]at this;omega
def DW(l:List Bs):Bs:=
 if h:2<=l.length then Gt (DW (l.take (Bw l.length))) (DW (l.drop (Bw l.length)))
 else match l with
  |[]=>sha []
  |x::_=>M9 x
termination_by l.length
decreasing_by
 · have:=He h;rw [CI];omega
 · have:=GZ l.length;rw [D4];omega
theorem Y7:DW []=sha []:=by rw [DW];rfl
theorem SV(x:Bs):DW [x]=M9 x:=by rw [DW];rfl
variable{l:List Bs}
theorem NF(h:2<=l.length):DW l=Gt (DW (l.take (Bw l.length))) (DW (l.drop (Bw l.length))):=by
 rw [DW,dif_pos h]
theorem V7{a b:List Bs}{e:Nat}(g:a.length=2^e)(h0:0<b.length)(y:b.length<=2^e):DW (a++b)=Gt (DW a) (DW b):=by
 have z:=dT e;have m:Bw (a++b).length=a.length:=by
  rw [g];exact iT (by rw [C7];omega) (by rw [C7,cG];omega)
 rw [NF (by rw [C7];omega),m,L7,SJ];· rfl
 · rfl
structure KI(ps:List (List Bs)):Prop where
 pow:∀p∈ps,∃e,p.length=2^e
 lt:ps.Pairwise (fun a b=>b.length<a.length)
theorem sS:KI []:=⟨by simp,.nil⟩
theorem ol{a b:Nat}(h:2^a<2^b):2*2^a<=2^b:=by
 have:=(Nat.pow_lt_pow_iff_right (a:=2) A0).1 h
 calc 2*2^a=2^(a+1):=by rw [cG];omega
  _<=2^b:=Nat.pow_le_pow_right A0 this
variable{p:List Bs}{ps:List (List Bs)}
theorem KI.tail(h:KI (p::ps)):KI ps:=⟨fun q g=>h.pow q (by simp [g]),(TX.1 h.lt).2⟩
theorem KI.init(h:KI (ps++[p])):KI ps:=⟨fun q g=>h.pow q (by simp [g]),(RE.1 h.lt).1⟩
theorem KI.sum:∀{ps:List (List Bs)} {e:Nat},KI ps->(∀p∈ps,p.length<2^e)->ps.flatten.length<2^e
 |[],e,_,_=>by simpa using dT e
 |p::ps,e,h,hl=>by
  obtain ⟨m,g⟩:=h.pow p C4;have h2:=hl p C4
  rw [g]at h2;have z:=ol h2
  have E:=KI.sum (e:=m) h.tail (fun q y=>by rw [<-g];exact (TX.1 h.lt).1 q y);rw [HW,C7,g];omega
theorem KI.nonempty(h:KI ps)(hn:ps≠[]):0<ps.flatten.length:=by
 cases ps with
 |nil=>exact absurd rfl hn
 |cons p ps=>
  obtain ⟨e,g⟩:=h.pow p C4;have:=dT e
  rw [HW,C7];omega
theorem KI.root:∀{ps:List (List Bs)} {q:List Bs},KI (ps++[q])->ps.foldr (fun p o=>Gt (DW p) o) (DW q)=DW (ps.flatten++q)
 |[],q,_=>by simp
 |p::ps,q,h=>by
  rw [List.foldr_cons,KI.root (ps:=ps) (q:=q) h.tail,HW,G0];obtain ⟨e,m⟩:=h.pow p C4;have z:(ps++[q]).flatten=ps.flatten++q:=by simp
  have y:KI (ps++[q]):=h.tail;have g:0<(ps++[q]).flatten.length:=KI.nonempty y C4
  have h2:=KI.sum (e:=e) y (fun r E=>by rw [<-m];exact (TX.1 h.lt).1 r E);rw [z]at g h2;exact (V7 m g A0).symm
structure OX(ls:List Bs)(ps:List (List Bs))(q:List Bs)(i:Nat):Prop where
 bin:KI ps
 pow:∃e,q.length=2^e
 le:∀p∈ps,q.length<=p.length
 flat:ps.flatten++q=ls.take i
variable{ls:List Bs}{i:Nat}
theorem ko{s:Bs}(h:KI ps)(m:ps.flatten=ls.take i)(z:ls[i]?=some s):OX ls ps [s] (i+1):=
 ⟨h,⟨0,rfl⟩,fun p y=>by
   obtain ⟨e,g⟩:=h.pow p y;have:=dT e
   rw [g];simp;omega,by rw [OK,z,m];rfl⟩
theorem OX.step{q:List Bs}(h:OX ls (ps++[p]) q i)(e:p.length=q.length):OX ls ps (p++q) i/\DW (p++q)=Gt (DW p) (DW q):=by
 obtain ⟨m,g⟩:=h.pow;have I:=dT m
 refine ⟨⟨h.bin.init,⟨m+1,by rw [C7,e,g,cG];omega⟩,?_,?_⟩,V7 (e.trans g) A0 A0⟩
 · intro r z
   obtain ⟨E,h2⟩:=h.bin.pow r (by simp [z]);have y:=(RE.1 h.bin.lt).2.2 r z p C4
   rw [e,g,h2]at y;have G:=ol y
   rw [C7,e,g,h2];omega
 · rw [<-h.flat];simp
theorem OX.done{q:List Bs}(h:OX ls ps q i)(E:∀m p,ps=m++[p]->p.length≠q.length):KI (ps++[q])/\(ps++[q]).flatten=ls.take i:=by
 refine ⟨⟨?_,?_⟩,by rw [<-h.flat];simp⟩
 · intro r y
   rcases GS.1 y with y|y
   · exact h.bin.pow r y
   · rw [HA]at y
     subst y;exact h.pow
 · rw [RE]
   refine ⟨h.bin.lt,List.pairwise_singleton _ _,?_⟩;intro a g b G;rw [HA]at G;subst G;rcases eJ ps with rfl|⟨m,p,rfl⟩
   · simp at g
   · have I:=E m p C4
     have h2:=h.le p C4;have z:=h.bin.lt
     simp only [im]at g z;rw [RE]at z;rcases GS.1 g with g|g
     · have:=z.2.2 a g p C4
       omega
     · rw [HA]at g
       subst g;omega
variable{xs:List A3}
theorem uL(h:cur.toList.take xs.length=xs){x:A3}(hx:xs[i]?=some x):cur[i]?=some x:=by
 have g:=(D3.1 hx).1;rw [<-h,I3,B2 g,Kf]at hx;exact hx
theorem rH(ps:List (List Bs))(o:Bs):(ps.map DW).reverse.foldl (fun o r=>Gt r o) o=ps.foldr (fun p o=>Gt (DW p) o) o:=by
 rw [List.foldl_reverse,List.foldr_map]
def DU(M:List AR)(v:A3)(ls:List Bs):Prop:=∃p cap,v= .slice p ls.length cap/\(ls.length<=maxLen/\ls.length<=cap)/\∀(i:Nat) (s:Bs),ls[i]?=some s->∃g off cur T zz,p=some ⟨g,off,none⟩/\(g,Obj.cells cur T zz)∈M/\cur[off+i]?=some (EF s)
def rtV(p:List Bs):A3:=EF (DW p)
def lnV(p:List Bs):A3:=I4 ((p.length:Nat):Int)
theorem Q6{sz:Nat}{b:C1}(h:BS sz e (.slice b n c) n xs s)(k:Nat)(y:k<=n):BS sz e (.slice b k c) k (xs.take (k*sz)) s:=by
 obtain ⟨E,h⟩:=h;refine ⟨by rw [CI,E,OR (T7 _ y)],?_⟩;rcases h with⟨m,rfl,rfl⟩|⟨g,cap',cur,z,m,rfl,h2,h3,h4,h5,h6⟩
 · injection m with e1 e2 e3
   subst e1 e3;obtain rfl:k=0:=by omega
   exact .inl ⟨V,V,V⟩
 · injection m with e1 e2 e3
   subst e1 e3;refine .inr ⟨g,c,cur,z,V,V,by omega,h3,h4,?_,h6⟩;rw [<-h5,Wc,OR (T7 _ y)]
theorem MO(h:BS 1 e v n xs s)(h0:0<n):∃g cap cur z,v=I6 g n cap/\s=[(g,.cells cur e z)]/\n<=cap/\∀(i:Nat) (x:A3),xs[i]?=some x->cur[i]?=some x:=by
 obtain ⟨G,⟨_,y,_⟩|⟨g,m,cur,z,y,rfl,h2,I,J,E,K⟩⟩:=h;· omega
 · rw [<-G]at E
   exact ⟨g,m,cur,z,y,V,h2,fun i x hx=>uL E hx⟩
theorem DU.mono{M':List AR}(h:DU M v ls)(G:∀c∈M,c∈M'):DU M' v ls:=by
 obtain ⟨p,cap,e,E,z⟩:=h;refine ⟨p,cap,e,E,fun i s I=>?_⟩;obtain ⟨g,off,cur,T,zz,m,y,h2⟩:=z i s I;exact ⟨g,off,cur,T,zz,m,G _ y,h2⟩
theorem Ev(h:BS 1 e v ls.length (ls.map EF) s)(hn:ls.length<=maxLen):DU s v ls:=by
 rcases P2 ls.length with h0|h0
 · obtain ⟨b,cap,rfl⟩:=h.form
   exact ⟨b,cap,rfl,⟨hn,by omega⟩,fun i s m=>by rw [N3 h0]at m;simp at m⟩
 · obtain ⟨g,cap,cur,z,rfl,rfl,y,E⟩:=MO h h0
   refine ⟨_,cap,V,⟨hn,y⟩,fun i s m=>⟨g,0,cur,e,z,V,by simp,?_⟩⟩;rw [Dd];exact E i _ (by rw [HL,m];rfl)
theorem FP(l:List Bs):(DW l).length=32:=by
 rw [DW];split;· exact JY _
 · split<;>exact JY _
theorem Vo(s:Bs)(E:s.length<=140737488354000)(g:An)(z:Nat×Nat):BB prog 166 #[.string (str s)] [[(1,.cells (Dj.map CP).toArray g z)]] (.string (str (M9 s))):=by
 refine Se func166 ntmps166 [0] ?_;intro u R;refine A2<|AF Y<|A2<|Zc [_] Y call198 Y V (Mk (str [0])) ?_;rintro _ _ ⟨_,⟨y,rfl,rfl⟩,rfl⟩;refine Zm Y<|Ze (Ah (vs:=[_]) (cs:=[_]) DB F2 N1 Y V rfl V rfl V)<|AE fun m=>Xr [_] Y call240 Y V (K9 m 0 1 y #[EF s] _ _ _ _ [s] [0] V C4 C4 Of _ _)<|AM Y<|AO V results166 Y (by exact ⟨by simp [M9],V⟩)
theorem NM(a b:Bs)(E:a.length<=1000000000)(G:b.length<=1000000000)(g:An)(z:Nat×Nat):BB prog 167 #[.string (str a),.string (str b)] [[(1,.cells (Dj.map CP).toArray g z)]] (.string (str (Gt a b))):=by
 refine Se func167 ntmps167 [0,1] ?_;intro u R;refine A2<|AF Y<|A2<|Zc [_] Y call198 Y V (Mk (str [1])) ?_;rintro _ _ ⟨_,⟨y,rfl,rfl⟩,rfl⟩;refine Sk 2 V<|Ze (Ah (vs:=[_,_]) (cs:=[_,_]) DB F2 N1 Y V rfl V rfl V)<|AE fun m=>Xr [_] Y call240 Y V (K9 m 0 2 y #[EF a,EF b] _ _ _ _ [a,b] [1] V C4 C4 Of _ _)<|AM Y<|AO V results167 Y (by exact ⟨by simp [Gt],V⟩)
def bwd{α:Type} [Inhabited α](ls:List α):List (Nat×α):=(List.range ls.length).reverse.map (fun i=>(i,ls.getD i default))
theorem XW [Inhabited α](ls:List α):(bwd ls).length=ls.length:=by simp [bwd]
theorem fU [Inhabited α]{ls:List α}{m:Nat}{s:α}(h:ls[m]?=some s):(bwd ls)[ls.length -(m+1)]?=some (m,s):=by
 have g:=(D3.1 h).1;unfold bwd;rw [HL,List.getElem?_reverse Of,ft,eN A0];rw [show ls.length -1 -(ls.length -(m+1))=m by omega];simp [List.getD,h]
theorem XV [Inhabited α](ls:List α):(bwd ls).map Prod.snd=ls.reverse:=by
 apply S8;intro i;by_cases hi:i<ls.length
 · have g:ls[ls.length -1 -i]?=some (ls[ls.length -1 -i]'A0):=Bk _
   have h2:=fU g;rw [show ls.length -(ls.length -1 -i+1)=i by omega]at h2;rw [HL,h2,List.getElem?_reverse hi,g];rfl
 · rw [RC (by rw [C2,XW];omega),RC Of]
theorem jB [Inhabited α]{ls:List α}{x:Nat×α}(h:x∈bwd ls):x.2∈ls:=by
 have g:x.2∈(bwd ls).map Prod.snd:=HX.2 ⟨x,h,rfl⟩;rw [XV,jx]at g;exact g
theorem Rs{xs:List α}{j:Nat}{x:α}(h:xs[j]?=some x):xs=xs.take j++x::xs.drop (j+1):=by
 have g:=(D3.1 h).1;rw [Bk g]at h;injection h with h
 rw [<-h,<-Sx g,Ln]
theorem rM(xs:List Bs)(q:Bs):(bwd xs).foldl (fun o (x:Nat×Bs)=>Gt x.2 o) q=xs.reverse.foldl (fun o r=>Gt r o) q:=by
 rw [<-XV,List.foldl_map]
theorem WT(f:List α->A3)(ps:List (List α))(p q:List α):(((ps++[p])++[q]).map f)[(ps++[p]).length+1 -2]?=some (f p)/\(((ps++[p])++[q]).map f)[(ps++[p]).length+1 -1]?=some (f q):=by
 have e:(ps++[p]).length=ps.length+1:=by simp
 constructor;· rw [show(ps++[p]).length+1 -2=ps.length by omega];simp
 · rw [show(ps++[p]).length+1 -1=ps.length+1 by omega];simp
theorem Xu(f:List α->A3)(ps:List (List α))(p q:List α):(((ps++[p])++[q]).map f).take (((ps++[p]).length+1 -2)*1)=ps.map f:=by
 rw [show((ps++[p]).length+1 -2)*1=(ps.map f).length by simp];simp
theorem vO(f:List α->A3)(ps:List (List α))(q:List α):((ps++[q]).map f)[(ps++[q]).length -1]?=some (f q):=by
 rw [show(ps++[q]).length -1=ps.length by simp];simp
theorem lC(f:List α->A3)(ps:List (List α))(q:List α):((ps++[q]).map f).take (((ps++[q]).length -1)*1)=ps.map f:=by
 rw [show((ps++[q]).length -1)*1=(ps.map f).length by simp];simp
theorem iU{ps:List α}(h:0<ps.length):∃g p,ps=g++[p]:=by
 rcases eJ ps with rfl|⟨a,b,e⟩
 · simp at h
 · exact ⟨a,b,by rw [e,im]⟩
theorem rJ(xs:List (Nat×Bs))(q:Bs)(g:q.length=32):(xs.foldl (fun o (x:Nat×Bs)=>Gt x.2 o) q).length=32:=by
 rcases eJ xs with rfl|⟨ys,y,rfl⟩
 · exact g
 · rw [im,RM];exact JY _
theorem UZ(p:C1)(n c:Nat):CJ prog 169 #[.slice p n c] [] (fun r H'=>∃b,r= .func (.func 202) #[] #[I5 b]/\H'=[[(b,.cells #[.slice p n c] 47 (0,0))]]):=by
 refine Se func169 ntmps169 [0] ?_;intro u R;refine A2<|Ze (Bx #[_])<|AE fun b=>AF Y<|A2<|Zv (CV (vs:=[]) (us:=[_]) Y Y)<|AM Y<|AO V results169 Y (by exact ⟨_,V,V⟩)
theorem Ua(hv:DU M v ls)(b:Nat)(hn:ls.length<=1000000000000):
 LU prog 202 #[I5 b] [[(b,.cells #[v] 47 (0,0))]] (fun s=>∀c∈M,c∈s) (fun x=>#[I4 ((x.1:Nat):Int),EF x.2]) (bwd ls):=by
 have af:=mL;obtain ⟨p,cap,rfl,hl,hg⟩:=hv;intro l J hA hy s y;refine Se func202 ntmps202 [0,1] ?_;intro u R;refine A2<|Zl Iv Y ?_;refine Zv (AJ DB Y) ?_
 (refine BN (GI Y Y (IntWalk.i64_in _ ?_)) ?_;(focus (omega)))
 refine AF Y<|AQ<|Zb [3,0,1] ?_;refine Av (e0:=[(3,_)]) (fun m e H=>∃(k:Nat) (s:List AR),m=0+k/\(k<=ls.length/\J ((bwd ls).take (ls.length -k)) s)/\e=[(3,I4 ((k:Int) -1))]/\H=[[(b,.cells #[.slice p ls.length cap] 47 (0,0))],s]) (by exact ⟨ls.length,s,rfl,⟨B4 _,by rw [Tr,Hh];exact y⟩,rfl,rfl⟩) Wp ?_;rintro _ _ _ ⟨k,s,rfl,⟨hk,y⟩,rfl,rfl⟩;refine C0 Y<|Zv (Fa Y Y)<|A6<|Ad Y (fun U=>?_) (fun U=>?_);·
  obtain ⟨m,rfl⟩:∃m,k=m+1:=⟨k -1,by omega⟩;rw [show(((m+1:Nat):Int) -1)=((m:Nat):Int) by omega];obtain ⟨Z,I⟩:∃Z,ls[m]?=some Z:=⟨_,Bk A0⟩;have z:=fU I
  obtain ⟨g,o,cur,T,zz,rfl,hm,E⟩:=hg m Z I;have G:=E
  have X:=hy _ _ _ s (Rs z) y;refine B3<|Zq<|AQ<|A2<|Sk 2 V<|Zl Iv Y ?_;refine Zm Y<|BN (BO DB F2 Y Y A0)<|Cj (cs:=[(g,.cells cur T zz)]) (by simp [hA _ s y _ hm]) (BZ HG Y G) V rfl ?_;refine Ze (OZ (vs:=[_,_]) Y Y (X) Wp) ?_;rintro _ _ ⟨_,⟨s',rfl,rfl,K⟩,rfl⟩;refine Zv (CR Y)<|A6<|Af Y (fun hb=>by cases hb)<|fun hb=>AB<|A8<|Zx<|Zg<|Zm Y ?_
  (refine BN (GI Y Y (IntWalk.i64_in _ ?_)) ?_;(focus (omega)))
  refine AN Y<|DH (e:=[(3,_)]) (h:=by exact ⟨m,s',rfl,⟨by omega,by rw [show ls.length -m=ls.length -(m+1)+1 by omega,Bt z];exact K⟩,rfl,rfl⟩)
 have O:k=0:=by omega
 subst O;rw [SM,Hx (by rw [XW];exact B4 _)]at y;refine Az<|Zt<|Zt<|AU<|Gn V results202 (by exact ⟨s,V,y⟩)
theorem Kr(hv:DU M v ls)(hn:ls.length<=1000000)(hs:∀s∈ls,s.length<=140737488354000)(Tg:An)(zg:Nat×Nat):BB prog 122 #[v] [[(1,.cells (Dj.map CP).toArray Tg zg)],M] (.string (str (DW ls))):=by
 have vo:=mL;obtain ⟨p,cap,rfl,hl,hg⟩:=hv;refine GM func122 V ntmps122 V ?_;intro u R;refine Zb [0] ?_;refine A2<|AF Y<|A2<|AF Y<|A2<|AF Y<|C0 Y<|Zv (AJ DB Y)<|Zm Y<|A6<|AQ<|Bi<|Bi<|Zb [3,4,13,11,12] ?_;refine Av (e0:=[(3,_),(4,_),(13,_)]) (fun m e H=>∃(i:Nat) (ps:List (List Bs)) (vw:A3) (sw:List AR) (vz:A3) (sz:List AR),m=ls.length -i/\(i<=ls.length/\KI ps/\ps.flatten=ls.take i/\BS 1 9 vw ps.length (ps.map rtV) sw/\BS 1 3 vz ps.length (ps.map lnV) sz/\ps.length<=i)/\e=[(3,vw),(4,vz),(13,I4 (i:Int))]/\H=[sw,sz]) (by exact ⟨0,[],.slice none 0 0,[],.slice none 0 0,[],V,⟨CD _,sS,V,BX 1 _,BX 1 _,B4 _⟩,V,V⟩) Wp ?_;rintro _ _ _ ⟨i,ps,vw,sw,vz,sz,rfl,⟨hi,hB,hf,E,O,pq⟩,rfl,rfl⟩;refine A2<|Zv (Ak Y Y)<|A6<|Zq<|Ad Y (fun kv=>?_) (fun kv=>?_);·
  obtain ⟨s9,cu⟩:∃s9,ls[i]?=some s9:=⟨_,Bk kv⟩;obtain ⟨g,o,cur,T,zz,rfl,pg,gy⟩:=hg i s9 cu;obtain ⟨qw,cw,rfl⟩:=E.form;obtain ⟨qz,cz,rfl⟩:=O.form;have l8:=hs s9 (Fm cu)
  refine B3<|Zq<|AQ<|A2<|BN (BO DB F2 Y Y A0)<|Cj (cs:=[(g,.cells cur T zz)]) (by simp [pg]) (BZ HG Y gy) V rfl ?_;refine AF Y<|A2<|Sk 2 V<|Xr [_] Y call166 Y V (Vo s9 l8 Tg zg) ?_;refine Ze (Ah (vs:=[_]) (cs:=[_]) DB F2 N1 Y V rfl V rfl V)<|AE fun b1=>Ze (Dw (by_:=16) (sz:=1) (news:=[_]) DB (V:Tryz.prog.info? 9=some Tryz.t9) V rfl V rfl Y E Y Wo Wh B5 V HH AH A0 A0) ?_;rintro _ _ ⟨sw,E,rfl⟩;obtain ⟨gw,cw,rfl⟩:=E.form;refine Zm Y<|Ze (Ah (vs:=[_]) (cs:=[_]) HF A4 K1 Y V rfl V rfl V)<|AE fun b3=>Ze (Dw (by_:=8) (sz:=1) (news:=[_]) HF (V:Tryz.prog.info? 3=some Tryz.t3) V rfl V rfl Y O Y Wo Wh B5 V HH AH A0 A0) ?_;rintro _ _ ⟨sz,O,rfl⟩;obtain ⟨gz,cz,rfl⟩:=O.form;refine Za Y<|AN Y<|Zn [3,4,11,12,13] ?_;refine Zx<|B7 Y<|Zv (AJ HF Y)<|AF Y<|AQ<|Zb [3,4,7,11,12,13] ?_;refine Av (e0:=[(3,_),(4,_),(7,_)]) (fun m e H=>∃(z:List (List Bs)) (q:List Bs) (gm:A3) (d9:List AR) (gq:A3) (ek:List AR),m=0+z.length/\(OX ls z q (i+1)/\BS 1 9 gm (z.length+1) ((z++[q]).map rtV) d9/\BS 1 3 gq (z.length+1) ((z++[q]).map lnV) ek/\z.length<=i)/\e=[(3,gm),(4,gq),(7,I4 ((z.length+1:Nat):Int))]/\H=[d9,ek]) (by exact ⟨ps,[s9],_,_,_,_,rfl,⟨ko hB hf cu,BJ E rfl (by rw [HD,RK];unfold rtV;rw [SV];rfl),BJ O rfl (by rw [HD];rfl),pq⟩,rfl,rfl⟩) Wp ?_;rintro _ _ _ ⟨z,q,gm,d9,gq,ek,rfl,⟨hM,K,U,wo⟩,rfl,rfl⟩;refine Zq<|Zq<|Au (n:=15) (0::1::3::7::7::23::63::127::7::7::519::1799::3847::8191::16383::[]) 0 AG AG V<|A1 0 V (AA Y)<|A1 1 V (CW (n:=1) Y Y)<|A1 2 V (AA Y)<|CS (t:=29) Y (fun bn=>?_) (fun bn=>?_);focus
   rw [Cp bn];obtain ⟨y,X,rfl⟩:=iU (ps:=z) A0;have wz:(y++[X]).length=y.length+1:=by simp
   obtain ⟨bf,o9,J,mR,rfl,rfl,kz,G⟩:=MO (id K) A0;obtain ⟨tT,r9,o8,yt,rfl,rfl,qo,Z⟩:=MO (id U) A0;have qb:=Z _ _ (WT lnV y X q).1
   have lv:=Z _ _ (WT lnV y X q).2;have cO:=G _ _ (WT rtV y X q).1
   have q9:=G _ _ (WT rtV y X q).2;have pz:q.length<=ls.length:=by have h9:=congrArg List.length hM.flat;rw [C7,CI]at h9;omega
   refine B1 3 V (AA Y)<|B1 4 V (AA Y) ?_
   (refine B1 5 rfl (C8 (n:=2) Y Y ?_ ?_) ?_;(focus (omega));(focus (omega)))
   refine B1 6 V (BI HF A4 Y Y A0)<|DG 7 V Wh (BZ A5 Y qb) ?_;refine B1 8 V (AA Y)<|B1 9 V (AA Y) ?_
   (refine B1 10 rfl (C8 (n:=1) Y Y ?_ ?_) ?_;(focus (omega));(focus (omega)))
   refine B1 11 V (BI HF A4 Y Y A0)<|DG 12 V Wh (BZ A5 Y lv) ?_;refine B1 13 V (Bg Y Y)<|A1 14 V (Ay Y Y)<|Am<|Zn [3,4,7,11,12,13,41] ?_;refine Zx<|Ad Y (fun he=>?_) (fun he=>?_);·
    have l9:=hM.step he;refine B3<|Zq<|AQ<|Zq<|Au (n:=18) (0::0::2::7::0::0::32::112::240::0::0::1024::3584::7680::16368::32752::65535::131071::[]) 114688 AG AG V<|A1 0 V (AA Y)<|A1 1 V (AA Y) ?_
    (refine Dr (D':=7) 2 (C8 (n:=2) Y Y ?_ ?_) ?_;(focus (omega));(focus (omega)))
    refine A1 3 V (Bb DB F2 Y Y A0)<|A1 4 V (AA Y)<|A1 5 V (AA Y) ?_
    (refine Dr (D':=127) 6 (C8 (n:=2) Y Y ?_ ?_) ?_;(focus (omega));(focus (omega)))
    refine A1 7 rfl (BI DB F2 Y Y (by first|omega|(simp;omega)))<|B6 8 rfl HG Y (hv:=by exact cO) ?_;refine A1 9 V (AA Y)<|A1 10 V (AA Y) ?_
    (refine Dr (D':=4095) 11 (C8 (n:=1) Y Y ?_ ?_) ?_;(focus (omega));(focus (omega)))
    refine A1 12 rfl (BI DB F2 Y Y (by first|omega|(simp;omega)))<|B6 13 rfl HG Y (hv:=by exact q9) ?_;refine Yw 14 32767 rfl (Zu [_,_] Y call167 Y rfl (NM (DW X) (DW q) (by rw [FP];omega) (by rw [FP];omega) Tg zg))<|DA<|Yw 15 65535 V (Ah (vs:=[_]) (cs:=[_]) DB F2 N1 Y V rfl V rfl V)<|AE fun b5=>Yw 16 131071 V (Dw (by_:=16) (sz:=1) (news:=[_]) DB (V:Tryz.prog.info? 9=some Tryz.t9) V rfl V rfl Y (Q6 K ((y++[X]).length+1 -2) A0) Y Wo Wh B5 V HH AH A0 A0) ?_;rintro _ _ ⟨x9,af,rfl⟩;obtain ⟨sO,qy,rfl⟩:=af.form;refine A1 17 V (Aq Y)<|Am<|Zn [3,4,7,11,12,13] ?_;refine Zx<|Au (n:=13) (0::0::2::7::0::0::32::112::240::496::1008::2047::4095::[]) 3072 AG AG V<|A1 0 V (AA Y)<|A1 1 V (AA Y) ?_
    (refine Dr (D':=7) 2 (C8 (n:=2) Y Y ?_ ?_) ?_;(focus (first|omega|(simp;omega)));(focus (first|omega|(simp;omega))))
    refine A1 3 V (Bb HF A4 Y Y A0)<|A1 4 V (AA Y)<|A1 5 V (AA Y) ?_
    (refine Dr (D':=127) 6 (C8 (n:=1) Y Y ?_ ?_) ?_;(focus (first|omega|(simp;omega)));(focus (first|omega|(simp;omega))))
    refine A1 7 rfl (BI HF A4 Y Y (by first|omega|(simp;omega)))<|B6 8 rfl A5 Y (hv:=by exact lv) ?_;refine A1 9 rfl (Dl (m:=2) Y Y (by first|omega|(simp;omega)))<|Yw 10 2047 rfl (Ah (vs:=[_]) (cs:=[_]) HF A4 K1 Y rfl rfl rfl rfl rfl)<|AE fun b7=>Yw 11 4095 V (Dw (by_:=8) (sz:=1) (news:=[_]) HF (V:Tryz.prog.info? 3=some Tryz.t3) V rfl V rfl Y (Q6 U ((y++[X]).length+1 -2) A0) Y Wo Wh B5 V HH AH A0 A0) ?_;rintro _ _ ⟨y5,ax,rfl⟩;obtain ⟨ve,sj,rfl⟩:=ax.form;refine A1 12 V (Aq Y)<|Am<|Zn [3,4,7,11,12,13] ?_;refine A8<|Zx<|Zg<|Zm Y<|Yb (n:=1) Y Y<|AN Y<|DH (e:=[(3,_),(4,_),(7,_)]) (h:=by exact ⟨y,X++q,_,_,_,_,rfl,⟨l9.1,BJ af A0 (by rw [Xu,HD,RK];unfold rtV;rw [l9.2];rfl),BJ ax A0 (by rw [Xu,HD,RK];unfold lnV;rw [C7,he,<-Nat.two_mul]),by omega⟩,(by rw [show(y++[X]).length+1 -1=y.length+1 by omega]),rfl⟩)
   focus
    have hD:=hM.done (fun a b e9=>by have e8:=List.singleton_inj.1 (fx e9 rfl).2;rw [<-e8];exact he)
  rotate_left
  focus
   rw [CC bn];have hD:=hM.done (fun a b e9=>by have e8:=congrArg List.length e9;rw [C7]at e8;simp at e8;omega)
   refine AK 3 V<|AK 4 V<|AK 5 V<|AK 6 V<|AK 7 V<|AK 8 V<|AK 9 V<|AK 10 V<|AK 11 V<|AK 12 V<|AK 13 V<|A1 14 V (BC Y Y)<|Am<|Zn [3,4,7,11,12,13,41] ?_;refine Zx<|DY Y ?_
  all_goals
   refine Az<|Zt<|Zt<|AU<|A8<|Zx<|GP Y Y Y<|DH (e:=[(3,_),(4,_),(13,_)]) (h:=by exact ⟨i+1,_,_,_,_,_,rfl,⟨by omega,hD.1,hD.2,BJ K C4 rfl,BJ U C4 rfl,by rw [C7];simp;omega⟩,rfl,rfl⟩)
 have ei:i=ls.length:=by omega
 subst ei;rw [Hx (B4 _)]at hf;obtain ⟨qw,cw,rfl⟩:=E.form;refine Az<|Zt<|Zt<|AU<|Zx<|C0 Y<|Zv (AJ DB Y)<|Zv (Bg (n:=0) Y Y)<|A6<|Ad Y (fun h0=>?_) (fun h0=>?_);·
  have e0:=N3 h0;subst e0;have e1:ls=[]:=hf.symm
  refine A2<|Xr [_] Y call168 Y V (gT [] C4 Tg zg) ?_;refine AM Y<|Zt<|TM rfl (YA results122 Y) (by exact ⟨by rw [e1,Y7],rfl⟩)
 obtain ⟨y,q,rfl⟩:=iU (ps:=ps) A0;obtain ⟨bf,o9,J,mR,p8,rfl,kz,G⟩:=MO (id E) A0;injection p8 with hev1 hev2 hev3
 subst hev1 hev3;have cO:=G _ _ (vO rtV y q)
 have pz:(y++[q]).length=y.length+1:=by simp
 refine AB<|BT<|Sk 2 V<|Zv (AJ DB Y)<|Yb (n:=1) Y Y ?_;refine BN (BI DB F2 Y Y A0)<|Zl HG Y (hv:=by exact cO) ?_;refine Ze (Al N1 #[_])<|AE fun ob=>Xe (Zs F2 Y Y V (hc:=by exact (V:_=(#[EF (DW q)]:As)))) ?_;refine A6<|Zq<|A2<|Sk 2 V<|Zv (AJ DB Y)<|Yb (n:=1) Y Y ?_;refine BN (Bb DB F2 Y Y A0)<|Zc [_] Y call169 Y V (UZ _ _ _) ?_;rintro _ _ ⟨_,⟨bb,rfl,rfl⟩,rfl⟩;refine Z0<|Zn [8,89] ?_;refine Zx<|AQ<|Zb [8,89] ?_;refine Pi (H0:=_) (R:=_) (I:=(fun pre H=>H=[[(ob,.cells #[EF (pre.foldl (fun o (x:Nat×Bs)=>Gt x.2 o) (DW q))] 9 (0,0))],[(bf,.cells J 9 mR)],[(1,.cells (Dj.map CP).toArray Tg zg)]])) (asg:=fun x=>[(10,EF x.2),(91,EF x.2),(90,I4 ((x.1:Nat):Int))]) rfl Y call202 (Ua (ls:=y.map DW) (v:=I6 bf ((y++[q]).length -1) cw) (Ev (BJ (Q6 E ((y++[q]).length -1) A0) C4 (by rw [lC,kj];rfl)) (by rw [C2];omega)) bb (by rw [C2];omega)) (fun pre H1 c d h=>by subst h;intro x hx;simp at hx;simp [hx]) Y rfl Wp (rfl) ?ha_13 ?hbd_13 ?hk_13
 case ha_13=>
  intro _ x _ _;refine Zg<|Za Y<|Z0 ?_;exact q8
 case hbd_13=>
  intro l pre x qx u H1 R1 qa hI;subst hI;refine AQ<|Zg<|Zm Y<|Zl HG Y ?_;refine Xr [_,_] Y call167 Y rfl (NM x.2 _ (by obtain ⟨y9,_,e9⟩:=HX.1 (jB (QT qa));rw [<-e9,FP];omega) (by rw [rJ _ _ (FP q)];omega) Tg zg) ?_;refine Xe (Zs F2 Y Y V) ?_;refine Z0<|A8<|Mh rfl (by rw [RM])
 intro D1 H2 oq;subst oq;refine Zn [8] ?_;refine A8<|BT<|Zl HG Y ?_;refine AM Y<|LA rfl (YA results122 Y) Wo (by exact ⟨by rw [rM,rH,hB.root,<-hf];simp,rfl⟩)
theorem U1:∀(f x:Nat),0<x->x<2^f->Lib.bitLenAux f x=Nat.log2 x+1
 |0,x,h0,h1=>by simp at h1;omega
 |f+1,x,h0,h1=>by
  unfold Lib.bitLenAux;rw [Ax A0];rw [cG]at h1;rcases FA x 2 with h|h
  · have e:x=1:=by omega
    subst e;cases f<;>rfl
  · rw [U1 f (x/2) A0 A0]
    conv=>rhs;rw [Nat.log2_def,B2 h]
    omega
theorem l6(n:Nat)(g:2<=n)(h2:n<=1000000000000):Lib.bitLen (n -1)=Nat.log2 (n -1)+1:=U1 64 (n -1) A0 A0
def Dx(l:List Bs)(i:Nat):List Bs:=
 if h:2<=l.length then
  if i<Bw l.length then Dx (l.take (Bw l.length)) i++[DW (l.drop (Bw l.length))]
  else Dx (l.drop (Bw l.length)) (i -Bw l.length)++[DW (l.take (Bw l.length))]
 else []
termination_by l.length
decreasing_by
 · have:=He h;rw [CI];omega
 · have:=GZ l.length;rw [D4];omega
theorem Jp(h:l.length<=1)(i:Nat):Dx l i=[]:=by rw [Dx,dif_neg A0]
theorem GR(h:2<=l.length)(hi:i<Bw l.length):Dx l i=Dx (l.take (Bw l.length)) i++[DW (l.drop (Bw l.length))]:=by rw [Dx,dif_pos h,B2 hi]
theorem Fg(h:2<=l.length)(hi:¬i<Bw l.length):Dx l i=Dx (l.drop (Bw l.length)) (i -Bw l.length)++[DW (l.take (Bw l.length))]:=by rw [Dx,dif_pos h,Ax hi]
theorem Ki:∀(n:Nat) (l:List Bs) (i:Nat),l.length<=n->∀x∈Dx l i,x.length=32
 |n,l,i,hn,x,hx=>by
  rcases FA l.length 2 with h|h
  · rw [Jp A0]at hx;simp at hx
  · have g:=He h
    have h2:=GZ l.length
    match n,hn with
    |0,hn=>omega
    |n+1,hn=>
    by_cases hi:i<Bw l.length
    · rw [GR h hi]at hx
      rcases GS.1 hx with hx|hx
      · exact Ki n _ i (by rw [CI];omega) x hx
      · rw [HA]at hx
        rw [hx];exact FP _
    · rw [Fg h hi]at hx
      rcases GS.1 hx with hx|hx
      · exact Ki n _ _ (by rw [D4];omega) x hx
      · rw [HA]at hx
        rw [hx];exact FP _
theorem DU.take{p:C1}(h:DU M (.slice p ls.length cap) ls)(n:Nat)(hn:n<=ls.length):DU M (.slice p n cap) (ls.take n):=by
 obtain ⟨G,m,e,E,y⟩:=h;injection e with e1 e2 e3
 subst e1 e3;have g:(ls.take n).length=n:=by rw [CI];omega
 refine ⟨p,cap,by rw [g],by rw [g];omega,fun i z hz=>y i z ?_⟩;rw [I3]at hz;split at hz;· exact hz
 · cases hz
theorem DU.drop{E g:Nat}(h:DU M (.slice (some ⟨E,g,none⟩) ls.length cap) ls)(n:Nat)(hn:n<ls.length):DU M (.slice (some ⟨E,g+n,none⟩) (ls.length -n) (cap -n)) (ls.drop n):=by
 obtain ⟨p',K,e,hl,X⟩:=h;injection e with e1 y e3
 subst e1 e3;refine ⟨_,_,by rw [D4],by rw [D4];omega,fun i z hz=>?_⟩;rw [Ly]at hz;obtain ⟨Z,O,m,U,J,y,I,G⟩:=X (n+i) z hz;injection y with y;injection y with e3 e4
 subst e3 e4;exact ⟨E,g+n,m,U,J,rfl,I,by rw [cF];exact G⟩
theorem lS{w:AD}{g:Nat}{z:Nat×Nat}(enc:Bs->A3){zs:List Bs}(G:w.heap[g]?=some (.cells cur e z))(J:zs.length<=cur.size)(y:M6 z cur.size)(K:cur.toList.take zs.length=zs.map enc):Go.Sort.Holds enc w g 0 zs.toArray:=by
 intro j I;have m:j<zs.length:=by simpa using I
 have O:=y j A0;have E:(cur.toList.take zs.length)[j]?=(zs.map enc)[j]?:=by rw [K]
 rw [oE m]at E;refine ⟨?_,?_⟩
 · simp only [World.cell?,G,Dd]
   simp only [Option.isSome_none,PC,LN];rw [<-Kf,E];simp [m]
 · simp only [World.frozen?,G,Dd]
   simp;omega
theorem X3(enc:Bs->A3)(cur:As)(g:List Bs)(h:g.length<=cur.size):(Go.Sort.putCells enc 0 g.toArray cur).toList.take g.length=g.map enc:=by
 apply S8;intro j;rw [I3];by_cases m:j<g.length
 · rw [B2 m,Kf]
   unfold Go.Sort.putCells;rw [Array.getElem?_mapIdx,KK A0];simp [m]
 · rw [Ax m,RC Of]
theorem Sat.sorted_enc{u w:AD}{g:Nat}{z:Nat×Nat}{R:Hp}(enc:Bs->A3)(d:Array Bs)(h:Sat u ([(g,.cells cur e z)]::R) w):Sat u ([(g,.cells (Go.Sort.putCells enc 0 d cur) e z)]::R) (Go.Sort.putRow enc (Go.Sort.ahead w n) g 0 d):=by
 have m:=h.get (g,.cells cur e z) C4;refine h.upd (.here _) V rfl V ?_ fun k y=>?_;· simp [Go.Sort.putRow,Go.Sort.mapBlock,Go.Sort.ahead,T5,m,Go.Sort.onCells]
 · have:g≠k:=fun e=>y e.symm
   simp [Go.Sort.putRow,Go.Sort.mapBlock,Go.Sort.ahead,T5,this]
theorem Wm(h:BS 1 9 v ls.length (ls.map EF) s)(hn:ls.length<=1000000000000):CJ prog 144 #[v] [s] (fun r H'=>r= .tuple #[]/\∃O,BS 1 9 v ls.length (ls.reverse.map EF) O/\H'=[O]):=by
 obtain ⟨K,⟨rfl,h0,rfl⟩|⟨g,cap,cur,z,rfl,rfl,J,I,m,E,y⟩⟩:=h
 · intro u R w G
   have e:ls=[]:=N3 h0;subst e;exact (Tryz.slices_Reverse_string_empty none 0 w).mono (by
    rintro e Z ⟨rfl,rfl⟩;exact .inl ⟨_,_,V,⟨V,[],BX 1 _,V⟩,G⟩)
 · intro u R w G
   rw [MA]at m E;have X:=G.get (g,.cells cur 9 z) C4
   have U:=lS (w:=w) (g:=g) (e:=9) (z:=z) EF (zs:=ls) X A0 y E;refine (Tryz.slices_Reverse_string g 0 cap ls w U A0).mono ?_;rintro e Z ⟨rfl,n,rfl⟩;refine .inl ⟨_,_,V,⟨V,_,⟨by simp,.inr ⟨g,cap,_,z,V,V,J,I,?_,?_,?_⟩⟩,V⟩,Sat.sorted_enc (n:=n) EF ls.reverse.toArray G⟩;· rw [MA];simp [Go.Sort.putCells,m]
   · rw [MA]
     have:=X3 EF cur ls.reverse (by rw [eR];omega);rw [eR]at this;exact this
   · simpa [Go.Sort.putCells]using y
theorem Vn(n:Nat)(g:2<=n)(h2:n<=1000000000000):BB prog 143 #[I4 (n:Int)] [] (I4 ((Bw n:Nat):Int)):=by
 have y:=l6 n g h2;have z:=He g
 unfold Bw at z;have E:(n -1).log2<64:=(Nat.log2_lt A0).2 A0
 refine Se func143 ntmps143 [0] ?_;intro u R;refine A2<|AF Y<|B7 Y<|BN (C8 (n:=1) Y Y (by first|omega|(rw [S5];omega)) (by first|omega|(rw [S5];omega)))<|BN (K7 Ge km Y (by first|omega|(rw [S5];omega)))<|Xr [_] Y call185 Y rfl (Nz (H:=[]) (Rl:=fun v=>v=I4 ((Lib.bitLen (n -1):Nat):Int)) (fun w _=>(Tryz.bits_Len ((n -1:Nat):Int) w A0 A0).mono (by rintro e G ⟨rfl,rfl⟩;exact ⟨_,rfl,by rw [S1],Below.refl _ _⟩)) (fun v h=>⟨h,rfl⟩)) ?_;rw [y];refine BN (C8 (n:=1) Y Y (by first|omega|(rw [S5];omega)) (by first|omega|(rw [S5];omega)))<|BN (UI (m:=1) Y Y A0 (by first|omega|(rw [S5];omega)))<|AM Y<|AO rfl results143 Y (by exact ⟨by rw [S5,en];rfl,rfl⟩)
theorem dJ(hv:DU M v ls)(hn:ls.length<=1000000)(hs:∀s∈ls,s.length<=140737488354000)(i:Nat)(hi:i<ls.length)(Tg:An)(zg:Nat×Nat):
 CJ prog 88 #[v,I4 (i:Int)] [[(1,.cells (Dj.map CP).toArray Tg zg)],M] (fun r H'=>∃vp sp,r= .tuple #[vp,I4 0]/\BS 1 9 vp (Dx ls i).length ((Dx ls i).map EF) sp/\H'=[sp,[(1,.cells (Dj.map CP).toArray Tg zg)],M]):=by
 have kz:=mL;obtain ⟨p,cap,rfl,hl,hg⟩:=id hv;refine Se func88 ntmps88 [0,1] ?_;intro u R;refine A2<|Za Y<|AF Y<|aa ?_;refine C0 Y<|Zv (Ak (n:=0) Y Y)<|Zm Y<|AZ (t:=12) Y V (fun h1=>by omega)<|fun h1=>Sk 2 V<|Yg (AJ DB Y)<|Yg (El Y Y)<|H3 Y Y<|A6<|Ad Y (fun h2=>by omega)<|fun h2=>AB<|BT<|CT Y<|ag<|Zx<|Zq<|AQ<|Bi<|Zb [0,1,6] ?_;refine Av (e0:=[(0,_),(1,_),(6,_)]) (fun m e H=>∃(g:List Bs) (U:Nat) (p2:C1) (z:Nat) (o:List Bs) (vo:A3) (so:List AR),m=0+g.length/\(DU M (.slice p2 g.length z) g/\U<g.length/\(∀s∈g,s.length<=140737488354000)/\Dx ls i=Dx g U++o.reverse/\BS 1 9 vo o.length (o.map EF) so/\o.length+g.length<=ls.length)/\e=[(0,.slice p2 g.length z),(1,I4 (U:Int)),(6,vo)]/\H=[so]) (by exact ⟨ls,i,p,cap,[],.slice none 0 0,[],V,⟨hv,hi,hs,by simp,BX 1 _,by simp⟩,V,V⟩) Wp ?_;rintro _ _ _ ⟨g,U,p2,z,o,vo,so,rfl,⟨O,gm,J,E,I,l8⟩,rfl,rfl⟩;obtain ⟨qo,co,rfl⟩:=I.form;refine AQ<|C0 Y<|Zv (AJ DB Y)<|Zv (Bg (n:=1) Y Y)<|A6<|Ad Y (fun h1=>?_) (fun h1=>?_);·
  rw [Jp (l:=g) A0,ON]at E;refine Az<|Zt<|Ba V<|Zt<|AU<|Zx<|B7 Y<|Zc [_] Y call144 Y V (Wm I A0) ?_;rintro _ _ ⟨_,⟨rfl,bn,X,rfl⟩,rfl⟩;refine A6<|A2<|Sk 2 V<|AM Y<|Lj ?_;refine Cn rfl results88 Y Y (by exact ⟨_,bn,rfl,BJ X (by rw [E,eR]) (by rw [E]),rfl⟩)
 have h9:2<=g.length:=by omega
 have bf:=He h9;have gq:=GZ g.length
 have y:(g.take (Bw g.length)).length=Bw g.length:=by rw [CI];omega
 obtain ⟨p8,cu,e8,gy,ax⟩:=id O;injection e8 with e81 e82 e83
 subst e81 e83;obtain ⟨g8,d9,cO,T8,l9,rfl,kv,ek⟩:=ax 0 _ (Bk A0);have af:=O.take (Bw g.length) A0
 have Z:=O.drop (Bw g.length) bf;refine B3<|B7 Y<|Zv (AJ DB Y)<|Xr [_] Y call143 Y V (Vn g.length h9 A0) ?_;refine CT Y<|Au (n:=8) (0::0::3::0::0::24::7::127::[]) 0 AG AG V<|A1 0 V (AA Y)<|A1 1 V (AA Y)<|A1 2 V (Bb DB F2 Y Y A0)<|A1 3 V (AA Y)<|A1 4 V (AA Y) ?_
 (refine Dr (D':=63) 5 (FJ DB F2 Y Y ?_ ?_) ?_;(focus (omega));(focus (omega)))
 refine A1 6 V (Aq Y)<|A1 7 V (Aq Y)<|Am<|Zn [1,6,7,8,9] ?_;refine Zx<|Zq<|A2<|Sk 2 V<|Zv (El Y Y)<|A6<|Ad Y (fun K=>?_) (fun K=>?_);·
  have K:¬U<Bw g.length:=by omega
  refine Zg<|Sk 4 rfl<|Yb Y Y<|Sk 2 rfl<|AF Y<|A2<|Sk 2 rfl<|Xr [_] Y call122 Y rfl (Kr af (by rw [y];omega) (fun s h=>J s (Ks h)) Tg zg) ?_;refine Ze (Ah (vs:=[_]) (cs:=[_]) DB F2 N1 Y V rfl V rfl V)<|AE fun b1=>Ze (Dw (by_:=16) (sz:=1) (news:=[_]) DB (V:Tryz.prog.info? 9=some Tryz.t9) V rfl V rfl Y I Y Wo Wh B5 V HH AH A0 A0) ?_;rintro _ _ ⟨sw,G,rfl⟩;obtain ⟨gw,cw,rfl⟩:=G.form;refine AN Y<|Zn [1,6,8] ?_;refine Zx<|Zg<|Zm Y<|AN Y<|A8<|DH (e:=[(0,_),(1,_),(6,_)]) (h:=by exact ⟨g.drop (Bw g.length),U -Bw g.length,_,_,o++[DW (g.take (Bw g.length))],_,_,(by rw [D4]),⟨(by rw [D4];exact Z),by rw [D4];omega,fun s h=>J s (Lo h),by rw [E,Fg h9 K,cA,G0];rfl,BJ G C4 (by simp;rfl),by rw [C7,D4];simp;omega⟩,(by rw [D4]),rfl⟩)
 refine AB<|BT<|Sk 2 rfl<|Xr [_] Y call122 Y rfl (Kr Z (by rw [D4];omega) (fun s h=>J s (Lo h)) Tg zg) ?_;refine Ze (Ah (vs:=[_]) (cs:=[_]) DB F2 N1 Y V rfl V rfl V)<|AE fun b3=>Ze (Dw (by_:=16) (sz:=1) (news:=[_]) DB (V:Tryz.prog.info? 9=some Tryz.t9) V rfl V rfl Y I Y Wo Wh B5 V HH AH A0 A0) ?_;rintro _ _ ⟨sw,G,rfl⟩;obtain ⟨gw,cw,rfl⟩:=G.form;refine AF Y<|Zg<|Zm Y<|AN Y<|A8<|DH (e:=[(0,_),(1,_),(6,_)]) (h:=by exact ⟨g.take (Bw g.length),U,_,_,o++[DW (g.drop (Bw g.length))],_,_,(by rw [y]),⟨(by rw [y];exact af),by rw [y];omega,fun s h=>J s (Ks h),by rw [E,GR h9 A0,cA,G0];rfl,BJ G C4 (by simp;rfl),by rw [C7,y];simp;omega⟩,(by rw [y]),rfl⟩)
end Go.Proofs.YtljkoipiekbijaaGreatDoor
