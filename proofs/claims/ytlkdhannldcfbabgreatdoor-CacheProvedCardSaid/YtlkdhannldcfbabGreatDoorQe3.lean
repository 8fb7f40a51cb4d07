/- The store: At. -/
import Derived.Test.YtlkdhannldcfbabGreatDoorKs2
import Derived.WalkSpells
import Derived.Shelf.SlSortCmp.NoneTotal
import Derived.Test.YtlkdhannldcfbabGreatDoorEx30
set_option linter.unusedVariables false
set_option linter.unusedSimpArgs false
namespace Go.Proofs.YtlkdhannldcfbabGreatDoor
open Go.Proofs.Tryz
open Go Go.RowKit Gw
set_option maxRecDepth 100000
attribute [local irreducible] Gw.At Gw.Nx Gw.Ops
theorem yS(q:BE)(cap:Nat)(l:List BF)(M:List A8)(af:Dx M (.slice q l.length cap) l)(G:EY l)(hl:l.length<=1000000)(k:Nat)(hk:k<=l.length):
 BS prog 14 #[.slice q l.length cap,I4 (k:Int)] [M] (fun r H'=>∃J mb es ck lm,r= .tuple #[I5 J,I4 0]/\Co K2 es ck lm/\Hw lm (BQ (l.take k))/\H'=[[(J,.cells #[.map (some mb),I4 (k:Int)] 100 (0,0))],[(mb,.map es ck)],M]):=by
 have gQ:=mL;obtain ⟨p9,gq,e9,⟨ic,gy⟩,hg⟩:=id af;injection e9 with e91 e92 e93
 subst e91 e93;refine Se func14 ntmps14 [0,1] ?_;intro u R;refine A3<|Za Y<|AH Y<|B8 Y<|Zv (Ap (n:=0) Y Y)<|Zm Y<|Af (t:=11) Y V (fun h1=>?_) (fun h1=>?_);·
  exfalso;(cases h1;done)
 refine Zf Y Y<|Zf Y Y<|Yg (AR G2 Y)<|Yg (DX Y Y)<|B9 Y Y<|A4<|Ak Y (fun h2=>by omega)<|fun h2=>AC<|C6<|Zc [] Y call8 Y V (uK) ?_;rintro _ _ ⟨_,⟨J,mb,rfl,rfl⟩,rfl⟩;refine AH Y<|B8 Y<|Zm Y<|BX (Bn G2 E0 Y Y A0)<|Zv (AR G2 Y)<|Zm Y<|Z0<|Zn [6,20,21,22] ?_;refine Zx<|AQ<|Zb [22,6,20,21] ?_;refine Aw (e0:=[(22,_)]) (fun m e H=>∃(i:Nat) (es:Array MapEntry) (ck:Nat) (lm:List ((Int×Int)×A2)),m=k -i/\(i<=k/\Co K2 es ck lm/\Hw lm (BQ (l.take i)))/\e=[(22,I4 (i:Int))]/\H=[[(J,.cells #[.map (some mb),I4 (i:Int)] 100 (0,0))],[(mb,.map es ck)]]) (by exact ⟨0,#[],0,[],rfl,⟨CM _,EU _,by rw [JT];exact bG⟩,rfl,rfl⟩) Wp ?_;rintro _ _ _ ⟨i,es,ck,lm,rfl,⟨hi,hm,hR⟩,rfl,rfl⟩;refine A3<|Zv (Ap Y Y)<|A4<|Zq<|Ak Y (fun cu=>?_) (fun cu=>?_);·
  obtain ⟨r,hr⟩:∃r,l[i]?=some r:=⟨_,BT A0⟩;obtain ⟨U,g,off,cur,T,zz,rfl,d9,j3,ax⟩:=hg i r hr;obtain ⟨hA,h3⟩:=G i r hr;have ek:=hA.pos
  obtain ⟨gm,bn⟩:=G.rows i A0;refine B3<|Zq<|AQ<|A3<|BX (AZ G2 E0 Y Y A0)<|Bu (cs:=[(g,.cells cur T zz)]) (by simp [d9]) (A9 (cs:=#[_,_]) HN E0 Y A0 ax) V rfl<|Ze (Al N2 #[_,_])<|AF fun rb=>Xe (Xw E0 #[I4 r.p,.slice r.q r.cs.length r.cap])<|A4<|AK Y<|Zo Wh (A9 (cs:=#[_,_]) HN E0 Y B5 B1)<|Zc [_,_] Y call41 Y V (A13 J mb (i:Int) r.p es ck lm (BQ (l.take i)) M r.q r.cap r.cs hm hR U gm bn hA) ?_;rintro _ _ ⟨_,⟨rfl,O,K,I,cO,X,rfl⟩,rfl⟩;have Z:Hw I (BQ (l.take (i+1))):=by rw [S1,hr];show Hw I (BQ (l.take i++[r]));rw [Gt];exact X
  rw [show r.p=((i+1:Nat):Int) by rw [ek];rfl];refine Zv (Cm (n:=0) Y Y)<|A4<|Ak Y (fun h4=>?_) (fun h4=>?_);·
   exfalso;exact h4 rfl
  refine AC<|AA<|Zx<|Dg Y Y Y<|HJ (by exact ⟨i+1,O,K,I,V,⟨by omega,cO,Z⟩,V,V⟩)
 have ei:i=k:=by omega
 subst ei;refine BA<|Zt<|Zt<|AX<|Zx<|AK Y<|Za Y<|An Y<|DR V results14 Y Y (by exact ⟨J,mb,es,ck,lm,V,hm,hR,V⟩)
def Dq(r:AV)(c:Nat):Int:=if c=0 then r.k else if c=1 then r.v.a else if c=2 then r.v.b else r.v.c
def iH(c:Nat)(out:List AV)(v:Int):Nat:=(out.reverse.dropWhile (fun r=>decide (v<Dq r c))).length
def dA(c:Nat)(out:List AV)(x:AV):List AV:=out.take (iH c out (Dq x c))++[x]++out.drop (iH c out (Dq x c))
def inR(t:Int)(c:Nat)(lo hi:Int)(r:AV):Bool:=decide (r.t=t/\lo<=Dq r c/\Dq r c<=hi)
def Dw(rs:List AV)(t:Int)(c:Nat)(lo hi:Int):List AV:=(rs.filter (inR t c lo hi)).foldl (dA c) []
end Go.Proofs.YtlkdhannldcfbabGreatDoor
namespace Go.Proofs.YtlkdhannldcfbabGreatDoor
open Go.Proofs.Tryz
open Go Go.RowKit Gw
set_option maxRecDepth 100000
attribute [local irreducible] Gw.At Gw.Nx Gw.Ops
open Go.Sort
def Bj(r:AV)(c:Int):Int:=if c=0 then r.k else if c=1 then r.v.a else if c=2 then r.v.b else if c=3 then r.v.c else 0
set_option maxHeartbeats 1000000 in
theorem Jo(r:AV)(c:Int)(hc:0<=c/\c<=3)(W:A5):Calls prog 172 #[.agg r.BM4,I4 c] W fun e g=>e= .returned (I4 (Bj r c))/\∃(q:Nat) (o:Obj),g=grow (W.drewN q) #[o]:=by
 obtain ⟨t,k,⟨m,G,I⟩⟩:=r;rcases (by omega:c=0\/c=1\/c=2\/c=3)with rfl|rfl|rfl|rfl
 all_goals
  go_enter func172,ntmps172
  go_wp2
  go_ret
  exact ⟨rfl,0,_,by rw [alloc_eq_grow];rfl⟩
def orL(x y:Int):Int:=if x=0 then y else x
theorem A54(b:Nat)(x y:Int)(W:A5)(h0:W.cell? ⟨b,0,none⟩=some (I4 x))(I:W.cell? ⟨b,1,none⟩=some (I4 y)):Calls prog 247 #[I6 b 2 2] W fun e G=>e= .returned (I4 (orL x y))/\G=W:=by
 generalize hz:orL x y=z;have g:=Lib.hid hz
 clear hz
 go_enter func247,ntmps247
 go_wp2
 go_loop [5,8] (fun _ i=>∃(j:Nat),i=I4 j/\(j=0\/(j=1/\x=0)\/(j=2/\x=0/\y=0))) (fun _ i=>2 -(intOf i).toNat)
 case atStart=>exact ⟨0,rfl,.inl rfl⟩
 case round=>
  obtain ⟨j,rfl,m⟩:=hrel;rcases m with rfl|⟨rfl,hx⟩|⟨rfl,hx,hy⟩
  · by_cases hx:x=0
    · subst hx
      go_wp2
      go_round
      case rel=>exact ⟨1,by go_num,by simp⟩
      case measure=>simp [intOf]
    · go_wp2
      go_ret
      exact ⟨by rw [<-g.out];unfold orL;rw [As hx];rfl,rfl⟩
  · subst hx
    by_cases hy:y=0
    · subst hy
      go_wp2
      go_round
      case rel=>exact ⟨2,by go_num,by simp⟩
      case measure=>simp [intOf]
    · go_wp2
      go_ret
      exact ⟨by rw [<-g.out];unfold orL;rw [Ax rfl];rfl,rfl⟩
  · subst hx hy
    go_wp2
    go_ret
    exact ⟨by rw [<-g.out];rfl,rfl⟩
theorem TM{u w:A5}{H:Hp}(h:Sat u H w)(q:Nat)(os:Array Obj):Sat u H (grow (w.drewN q) os):=by
 refine ⟨h.os,h.tape,h.output,h.nodup,fun p m=>?_⟩;have g:=h.lt m
 show(w.heap++os)[p.1]?=_;rw [fp g];exact h.get p m
theorem M5(r:AV)(c:Nat)(hc:c<=3):Bj r (c:Int)=Dq r c:=by
 rcases (by omega:c=0\/c=1\/c=2\/c=3)with rfl|rfl|rfl|rfl<;>rfl
theorem PX(r:AV)(c:Nat)(hc:c<=3):Au prog 172 #[.agg r.BM4,I4 (c:Int)] [] (I4 (Dq r c)):=fun u R w g=>
 (Jo r (c:Int) A0 w).mono (by
   rintro e m ⟨rfl,q,o,rfl⟩;exact .inl ⟨_,[],rfl,⟨by rw [M5 r c hc],rfl⟩,TM g q _⟩)
theorem A31(r:AV)(t:Int)(c:Nat)(lo hi:Int)(hc:c<=3)(g m G I:Nat):Au prog 178 #[.agg r.BM4,I5 g,I5 m,I5 G,I5 I] [[(g,.cells #[I4 (c:Int)] 3 (0,0))],[(m,.cells #[I4 t] 3 (0,0))],[(G,.cells #[I4 lo] 3 (0,0))],[(I,.cells #[I4 hi] 3 (0,0))]] (.bool (inR t c lo hi r)):=by
 refine Se func178 ntmps178 [0,1,2,3,4] ?_;intro u R;refine A3<|Ze (Bx #[_,_,_,_,_])<|AF fun g=>AH Y<|A3<|Zo Wh (Pa #[_,_,_,_,_] DM B6 Y)<|Zl AE Y<|Xr [_,_] Y Up Y V (PX r c hc)<|AH Y<|A3<|Zh 0 HC V rfl A6 Y<|Zl AE Y<|Zl AE Y<|Zv (CO Y Y)<|Zm Y<|Af (t:=15) Y V (fun J=>?_) (fun J=>?_);focus
  refine Zf Y Y<|Yl AE Y<|Yg (Ga Y Y)<|C1 Y Y<|Zm Y<|Af (t:=20) Y V (fun h2=>?_) (fun h2=>?_);focus
   refine Zf Y Y<|Yl AE Y<|Yg (Md Y Y)<|Zv (AU Y Y) ?_
  rotate_left
  refine AG<|C4<|B9 Y Y<|B2 Y<|Zn [6] ?_;refine Zx<|AL<|AO V results178 Y (by exact ⟨by unfold inR;(congr 1;simp;omega),V⟩)
 rotate_left
 focus
  refine AG<|C4<|B9 Y Y<|Zm Y<|AG<|C4<|Zv (AJ Y Y) ?_
 all_goals
  refine B2 Y<|Zn [6] ?_;refine Zx<|AL<|AO V results178 Y (by exact ⟨by unfold inR;(simp_all;done),V⟩)
end Go.Proofs.YtlkdhannldcfbabGreatDoor
namespace Go.Proofs.YtlkdhannldcfbabGreatDoor
open Go.Proofs.Tryz
open Go Go.RowKit Gw
set_option maxRecDepth 100000
attribute [local irreducible] Gw.At Gw.Nx Gw.Ops
theorem FE:∀(n:Nat) (js:List Nat),js.Nodup->(∀j∈js,j<n)->js.length<=n
 |0,js,_,h=>by
  cases js with
  |nil=>simp
  |cons a l=>exact absurd (h a B7) (iS _)
 |n+1,js,hn,h=>by
  by_cases G:n∈js
  · have m:=FE n (js.erase n) (hn.erase n) (fun j g=>by
     have h2:=(hn.mem_erase_iff).1 g;have I:=h j h2.2
     have J:=h2.1;omega)
    rw [rS G]at m;omega
  · have m:=FE n js hn (fun j g=>by
     have I:=h j g;have J:j≠n:=fun e=>G (e▸g)
     omega)
    omega
def Jw(r:AV):(Int×Int)×A2:=((r.t,r.k),TW r)
theorem NR{a b:AV}(h:Jw a=Jw b):a=b:=aK (Prod.mk.inj h).2
theorem iJ{a b:List AV}(G:(a.map Jw).Nodup)(h:(a.map Jw).Perm (b.map Jw)):a.Perm b:=by
 have I:∀{l:List AV},(l.map Jw).Nodup->l.Nodup:=fun{l} hl=>by
  rw [cT,X1]at hl;rw [cT];exact hl.imp (fun m e=>m (by rw [e]))
 rw [T7 (I G) (I (h.nodup G))];intro x;have g:=h.mem_iff (a:=Jw x)
 rw [CI,CI]at g;constructor
 · intro hx
   obtain ⟨y,hy,e⟩:=g.1 ⟨x,hx,rfl⟩;rwa [NR e]at hy
 · intro hx
   obtain ⟨y,hy,e⟩:=g.2 ⟨x,hx,rfl⟩;rwa [NR e]at hy
variable{rs:List AV}
theorem Hw.perm{es:Array MapEntry}{ck:Nat}{l:List ((Int×Int)×A2)}(I:Co K2 es ck l)(h:Hw l rs)(J:BM rs):l.Perm (rs.map Jw):=by
 have G:l.Nodup:=by
  have:=I.keys;rw [cT,X1]at this;rw [cT];exact this.imp (fun g e=>g (by rw [e]))
 have h2:(rs.map Jw).Nodup:=by
  rw [cT,X1];refine J.imp (fun{a b} hab e=>?_);have e2:=NR e
  subst e2;unfold AV.lt2 at hab;omega
 rw [T7 G h2];intro p;rw [h.mem p,CI];constructor;· rintro ⟨r,m,rfl⟩;exact ⟨r,m,rfl⟩
 · rintro ⟨r,m,rfl⟩;exact ⟨r,m,rfl⟩
structure Z5(lm:List ((Int×Int)×A2))(f:AV->Bool)(js:List Nat)(o:List AV):Prop where
 rows:∃rl:List AV,rl.map Jw=DU lm js/\o=rl.filter f
theorem A17(lm:List ((Int×Int)×A2))(f:AV->Bool):Z5 lm f [] []:=⟨[],rfl,rfl⟩
theorem Z5.push{lm:List ((Int×Int)×A2)}{rs:List AV}{f:AV->Bool}{js:List Nat}{o:List AV}(h:Z5 lm f js o){j:Nat}{r:AV}(m:lm[j]?=some (Jw r)):Z5 lm f (js++[j]) (o++(if f r then [r]else [])):=by
 obtain ⟨rl,g,h2⟩:=h.rows;refine ⟨rl++[r],by rw [CN,g,GK lm js m];rfl,?_⟩;rw [L7,<-h2];cases hf:f r<;>simp [hf]
theorem Z5.done{es:Array MapEntry}{ck:Nat}{lm:List ((Int×Int)×A2)}(K:Co K2 es ck lm)(J:Hw lm rs)(m:BM rs){f:AV->Bool}{js:List Nat}{o:List AV}(h:Z5 lm f js o)(O:(DU lm js).Perm lm):o.Perm (rs.filter f):=by
 obtain ⟨rl,G,rfl⟩:=h.rows;have h2:=J.perm K m
 have g:(rl.map Jw).Perm (rs.map Jw):=by rw [G];exact O.trans h2
 have I:(rs.map Jw).Nodup:=by
  rw [cT,X1];refine m.imp (fun{a b} hab e=>?_);have e2:=NR e
  subst e2;unfold AV.lt2 at hab;omega
 exact (iJ (g.symm.nodup I) g).filter f
def leV(c:Nat)(a b:AV):Prop:=Dq a c<Dq b c\/Dq a c=Dq b c/\a.k<=b.k
def yx:Prop:=∀(cb c:Nat) (w:A2) (o:List AV) (s:List A8),c<=3->o.length<=2000->BU 5 83 w o.length (Ae o) s->
    BS prog 245 #[w,.func (.func 246) #[] #[I5 cb]] [s,[(cb,.cells #[I4 (c:Int)] 3 (0,0))]]
     (fun r H'=>r= .tuple #[]/\∃(s':List A8) (o':List AV),o'.Perm o/\o'.Pairwise (leV c)/\BU 5 83 w o'.length (Ae o') s'/\H'=[s',[(cb,.cells #[I4 (c:Int)] 3 (0,0))]])
theorem Yj(hS:yx)(sp mb:Nat)(p:Int)(es:Array MapEntry)(ck:Nat)(lm:List ((Int×Int)×A2))(rs:List AV)(hm:Co K2 es ck lm)(hR:Hw lm rs)(hs:BM rs)(hn:rs.length<=2000)(t:Int)(c:Nat)(lo hi:Int)(hc:c<=3)(b1 b2 b3 b4:Nat):
 BS prog 177 #[I5 sp,I4 (c:Int),.func (.func 178) #[] #[I5 b1,I5 b2,I5 b3,I5 b4]] [[(sp,.cells #[.map (some mb),I4 p] 100 (0,0))],[(mb,.map es ck)],[(b1,.cells #[I4 (c:Int)] 3 (0,0))],[(b2,.cells #[I4 t] 3 (0,0))],[(b3,.cells #[I4 lo] 3 (0,0))],[(b4,.cells #[I4 hi] 3 (0,0))]] (fun r H'=>∃(J:List A8) (o:List AV),BU 5 83 r o.length (Ae o) J/\o.Perm (rs.filter (inR t c lo hi))/\o.Pairwise (leV c)/\H'=[J,[(sp,.cells #[.map (some mb),I4 p] 100 (0,0))],[(mb,.map es ck)],[(b1,.cells #[I4 (c:Int)] 3 (0,0))],[(b2,.cells #[I4 t] 3 (0,0))],[(b3,.cells #[I4 lo] 3 (0,0))],[(b4,.cells #[I4 hi] 3 (0,0))]]):=by
 have kv:=mL;have j5:=hR.len hm hs
 refine Se func177 ntmps177 [0,1,2] ?_;intro u R;refine A3<|Ze (Bx #[_])<|AF fun cb=>AH Y<|B8 Y<|Zv (Bb mB Y Y)<|A4<|AY Y (fun h1=>by cases h1)<|fun h1=>AC<|C6<|AH Y<|B8 Y<|Zp Y V<|Zh 0 dc V rfl fj Y<|Zv (Ar (off:=0) dd V rfl sizeOf96 Y)<|Zl isAgg96 Y<|Ze (OC mA Y Wh)<|AF fun ib=>A4<|AQ<|Bc<|Zb [7,2,4,17] ?_;refine Aw (e0:=[(7,_)]) (fun m e H=>∃(js:List Nat) (seen:Array Nat) (o:List AV) (w:A2) (J:List A8),m=lm.length -js.length/\(J9 es js seen/\Z5 lm (inR t c lo hi) js o/\BU 5 83 w o.length (Ae o) J/\o.length<=js.length)/\e=[(7,w)]/\H=[[(ib,.mapIter (some mb) ck seen ck)],J]) (by exact ⟨[],#[],[],.slice none 0 0,[],V,⟨Kj _,A17 _ _,Bh 5 _,D0 _⟩,V,V⟩) Wp ?_;rintro _ _ _ ⟨js,seen,o,w,J,rfl,⟨U,cu,G,l5⟩,rfl,rfl⟩;obtain ⟨qo,gy,rfl⟩:=G.form;have cO:=FE es.size js U.nodup U.lt
 rw [hm.size]at cO;refine A3<|Ze (QO hm U Y Wo Wh) ?_;rintro _ _ d9;rcases d9 with⟨K,rfl,rfl⟩|⟨jn,pn,seen2,hpn,hjn,hi2,rfl,rfl⟩
 ·
  refine Zd Y V<|A4<|Zq<|AY Y (fun hb=>by cases hb)<|fun hb=>BA<|Zt<|Zt<|AX<|Zx<|AK Y<|Zv (Be (vs:=[]) (us:=[_]) Y Y)<|Zc [_,_] Y call245 Y V (hS cb c _ o J hc A0 G) ?_;rintro _ _ ⟨_,⟨rfl,gq,o2,ek,gm,bn,rfl⟩,rfl⟩;refine A4<|AK Y<|An Y<|AO V results177 Y (by exact ⟨gq,o2,bn,ek.trans (cu.done hm hR hs K),gm,V⟩)
 obtain ⟨r,hr,rfl⟩:=(hR.mem pn).1 (Ek hpn);refine Zd Y V<|A4<|Zq<|AY Y (fun hb=>?_) (fun hb=>?_);·
  have af:=FE es.size (js++[jn]) hi2.nodup hi2.lt;rw [hm.size,C0,GC]at af;have j3:(js++[jn]).length=js.length+1:=by rw [C0];rfl
  have g:=cu.push (r:=r) (rs:=rs) hpn;have Z:(inR t c lo hi) r=true->Z5 lm (inR t c lo hi) (js++[jn]) (o++[r]):=fun h=>by rw [h]at g;exact g
  have X:(inR t c lo hi) r=false->Z5 lm (inR t c lo hi) (js++[jn]) o:=fun h=>by rw [h]at g;simpa using g
  refine B3<|AQ<|A3<|Bu (cs:=[(ib,.mapIter (some mb) ck seen2 ck),(mb,.map es ck)]) B7 (JV hm hi2 hpn Y) V rfl<|Zd Y V<|Ze (Al Ft #[_,_,_,_,_])<|AF fun xb=>Xe (Xw B6 r.BM4)<|A4<|AK Y<|Zo Wh (Pa #[_,_,_,_,_] DM B6 Y)<|Xr [_] Y call178 Y V (A31 r t c lo hi hc b1 b2 b3 b4)<|A4<|AY Y (fun O=>?_) (fun O=>?_);·
   refine Zg<|Zm Y<|Zo Wh (Pa #[_,_,_,_,_] DM B6 Y)<|Ze (Ah (vs:=[_]) (cs:=[_,_,_,_,_]) C2 B6 Ft Y V rfl V rfl V)<|AF fun gb=>Ze (BP (by_:=40) (sz:=5) C2 (V:Tryz.prog.info? 83=some Tryz.t83) V rfl V rfl Y (G) Y (Cu 5 gb 1 1 83 (0,0) [I4 r.t,I4 r.k,I4 r.v.a,I4 r.v.b,I4 r.v.c] V) Wo Wo HO A0 A0) ?_;rintro _ _ ⟨l8,I,rfl⟩;have ax:=BZ I (n':=(o++[r]).length) (xs':=Ae (o++[r])) (by rw [C0];rfl) (by rw [Bt];rfl)
   obtain ⟨ic,gQ,rfl⟩:=I.form;refine B2 Y<|Zn [2,4,7,17] ?_;refine AA<|DG (e:=[(7,_)]) (h:=by exact ⟨js++[jn],seen2,o++[r],_,_,rfl,⟨hi2,Z O,ax,by rw [C0,C0];simp;omega⟩,rfl,rfl⟩)
  refine AC<|AA<|DG (e:=[(7,_)]) (h:=by exact ⟨js++[jn],seen2,o,_,J,rfl,⟨hi2,X O,G,by rw [C0];omega⟩,rfl,rfl⟩)
 cases hb
end Go.Proofs.YtlkdhannldcfbabGreatDoor
namespace Go.Proofs
open Go.Shelf
def Tryz.sortRow_ren:Go.Shelf.Ren:=⟨fun|6=>245|15=>117|14=>293|28=>202|29=>203|20=>318|21=>319|22=>320|23=>321|24=>322|25=>323|26=>324|27=>325|46=>349|47=>275|48=>276|49=>350|50=>351|57=>361|n=>n,fun|22=>58|24=>83|25=>383|3=>3|39=>173|0=>0|53=>253|55=>256|4=>4|46=>333|45=>332|50=>337|5=>5|9=>9|66=>398|70=>168|76=>431|77=>432|n=>n,fun|n=>n⟩
theorem Tryz.sortRow:Go.Proofs.SlLaysF0.n6 prog Tryz.sortRow_ren:={
 mixed:=by kernel_rfl
 f6:=⟨Tryz.f245.name,by decide,func245.trans (congrArg some AD)⟩
 f14:=⟨Tryz.f293.name,by decide,func293.trans (congrArg some AD)⟩
 f15:=func117.trans (congrArg some AD)
 f20:=⟨Tryz.f318.name,by decide,func318.trans (congrArg some AD)⟩
 f21:=⟨Tryz.f319.name,by decide,func319.trans (congrArg some AD)⟩
 f22:=⟨Tryz.f320.name,by decide,func320.trans (congrArg some AD)⟩
 f23:=⟨Tryz.f321.name,by decide,func321.trans (congrArg some AD)⟩
 f24:=⟨Tryz.f322.name,by decide,func322.trans (congrArg some AD)⟩
 f25:=⟨Tryz.f323.name,by decide,func323.trans (congrArg some AD)⟩
 f26:=⟨Tryz.f324.name,by decide,func324.trans (congrArg some AD)⟩
 f27:=⟨Tryz.f325.name,by decide,func325.trans (congrArg some AD)⟩
 f28:=func202.trans (congrArg some AD)
 f29:=func203.trans (congrArg some AD)
 f46:=⟨Tryz.f349.name,by decide,func349.trans (congrArg some AD)⟩
 f47:=func275.trans (congrArg some AD)
 f48:=func276.trans (congrArg some AD)
 f49:=⟨Tryz.f350.name,by decide,func350.trans (congrArg some AD)⟩
 f50:=⟨Tryz.f351.name,by decide,func351.trans (congrArg some AD)⟩
 f57:=⟨Tryz.f361.name,by decide,func361.trans (congrArg some AD)⟩
 t0:=du
 a0:=isAgg0
 z0:=eJ
 v0:=dy
 t3:=D3
 a3:=AE
 z3:=A6
 v3:=HT
 t4:=N6
 a4:=G0
 z4:=F1
 v4:=V1
 t5:=N0
 a5:=V0
 z5:=Ks
 v5:=RE
 t9:=GW
 a9:=H3
 z9:=FG
 v9:=I2
 t22:=C2
 a22:=GP
 z22:=E3
 v22:=zeroValue58
 t25:=underlying383
 a25:=isAgg383
 z25:=sizeOf383
 v25:=zeroValue383
 t39:=W7
 a39:=ff
 z39:=fW
 v39:=ep
 t45:=ov
 a45:=isAgg332
 z45:=sizeOf332
 v45:=pN
 t46:=ox
 a46:=isAgg333
 z46:=sizeOf333
 v46:=pP
 t50:=oe
 a50:=isAgg337
 z50:=sizeOf337
 v50:=pL
 t53:=Sp
 a53:=It
 z53:=HI
 v53:=er
 t55:=W8
 a55:=cI
 z55:=eA
 v55:=ew
 t66:=oy
 a66:=isAgg398
 z66:=sizeOf398
 v66:=pS
 t70:=p5
 a70:=isAgg168
 z70:=Z2
 v70:=ar
 t76:=p6
 a76:=isAgg431
 z76:=sizeOf431
 v76:=pT
 t77:=pA
 a77:=isAgg432
 z77:=sizeOf432
 v77:=pZ}
end Go.Proofs
namespace Go.Proofs.YtlkdhannldcfbabGreatDoor
open Go.Proofs.Tryz
open Go Go.RowKit Gw
set_option maxRecDepth 100000
attribute [local irreducible] Gw.At Gw.Nx Gw.Ops
open Go.Sort Go.Shelf
attribute [local go_sem] Gl.evalE Gl.lookE Gl.linUpon Gl.wantedE Gl.yieldE Gl.putE
def ru(c:Nat)(a b:AV):Int:=orL (Lib.compareInt (Bj a (c:Int)) (Bj b (c:Int))) (Lib.compareInt a.k b.k)
def Stg(W:A5)(n:Nat)(w:A5):Prop:=∃q os,os.size=n/\w=grow (W.drewN q) os
theorem uu(W:A5):Stg W 0 W:=⟨0,#[],rfl,by simp [World.drewN]⟩
variable{w W:A5}{n:Nat}
theorem A12(h:Stg W n w):Stg W n w.drew:=by
 obtain ⟨q,os,rfl,rfl⟩:=h;exact ⟨q+1,os,V,V⟩
theorem PQ(h:Stg W n w)(m:Nat)(g:Array Obj):Stg W (n+g.size) (grow (w.drewN m) g):=by
 obtain ⟨q,os,rfl,rfl⟩:=h;refine ⟨q+m,os++g,by simp,?_⟩;simp [grow,World.drewN,Array.append_assoc,lR]
theorem Ic{b:Nat}{o:Obj}(h:Stg W n w)(m:W.heap[b]?=some o):w.heap[b]?=some o:=by
 obtain ⟨q,os,rfl,rfl⟩:=h;have g:=(Iv.1 m).1
 show(W.heap++os)[b]?=_;rw [fp g];exact m
theorem A11(h:Stg W n w):w.heap.size=W.heap.size+n:=by
 obtain ⟨q,os,rfl,rfl⟩:=h;show(W.heap++os).size=_
 simp
theorem RD(w:A5)(o:Obj):(w.alloc o).heap[w.heap.size]?=some o:=by
 show(w.heap.push o)[w.heap.size]?=some o;exact Array.getElem?_push_size
theorem kT(w:A5)(o:Obj):(w.alloc o).heap.size=w.heap.size+1:=Array.size_push _
def zP:Nat->Nat
 |0=>0|1=>1|2=>2|3=>2|4=>2|5=>3|_=>3
def zw(W:A5)(T:Nat)(x y:Int)(k:Nat)(w:A5):Prop:=Stg W (zP k) w/\(5<=k->w.heap[W.heap.size+2]?=some (.cells #[I4 x,I4 y] T (0,0)))
set_option maxHeartbeats 2000000 in
theorem rf(a b:AV)(c:Nat)(hc:c<=3)(cb:Nat)(W:A5)(af:W.heap[cb]?=some (.cells #[I4 (c:Int)] 3 (0,0))):Calls prog 246 #[.agg a.BM4,.agg b.BM4,I5 cb] W fun e U=>e= .returned (I4 (ru c a b))/\∃q O,U=grow (W.drewN q) O:=by
 have bn:=(Iv.1 af).1
 go_enter func246,ntmps246
 go_wp2
 generalize hW2:(W.alloc _).alloc _=W2;have Z:Stg W 2 W2:=by
  rw [<-hW2,alloc_eq_grow,alloc_eq_grow,grow_grow];exact ⟨0,_,V,V⟩
 have ax:Stg (W.alloc (.cells a.BM4 83 (0,0))) 1 W2:=by
  rw [<-hW2,alloc_eq_grow _ (.cells b.BM4 83 (0,0))];exact ⟨0,_,V,V⟩
 have hA:=Ic ax (RD _ _);have hB:W2.heap[W.heap.size+1]?=some (.cells b.BM4 83 (0,0)):=by
  rw [<-hW2,<-kT W (.cells a.BM4 83 (0,0))];exact RD _ _
 have hC:=Ic Z af;refine Gl.wp_region_lin [false,false,true,false,false,true,true,false,false,false,false,true,true,true,false] (zw W2 3 (Lib.compareInt (Bj a (c:Int)) (Bj b (c:Int))) (Lib.compareInt a.k b.k)) 20 V AD AD ⟨A12 (uu W2),fun h=>absurd h B0⟩ ?_;intro fr J;have X:=Lib.hid J
 have e2:fr.tmps.getD 2 undef=I5 cb:=by rw [J];rfl
 have e3:fr.tmps.getD 3 undef= .pointer (some ⟨W.heap.size,0,none⟩):=by rw [J];rfl
 have e4:fr.tmps.getD 4 undef= .pointer (some ⟨W.heap.size+1,0,none⟩):=by rw [J];rfl
 clear J;apply Gl.wpLin_keep
 · intro j G g K m
   have I:=Ic g.1 hA;have c0:=Cq (i:=0) I rfl
   have c1:=Cq (i:=1) I rfl;have c2:=Cq (i:=2) I rfl
   have c3:=Cq (i:=3) I rfl;have c4:=Cq (i:=4) I rfl
   go_simp
   exact m _ g
 apply Gl.wpLin_keep
 · intro j G g K m
   have c0:=Cq (i:=0) (Ic g.1 hC) rfl
   go_simp
   exact m _ g
 apply Gl.wpLin_move
 · intro G g K m
   go_simp
   exact (Jo a (c:Int) A0 _).mono (by
    rintro e U ⟨rfl,q,o,rfl⟩;exact ⟨_,V,m _ ⟨PQ g.1 q #[o],fun h=>absurd h B0⟩⟩)
 apply Gl.wpLin_keep
 · intro j G g K m
   have I:=Ic g.1 hB;have c0:=Cq (i:=0) I rfl
   have c1:=Cq (i:=1) I rfl;have c2:=Cq (i:=2) I rfl
   have c3:=Cq (i:=3) I rfl;have c4:=Cq (i:=4) I rfl
   go_simp
   exact m _ g
 apply Gl.wpLin_keep
 · intro j G g K m
   have c0:=Cq (i:=0) (Ic g.1 hC) rfl
   go_simp
   exact m _ g
 apply Gl.wpLin_move
 · intro G g K m
   go_simp
   exact (Jo b (c:Int) A0 _).mono (by
    rintro e U ⟨rfl,q,o,rfl⟩;exact ⟨_,V,m _ ⟨PQ g.1 q #[o],fun h=>absurd h B0⟩⟩)
 apply Gl.wpLin_move
 · intro G g K m
   go_simp
   exact (Tryz.cmp_Compare_int _ _ _).mono (by
    rintro e U ⟨rfl,rfl⟩;exact ⟨_,V,m _ ⟨g.1,fun h=>absurd h B0⟩⟩)
 apply Gl.wpLin_keep
 · intro j G g K m
   go_simp
   exact m _ g
 apply Gl.wpLin_keep
 · intro j G g K m
   have c1:=Cq (i:=1) (Ic g.1 hA) rfl
   go_simp
   exact m _ g
 apply Gl.wpLin_keep
 · intro j G g K m
   go_simp
   exact m _ g
 apply Gl.wpLin_keep
 · intro j G g K m
   have c1:=Cq (i:=1) (Ic g.1 hB) rfl
   go_simp
   exact m _ g
 apply Gl.wpLin_move
 · intro G g K m
   go_simp
   exact (Tryz.cmp_Compare_int _ _ _).mono (by
    rintro e U ⟨rfl,rfl⟩;exact ⟨_,V,m _ ⟨g.1,fun h=>absurd h B0⟩⟩)
 apply Gl.wpLin_move (v:= .slice (some ⟨W2.heap.size+2,0,none⟩) 2 2)
 · intro G g K m
   have hz:=A11 g.1;change G.heap.size=W2.heap.size+2 at hz
   go_simp
   have h:=m _ ⟨PQ g.1 0 #[.cells #[I4 (Lib.compareInt (Bj a (c:Int)) (Bj b (c:Int))),I4 (Lib.compareInt a.k b.k)] 3 (0,0)],fun _=>?_⟩
   · rw [alloc_eq_grow]
     exact h
   · rw [<-hz]
     exact RD G _
 apply Gl.wpLin_move
 · intro G g K m
   have I:=g.2 B0
   go_simp
   exact (A54 _ _ _ _ (Cq (i:=0) I V) (Cq (i:=1) I V)).mono (by
    rintro e U ⟨rfl,rfl⟩;exact ⟨_,V,m _ ⟨g.1,fun _=>I⟩⟩)
 apply Gl.wpLin_keep
 · intro j G g K m
   go_simp
   exact m _ g
 apply Gl.wpLin_done;intro wz hz;rw [X.out];simp only [Gl.putE,Gl.putsE,Act.put,rL,List.set_cons_zero,List.set_cons_succ];obtain ⟨⟨q,os,-,rfl⟩,-⟩:=hz;clear X
 go_wp2
 go_ret
 obtain ⟨q',O,-,h⟩:=PQ Z q os;exact ⟨V,q',O,h⟩
end Go.Proofs.YtlkdhannldcfbabGreatDoor
namespace Go.Proofs.YtlkdhannldcfbabGreatDoor
open Go.Proofs.Tryz
open Go Go.RowKit Gw
set_option maxRecDepth 100000
attribute [local irreducible] Gw.At Gw.Nx Gw.Ops
open Go.Sort Go.Shelf
instance:Inhabited AV:=⟨⟨0,0,⟨0,0,0⟩⟩⟩
def Us(r:AV):List A2:=[I4 r.t,I4 r.k,I4 r.v.a,I4 r.v.b,I4 r.v.c]
theorem ltR(c:Nat)(a b:AV):ltOf (ru c) a b=decide (Bj a (c:Int)<Bj b (c:Int)\/Bj a (c:Int)=Bj b (c:Int)/\a.k<b.k):=by
 unfold ltOf ru orL Lib.compareInt;have g:=Int.lt_trichotomy (Bj a (c:Int)) (Bj b (c:Int))
 have h2:=Int.lt_trichotomy a.k b.k;generalize Bj a (c:Int)=x at*;generalize Bj b (c:Int)=y at*;apply decide_eq_decide.2;split<;>split<;>(try split)<;>(try split)<;>omega
theorem zN(c:Nat):SWO (ltOf (ru c))where
 irrefl x:=by rw [ltR];simp
 trans x y z h1 h2:=by rw [ltR]at*;simp only [HA]at*;omega
 ntrans x y z h1 h2:=by rw [ltR]at*;simp only [Q1]at*;omega
theorem uw:yx:=by
 intro I c w o s hc hn ic;obtain ⟨j5,⟨rfl,h0,rfl⟩|⟨g,cap,cur,z,rfl,rfl,gq,d9,U,j3,bn⟩⟩:=ic
 · intro u R X O
   have ho:o=[]:=NX h0;subst ho;have hN:=AnyF.slices_SortFunc_none Tryz.sortRow none 0 (.func (.func 246) #[] #[I5 I]) X
   exact hN.mono (by
    rintro e w' ⟨rfl,rfl⟩;exact .inl ⟨_,_,V,⟨V,[],[],.refl _,.nil,Bh _ _,V⟩,O⟩)
 · intro u R X O
   have hb:=O.get (g,.cells cur 83 z) B7;have cO:=O.get (I,.cells #[I4 (c:Int)] 3 (0,0)) B7
   have gQ:g≠I:=by
    have:=O.nodup;simp at this;exact this.1.1
   have hH:=Ua (w:=X) (g:=g) (cur:=cur) (e:=83) (z:=z) Us 5 (fun _=>rfl) o hb (by rw [U];omega) bn j3;have eg:∀(args:AN) (w:A5),(callFunc 246 args).run prog w= .ok (.enter 246 args) w:=enters_of func246 AD rfl
   have af:CmpLays prog 246 #[I5 I] Us 5 (ru c) g 0 o.toArray.size X:=by
    intro m os dk kv x y;refine rf x y c hc I _ ?_;have gy:=O.lt (p:=(I,.cells #[I4 (c:Int)] 3 (0,0))) B7
    rw [QW Us 5 X g m I dk os gQ gy];exact cO
   have ax:=AnyQ.slices_SortFunc Tryz.sortRow 5 DM B6 Us (fun _=>rfl) (fun x v hv=>by simp [Us]at hv;rcases hv with rfl|rfl|rfl|rfl|rfl<;>rfl) (ru c) (zN c) 246 #[I5 I] g 0 cap o.toArray X eg af hH (O.lt (p:=(g,.cells cur 83 z)) B7) Kd;refine ax.mono ?_;rintro e w' ⟨rfl,G,n,os,⟨ek,-,hpm⟩,hso,rfl⟩;have J:G.size=o.length:=by simpa using ek
   have hF:(flatK Us 5 G).toList=Ae G.toList:=Od Us 5 (fun _=>rfl) G.toList;have Z:(flatK Us 5 G).size=o.length*5:=by rw [size_flatK,J]
   have K:G.toList.Perm o:=by
    have e1:G.extract 0 o.toArray.size=G:=by
     rw [show o.toArray.size=G.size by rw [J];simp];exact Array.extract_size
    rw [e1]at hpm;simpa using hpm
   have cu:G.toList.length=o.length:=K.length_eq;refine .inl ⟨_,[[(g,.cells (putCells id 0 (flatK Us 5 G) cur) 83 z)],[(I,.cells #[I4 (c:Int)] 3 (0,0))]],V,⟨V,_,G.toList,K,?_,?_,V⟩,O.sortedK Us G os⟩
   · rw [ft]
     intro i j hi hj gm;have h:=hso i j (CM _) gm Kd
     rw [ltR]at h;simp only [Q1]at h;rw [getElem!_pos G i (by simpa using hi),getElem!_pos G j (by simpa using hj)]at h;rw [M5 _ c hc,M5 _ c hc]at h;unfold leV;simp only [Array.getElem_toList];omega
   · rw [cu]
     refine ⟨by rw [BG,cu],.inr ⟨g,cap,_,z,rfl,rfl,gq,d9,by rw [NM];exact U,?_,by rw [NM];exact bn⟩⟩;have h:=WV cur (flatK Us 5 G) (by rw [Z,U];omega)
     rw [Z,hF]at h;exact h
end Go.Proofs.YtlkdhannldcfbabGreatDoor
namespace Go.Proofs.YtlkdhannldcfbabGreatDoor
open Go.Proofs.Tryz
open Go Go.RowKit Gw
set_option maxRecDepth 100000
attribute [local irreducible] Gw.At Gw.Nx Gw.Ops
theorem XF(c:Nat)(out:List AV)(x:AV):∃A B,out=A++B/\dA c out x=A++[x]++B/\(∀r∈B,Dq x c<Dq r c)/\(A=[]\/∃m r,A=m++[r]/\Dq r c<=Dq x c):=by
 let q:AV->Bool:=fun r=>decide (Dq x c<Dq r c)
 have e:out=(out.reverse.dropWhile q).reverse++(out.reverse.takeWhile q).reverse:=by
  rw [<-gS,List.takeWhile_append_dropWhile,List.reverse_reverse]
 have G:iH c out (Dq x c)=(out.reverse.dropWhile q).reverse.length:=by
  rw [kq];rfl
 refine ⟨(out.reverse.dropWhile q).reverse,(out.reverse.takeWhile q).reverse,e,?_,?_,?_⟩
 · unfold dA
   rw [G];generalize (out.reverse.dropWhile q).reverse=A at*;generalize (out.reverse.takeWhile q).reverse=B at*;subst e;rw [J1,cF];all_goals rfl
 · intro r g
   rw [gx]at g;have:=List.all_takeWhile (p:=q) (l:=out.reverse)
   rw [Pr]at this;simpa [q]using this r g
 · cases h:out.reverse.dropWhile q with
   |nil=>left;rfl
   |cons r l=>
    right;refine ⟨l.reverse,r,by simp,?_⟩;have:=List.head?_dropWhile_not q out.reverse
    rw [h]at this;simpa [q]using this
theorem XE(c:Nat)(out:List AV)(x:AV):(dA c out x).Perm (x::out):=by
 obtain ⟨A,B,e1,e2,_,_⟩:=XF c out x;rw [e2,e1,DH];exact To
theorem Uh(c:Nat):∀(l out:List AV),(l.foldl (dA c) out).Perm (out++l)
 |[],out=>by simp
 |x::l,out=>by
  rw [XS];refine (Uh c l _).trans ?_;refine ((XE c out x).append_right l).trans ?_;exact To.symm
variable{c:Nat}{x:AV}
theorem cZ{out:List AV}(h:out.Pairwise (leV c))(K:∀r∈out,r.k<x.k):(dA c out x).Pairwise (leV c):=by
 obtain ⟨A,B,e1,e2,X,U⟩:=XF c out x;rw [e2];rw [e1]at h K;rw [S6]at h;obtain ⟨G,h2,O⟩:=h;have I:∀r∈A,Dq r c<=Dq x c:=by
  rcases U with rfl|⟨A',r0,rfl,h0⟩
  · intro r g;simp at g
  · intro r g
    rcases CD.1 g with hr'|hr'
    · rw [S6]at G
      have:=G.2.2 r hr' r0 B7;unfold leV at this;omega
    · rw [CH]at hr'
      subst hr';exact h0
 rw [DH,S6];refine ⟨G,?_,?_⟩
 · rw [PJ,SD]
   exact ⟨fun r g=> .inl (X r g),h2⟩
 · intro a J b m
   rw [PJ,DS]at m;rcases m with rfl|m
   · have Z:=I a J
     have h5:=K a (G1 _ J);unfold leV;omega
   · exact O a J b m
theorem Q0(c:Nat):∀(l out:List AV),out.Pairwise (leV c)->l.Pairwise (fun a b=>a.k<b.k)->(∀r∈out,∀x∈l,r.k<x.k)->(l.foldl (dA c) out).Pairwise (leV c)
 |[],out,h,_,_=>h
 |x::l,out,h,h2,h3=>by
  rw [XS];rw [SD]at h2;refine Q0 c l _ (cZ h fun r g=>h3 r g x B7) h2.2 ?_;intro r g y hy;have:=(XE c out x).mem_iff.1 g
  rcases DS.1 this with rfl|hm
  · exact h2.1 y hy
  · exact h3 r hm y (by simp [hy])
variable{rs:List AV}{t:Int}{f:AV->Bool}
theorem Qv(K:BM rs)(m:∀r,f r=true->r.t=t):(rs.filter f).Pairwise (fun a b=>a.k<b.k):=by
 have G:(rs.filter f).Pairwise (fun a b=>a.lt2 b.t b.k):=K.filter f;refine G.imp_of_mem ?_;intro a b I J g;have h2:=m a (GF.1 I).2
 have O:=m b (GF.1 J).2;unfold AV.lt2 at g;omega
theorem A76{l:List AV}(h:l.Pairwise (fun a b=>a.k<b.k)):∀a∈l,∀b∈l,a.k=b.k->a=b:=by
 induction l with
 |nil=>intro a g;simp at g
 |cons x l ih=>
  rw [SD]at h;intro a g b m e;rcases DS.1 g with ea|ha'<;>rcases DS.1 m with eb|hb'
  · rw [ea,eb]
  · have:=h.1 b hb';rw [ea]at e;omega
  · have:=h.1 a ha';rw [eb]at e;omega
  · exact ih h.2 a ha' b hb' e
variable{r:AV}
theorem mE{lo hi:Int}(h:inR t c lo hi r=true):r.t=t:=(IH h).1
theorem Ec(rs:List AV)(t:Int)(c:Nat)(lo hi:Int):(Dw rs t c lo hi).Perm (rs.filter (inR t c lo hi)):=by
 have:=Uh c (rs.filter (inR t c lo hi)) [];rw [N4]at this;exact this
theorem Ey(m:BM rs)(t:Int)(c:Nat)(lo hi:Int):(Dw rs t c lo hi).Pairwise (leV c):=
 Q0 c _ [] .nil (Qv m fun r h=>mE h) (by intro r g;simp at g)
theorem TG(U:BM rs)(K:∀r,f r=true->r.t=t){a b:List AV}(G:a.Perm (rs.filter f))(I:b.Perm (rs.filter f))(J:a.Pairwise (leV c))(h2:b.Pairwise (leV c)):a=b:=by
 have O:=Qv U K;refine (G.trans I.symm).eq_of_pairwise ?_ J h2;intro x y hx hy g m;refine A76 O x (G.mem_iff.1 hx) y (I.mem_iff.1 hy) ?_;unfold leV at g m;omega
theorem WU(g:BM rs){lo hi:Int}{o:List AV}(m:o.Perm (rs.filter (inR t c lo hi)))(h2:o.Pairwise (leV c)):o=Dw rs t c lo hi:=
 TG g (fun r h=>mE h) m (Ec rs t c lo hi) h2 (Ey g t c lo hi)
def inT(t:Int)(r:AV):Bool:=decide (r.t=t)
def Ia(rs:List AV)(t:Int):List AV:=rs.filter (inT t)
def RG(v:A2)(p:Int)(rs:List AV)(s:List A8):Prop:=∃sp mb es ck lm,v=I5 sp/\Co K2 es ck lm/\Hw lm rs/\BM rs/\rs.length<=2000/\s=[(sp,.cells #[.map (some mb),I4 p] 100 (0,0)),(mb,.map es ck)]
theorem nW(m mb:Nat)(p:Int)(es:Array MapEntry)(ck:Nat)(lm:List ((Int×Int)×A2))(rs:List AV)(hm:Co K2 es ck lm)(hR:Hw lm rs)(O:BM rs)(hn:rs.length<=2000)(t:Int)(c:Nat)(lo hi:Int)(hc:c<=3):
 BS prog 100 #[I5 m,I4 t,I4 (c:Int),I4 lo,I4 hi] [[(m,.cells #[.map (some mb),I4 p] 100 (0,0))],[(mb,.map es ck)]] (fun r H'=>∃g,BU 5 83 r (Dw rs t c lo hi).length (Ae (Dw rs t c lo hi)) g/\H'=[g,[(m,.cells #[.map (some mb),I4 p] 100 (0,0))],[(mb,.map es ck)]]):=by
 refine Se func100 ntmps100 [0,1,2,3,4] ?_;intro u R;refine A3<|Ze (Bx #[_])<|AF fun X=>Ze (Bx #[_])<|AF fun U=>Ze (Bx #[_])<|AF fun Z=>Ze (Bx #[_])<|AF fun b4=>CT Y<|A3<|Zl AE Y ?_;refine Zv (Ap (n:=0) Y Y)<|Zm Y<|Af (t:=13) Y V (fun K=>?_) (fun K=>?_);·
  exfalso;(cases K;done)
 refine Yl AE Y ?_;refine Yg (Ef (n:=4) Y Y)<|B9 Y Y<|A4<|Ak Y (fun h2=>by omega)<|fun h2=>B3<|AK Y<|Zl AE Y ?_;refine Zv (Be (vs:=[]) (us:=[_,_,_,_]) Y Y)<|Zc [_,_,_] Y call177 Y V (Yj uw m mb p es ck lm rs hm hR O hn t c lo hi hc U X Z b4) ?_;rintro _ _ ⟨_,⟨g,o,J,G,I,rfl⟩,rfl⟩;have e9:=WU O G I
 subst e9;refine B2 Y<|Zn [10] ?_;refine Zx<|AL<|AO V results100 Y (by exact ⟨g,J,V⟩)
theorem ZT(v:A2)(p:Int)(rs:List AV)(s:List A8)(hv:RG v p rs s)(t:Int)(c:Nat)(lo hi:Int)(hc:c<=3):BS prog 100 #[v,I4 t,I4 (c:Int),I4 lo,I4 hi] [s] (fun r H'=>∃g,BU 5 83 r (Dw rs t c lo hi).length (Ae (Dw rs t c lo hi)) g/\H'=[g,s]):=by
 obtain ⟨K,mb,es,ck,lm,rfl,I,G,J,hn,rfl⟩:=hv;refine Gj (nW K mb p es ck lm rs I G J hn t c lo hi hc) B7 ?_;rintro r H' ⟨g,m,rfl⟩;exact ⟨_,⟨g,m,V⟩,by simp⟩
def Dp(M:List A8)(v:A2)(rs:List AV):Prop:=∃p cap,v= .slice p rs.length cap/\(rs.length<=maxLen/\rs.length<=cap)/\∀(i:Nat) (x:AV),rs[i]?=some x->∃g off cur T zz,p=some ⟨g,off,none⟩/\(g,Obj.cells cur T zz)∈M/\off+i*5+5<=cur.size/\cur.extract (off+i*5) (off+i*5+5)=x.BM4
variable{v:A2}{s:List A8}
theorem Dl{e:AM}(h:BU 5 e v rs.length (Ae rs) s)(hn:rs.length<=maxLen):Dp s v rs:=by
 obtain ⟨b,cap,rfl⟩:=h.form;refine ⟨b,cap,V,⟨hn,Eo h⟩,fun i x hx=>?_⟩;obtain ⟨g,G,cur,z,hv,rfl,I,m⟩:=H7 h i (C7.1 hx).1;injection hv with hv1 hv2 hv3
 refine ⟨g,0,cur,e,z,hv1,by simp,by omega,?_⟩;unfold Ae at m;rw [Gi _ 5 (fun _=>rfl) rs i x hx]at m;rw [Dd];exact J0.1 m
variable{M:List A8}
theorem Dp.mono{m:List A8}{ls:List AV}(h:Dp M v ls)(K:∀c∈M,c∈m):Dp m v ls:=by
 obtain ⟨p,cap,e,J,I⟩:=h;refine ⟨p,cap,e,J,fun i s O=>?_⟩;obtain ⟨g,off,cur,T,zz,e1,G,h2⟩:=I i s O;exact ⟨g,off,cur,T,zz,e1,K _ G,h2⟩
theorem GI(r:AV)(c:Int)(hc:0<=c/\c<=3):Au prog 172 #[.agg r.BM4,I4 c] [] (I4 (Bj r c)):=fun u R w g=>
 (Jo r c hc w).mono (by
   rintro e m ⟨rfl,q,o,rfl⟩;exact .inl ⟨_,[],V,⟨V,V⟩,TM g q _⟩)
variable{n:Nat}
theorem Q5{cur xs:AN}{a:Nat}(h:cur.extract a (a+n)=xs)(m:a+n<=cur.size)(j:Nat)(g:j<n):cur[a+j]?=xs[j]?:=by
 rw [<-h,eS,Ax A0]
theorem Hm{p q:Prop} [Decidable p] [Decidable q](h:p↔q):Value.bool (decide p)=Value.bool (decide q):=by rw [decide_eq_decide.2 h]
variable{P:Program}{args:AN}
theorem Mv{f:FuncId}(h:Au P f args [] v):Au P f args [M] v:=fun u R w m=>
 Calls.mono (h u ([M]++R) w m) fun e I g=>by
  rcases g with⟨G,H',rfl,⟨rfl,rfl⟩,h2⟩|⟨ch,H',rfl,h1,h2⟩
  · exact .inl ⟨_,[M],rfl,⟨rfl,rfl⟩,h2⟩
  · exact h1.elim
variable{B A:List A8}
theorem dw{f:FuncId}(h:Au P f args [B] v):Au P f args [A++B] v:=fun u R w m=>
 Calls.mono (h u ([A]++R) w (m.perm (by simp only [HW,D2,H4,E7];rw [<-DH];exact OS.append_right _))) fun e I g=>by
  rcases g with⟨G,H',rfl,⟨rfl,rfl⟩,h2⟩|⟨ch,H',rfl,h1,h2⟩
  · refine .inl ⟨_,[A++B],rfl,⟨rfl,rfl⟩,h2.perm ?_⟩
    simp only [HW,D2,H4,E7];rw [<-DH];exact OS.append_right _
  · exact h1.elim
theorem rV{f:FuncId}(h:Au P f args [A++B] v):Au P f args [A,B] v:=by
 refine Gj h B7 ?_;rintro r H' ⟨rfl,rfl⟩;exact ⟨_,⟨V,V⟩,by simp⟩
variable{α:Type}
theorem Bl{xs:List α}{j:Nat}{x:α}(h:xs[j]?=some x):xs.take (j+1)=xs.take j++[x]:=by rw [S1,h];rfl
variable{k:Nat}
theorem nX(h:rs[k]?=some r):Ae rs=Ae (rs.take k)++(Ae [r]++Ae (rs.drop (k+1))):=by
 rw [<-Bt,<-Bt];congr 1;obtain ⟨g,rfl⟩:=C7.1 h;rw [PJ,<-TX g,LO]
theorem MN(h:rs[k]?=some r)(j:Nat)(g:j<5):(Ae rs)[k*5+j]?=(Ae [r])[j]?:=by
 have m:=(C7.1 h).1;have e:(Ae (rs.take k)).length=k*5:=by rw [BG,Cd];omega
 rw [nX h,TO A0,dj (by rw [e,BG];simp;omega),e,Nat.add_sub_cancel_left]
theorem aF{p:BE}{cap:Nat}(h:Dp M (.slice p n cap) rs):FX M p (Ae rs):=by
 obtain ⟨p',J,e,Z,U⟩:=h;injection e with e1 e2 e3
 subst e1;intro j u K;have G:=(C7.1 K).1
 rw [BG]at G;obtain ⟨x,hx⟩:∃x,rs[j/5]?=some x:=⟨_,BT A0⟩;obtain ⟨g,off,cur,T,zz,rfl,X,I,m⟩:=U (j/5) x hx;refine ⟨g,off,cur,T,zz,V,X,?_⟩;have O:=Q5 m I (j%5) A0
 have h2:=MN hx (j%5) A0;rw [show j/5*5+j%5=j by omega,K]at h2;rw [show off+j=off+j/5*5+j%5 by omega,O,h2,<-Hx];rfl
theorem Gu(hv:Dp M v rs)(hb:rs.length<=1000000000000):BS prog 107 #[v] [M] (fun r H'=>∃O,BU 5 83 r rs.length (Ae rs) O/\H'=[O,M]):=by
 have af:=mL;obtain ⟨p,cap,rfl,⟨hl,Z⟩,X⟩:=id hv;have G:FX M p (Ae rs):=aF hv
 refine Se func107 ntmps107 [0] ?_;intro u R;refine A3<|AH Y<|B8 Y<|Zv (De C2 Y Y)<|A4<|AY Y (fun K=>?_) (fun K=>?_);·
  have I:p=none:=by cases p with
   |none=>rfl
   |some x=>cases K
  have h0:rs=[]:=by
   cases rs with
   |nil=>rfl
   |cons x l=>obtain ⟨g,off,cur,T,zz,J,_⟩:=X 0 x rfl;rw [I]at J;cases J
  refine Zq<|Bc<|Zg<|An Y<|Zt<|AO rfl results107 Y (by exact ⟨[],by rw [h0];exact Bh 5 _,rfl⟩)
 refine AC<|C6<|Ze (EE C2 B6)<|AF fun U=>Zm Y<|Ze (IA (by_:=40) (sz:=5) C2 (V:Tryz.prog.info? 83=some Tryz.t83) V rfl V rfl Y (H6 5 83 U 0 [] V B0) Y (G) (by exact BG _) B0 Wo Wo (by exact CX _) A0 A0) ?_;rintro _ _ ⟨ax,m,rfl⟩;replace m:=BZ m (Dd _) (N4 _);refine An Y<|AO V results107 Y (by exact ⟨_,m,V⟩)
theorem Nb{a b:List α}(g:a.length=b.length)(h:∀j,j<a.length->a[j]?=b[j]?):a=b:=by
 apply P2;intro i;rcases Fi i a.length with h9|h9
 · exact h i h9
 · rw [Of h9,Of A0]
theorem EX [DecidableEq α]{a b:α}(h:¬a=b):Value.bool false=Value.bool (decide (a=b)):=congrArg Value.bool (DQ h).symm
theorem Ko [DecidableEq α]{a b:α}(h:a=b):Value.bool true=Value.bool (decide (a=b)):=congrArg Value.bool (DE h).symm
theorem uY{a b:AV}:V9 a.t b.t a.k b.k a.v b.v↔a=b:=by
 obtain ⟨t,k,v⟩:=a;obtain ⟨t2,g,m⟩:=b;simp [V9]
theorem dZ{va vb:A2}{a b:List AV}(ha:Dp M va a)(hb:Dp M vb b):Au prog 213 #[va,vb] [M] (.bool (decide (a=b))):=by
 have j5:=mL;obtain ⟨pa,ca,rfl,ic,Z⟩:=ha;obtain ⟨pb,cb,rfl,j3,af⟩:=hb;refine Se func213 ntmps213 [0,1] ?_;intro u R;refine A3<|AH Y<|B8 Y<|Zv (AR C2 Y)<|Zm Y<|Zv (AR C2 Y)<|Zv (Cm Y Y)<|A4<|Ak Y (fun O=>?_) (fun O=>?_);·
  refine A3<|An Y<|Zt<|AO rfl results213 Y (by exact ⟨EX (fun e=>O (by rw [e])),rfl⟩)
 have ax:a.length=b.length:=by omega
 refine B3<|B8 Y<|Zv (AR C2 Y)<|Zm Y<|A4<|AQ<|Zb [13,0,1,12] ?_;refine Aw (e0:=[(13,_)]) (fun m e H=>∃(i:Nat),m=a.length -i/\(i<=a.length/\∀j,j<i->a[j]?=b[j]?)/\e=[(13,I4 (i:Int))]/\H=[]) (by exact ⟨0,V,⟨CM _,by intro j hj;omega⟩,V,V⟩) Wp ?_;rintro _ _ _ ⟨i,rfl,⟨hi,g⟩,rfl,rfl⟩;refine A3<|Zv (Ap Y Y)<|A4<|Zq<|Ak Y (fun bn=>?_) (fun bn=>?_);·
  obtain ⟨x,hx⟩:∃x,a[i]?=some x:=⟨_,BT A0⟩;obtain ⟨y,hy⟩:∃y,b[i]?=some y:=⟨_,BT A0⟩;obtain ⟨g1,gy,G,T1,d9,rfl,cu,gm,J⟩:=Z i x hx;obtain ⟨g2,gQ,I,T2,ek,rfl,cO,gq,K⟩:=af i y hy;refine B3<|Zq<|AQ<|AK Y<|CT Y<|Ay (n:=9) (0::0::3::7::0::0::48::112::255::[]) 0 AD AD V<|A1 0 V (AP Y)<|A1 1 V (AP Y)<|A1 2 V (AZ C2 B6 Y Y A0)<|Cn (b:=g1) (x:= .cells G T1 d9) (D':=15) 3 V rfl V (by simp [cu]) (A9 (cs:=x.BM4) DM B6 Y A0 J) ?_;refine A1 4 V (AP Y)<|A1 5 V (AP Y)<|A1 6 V (AZ C2 B6 Y Y A0)<|Cn (b:=g2) (x:= .cells I T2 ek) (D':=255) 7 V rfl V (by simp [cO]) (A9 (cs:=y.BM4) DM B6 Y A0 K) ?_;refine A1 8 V (oW AD HC AD B0 B0 B0 D3 K1 AE A6 Hb E4 Y Y)<|Aq<|Zx<|Ak Y (fun U=>?_) (fun U=>?_);·
   refine A3<|B2 Y<|Zn [4] ?_;refine Zx<|AL<|Ag<|Zt<|Zt<|Ag<|Zt<|AO rfl results213 Y (by exact ⟨EX (fun e=>by rw [e,hy]at hx;injection hx with hx;exact U (uY.2 hx.symm)),rfl⟩)
  have X:x=y:=uY.1 (HP.1 U);refine AC<|AA<|Zx<|Dg Y Y Y<|HJ (by exact ⟨i+1,rfl,⟨by omega,fun j hj=>by rcases Fi j i with h9|h9;exact g j h9;obtain rfl:j=i:=A0;rw [hx,hy];exact congrArg some X⟩,rfl,rfl⟩)
 refine BA<|Zt<|Zt<|AX<|C6<|An Y<|AO V results213 Y (by exact ⟨Ko (Nb ax (fun j hj=>g j A0)),V⟩)
def S9(pd:AV->Bool)(rows:List AV):Int:=(rows.findIdx? pd).elim (-1) fun i=>(i:Int)
variable{rows:List AV}{i:Nat}
theorem A83{g:AV->Bool}(h:∀(j:Nat) (y:AV),j<i->rows[j]?=some y->g y=false)(hx:rows[i]?=some x)(G:g x=true):S9 g rows=(i:Int):=by
 obtain ⟨hi,rfl⟩:=C7.1 hx;unfold S9;rw [cS.2 ⟨hi,G,fun j m=>by simp [h j _ m (BT A0)]⟩];rfl
theorem A84{m:AV->Bool}(h:∀(j:Nat) (y:AV),j<rows.length->rows[j]?=some y->m y=false):S9 m rows=-1:=by
 unfold S9;rw [eR.2 fun y hy=>by
  obtain ⟨j,g⟩:=HU hy;exact h j y (C7.1 g).1 g]
 rfl
theorem qJ(g:AV->Bool)(rows:List AV):(S9 g rows=-1/\∀y∈rows,g y=false)\/∃(i:Nat) (x:AV),S9 g rows=(i:Int)/\rows[i]?=some x/\g x=true/\∀(j:Nat) (y:AV),j<i->rows[j]?=some y->g y=false:=by
 unfold S9;cases h:rows.findIdx? g with
 |none=>exact .inl ⟨rfl,eR.1 h⟩
 |some i=>
  obtain ⟨m,h2,G⟩:=cS.1 h;refine .inr ⟨i,_,V,BT m,h2,fun j y I hy=>?_⟩;obtain ⟨J,rfl⟩:=C7.1 hy;simpa using G j I
theorem A40(g:k<rs.length)(x:AV):(Ae rs).take (k*5)++Ae [x]++(Ae rs).drop (k*5+(Ae [x]).length)=Ae (rs.set k x):=by
 rw [show k*5+(Ae [x]).length=(k+1)*5 by rw [BG];simp;omega,EF,Dr,<-Bt,<-Bt,mx,Ax g];simp
theorem dS{cur:AN}(g:Bq cur 0 (Ae rs))(hx:rs[k]?=some x):k*5+5<=cur.size/\cur.extract (0+k*5) (0+k*5+5)=(Ae [x]).toArray:=by
 have U:=(C7.1 hx).1;have O:k*5+5<=cur.size:=by
  have J:=MN hx 4 B0;have K:=g.get (k*5+4) _ (J.trans B1)
  have:=(Iv.1 K).1;omega
 refine ⟨O,?_⟩;apply J0.1;apply P2;intro j;rw [Hx,eS];split
 · rename_i hj
   have m:j<5:=by omega
   have G:=MN hx j m;obtain ⟨u,I⟩:∃u,(Ae [x])[j]?=some u:=⟨_,BT (by rw [BG];simpa using m)⟩;rw [I]at G;have h2:=g.get _ _ G
   rw [Dd]at h2;rw [Dd,h2];exact I.symm
 · rw [Of]
   show(Ae [x]).length<=j;rw [BG];simp only [GC];omega
theorem ZW{xs:List α}(hi:i<xs.length)(x:α):(xs.set i x).take (i+1)=xs.take i++[x]:=by
 rw [mx,Ax hi,List.take_append,Cd,SR A0];rw [Kx (by rw [Cd];omega),show i+1 -i=1 by omega];simp
theorem Mr{j:Nat}(f:AV->Bool)(hx:rows[j]?=some x):(rows.take (j+1)).filter f=(rows.take j).filter f++(if f x then [x]else []):=by
 rw [Bl hx,L7];congr 1;rw [dr,oA]
theorem Og(h:∀(j:Nat) (y:AV),rows[j]?=some y->f y=true):rows.filter f=rows:=eW.2 fun y hy=>by
 obtain ⟨j,g⟩:=HU hy;exact h j y g
theorem UY(hv:Dp A v rows)(G:Nat)(us:List A2)(Z:AV->Bool)(U:∀(args:AN) (w:A5),(callFunc G args).run prog w= .ok (.enter G args) w)(hf:∀x:AV,Au prog G (.agg x.BM4::us).toArray [B] (.bool (Z x))):Au prog 170 #[v,.func (.func G) #[] us.toArray] [A,B] (I4 (S9 Z rows)):=by
 have bn:=mL;obtain ⟨p,cap,rfl,⟨hl,ax⟩,hg⟩:=id hv;refine Se func170 ntmps170 [0,1] ?_;intro u R;refine A3<|AH Y<|B8 Y<|Zv (AR C2 Y)<|Zm Y<|A4<|AQ<|Zb [8,0,1,7] ?_;refine Aw (e0:=[(8,_)]) (fun m e H=>∃(i:Nat),m=rows.length -i/\(i<=rows.length/\∀(j:Nat) (y:AV),j<i->rows[j]?=some y->Z y=false)/\e=[(8,I4 (i:Int))]/\H=[]) (by exact ⟨0,V,⟨CM _,fun j y h=>by omega⟩,V,V⟩) Wp ?_;rintro _ _ _ ⟨i,rfl,⟨hi,I⟩,rfl,rfl⟩;refine A3<|Zv (Ap Y Y)<|A4<|Zq<|Ak Y (fun O=>?_) (fun O=>?_);·
  obtain ⟨x,hx⟩:∃x,rows[i]?=some x:=⟨_,BT O⟩;obtain ⟨g,off,cur,T,zz,rfl,X,af,K⟩:=hg i x hx;refine B3<|Zq<|AQ<|AK Y<|AH Y<|AK Y<|Zm Y<|Zm Y<|BX (AZ C2 B6 Y Y A0)<|Bu (cs:=[(g,.cells cur T zz)]) (by simp [X]) (A9 (cs:=x.BM4) DM B6 Y A0 K) V rfl<|Xr [_] Y (U) Y V (hf x)<|A4<|AY Y (fun J=>?_) (fun J=>?_);·
   refine AK Y<|An Y<|Ag<|Zt<|Zt<|Ag<|Zt<|AO V jj Y (by exact ⟨congrArg (Value.int .i64) (A83 I hx J).symm,V⟩)
  refine AC<|AA<|Zx<|Dg Y Y Y<|HJ (by exact ⟨i+1,rfl,⟨by omega,fun j y h1 h2=>by rcases Fi j i with h9|h9;exact I j y h9 h2;obtain rfl:j=i:=A0;rw [hx]at h2;injection h2 with h2;subst h2;exact J⟩,rfl,rfl⟩)
 have ei:i=rows.length:=by omega
 subst ei;refine BA<|Zt<|Zt<|AX<|C6<|An Y<|AO V jj Y (by exact ⟨congrArg (Value.int .i64) (A84 I).symm,V⟩)
set_option maxHeartbeats 1000000 in
theorem eB(G:BU 5 83 v rows.length (Ae rows) s)(hn:rows.length<=1000000000)(J:Nat)(us:List A2)(U:AV->Bool)(bn:∀(args:AN) (w:A5),(callFunc J args).run prog w= .ok (.enter J args) w)(hf:∀x:AV,Au prog J (.agg x.BM4::us).toArray [B] (.bool (U x))):BS prog 326 #[v,.func (.func J) #[] us.toArray] [s,B] (fun r H'=>∃s',BU 5 83 r (rows.filter fun x=>!U x).length (Ae (rows.filter fun x=>!U x)) s'/\H'=[s',B]):=by
 have o9:=mL;obtain ⟨p,cap,rfl⟩:=G.form;have hU:=Dl G A0
 refine Se func326 ntmps326 [0,1] ?_;intro u R;refine A3<|AH Y<|AK Y<|Zm Y<|Xr [_,_] Y call170 Y V (UY hU J us U bn hf) ?_;rcases qJ U rows with⟨e9,X⟩|⟨k,x0,e9,hx0,hp0,hno⟩
 ·
  rw [e9];refine AH Y<|B8 Y<|Zv (CO Y Y)<|A4<|Ak Y (fun h1=>?_) (fun h1=>?_);·
   refine AK Y<|An Y<|Zt<|AO rfl results326 Y (by exact ⟨_,BZ G (congrArg List.length (Og fun j y hy=>by rw [X y (Ek hy)];rfl).symm) (congrArg Ae (Og fun j y hy=>by rw [X y (Ek hy)];rfl).symm),rfl⟩)
  exact absurd V h1
 rw [e9];have o8:=(C7.1 hx0).1
 obtain ⟨g,ic,cur,z,gQ,rfl,kv,j5⟩:=E9 G A0;injection gQ with hv1 hv2 hv3
 subst hv1 hv3;refine AH Y<|B8 Y<|Zv (CO Y Y)<|A4<|Ak Y (fun h2=>by omega)<|fun h2=>B3<|B8 Y<|Ya (n:=1) Y Y<|AH Y<|AQ<|Zb [5,6,0,1] ?_;refine Aw (e0:=[(5,_),(6,_)]) (fun m e H=>∃(i j:Nat) (W:List AV) (cur:AN),m=rows.length -j/\((i<j/\j<=rows.length)/\W.length=rows.length/\BU 5 83 (I6 g rows.length cap) rows.length (Ae W) [(g,.cells cur 83 z)]/\W.take i=(rows.take j).filter (fun x=>!U x)/\∀t,j<=t->W[t]?=rows[t]?)/\e=[(5,I4 (i:Int)),(6,I4 (j:Int))]/\H=[[(g,.cells cur 83 z)]]) (by exact ⟨k,k+1,rows,cur,rfl,⟨⟨by omega,by omega⟩,rfl,G,by rw [Mr _ hx0,hp0];simp only [US,P0,I0,E7];exact (Og (fun j y hy=>by rw [HR]at hy;split at hy;rw [hno j y ke hy];rfl;cases hy)).symm,fun t _=>rfl⟩,rfl,rfl⟩) Wp ?_;rintro _ _ _ ⟨i,j,W,cur,rfl,⟨l9,ax,O,K,af⟩,rfl,rfl⟩;obtain ⟨d9,cu,l5,j3,Z⟩:=Jr O;refine B8 Y<|Zm Y<|Zv (AR C2 Y)<|Zv (Ap Y Y)<|A4<|Ak Y (fun ek=>?_) (fun ek=>?_);·
  obtain ⟨x,hx⟩:∃x,rows[j]?=some x:=⟨_,BT ek⟩;obtain ⟨l8,cO⟩:=dS d9 ((af j (D0 _)).trans hx);refine B3<|Zq<|AQ<|AK Y<|Zm Y<|BX (AZ C2 B6 Y Y A0)<|Zo Wh (A9 (cs:=x.BM4) DM B6 Y A0 cO)<|Ze (Al Ft #[_,_,_,_,_])<|AF fun bx=>Xe (Xw B6 x.BM4)<|A4<|AK Y<|Zo Wh (A9 (cs:=#[_,_,_,_,_]) DM B6 Y B5 B1)<|Xr [_] Y (bn) Y V (hf x)<|Zv (Bo Y)<|Z0<|Zn [0,1,5,6,7,29] ?_;refine Zx<|AY Y (fun I=>?_) (fun I=>?_);·
   have I:U x=false:=by simpa using I
   have gm:=BZ (xs':=Ae (W.set i x)) (Ee (i:=0+i*5) (ys:=Ae [x]) O (by rw [BG,BG,GC];omega)) rfl (by rw [Dd];exact A40 A0 x);refine AK Y<|Zm Y<|Zo Wh (A9 (cs:=#[_,_,_,_,_]) DM B6 Y B5 B1)<|BX (AZ C2 B6 Y Y A0)<|Xe (BJ B6 Y Y K0 Wu (by exact (rfl:_=ET cur (0+i*5) (Ae [x]))) G4 A0 Z)<|A4<|Zg<|Zm Y<|Ya (n:=1) Y Y<|B2 Y<|AA<|Zx<|Zg<|Zm Y<|Ya (n:=1) Y Y<|B2 Y<|DG (e:=[(5,_),(6,_)]) (h:=by exact ⟨i+1,j+1,W.set i x,_,rfl,⟨by omega,by rw [ee];exact ax,gm,by rw [ZW A0,K,Mr _ hx];simp [I],fun t ht=>by rw [List.getElem?_set_ne A0];exact af t A0⟩,rfl,rfl⟩)
  have I:U x=true:=by simpa using I
  refine AC<|AA<|Zx<|Zg<|Zm Y<|Ya (n:=1) Y Y<|B2 Y<|DG (e:=[(5,_),(6,_)]) (h:=by exact ⟨i,j+1,W,cur,rfl,⟨by omega,ax,O,by rw [K,Mr _ hx];simp [I],fun t ht=>af t A0⟩,rfl,rfl⟩)
 have ej:j=rows.length:=by omega
 subst ej;rw [HE]at K;have gy:(rows.filter fun x=>!U x).length=i:=by rw [<-K,Cd];omega
 refine BA<|Zt<|Zt<|AX<|Zx<|AK Y<|Zm Y<|BX (Bz C2 B6 Y Y A0)<|Ze (PE C2 (V:Tryz.prog.info? 83=some Tryz.t83) V rfl (by simp [Value.cells,Value.oneCell']) Y A0 cu Z Wo) ?_;rintro _ _ rfl;have gq:=WO (Ee (i:=i*5) (ys:=(Builtin.zeroCells (Value.agg #[I4 0,I4 0,I4 0,I4 0,I4 0]).cells (rows.length -i)).toList) O (by rw [W1,size_zeroCells,BG];show i*5+(rows.length -i)*5<=_;omega)) i A0
 refine A4<|AK Y<|Zm Y<|BX (Bn C2 B6 Y Y A0)<|An Y<|AO V results326 Y (by
  refine ⟨_,BZ gq gy.symm ?_,V⟩;rw [DH,J1 (by rw [Cd,BG];omega),EF,K])
theorem A81{A Y D:List A2}(g:A.length=(n+1)*5)(hi:i<=n)(G:Y.length=5)(m:D.length=(n -i)*5):(A.take (0+i*5)++Y++A.drop (0+i*5+Y.length)).take (0+(i+1)*5)++D++(A.take (0+i*5)++Y++A.drop (0+i*5+Y.length)).drop (0+(i+1)*5+D.length)=A.take (i*5)++Y++D:=by
 rw [Dd,Dd,J1 (by rw [C0,Cd];omega),Vc (by simp only [C0,Cd,Cp];omega),E7]
theorem qE{A Y D:List A2}(g:A.length=(n+1)*5)(hi:i<=n)(G:Y.length=5)(m:D.length=(n -i)*5):(A.take (0+(i+1)*5)++D++A.drop (0+(i+1)*5+D.length)).take (0+i*5)++Y++(A.take (0+(i+1)*5)++D++A.drop (0+(i+1)*5+D.length)).drop (0+i*5+Y.length)=A.take (i*5)++Y++D:=by
 rw [Dd,Dd,Vc (l:=A) A0,E7,de (by rw [Cd];omega),Xs,SR A0,cF (by rw [Cd];omega)]
theorem aD(rows:List AV)(i:Nat)(y:AV):(Ae rows).take (i*5)++Ae [y]++Ae (rows.drop i)=Ae (rows.take i++[y]++rows.drop i):=by
 rw [EF,Bt,Bt]
theorem Ux{c:AN}(h:Bq c 0 (Ae rows))(i:Nat)(hi:i<=rows.length):Bq c (0+i*5) (Ae (rows.drop i)):=by
 have g:=JH h (i*5) ((rows.length -i)*5) (by rw [BG];omega);rw [Dr,Kx (by rw [BG,Cp];omega)]at g;exact g
theorem kK{c:AN}(h:Bq c 0 (Ae rows))(i:Nat)(hi:i<=rows.length):Bq c 0 (Ae (rows.take i)):=by
 have g:=JH h 0 (i*5) (by rw [BG];omega);rw [SU,EF]at g;exact g
theorem YU(rows:List AV)(i:Nat)(hi:i<=rows.length)(y:AV):(rows.take i++[y]++rows.drop i).length=rows.length+1:=by
 simp only [C0,Cd,Cp,GC];omega
set_option maxHeartbeats 1000000 in
theorem cB(m:BU 5 83 v rows.length (Ae rows) s)(hn:rows.length<=1000000000)(i:Nat)(hi:i<=rows.length)(y:AV)(U:Nat):BS prog 327 #[v,I4 (i:Int),I6 U 1 1] [s,[(U,.cells y.BM4 83 (0,0))]] (fun r H'=>∃s' s2,BU 5 83 r (rows.take i++[y]++rows.drop i).length (Ae (rows.take i++[y]++rows.drop i)) s'/\H'=[s',s2,[(U,.cells y.BM4 83 (0,0))]]):=by
 have o8:=mL;obtain ⟨p,cap,rfl⟩:=m.form;have l9:=Eo m
 refine Se func327 ntmps327 [0,1,2] ?_;intro u R;refine A3<|CT Y<|Bc<|Zg<|Zm Y<|Zm Y<|BX (Bz C2 B6 Y Y A0)<|A4<|AK Y<|Zv (AR C2 Y)<|AH Y<|B8 Y<|Zv (CJ (n:=0) Y Y)<|A4<|Ak Y (fun h0=>by cases h0)<|fun h0=>B3<|AK Y<|Zv (AR C2 Y)<|AH Y<|B8 Y<|Zm Y<|Zv (CJ Y Y)<|Z0<|Zn [0,1,2,7,8,22] ?_;refine Zx<|Ak Y (fun X=>?_) (fun X=>?_);·
  refine AK Y<|Zm Y<|Ze (BP (by_:=40) (sz:=5) C2 (V:Tryz.prog.info? 83=some Tryz.t83) V rfl V rfl Y (m) Y (Cu 5 U 1 1 83 (0,0) (Ae [y]) V) Wo Wo (by exact CX _) A0 A0) ?_;rintro _ _ ⟨o9,O,rfl⟩;obtain ⟨kv,j5,rfl⟩:=O.form;refine An Y<|Zt<|AO V results327 Y (by
   have X:i=rows.length:=by omega
   subst X;exact ⟨_,[],BZ O (YU rows _ (D0 _) y).symm (by rw [HE,lO,E7,Bt]),rfl⟩)
 obtain ⟨g,ek,cur,z,cO,rfl,j3,I⟩:=E9 m A0;injection cO with hv1 hv2 hv3
 subst hv1 hv3;obtain ⟨_,l8,_,l5,af⟩:=Jr m;refine B3<|B8 Y<|Zm Y<|Ya Y Y<|Zm Y<|Zv (Rb C2 Y)<|Zv (DX Y Y)<|A4<|Ak Y (fun hg=>?_) (fun hg=>?_);·
  refine AK Y<|Zm Y<|BX (Bn C2 B6 Y Y A0)<|Zm Y<|Zm Y<|Ya Y Y<|Zm Y<|Yb Y Y ?_;refine Ze (Lh (by_:=40) (sz:=5) (xs:=Ae (rows.take i)) C2 D3 (rfl:Tryz.prog.info? 83=some Tryz.t83) rfl rfl rfl rfl Y Y Wh (kK I i hi) (by rw [BG,Cd];omega) A0 B0 A0 A0 A0) ?_;rintro _ _ ⟨s9,J,rfl⟩;rw [show i+(rows.length+1 -i)=rows.length+1 by omega]at J;have G:=J.1
  obtain ⟨g3,d9,gm,z3,rfl,rfl,ic,gQ⟩:=E9 J A0;obtain ⟨_,gy,_,gq,K⟩:=Jr J;refine B2 Y<|Zn [0,1,2,7,9] ?_;refine Zx<|AK Y<|Zm Y ?_
  (refine BX (Bp C2 B6 Y Y ?_ ?_) ?_;(focus (omega));(focus (omega)))
  refine Zm Y<|Xe (Jn (cs:=Ae [y]) C2 B6 Y Y Wh Wo ((rfl:Bq (y.BM4:AN) 0 (Ae [y]))) (by rw [BG,GC];omega) (by rw [BG,GC];omega) (K) (CX _)) ?_;refine A4<|Zq<|Ay (n:=9) (0::0::0::6::15::0::0::96::255::[]) 256 AD AD V<|A1 0 V (AP Y)<|A1 1 V (AP Y)<|A1 2 V (AP Y)<|A1 3 V (EP Y Y A0) ?_
  (refine F5 (D':=31) 4 (Bp C2 B6 Y Y ?_ ?_) ?_;(focus (omega));(focus (omega)))
  refine A1 5 V (AP Y)<|A1 6 V (AP Y) ?_
  (refine F5 (D':=255) 7 (Bp C2 B6 Y Y ?_ ?_) ?_;(focus (omega));(focus (omega)))
  refine Yw 8 511 rfl (Jn (cs:=Ae (rows.drop i)) C2 B6 Y Y Wh Wo (Ux I i hi) (by rw [BG,Cp];omega) (by rw [BG,Cp,Gb (by rw [BG,GC];omega)];omega) (by rw [Gb (by rw [BG,GC];omega)];exact K) (CX _))<|F0<|Aq<|Zn [9] ?_;refine Zx<|AK Y<|An Y<|Zt<|AO V results327 Y (by
   refine ⟨_,[(g,.cells cur 83 z)],BZ (Ee (i:=0+(i+1)*5) (ys:=Ae (rows.drop i)) (Ee (i:=0+i*5) (ys:=Ae [y]) J (by rw [G,BG,GC];omega)) ?_) (YU rows i hi y).symm ?_,rfl⟩;· simp only [C0,Cd,Cp,G,BG,GC];omega
   · rw [A81 G hi (by rw [BG];rfl) (by rw [BG,Cp]),J1 (by rw [BG,Cd];omega),<-EF,aD])
 refine B3<|Zq ?_;obtain ⟨p8,cu,bn⟩:=WN m (rows.length+1) A0 A0;have G:=bn.1
 refine Zg<|Zm Y<|Zm Y<|Zm Y<|Ya Y Y ?_;refine BX (Bn C2 B6 Y Y A0)<|CT Y<|Zq<|uH (s1:=[(U,_)]) (s2:=[(g,_)]) (a:=U) (b:=g) Wo Wo (CH.2 V) (CH.2 V) (fun ax=>?_);refine Zg<|Zm Y<|Zm Y<|Zm Y<|Zm Y<|Ya Y Y ?_
 (refine BX (Bp C2 B6 Y Y ?_ ?_) ?_;(focus (omega));(focus (omega)))
 refine Bu (cs:=[(U,.cells y.BM4 83 (0,0)),(g,.cells cur 83 z)]) B7 (UB (tR:=4) func352 AD AD AD AD C2 B6 Y ax A0) V rfl ?_;refine Zv (Bo Y)<|Z0<|Zn [0,1,2,7,8,68] ?_;refine Zx<|AY Y (fun Z=>?_) (fun Z=>?_);·
  refine Zq<|Ay (n:=9) (0::0::0::6::15::0::0::96::255::[]) 256 AD AD V<|A1 0 V (AP Y)<|A1 1 V (AP Y)<|A1 2 V (AP Y)<|A1 3 V (EP Y Y A0) ?_
  (refine F5 (D':=31) 4 (Bp C2 B6 Y Y ?_ ?_) ?_;(focus (omega));(focus (omega)))
  refine A1 5 V (AP Y)<|A1 6 V (AP Y) ?_
  (refine F5 (D':=255) 7 (Bp C2 B6 Y Y ?_ ?_) ?_;(focus (omega));(focus (omega)))
  refine Yw 8 511 rfl (Jn (cs:=Ae (rows.drop i)) C2 B6 Y Y Wh Wo (Ux I i hi) (by rw [BG,Cp];omega) (by rw [BG,Cp];omega) (af) (CX _))<|F0<|Aq<|Zx<|AK Y<|Zm Y ?_
  (refine BX (Bp C2 B6 Y Y ?_ ?_) ?_;(focus (omega));(focus (omega)))
  refine Zm Y<|Xe (Jn (cs:=Ae [y]) C2 B6 Y Y Wh Wo ((rfl:Bq (y.BM4:AN) 0 (Ae [y]))) (by rw [BG,GC];omega) (by rw [BG,GC,Gb (by rw [BG,Cp];omega)];omega) (by rw [Gb (by rw [BG,Cp];omega)];exact af) (CX _)) ?_;refine Z0<|Zn [0] ?_;refine Zx<|AK Y<|An Y<|Zt<|AO V results327 Y (by
   refine ⟨_,[],BZ (Ee (i:=0+i*5) (ys:=Ae [y]) (Ee (i:=0+(i+1)*5) (ys:=Ae (rows.drop i)) bn (by rw [G,BG,Cp];omega)) ?_) (YU rows i hi y).symm ?_,rfl⟩;· simp only [C0,Cd,Cp,BG,cu,GC];omega
   · rw [qE G hi (by rw [BG];rfl) (by rw [BG,Cp]),de (by rw [BG];omega),aD])
 cases Z
structure QM where
 kd:Int
 tb:Int
 cl:Int
 lo:Int
 hi:Int
 bq:Int
 ot:Int
deriving DecidableEq
abbrev QM.HL(q:QM)(c:Chg)(x y:Option Go.Addr)(o n:Int):Array Go.Value:=#[I4 q.kd,I4 q.tb,I4 q.cl,I4 q.lo,I4 q.hi,I4 q.bq,I4 q.ot,I4 c.t,I4 c.k,.bool c.had,I4 c.o.a,I4 c.o.b,I4 c.o.c,.bool c.has,I4 c.n.a,I4 c.n.b,I4 c.n.c,.pointer x,.pointer y,I4 o,I4 n]
abbrev QM.BM5(c:QM):Array Go.Value:=#[I4 c.kd,I4 c.tb,I4 c.cl,I4 c.lo,I4 c.hi,I4 c.bq,I4 c.ot]
structure C8 where
 rows:List AV
 val:Int
 fnd:Bool
deriving DecidableEq
def inQ(q:QM)(r:AV):Bool:=decide (r.t=q.tb/\q.lo<=Bj r q.cl/\Bj r q.cl<=q.hi)
def BH(q:QM):Prop:=(0<=q.tb/\q.tb<=3)/\(0<=q.cl/\q.cl<=3)/\(-1000000000<=q.lo/\q.lo<=q.hi/\q.hi<=1000000000)/\
 ((q.kd=1/\q.cl=0/\q.lo=q.hi/\(1<=q.lo/\q.lo<=1000000)/\q.bq=0/\q.ot=0)\/((q.kd=2\/q.kd=3)/\q.bq=0/\q.ot=0)\/
  ((q.kd=4\/q.kd=5\/q.kd=6)/\(1<=q.bq/\q.bq<=3)/\q.ot=0)\/(q.kd=7/\(1<=q.bq/\q.bq<=3)/\(0<=q.ot/\q.ot<=3)))
instance(q:QM):Decidable (BH q):=by unfold BH;infer_instance
def C8.none:C8:=⟨[],0,false⟩
def M8(ms:List Int):Int:=ms.foldl (·+·) 0
def Ei(lt:Int->Int->Bool)(ms:List Int):C8:=ms.foldl (fun r n=>⟨r.rows,if !r.fnd||lt n r.val then n else r.val,true⟩) C8.none
def Dm(q:QM)(others:List AV)(k:Int):Option AV:=others.find? (fun x=>decide (x.t=q.ot/\x.k=k))
def J5(q:QM)(others:List AV)(r:AV):List AV:=match Dm q others (Bj r q.bq)with
 |some x=>[r,x]
 |none=>[]
def J7(q:QM)(rows others:List AV):List AV:=rows.flatMap (J5 q others)
def Cz(q:QM)(rows:List AV):List Int:=rows.map fun r=>Bj r q.bq
def Fb(q:QM)(rows others:List AV):C8:=
 if q.kd=3 then⟨[],rows.length,false⟩else if q.kd=4 then⟨[],M8 (Cz q rows),false⟩
 else if q.kd=5 then Ei (fun a b=>decide (a<b)) (Cz q rows)else if q.kd=6 then Ei (fun a b=>decide (b<a)) (Cz q rows)
 else if q.kd=7 then⟨J7 q rows others,0,false⟩else⟨rows,0,false⟩
def CU(rs:List AV)(q:QM):List AV:=Dw rs q.tb q.cl.toNat q.lo q.hi
def Cj(rs:List AV)(q:QM):C8:=Fb q (CU rs q) (Ia rs q.ot)
def oo(c:Chg):List AV:=if c.had then [⟨c.t,c.k,c.o⟩]else []
def Iz(q:QM)(b:Bool)(r:AV):Option AV:=if b&&inQ q r then some r else none
def bfQ(q:QM)(c:Chg):Option AV:=Iz q c.had ⟨c.t,c.k,c.o⟩
def afQ(q:QM)(c:Chg):Option AV:=Iz q c.has ⟨c.t,c.k,c.n⟩
def mQ(q:QM):Option AV->Int
 |some r=>Bj r q.bq
 |none=>0
def Ou(q:QM)(c:Chg):Bool:=(bfQ q c).isSome||(afQ q c).isSome
def VU(q:QM)(c:Chg):Bool:=(bfQ q c).isSome !=(afQ q c).isSome
def Ct(q:QM)(c:Chg):Bool:=
 if q.kd=1\/q.kd=2 then Ou q c else if q.kd=3 then VU q c else if q.kd=4 then decide (mQ q (bfQ q c)≠mQ q (afQ q c))
 else if q.kd=5\/q.kd=6 then VU q c||decide (mQ q (bfQ q c)≠mQ q (afQ q c))else Ou q c||decide (c.t=q.ot)
theorem Qk{c:Chg}(J:Gd rs c):∃A B,rs=A++oo c++B/\ER rs c=A++OT c++B:=by
 refine ⟨rs.take (EA rs c.t c.k),(rs.drop (EA rs c.t c.k)).drop (if c.had then 1 else 0),?_,V⟩;unfold oo;cases hh:c.had with
 |false=>simp
 |true=>
  have m:(G8 rs c.t c.k).2=true:=by rw [J.1,hh]
  obtain ⟨r,X,hi,O,U⟩:=Jb m;have hv:=J.2 m
  rw [U]at hv;have e:r=⟨c.t,c.k,c.o⟩:=by
   obtain ⟨t,k,v⟩:=r;obtain ⟨G,I⟩:=hi;simp only at G I hv;subst G I hv;rfl
  rw [e]at O;obtain ⟨K,g⟩:=C7.1 O;simp only [KK,DH];conv=>lhs;rw [<-LO (EA rs c.t c.k) rs,TX K,g]
  rw [PJ,TX K];rfl
variable{q:QM}
theorem uA(h:BH q)(r:AV):inR q.tb q.cl.toNat q.lo q.hi r=inQ q r:=by
 have hc:=h.2.1;have:=M5 r q.cl.toNat A0
 rw [show((q.cl.toNat:Nat):Int)=q.cl by omega]at this;unfold inR inQ;rw [this]
theorem RN(h:BH q)(rs:List AV):CU rs q=(rs.filter (inQ q)).foldl (dA q.cl.toNat) []:=by
 unfold CU Dw;rw [l3 fun r _=>uA h r]
theorem IE(h:BH q)(rs:List AV):(CU rs q).Perm (rs.filter (inQ q)):=by
 have:=Ec rs q.tb q.cl.toNat q.lo q.hi;rwa [l3 fun r _=>uA h r]at this
theorem UI(q:QM)(c:Chg):(oo c).filter (inQ q)=(bfQ q c).toList:=by
 unfold oo bfQ Iz;cases c.had with
 |false=>rfl
 |true=>simp only [KK,Ys,dr,oA];split<;>rfl
theorem UJ(q:QM)(c:Chg):(OT c).filter (inQ q)=(afQ q c).toList:=by
 unfold OT afQ Iz;cases c.has with
 |false=>rfl
 |true=>simp only [KK,Ys,dr,oA];split<;>rfl
def KG:List Int->Int
 |[]=>0
 |x::l=>x+KG l
theorem Nf(l:List Int):∀a,l.foldl (·+·) a=a+KG l:=by
 induction l with
 |nil=>intro a;simp [KG]
 |cons x l ih=>intro a;rw [XS,ih];simp only [KG];omega
theorem ZP(a b:List Int):KG (a++b)=KG a+KG b:=by
 induction a with
 |nil=>simp [KG]
 |cons x a ih=>simp only [SO,KG,ih];omega
theorem ND{a b:List Int}(h:a.Perm b):KG a=KG b:=by
 induction h with
 |nil=>rfl
 |cons x _ ih=>simp only [KG,ih]
 |swap x y l=>simp only [KG];omega
 |trans _ _ ih1 ih2=>exact ih1.trans ih2
theorem wZ(lt:Int->Int->Bool)(I:∀a b c,lt b a=false->lt c b=false->lt c a=false)(G:∀a,lt a a=false)(g:∀a b,lt a b=true->lt b a=false)(l:List Int):∀(m:Int),∃x,(x=m\/x∈l)/\lt m x=false/\(∀y∈l,lt y x=false)/\l.foldl (fun(r:C8) n=>(⟨r.rows,if !r.fnd||lt n r.val then n else r.val,true⟩:C8)) ⟨[],m,true⟩=⟨[],x,true⟩:=by
 induction l with
 |nil=>intro m;exact ⟨m,.inl rfl,G m,by simp,rfl⟩
 |cons z l ih=>
  intro m;rw [XS];cases hz:lt z m with
  |true=>
   obtain ⟨x,J,h2,K,O⟩:=ih z;simp only [US,oS,hz,KK];refine ⟨x,.inr (by rcases J with h|h;rw [h];simp;exact GB _ h),I x z m h2 (g z m hz),fun y hy=>?_,O⟩;rcases DS.1 hy with rfl|hy
   · exact h2
   · exact K y hy
  |false=>
   obtain ⟨x,J,h2,K,O⟩:=ih m;simp only [US,oS,hz,P0,I0];refine ⟨x,by rcases J with h|h;exact .inl h;exact .inr (GB _ h),h2,fun y hy=>?_,O⟩;rcases DS.1 hy with rfl|hy
   · exact I x m y h2 hz
   · exact K y hy
theorem Kn(lt:Int->Int->Bool)(G:∀a b c,lt b a=false->lt c b=false->lt c a=false)(m:∀a,lt a a=false)(g:∀a b,lt a b=true->lt b a=false)(z:Int)(l:List Int):∃x∈z::l,(∀y∈z::l,lt y x=false)/\Ei lt (z::l)=⟨[],x,true⟩:=by
 obtain ⟨x,I,h2,J,K⟩:=wZ lt G m g l z;refine ⟨x,by rcases I with h|h;rw [h];simp;exact GB _ h,fun y hy=>?_,?_⟩
 · rcases DS.1 hy with rfl|hy
   · exact h2
   · exact J y hy
 · unfold Ei
   rw [XS];exact K
theorem Q6(lt:Int->Int->Bool)(I:∀a b c,lt b a=false->lt c b=false->lt c a=false)(m:∀a,lt a a=false)(g:∀a b,lt a b=true->lt b a=false)(J:∀a b,lt a b=false->lt b a=false->a=b){l G:List Int}(h:∀y,y∈l↔y∈G):Ei lt l=Ei lt G:=by
 match l,G,h with
 |[],[],_=>rfl
 |[],y::G,h=>have:=(h y).2 B7;cases this
 |y::l,[],h=>have:=(h y).1 B7;cases this
 |y::l,y'::G,h=>
  obtain ⟨x,O,U,X⟩:=Kn lt I m g y l;obtain ⟨K,Z,b2,b3⟩:=Kn lt I m g y' G;rw [X,b3,J x K (b2 x ((h x).1 O)) (U K ((h K).2 Z))]
theorem lD{c:Chg}(g:Gd rs c)(h:c.t≠t):Ia (ER rs c) t=Ia rs t:=by
 obtain ⟨A,B,e1,e2⟩:=Qk g;have z1:(oo c).filter (inT t)=[]:=by
  unfold oo;split;· simp [inT,h]
  · rfl
 have z2:(OT c).filter (inT t)=[]:=by
  unfold OT;split;· simp [inT,h]
  · rfl
 unfold Ia;rw [e2];conv=>rhs;rw [e1]
 simp only [L7,z1,z2,E7]
theorem Sv{o:Option AV}(h:o.isSome=false):o.toList=[]:=by
 cases o with
 |none=>rfl
 |some x=>cases h
theorem AA4{c:Chg}(J:BH q)(hf:Gd rs c)(h:Ct q c=false):Cj (ER rs c) q=Cj rs q:=by
 obtain ⟨A,B,e1,e2⟩:=Qk hf;have X:rs.filter (inQ q)=A.filter (inQ q)++(bfQ q c).toList++B.filter (inQ q):=by
  conv=>lhs;rw [e1]
  rw [L7,L7,UI]
 have Z:(ER rs c).filter (inQ q)=A.filter (inQ q)++(afQ q c).toList++B.filter (inQ q):=by
  rw [e2,L7,L7,UJ]
 have K:=IE J rs;have O:=IE J (ER rs c)
 rw [X]at K;rw [Z]at O;have I:(bfQ q c).isSome=false->(afQ q c).isSome=false->CU (ER rs c) q=CU rs q:=fun h1 h2=>by
  rw [RN J,RN J,X,Z,Sv h1,Sv h2]
 unfold Ct at h;unfold Cj Fb;split at h
 · rename_i hk
   unfold Ou at h;rw [kn]at h;rw [I h.1 h.2,As A0,As A0,As A0,As A0,As A0,As A0,As A0,As A0,As A0,As A0]
 · split at h
   · rename_i hk
     rw [Ax hk,Ax hk];have hl:(CU (ER rs c) q).length=(CU rs q).length:=by
      rw [K.length_eq,O.length_eq];simp only [C0];unfold VU at h;cases hb:bfQ q c<;>cases g:afQ q c<;>simp [hb,g]at h⊢
     rw [hl]
   · split at h
     · rename_i hk3 hk
       rw [As hk3,As hk3,Ax hk,Ax hk];have hs:M8 (Cz q (CU (ER rs c) q))=M8 (Cz q (CU rs q)):=by
        unfold M8 Cz;rw [Nf,Nf,ND (K.map _),ND (O.map _)];simp only [CN,ZP];have U:=da h
        have key:∀o:Option AV,KG (o.toList.map fun r=>Bj r q.bq)=mQ q o:=fun o=>by
         cases o with
         |none=>rfl
         |some x=>simp [KG,mQ]
        rw [key,key];omega
       rw [hs]
     · split at h
       · rename_i hk3 hk4 hk
         rw [kn]at h;have U:=da h.2
         have G:=h.1;have m:∀y,y∈Cz q (CU (ER rs c) q)↔y∈Cz q (CU rs q):=fun y=>by
          unfold Cz;rw [(K.map _).mem_iff,(O.map _).mem_iff];unfold VU at G;cases hb:bfQ q c<;>cases g:afQ q c<;>simp [hb,g]at G⊢
          simp [hb,g,mQ]at U;rw [U]
         rw [As hk3,As hk3,As hk4,As hk4];rcases hk with hk|hk
         · rw [Ax hk,Ax hk]
           exact Q6 _ (by intro a b c;simp;omega) (by intro a;simp) (by intro a b;simp;omega) (by intro a b;simp;omega) m
         · rw [As (show¬q.kd=5 by omega),As (show¬q.kd=5 by omega),Ax hk,Ax hk]
           exact Q6 _ (by intro a b c;simp;omega) (by intro a;simp) (by intro a b;simp;omega) (by intro a b;simp;omega) m
       · rw [kn]at h
         have g:=h.1;unfold Ou at g;rw [kn]at g;rw [I g.1 g.2,lD hf (da h.2)]
def Fe(q:QM):Prop:=(0<=q.tb/\q.tb<=3)/\(0<=q.cl/\q.cl<=3)/\(-1000000000<=q.lo/\q.lo<=q.hi/\q.hi<=1000000000)
instance(q:QM):Decidable (Fe q):=by unfold Fe;infer_instance
def QK(q:QM):Prop:=1<=q.bq/\q.bq<=3
instance(q:QM):Decidable (QK q):=by unfold QK;infer_instance
theorem yL(h:q.kd=1):BH q↔Fe q/\q.cl=0/\q.lo=q.hi/\(1<=q.lo/\q.lo<=1000000)/\q.bq=0/\q.ot=0:=by unfold BH Fe;omega
theorem yK(h:q.kd=2\/q.kd=3):BH q↔Fe q/\q.bq=0/\q.ot=0:=by unfold BH Fe;omega
theorem yJ(h:q.kd=4\/q.kd=5\/q.kd=6):BH q↔Fe q/\QK q/\q.ot=0:=by unfold BH Fe QK;omega
theorem yH(h:q.kd=7):BH q↔Fe q/\(0<=q.ot/\q.ot<=3)/\QK q:=by unfold BH Fe QK;omega
theorem uE(h:q.kd=1):decide (BH q)=decide (Fe q/\q.cl=0/\q.lo=q.hi/\(1<=q.lo/\q.lo<=1000000)/\q.bq=0/\q.ot=0):=decide_eq_decide.2 (yL h)
theorem yu(h:q.kd=2\/q.kd=3):decide (BH q)=decide (Fe q/\q.bq=0/\q.ot=0):=decide_eq_decide.2 (yK h)
theorem yr(h:q.kd=4\/q.kd=5\/q.kd=6):decide (BH q)=decide (Fe q/\QK q/\q.ot=0):=decide_eq_decide.2 (yJ h)
theorem uC(h:q.kd=7):decide (BH q)=decide (Fe q/\(0<=q.ot/\q.ot<=3)/\QK q):=decide_eq_decide.2 (yH h)
theorem tZ(h:¬q.kd=1)(J:¬q.kd=7)(m:¬q.kd=4)(G:¬q.kd=5)(I:¬q.kd=6)(h2:¬q.kd=2)(g:¬q.kd=3):¬BH q:=by unfold BH;omega
variable{b0:Bool}
theorem r4(h:q.kd=4\/q.kd=5\/q.kd=6)(g:b0=decide (Fe q)):((b0&&decide (QK q))&&decide (q.ot=0))=decide (BH q):=by
 rw [yr h,g];simp [Bool.and_assoc]
theorem r8(h:q.kd=2\/q.kd=3)(g:b0=decide (Fe q)):((b0&&decide (q.bq=0))&&decide (q.ot=0))=decide (BH q):=by
 rw [yu h,g];simp [Bool.and_assoc]
theorem yl(h:q.kd=7)(g:b0=decide (Fe q))(e0:b0=true):((decide (0<=q.ot/\q.ot<=3)&&decide (QK q))&&decide ((0:Int)=0))=decide (BH q):=by
 have m:Fe q:=IH (g.symm.trans e0);rw [uC h];simp [m]
theorem ym{x y:Bool}(h:q.kd=7)(g:b0=decide (Fe q))(e0:b0=false):((false&&x)&&y)=decide (BH q):=by
 have m:¬Fe q:=da (g.symm.trans e0);rw [uC h];simp [m]
variable{b:Bool}
theorem zV{z:Int}(g:((b&&decide (QK q))&&decide (z=0))=decide (BH q))(e:b=true):((decide (1<=q.bq/\q.bq<=3)&&decide ((0:Int)=0))&&decide (z=0))=decide (BH q):=by
 rw [<-g,e,show decide (QK q)=decide (1<=q.bq/\q.bq<=3) from decide_eq_decide.2 Iff.rfl];simp only [Ys,decide_true,ij]
theorem zW{x y:Bool}{z:Int}(g:((b&&decide (QK q))&&decide (z=0))=decide (BH q))(e:b=false):((false&&x)&&y)=decide (BH q):=by
 rw [<-g,e];simp
theorem KW(n lo hi:Int):Au prog 133 #[I4 n,I4 lo,I4 hi] [] (.bool (decide (lo<=n/\n<=hi))):=by
 refine Se func133 ntmps133 [0,1,2] ?_;intro u R;refine A3<|AH Y<|AK Y<|Zm Y<|Zv (Ga Y Y)<|Zm Y<|Af (t:=10) Y V (fun g=>?_) (fun g=>?_);focus
  refine Zf Y Y<|Zf Y Y<|Yg (Md Y Y)<|Zv (AU Y Y) ?_
 rotate_left
 focus
  refine AG<|C4<|Zv (AJ Y Y) ?_
 all_goals
  refine An Y<|AO V results133 Y (by exact ⟨by simp [g],V⟩)
theorem Js(q:QM):Au prog 63 #[.agg q.BM5] [] (.bool (decide (BH q))):=by
 refine Se func63 ntmps63 [0] ?_;intro u R;refine A3<|Ze (Bx #[_,_,_,_,_,_,_])<|AF fun O=>AH Y<|Zb [1] ?_;refine CP (e0:=[]) (H0:=[]) (fun e H=>∃(b0:Bool),(b0=decide (Fe q))/\e=[(3,.bool b0)]/\H=[]) Wp ?hx_1 ?hy_1
 case hx_1=>
  refine Zg<|Zh 1 DB V rfl A6 Y<|Zl AE Y ?_;refine Xr [_,_,_] Y call133 Y V (KW _ _ _) ?_;refine Zm Y<|Af (t:=7) Y V (fun a1=>?_) (fun a1=>?_);focus
   refine Yf 2 DB V rfl A6 Y<|Yl AE Y ?_;refine Xr [_,_,_] Y call133 Y V (KW _ _ _) ?_;refine C1 Y Y<|Zm Y<|Af (t:=12) Y V (fun a2=>?_) (fun a2=>?_);focus
    refine Yf 3 DB V rfl A6 Y<|Yl AE Y ?_;refine Yf 4 DB V rfl A6 Y<|Yl AE Y ?_;refine Xr [_,_,_] Y call133 Y V (KW _ _ _) ?_;refine C1 Y Y<|Zm Y<|Af (t:=19) Y V (fun a3=>?_) (fun a3=>?_);refine Yf 4 DB V rfl A6 Y<|Yl AE Y ?_;refine Yg (Md Y Y)<|C1 Y Y<|B2 Y<|HB (e:=[(3,_)]) (h:=by exact ⟨_,by unfold Fe;exact decide_eq_decide.2 A0,V,V⟩)
   rotate_left
   focus
    refine AG<|AG<|C4<|B9 Y Y<|Zm Y ?_
  rotate_left 2
  focus
   refine AG<|C4<|B9 Y Y<|Zm Y<|AG<|AG<|C4<|B9 Y Y<|Zm Y ?_
  all_goals
   refine AG<|C4<|B9 Y Y<|B2 Y<|HB (e:=[(3,_)]) (h:=by exact ⟨_,by unfold Fe;exact (DQ A0).symm,V,V⟩)
 rintro _ _ ⟨b0,g,rfl,rfl⟩;refine Zq<|A3<|Zh 0 DB V rfl A6 Y<|Zl AE Y ?_;refine A4<|AQ<|Zb [3,25,1] ?_;refine CP (e0:=[(3,_),(25,_)]) (H0:=[[(O,_)]]) (fun e H=>∃(b:Bool) (y z:Int),(((b&&decide (y=0))&&decide (z=0))=decide (BH q))/\e=[(3,.bool b)]/\H=[[(O,.cells #[I4 q.kd,I4 q.tb,I4 q.cl,I4 q.lo,I4 q.hi,I4 y,I4 z] 41 (0,0))]]) Wp ?hx_6 ?hy_6
 case hx_6=>
  refine AQ<|Zb [3,25,1] ?_;refine CP (e0:=[(3,_),(25,_)]) (H0:=[[(O,_)]]) (fun e H=>∃(b:Bool) (z:Int),(((b&&decide (QK q))&&decide (z=0))=decide (BH q))/\e=[(3,.bool b)]/\H=[[(O,.cells #[I4 q.kd,I4 q.tb,I4 q.cl,I4 q.lo,I4 q.hi,I4 q.bq,I4 z] 41 (0,0))]]) Wp ?hx_7 ?hy_7
  case hx_7=>
   refine AQ<|Zq<|AQ<|Zq<|AQ<|Zq<|Zq<|A3<|Zv (CO Y Y)<|AH Y<|Ak Y (fun I=>?_) (fun I=>?_);·
    refine BA<|Zt<|Zt<|AX<|Zx<|B8 Y<|Zm Y<|Ad (t:=38) Y V (fun U=>?_) (fun U=>?_);focus
     have Z:Fe q:=IH (g.symm.trans U);refine Yf 2 DB V rfl A6 Y<|Yl AE Y ?_;refine Yg (CO Y Y)<|C1 Y Y<|Zm Y<|Af (t:=43) Y V (fun c1=>?_) (fun c1=>?_);focus
      refine Yf 3 DB V rfl A6 Y<|Yl AE Y ?_;refine Yf 4 DB V rfl A6 Y<|Yl AE Y ?_;refine Yg (CO Y Y)<|C1 Y Y<|Zm Y<|Af (t:=50) Y V (fun c2=>?_) (fun c2=>?_);focus
       refine Yf 3 DB V rfl A6 Y<|Yl AE Y ?_;refine Xr [_,_,_] Y call133 Y V (KW _ _ _) ?_;refine C1 Y Y<|Zm Y<|Af (t:=55) Y V (fun c3=>?_) (fun c3=>?_);focus
        refine Yf 5 DB V rfl A6 Y<|Yl AE Y ?_;refine Yg (CO Y Y)<|C1 Y Y<|Zm Y<|Af (t:=60) Y V (fun c4=>?_) (fun c4=>?_);refine Yf 6 DB V rfl A6 Y<|Yl AE Y ?_;refine Yg (CO Y Y)<|C1 Y Y<|B2 Y<|Zn [2] ?_;refine Zx<|AL<|Zt<|Ag<|Zt<|Ag<|Zt<|Ag<|Zt<|Ag<|Zt<|AO rfl jz Y (by exact ⟨by rw [uE I];exact congrArg Value.bool (decide_eq_decide.2 ⟨fun h=>⟨Z,by omega⟩,fun h=>by omega⟩),rfl⟩)
       rotate_left
       focus
        refine AG<|C4<|B9 Y Y<|Zm Y ?_
      rotate_left 2
      focus
       refine AG<|C4<|B9 Y Y<|Zm Y<|AG<|C4<|B9 Y Y<|Zm Y ?_
     rotate_left 3
     focus
      refine AG<|AG<|C4<|B9 Y Y<|Zm Y<|AG<|C4<|B9 Y Y<|Zm Y<|AG<|C4<|B9 Y Y<|Zm Y ?_
    rotate_left 4
    focus
     have Z:¬Fe q:=da (g.symm.trans U);refine AG<|C4<|B9 Y Y<|Zm Y<|AG<|AG<|C4<|B9 Y Y<|Zm Y<|AG<|C4<|B9 Y Y<|Zm Y<|AG<|C4<|B9 Y Y<|Zm Y ?_
    all_goals
     refine AG<|C4<|B9 Y Y<|B2 Y<|Zn [2] ?_;refine Zx<|AL<|Zt<|Ag<|Zt<|Ag<|Zt<|Ag<|Zt<|Ag<|Zt<|AO rfl jz Y (by exact ⟨by rw [uE I];exact congrArg Value.bool (DQ (fun h=>by first|exact Z h.1|omega)).symm,rfl⟩)
   refine B3<|Zq<|A3<|Zv (CO Y Y)<|AH Y<|Ak Y (fun J=>?_) (fun J=>?_);·
    refine BA<|Zt<|Zt<|BV V<|Zt<|AX<|Zx<|AK Y<|Zm Y<|Ad (t:=66) Y V (fun e0=>?_) (fun e0=>?_);·
     refine Yf 6 DB V rfl A6 Y<|Yl AE Y ?_;refine Xr [_,_,_] Y call133 Y V (KW _ _ _) ?_;refine C1 Y Y<|AH Y<|Zg<|Zh 6 DB V rfl A6 Y<|Xe (Zs A6 Y Y V) ?_;refine Z0<|Zn [1,3] ?_;refine AA<|HB (e:=[(3,_)]) (h:=by exact ⟨_,_,yl J g e0,V,V⟩)
    refine AG<|C4<|B9 Y Y<|AH Y<|Zg<|Zh 6 DB V rfl A6 Y<|Xe (Zs A6 Y Y V) ?_;refine Z0<|Zn [1,3] ?_;refine AA<|HB (e:=[(3,_)]) (h:=by exact ⟨_,0,ym J g e0,V,V⟩)
   refine B3<|Zq<|Zq<|A3<|Zv (CO Y Y)<|AH Y<|Ak Y (fun G=>?_) (fun G=>?_);focus
    refine B3<|Ak Y (fun G=>?_) (fun G=>?_);·
     refine BA<|Zt<|Zt<|BV V<|Zt<|BV V<|Zt<|AX<|HB (e:=[(3,_)]) (h:=by exact ⟨_,_,r4 A0 g,V,V⟩)
    focus
     refine B3<|Zq<|A3<|Zv (CO Y Y)<|AH Y<|Ak Y (fun m=>?_) (fun m=>?_);focus
      refine AC ?_
     rotate_left
     focus
      refine Zg<|Zv (CO Y Y)<|Za Y<|Z0 ?_
   rotate_left 2
   focus
    refine A3<|Zv (CO Y Y)<|AH Y<|Ak Y (fun G=>?_) (fun G=>?_);focus
     refine B3<|Ak Y (fun G=>?_) (fun G=>?_);·
      refine BA<|Zt<|Zt<|BV V<|Zt<|BV V<|Zt<|AX<|HB (e:=[(3,_)]) (h:=by exact ⟨_,_,r4 A0 g,V,V⟩)
     focus
      refine B3<|Zq<|A3<|Zv (CO Y Y)<|AH Y<|Ak Y (fun m=>?_) (fun m=>?_);focus
       refine AC ?_
      rotate_left
      refine Zg<|Zv (CO Y Y)<|AH Y<|Ak Y (fun m=>?_) (fun m=>?_);·
       refine BA<|Zt<|BV V<|Zt<|BV V<|Zt<|BV V<|Zt<|AX<|HB (e:=[(3,_)]) (h:=by exact ⟨_,_,_,r8 A0 g,V,V⟩)
      refine B3<|BA<|BV V<|Zt<|BV V<|Zt<|BV V<|Zt<|BV V<|Zt<|AX<|C6<|B2 Y<|Zn [2] ?_;refine Zx<|AL<|AO V jz Y (by exact ⟨congrArg Value.bool (DQ (tZ I J A0 A0 A0 A0 A0)).symm,V⟩)
    rotate_left
    focus
     refine Zg<|Zv (CO Y Y)<|AH Y<|Ak Y (fun G=>?_) (fun G=>?_);·
      refine BA<|Zt<|Zt<|BV V<|Zt<|BV V<|Zt<|AX<|HB (e:=[(3,_)]) (h:=by exact ⟨_,_,r4 A0 g,V,V⟩)
     focus
      refine B3<|Zq<|A3<|Zv (CO Y Y)<|AH Y<|Ak Y (fun m=>?_) (fun m=>?_);·
       refine B3<|Ak Y (fun m=>?_) (fun m=>?_);·
        refine BA<|Zt<|BV V<|Zt<|BV V<|Zt<|BV V<|Zt<|AX<|HB (e:=[(3,_)]) (h:=by exact ⟨_,_,_,r8 A0 g,V,V⟩)
       refine B3<|BA<|BV V<|Zt<|BV V<|Zt<|BV V<|Zt<|BV V<|Zt<|AX<|C6<|B2 Y<|Zn [2] ?_;refine Zx<|AL<|AO V jz Y (by exact ⟨congrArg Value.bool (DQ (tZ I J A0 A0 A0 A0 A0)).symm,V⟩)
      focus
       refine Zg<|Zv (CO Y Y)<|B2 Y<|Zn [1,3,34] ?_
   all_goals
    refine Zx<|Ak Y (fun m=>?_) (fun m=>?_);·
     refine BA<|Zt<|BV V<|Zt<|BV V<|Zt<|BV V<|Zt<|AX<|HB (e:=[(3,_)]) (h:=by exact ⟨_,_,_,r8 A0 g,V,V⟩)
    refine B3<|BA<|BV V<|Zt<|BV V<|Zt<|BV V<|Zt<|BV V<|Zt<|AX<|C6<|An Y<|AO V jz Y (by exact ⟨congrArg Value.bool (DQ (tZ I J A0 A0 A0 A0 A0)).symm,V⟩)
  rintro _ _ ⟨b,z,K,rfl,rfl⟩;refine AK Y<|Zm Y<|Ad (t:=73) Y V (fun X=>?_) (fun X=>?_);·
   refine Yf 5 DB V rfl A6 Y<|Yl AE Y ?_;refine Xr [_,_,_] Y call133 Y V (KW _ _ _) ?_;refine C1 Y Y<|AH Y<|Zg<|Zh 5 DB V rfl A6 Y<|Xe (Zs A6 Y Y V) ?_;refine Z0<|AA<|HB (e:=[(3,_)]) (h:=by exact ⟨_,_,_,zV K X,V,V⟩)
  refine AG<|C4<|B9 Y Y<|AH Y<|Zg<|Zh 5 DB V rfl A6 Y<|Xe (Zs A6 Y Y V) ?_;refine Z0<|AA<|HB (e:=[(3,_)]) (h:=by exact ⟨_,0,z,zW K X,V,V⟩)
 rintro _ _ ⟨b,y,z,K,rfl,rfl⟩;refine B8 Y<|Zm Y<|Ad (t:=80) Y V (fun g0=>?_) (fun g0=>?_);focus
  refine Yf 5 DB V rfl A6 Y<|Yl AE Y ?_;refine Yg (CO Y Y)<|C1 Y Y<|Zm Y<|Af (t:=85) Y V (fun g1=>?_) (fun g1=>?_);focus
   refine Yf 6 DB V rfl A6 Y<|Yl AE Y ?_;refine Yg (CO Y Y)<|Zv (AU Y Y) ?_
  rotate_left
  focus
   refine AG<|C4<|Zv (AJ Y Y) ?_
 rotate_left 2
 focus
  refine AG<|C4<|B9 Y Y<|Zm Y<|AG<|C4<|Zv (AJ Y Y) ?_
 all_goals
  refine An Y<|Zt<|Ag<|Zt<|AO rfl jz Y (by exact ⟨by rw [<-K];simp [*],rfl⟩)
def J2(p:BE)(o:Option AV)(s:List A8):Prop:=match o with
 |none=>p=none/\s=[]
 |some r=>∃b,p=some ⟨b,0,none⟩/\s=[(b,.cells r.BM4 83 (0,0))]
theorem J2.some_{p:BE}{o:Option AV}(h:J2 p o s):p.isSome=o.isSome:=by
 cases o with
 |none=>rw [h.1];rfl
 |some r=>obtain ⟨b,rfl,_⟩:=h;rfl
theorem dG(q:QM)(c:Chg)(g:Bool)(v:V3):Iz q g (EW c g v)=Iz q g ⟨c.t,c.k,v⟩:=by
 cases g with
 |false=>rfl
 |true=>rfl
theorem w9(h:b=false\/¬(r.t=q.tb/\q.lo<=Bj r q.cl/\Bj r q.cl<=q.hi)):Iz q b r=none:=by
 unfold Iz inQ;rcases h with h|h
 · rw [h];rfl
 · rw [DQ h,Bool.and_false];rfl
theorem vM(h:b=true)(h2:r.t=q.tb/\q.lo<=Bj r q.cl/\Bj r q.cl<=q.hi):Iz q b r=some r:=by
 unfold Iz inQ;rw [h,DE h2];rfl
theorem IJ:GD prog 3 (fun k:Int=>I4 k) (fun _=>True):=Cf D3
theorem PV(q:QM)(I:0<=q.cl/\q.cl<=3)(G:0<=q.bq/\q.bq<=3)(bq:Nat)(r:AV)(b:Bool):BS prog 263 #[.agg r.BM4,.bool b,I5 bq] [[(bq,.cells q.BM5 41 (0,0))]] (fun v H'=>∃p s,v= .tuple #[.pointer p,I4 (mQ q (Iz q b r))]/\J2 p (Iz q b r) s/\H'=[s,[(bq,.cells q.BM5 41 (0,0))]]):=by
 refine Se func263 ntmps263 [0,1,2] ?_;intro u R;refine A3<|Ze (Bx #[_,_,_,_,_])<|AF fun J=>Za Y<|AH Y<|A3<|Zo Wh (A9 (cs:=#[_,_,_,_,_]) DM B6 Y B5 B1)<|Zh 2 DB V rfl A6 Y<|Zl AE Y<|Xr [_,_] Y Up Y V (GI r q.cl I)<|AH Y<|B8 Y<|Zv (Bo Y)<|Zm Y<|Ad (t:=14) Y V (fun m=>?_) (fun m=>?_);·
  refine AG<|AG<|C4<|C1 Y Y<|Zm Y<|AG<|AG<|C1 Y Y<|Zm Y<|AG<|AG<|C1 Y Y<|Z0<|Zn [2,3,32] ?_;refine Zx<|Cy Y<|Zq<|Bc<|Zg<|Za Y<|An Y<|Zt<|DR V results263 Y Y (by
   have g:Iz q b r=none:=w9 (by exact .inl (by simpa using m));exact ⟨none,[],by rw [g];rfl,by rw [g];exact ⟨rfl,rfl⟩,rfl⟩)
 refine Yf 0 HC V rfl A6 Y<|Yl AE Y<|Yf 1 DB V rfl A6 Y<|Yl AE Y<|Yg (I8 Y Y)<|B9 Y Y<|Zm Y<|Af (t:=21) Y V (fun h2=>?_) (fun h2=>?_);focus
  refine AG<|AG<|C1 Y Y<|Zm Y<|AG<|AG<|C1 Y Y<|Z0<|Zn [2,3,32] ?_;refine Zx<|Cy Y ?_
 rotate_left
 focus
  refine Zf Y Y<|Yf 3 DB V rfl A6 Y<|Yl AE Y<|Yg (Dy Y Y)<|B9 Y Y<|Zm Y<|Af (t:=27) Y V (fun K=>?_) (fun K=>?_);focus
   refine AG<|AG<|C1 Y Y<|Z0<|Zn [2,3,32] ?_;refine Zx<|Cy Y ?_
  rotate_left
  focus
   refine Zf Y Y<|Yf 4 DB V rfl A6 Y<|Yl AE Y<|Yg (F4 Y Y)<|B9 Y Y<|Z0<|Zn [2,3,32] ?_;refine Zx<|Ak Y (fun O=>?_) (fun O=>?_);rotate_left;refine AC<|C6<|Zo Wh (A9 (cs:=#[_,_,_,_,_]) DM B6 Y B5 B1)<|Zh 5 DB V rfl A6 Y<|Zl AE Y<|Xr [_,_] Y Up Y V (GI r q.bq G)<|Za Y<|An Y<|DR V results263 Y Y (by
    have g:Iz q b r=some r:=vM (by simpa using m) A0;exact ⟨_,_,by rw [g];rfl,by rw [g];exact ⟨J,rfl,rfl⟩,rfl⟩)
 all_goals
  refine Zq<|Bc<|Zg<|Za Y<|An Y<|Zt<|DR V results263 Y Y (by
   have g:Iz q b r=none:=w9 (by exact .inr A0);exact ⟨none,[],by rw [g];rfl,by rw [g];exact ⟨rfl,rfl⟩,rfl⟩)
theorem WH(c:Chg):Au prog 264 #[.agg c.BM3] [] (.tuple #[.agg #[I4 (EW c c.had c.o).t,I4 (EW c c.had c.o).k,I4 (EW c c.had c.o).v.a,I4 (EW c c.had c.o).v.b,I4 (EW c c.had c.o).v.c],.bool c.had]):=by
 refine Se func264 ntmps264 [0] ?_;intro u R;refine A3<|Ze (Bx #[_,_,_,_,_,_,_,_,_,_])<|AF fun g=>Ze (Al Ft #[_,_,_,_,_])<|AF fun m=>AH Y<|A3<|Zo Wh (A9 (cs:=#[_,_,_,_,_,_,_,_,_,_]) HD Cl Y B5 B1)<|Zh 2 CC V rfl F1 Y<|Zl G0 Y<|Zh 3 CC V rfl E4 Y<|Zo Wh (A9 (cs:=#[_,_,_]) Hb E4 Y B5 B1)<|Xr [_,_,_] Y call179 Y V (Xy c c.had c.o)<|Zd Y V<|Zd Y V<|Xe (Xw B6 _)<|B2 Y<|Zn [2,3] ?_;refine Zx<|AL<|CS V results264 Y Wh (Av DM B6 Wn (V)) Y (by exact ⟨V,V⟩)
set_option maxHeartbeats 1000000 in
theorem K6(q:QM)(I:0<=q.cl/\q.cl<=3)(G:0<=q.bq/\q.bq<=3)(c:Chg):BS prog 184 #[.agg q.BM5,.agg c.BM3] [] (fun v H'=>∃J K s1 s2,v= .agg (q.HL c J K (mQ q (bfQ q c)) (mQ q (afQ q c)))/\J2 J (bfQ q c) s1/\J2 K (afQ q c) s2/\H'=[s1,s2]):=by
 refine Se func184 ntmps184 [0,1] ?_;intro u R;refine A3<|Ze (Bx #[_,_,_,_,_,_,_])<|AF fun bq=>Ze (Bx #[_,_,_,_,_,_,_,_,_,_])<|AF fun X=>Ze (FM zeroValue311 (cs:=#[I4 0,I4 0,I4 0,I4 0,I4 0,I4 0,I4 0,I4 0,I4 0,.bool false,I4 0,I4 0,I4 0,.bool false,I4 0,I4 0,I4 0,.pointer none,.pointer none,I4 0,I4 0]) AD)<|AF fun rb=>A4<|A3<|Zo Wh (A9 (cs:=#[_,_,_,_,_,_,_]) Fm D4 Y B5 B1) ?_;refine Zo Wh (A9 (cs:=#[_,_,_,_,_,_,_,_,_,_]) HD Cl Y B5 B1) ?_;refine Zv (BN (vs:=[(0,.agg q.BM5),(1,.agg c.BM3)]) (cs:=(q.HL c none none 0 0)) Y (Aa (pl:=#[(0,7),(7,10),(17,1),(18,1),(19,1),(20,1)]) zeroValue311 Fl (fun _=>by kernel_rfl) AD))<|Ze (FM zeroValue311 (cs:=#[I4 0,I4 0,I4 0,I4 0,I4 0,I4 0,I4 0,I4 0,I4 0,.bool false,I4 0,I4 0,I4 0,.bool false,I4 0,I4 0,I4 0,.pointer none,.pointer none,I4 0,I4 0]) AD)<|AF fun Z=>Xe (BJ cH Y Y kc Wu (by exact Dz rfl) G4 B0 (by exact BB _)) ?_;refine A4<|A3<|Zv (Be (vs:=[]) (us:=[_]) Y Y)<|AH Y<|AK Y<|Zo Wh (A9 (cs:=#[_,_,_,_,_,_,_,_,_,_]) HD Cl Y B5 B1) ?_;refine Xr [_] Y call264 Y V (WH c) ?_;refine Zd Y V<|Zd Y V<|Zc [_,_] Y call263 Y V (PV q I G bq (EW c c.had c.o) c.had) ?_;rintro _ _ ⟨_,⟨J,s1,rfl,g,rfl⟩,rfl⟩;have O:Iz q c.had (EW c c.had c.o)=bfQ q c:=dG q c c.had c.o
 rw [O]at g⊢;refine Zm Y<|Zd Y V<|Zd Y V<|Zh 17 Fl V rfl N3 Y<|Xe (Zs N3 Y Y V (hi:=by(simp;done))) ?_;refine Zh 19 Fl V rfl A6 Y<|Xe (Zs A6 Y Y V (hi:=by(simp;done))) ?_;refine Z0<|Zn [3,4,5,6] ?_;refine Zx<|AK Y<|Zo Wh (A9 (cs:=#[_,_,_,_,_,_,_,_,_,_]) HD Cl Y B5 B1) ?_;refine Xr [_] Y call103 Y V (PY c) ?_;refine Zd Y V<|Zd Y V<|Zc [_,_] Y call263 Y V (PV q I G bq (EW c c.has c.n) c.has) ?_;rintro _ _ ⟨_,⟨K,s2,rfl,m,rfl⟩,rfl⟩;have U:Iz q c.has (EW c c.has c.n)=afQ q c:=dG q c c.has c.n
 rw [U]at m⊢;refine Zm Y<|Zd Y V<|Zd Y V<|Zh 18 Fl V rfl N3 Y<|Xe (Zs N3 Y Y V (hi:=by(simp;done))) ?_;refine Zh 20 Fl V rfl A6 Y<|Xe (Zs A6 Y Y V (hi:=by(simp;done))) ?_;refine Z0<|Zn [4,5] ?_;refine C6<|Zo Wh (A9 eE cH Y B5 (by exact Az V)) ?_;refine Xe (BJ cH Y Y kc Wu (by exact Dz rfl) G4 B0 (by exact BB _)) ?_;refine A4<|AL<|D7 V results184 Y Wh (Av eE cH Wn (Az V)) (by exact ⟨J,K,s1,s2,V,g,m,V⟩)
theorem GQ(q:QM)(c:Chg)(g m:BE)(o n:Int):(Value.agg (q.HL c g m o n)).cells=(q.HL c g m o n):=by simp [Value.cells]
theorem eu(q:QM)(c:Chg)(g m:BE)(o n:Int):Au prog 250 #[.agg (q.HL c g m o n)] [] (.bool (g.isSome||m.isSome)):=by
 refine Se func250 ntmps250 [0] ?_;intro u R;refine A3<|Ze (Fu Y (cs:=(q.HL c g m o n)) (GQ q c g m o n))<|AF fun I=>AH Y<|A3<|Zh 17 Fl V rfl N3 Y<|Zl RR Y ?_;refine Zv (G6 WD Y Y)<|Zm Y<|Ad (t:=6) Y V (fun G=>?_) (fun G=>?_);focus
  refine AG<|C4<|Zv (AU Y Y) ?_
 rotate_left
 focus
  refine Yf 18 Fl V rfl N3 Y<|Yl RR Y ?_;refine Yg (G6 WD Y Y)<|Zv (AJ Y Y) ?_
 all_goals
  refine An Y<|AO rfl results250 Y (by exact ⟨by first|rfl|simp [G],rfl⟩)
theorem UH(q:QM)(c:Chg)(g m:BE)(o n:Int):Au prog 252 #[.agg (q.HL c g m o n)] [] (.bool (g.isSome !=m.isSome)):=by
 refine Se func252 ntmps252 [0] ?_;intro u R;refine A3<|Ze (Fu Y (cs:=(q.HL c g m o n)) (GQ q c g m o n))<|AF fun G=>AH Y<|A3<|Zh 17 Fl V rfl N3 Y<|Zl RR Y ?_;refine Zv (OP WD Y Y)<|Zh 18 Fl V rfl N3 Y<|Zl RR Y ?_;refine Zv (OP WD Y Y)<|Zv (LH N6 Y Y)<|An Y<|AO V results252 Y (by exact ⟨by cases g<;>cases m<;>rfl,V⟩)
theorem w4(q:QM)(c:Chg)(g m:BE)(o n:Int):Au prog 254 #[.agg (q.HL c g m o n)] [] (.bool (decide (o≠n))):=by
 refine Se func254 ntmps254 [0] ?_;intro u R;refine A3<|Ze (Fu Y (cs:=(q.HL c g m o n)) (GQ q c g m o n))<|AF fun G=>AH Y<|A3<|Zh 19 Fl rfl rfl A6 Y<|Zl AE Y<|Zh 20 Fl rfl rfl A6 Y<|Zl AE Y<|Zv (I8 Y Y)<|An Y<|AO rfl results254 Y (by exact ⟨by first|rfl|simp,rfl⟩)
theorem vv(q:QM)(c:Chg)(g m:BE)(o n:Int):Au prog 256 #[.agg (q.HL c g m o n)] [] (.bool ((g.isSome !=m.isSome)||decide (o≠n))):=by
 refine Se func256 ntmps256 [0] ?_;intro u R;refine A3<|Ze (Fu Y (cs:=(q.HL c g m o n)) (GQ q c g m o n))<|AF fun I=>AH Y<|A3<|Zo Wh (A9 eE cH Y B5 (Az V)) ?_;refine Xr [_] Y call252 Y V (UH q c g m o n) ?_;refine Zm Y<|Ad (t:=5) Y V (fun G=>?_) (fun G=>?_);focus
  refine AG<|AG<|C4<|Zv (AU Y Y) ?_
 rotate_left
 focus
  refine Yf 19 Fl V rfl A6 Y<|Yl AE Y ?_;refine Yf 20 Fl V rfl A6 Y<|Yl AE Y ?_;refine Yg (I8 Y Y)<|Zv (AJ Y Y) ?_
 all_goals
  refine An Y<|AO V results256 Y (by exact ⟨by simp [G],V⟩)
theorem vu(q:QM)(c:Chg)(g m:BE)(o n:Int):Au prog 259 #[.agg (q.HL c g m o n)] [] (.bool ((g.isSome !=m.isSome)||decide (o≠n))):=by
 refine Se func259 ntmps259 [0] ?_;intro u R;refine A3<|Ze (Fu Y (cs:=(q.HL c g m o n)) (GQ q c g m o n))<|AF fun I=>AH Y<|A3<|Zo Wh (A9 eE cH Y B5 (Az V)) ?_;refine Xr [_] Y call252 Y V (UH q c g m o n) ?_;refine Zm Y<|Ad (t:=5) Y V (fun G=>?_) (fun G=>?_);focus
  refine AG<|AG<|C4<|Zv (AU Y Y) ?_
 rotate_left
 focus
  refine Yf 19 Fl V rfl A6 Y<|Yl AE Y ?_;refine Yf 20 Fl V rfl A6 Y<|Yl AE Y ?_;refine Yg (I8 Y Y)<|Zv (AJ Y Y) ?_
 all_goals
  refine An Y<|AO V results259 Y (by exact ⟨by simp [G],V⟩)
theorem vq(q:QM)(c:Chg)(g m:BE)(o n:Int):Au prog 261 #[.agg (q.HL c g m o n)] [] (.bool ((g.isSome||m.isSome)||decide (c.t=q.ot))):=by
 refine Se func261 ntmps261 [0] ?_;intro u R;refine A3<|Ze (Fu Y (cs:=(q.HL c g m o n)) (GQ q c g m o n))<|AF fun I=>AH Y<|A3<|Zo Wh (A9 eE cH Y B5 (Az V))<|Xr [_] Y call250 Y V (eu q c g m o n)<|Zm Y<|Ad (t:=5) Y V (fun G=>?_) (fun G=>?_);focus
  refine AG<|AG<|AG<|C4<|Zv (AU Y Y) ?_
 rotate_left
 focus
  refine Yf 7 Fl V rfl Cl Y<|Yg (Ar (off:=0) CC V rfl A6 Y)<|Yl AE Y<|Yf 0 Fl V rfl D4 Y<|Yg (Ar (off:=6) DB V rfl A6 Y)<|Yl AE Y<|Yg (CO Y Y)<|Zv (AJ Y Y) ?_
 all_goals
  refine B2 Y<|Zn [2] ?_;refine Zx<|AL<|AO V results261 Y (by exact ⟨by simp [G],V⟩)
end Go.Proofs.YtlkdhannldcfbabGreatDoor
