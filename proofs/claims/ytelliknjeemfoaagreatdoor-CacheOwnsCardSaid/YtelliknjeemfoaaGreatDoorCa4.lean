/- The pool made; Put where there is room. -/
import Derived.Test.YtelliknjeemfoaaGreatDoorMm2
set_option linter.unusedVariables false
set_option linter.unusedSimpArgs false
namespace Go.Proofs.YtelliknjeemfoaaGreatDoor
open Go.Proofs.Tryz
open Go Go.RowKit Gw
set_option maxRecDepth 100000
attribute [local irreducible] Gw.At Gw.Nx Gw.Ops
variable{r:Nat}
theorem dA{nx bf nx' bf':Nat->A2}{l:List Nat}(h:JH nx bf r l)(B:∀a∈r::l,nx' a=nx a)(h2:∀a∈r::l,bf' a=bf a):JH nx' bf' r l:=fun q m=>by
 have e1:q.1∈r::l:=by rw [<-J3 r l r];exact Ek m
 have e2:q.2∈r::l:=by
  have g:q.2∈l++[r]:=by rw [<-K3 r l r];exact Ek m
  rcases CI.1 g with g|g
  · exact G3 _ g
  · rw [CH.1 g];exact Fo ..
 rw [B _ e1,h2 _ e2];exact h q m
def Bf.more(z:Bf)(e:Bp):Bf:={z with E:=z.E++[e],nx:=DT z.nx e.b (.pointer none),bf:=DT z.bf e.b (.pointer none)}
theorem Bf.more_S(z:Bf)(e:Bp)(g:e.b∉z.S.map (·.1)):z.S++[(e.b,.cells #[.string e.key,I0 e.te,I0 e.sz,.pointer none,.pointer none] 158 (0,0))]=(z.more e).S:=by
 rw [z.keys]at g;have B:z.r≠e.b:=fun h=>g (h▸Fo ..)
 unfold Bf.more Bf.S;simp only [Ef _ _ B,CN,F2,MY,S6];congr 2
 · refine W6 fun x hx=>?_
   have m:x.b≠e.b:=fun h=>g (h▸G3 _ (Ek hx));unfold Bp.ch;simp only [Ef _ _ m]
 · unfold Bp.ch
   simp only [I9]
variable{z:Bf}{ns mb ck:Nat}{es:Array MapEntry}{lm:List (C4×A2)}{su:List A8}
theorem YN{L:List Bp}(h:Da z ns L mb es ck lm su)(U:z.bl.Nodup)(e:Bp)(G:e.b∉z.S.map (·.1)):∃p,p∈(z.more e).bl/\(z.more e).bf z.r=pV p/\e∈(z.more e).E/\
 JH (DT (DT (z.more e).nx e.b (pV z.r)) p (pV e.b)) (DT (DT (z.more e).bf e.b (pV p)) z.r (pV e.b)) z.r ((L++[e]).map (·.b)):=by
 rw [z.keys]at G;have m:∀a∈z.r::L.map (·.b),a∈z.bl:=fun a g=>by
  rcases Dg.1 g with rfl|g
  · exact Fo ..
  · obtain ⟨x,hx,rfl⟩:=CM.1 g
    exact G3 _ (Ek (h.sub x hx))
 have B:∀a∈z.r::L.map (·.b),a≠e.b:=fun a g W=>G (W▸m a g);obtain ⟨p,I,h2,J⟩:=qJ (x:=e.b) (h.nodup U) (fun hx=>G (m _ hx)) (dA (nx':=(z.more e).nx) (bf':=(z.more e).bf) h.ring (fun a g=>Ef _ _ (B a g)) (fun a g=>Ef _ _ (B a g)));refine ⟨p,?_,h2,HC _ (CH.2 rfl),by rw [CN];exact J⟩;have O:=m p I
 unfold Bf.bl Bf.more at*;rcases Dg.1 O with h5|h5
 · rw [h5];exact Fo ..
 · refine G3 _ ?_
   show p∈(z.E++[e]).map (·.b);rw [CN];exact Fc _ h5
theorem Xu{l:List Int}{i:Nat}{x:Int}(h:l[i]?=some x):(l.take (i+1)).sum=(l.take i).sum+x:=by
 obtain ⟨hi,rfl⟩:=C6.1 h;rw [S5,BE hi,rI];simp
theorem O9:∀{l:List Int},(∀x∈l,0<=x)->∀i,0<=(l.take i).sum/\(l.take i).sum<=l.sum
 |[],_,i=>by simp
 |x::l,h,0=>by
  have:=O9 (fun y hy=>h y (G3 _ hy)) l.length;rw [HI]at this;have hx:=h x (Fo ..)
  simp only [MT,List.sum_nil,lB];omega
 |x::l,h,i+1=>by
  have:=O9 (fun y hy=>h y (G3 _ hy)) i;have hx:=h x (Fo ..)
  simp only [nc,lB];omega
theorem dL(r:Nat)(cap:Int)(hc:1<=cap/\cap<=1000000)(a:B8)(ns c mb g:Nat)(hn:ns<=maxLen):Da ⟨r,[],fun _=>pV r,fun _=>pV r,cap,.slice a ns c,I2 g ns ns,.map (some mb),cap⟩ ns [] mb #[] 0 [] [(g,.cells (List.replicate ns (Value.int .i64 0)).toArray 3 (0,0))]:=by
 refine ⟨fun e h=>by simp at h,qH V rfl,V,EX _,fun p=>by simp,oB,?_,fun e h=>by simp at h,fun e h=>by simp at h,?_,?_,⟨a,c,V⟩,hc⟩
 · rw [show(List.range ns).map (fun k:Nat=>Value.int .i64 (FW [] (k:Int)))=List.replicate ns (Value.int .i64 0) from by
    rw [List.eq_replicate_iff];refine ⟨by simp,fun b m=>?_⟩;obtain ⟨k,_,rfl⟩:=CM.1 m;rfl]
   exact M9 _ g _ ns B6 hn
 · show cap=cap -L6 []
   unfold L6;simp
 · show 0<=cap
   omega
theorem GQ{v:A2}{xs:List Int}{s:List A8}(J:Row 3 v (xs.map (Value.int .i64)) s)(hn:xs.length<=1000000):BQ prog 75 #[v] [s] (fun r H'=>∃g c s2,r= .slice g xs.length c/\Row 3 r (xs.map (Value.int .i64)) s2/\H'=[s2,s]):=by
 have af:=mL;obtain ⟨X,cv,hv⟩:=J.form;rw [Bm]at hv;subst hv;refine Se func75 ntmps75 [0] ?_;intro u R;refine A3<|AH Y<|B7 Y<|Zv (Du DS Y Y)<|A5<|AY Y (fun W=>?_) (fun W=>?_);·
  have O:X=none:=by cases X with
   |none=>rfl
   |some x=>cases W
  subst O;have h0:xs=[]:=by
   rcases J with⟨_,h,_⟩|⟨g,cap,cur,z,h,_⟩
   · simpa using h
   · cases h
  subst h0;refine Zq<|Bc<|Zg<|Ax Y<|Zt<|AX V results75 Y (by exact ⟨none,0,[],V,IB _,V⟩)
 refine AC<|CD<|Ze (EF DS A6)<|AF fun Z=>Zm Y<|Ze (KQ (by_:=8) DS (rfl:Tryz.prog.info? 3=some Tryz.t3) rfl rfl rfl rfl Y ((M9 3 Z [] 0 rfl An)) Y (J) Wo Wo (by exact fun u hu=>by obtain ⟨x,_,rfl⟩:=CM.1 hu;rfl) LO LO) ?_;rintro _ _ ⟨U,m,rfl⟩;rw [Mu]at m;have B:=m
 obtain ⟨I,G,rfl⟩:=m.form;refine Ax Y<|AX V results75 Y (by exact ⟨I,G,U,by simp,B,V⟩)
theorem lN{v:A2}{sh:List Int}{W:List A8}(G:Row 3 v (sh.map (Value.int .i64)) W)(cap:Int)(hc:1<=cap/\cap<=1000000)(hl:1<=sh.length/\sh.length<=8)(h0:∀x∈sh,0<=x)(X:sh.sum<=cap):BQ prog 36 #[I0 cap,v] [W] (fun r H'=>∃z mb su sc,r= .tuple #[.pointer (some ⟨z.r,0,none⟩),I0 0]/\(z.cap=cap/\U5 sc z.sh sh)/\Da z sh.length [] mb #[] 0 [] su/\H'=[z.S,[(mb,.map #[] 0)],su,sc,W]):=by
 have bn:=mL;obtain ⟨pv,cv,hv⟩:=G.form;rw [Bm]at hv;subst hv;refine Se func36 ntmps36 [0,1] ?_;intro u R;refine A3<|Za Y<|AH Y<|B7 Y<|Zv (Dz Y Y)<|Zm Y<|Ae (t:=12) Y V (fun Z=>by omega)<|fun Z=>Zf Y Y<|Yg (Ev Y Y)<|BW Y Y<|Zm Y<|Ae (t:=16) Y V (fun g2=>by omega)<|fun g2=>Zf Y Y<|Yg (AR DS Y)<|Yg (Ar (n:=1) Y Y)<|BW Y Y<|Zm Y<|Ae (t:=21) Y V (fun g3=>by omega)<|fun g3=>Zf Y Y<|Yg (AR DS Y)<|Yg (Df (n:=8) Y Y)<|BW Y Y<|Z0<|Zn [0,1,25] ?_;refine Zx<|Ap Y (fun g4=>by omega)<|fun g4=>B4<|AN Y<|AH Y<|B7 Y<|Zv (AR DS Y)<|Zm Y<|A5<|AP<|Zb [6,29,0,1,27,28] ?_;refine Ay (e0:=[(6,_),(29,_)]) (fun m e H=>∃(i:Nat),m=sh.length -i/\(i<=sh.length)/\e=[(6,I0 (cap -(sh.take i).sum)),(29,I0 (i:Int))]/\H=[]) (by exact ⟨0,V,C7 _,by simp,V⟩) Wp ?_;rintro _ _ _ ⟨i,rfl,hi,rfl,rfl⟩;refine A3<|Zv (Ar Y Y)<|A5<|Zq<|Ap Y (fun J=>?_) (fun J=>?_);·
  obtain ⟨n,hn⟩:∃n,sh[i]?=some n:=⟨_,BE J⟩;obtain ⟨bs,cs,cur,zs,U,rfl,ax,af,I,_⟩:=Wj G (k:=i) (y0:=I0 n) (by rw [FF,hn];rfl);injection U with e1 e2 e3
  subst e1 e3;have cu:=h0 n (E7 hn)
  have cO:=O9 h0 i;have O:=O9 h0 (i+1)
  rw [Xu hn]at O;refine B4<|Zq<|AP<|A3<|Ba (Bd DS A6 Y Y A0)<|Zl AE Y (hv:=by exact I) ?_;refine AH Y<|B7 Y<|Zv (Dz Y Y)<|Zm Y<|Ae (t:=35) Y V (fun g5=>by omega)<|fun g5=>Zf Y Y<|Zf Y Y<|Yg (Ev Y Y)<|BW Y Y<|A5<|Ap Y (fun g6=>by omega)<|fun g6=>B4<|Zg<|Zm Y<|Zm Y ?_
  (refine Ba (Gu Y Y (IntWalk.i64_in _ ?_)) ?_;(focus (omega)))
  refine B1 Y<|Zn [0,1,6,27,28,29] ?_;refine A9<|Zx<|E6 Y Y Y<|DM (e:=[(6,_),(29,_)]) (h:=by exact ⟨i+1,rfl,by omega,by rw [Xu hn,Int.sub_sub],rfl⟩)
 refine BB<|Zt<|Zt<|AV<|Zx<|Zb [0,1] ?_;refine Ch (e0:=[(0,_),(1,_)]) (H0:=[]) (fun e H=>∃(r mb B:Nat) (gc:B8) (cc:Nat) (sc:List A8),(Row 3 (.slice gc sh.length cc) (sh.map (Value.int .i64)) sc)/\e=[(9,I1 r)]/\H=[[(r,.cells #[.string ⟨#[]⟩,I0 0,I0 0,.pointer none,.pointer none,I0 cap,.slice gc sh.length cc,I2 B sh.length sh.length,.map (some mb),I0 cap] 162 (0,0))],[(mb,.map #[] 0)],[(B,.cells (List.replicate sh.length (Value.int .i64 0)).toArray 3 (0,0))],sc]) Wp ?hx_3 ?hy_3
 case hx_3=>
  refine Aw (n:=11) (0::0::2::0::8::24::0::0::255::511::1023::[]) 612 AD AD V<|A1 0 V (AQ Y)<|A1 1 V (AQ Y)<|A1 3 V (AQ Y)<|A1 4 V (AR DS Y)<|A1 7 V (AQ Y)<|Zz (l:=[2,5,6])<|C0 [] [] V rfl (Zw [_] Y call75 Y V (GQ G A0)) ?hk_4 Bz ?hl_4
  case' hk_4=>
   rintro _ _ ⟨_,⟨gc,cc,sc,rfl,g,rfl⟩,rfl⟩;refine CA<|Zz (l:=[5,6])<|C0 [] [] V rfl (Gd (by_:=8) DS (V:Tryz.prog.info? 3=some Tryz.t3) V rfl V rfl Y Y ?_ ?_ ?_) ?hk_5 (fun _ _ h=>h.elim) ?hl_5
   (focus (omega))
   (focus (omega))
   (focus (omega))
   case' hk_5=>
    rintro _ _ ⟨B,rfl,rfl⟩;refine CA<|Yz 6 0 255 [] [] [] V Y V rfl V rfl (DK) ?_;rintro _ _ ⟨mb,rfl,rfl⟩
   case' hl_5=>
    refine C0 [] [] V rfl (DK) ?hk_9 (fun _ _ h=>h.elim) ?hl_9
    case' hk_9=>
     rintro _ _ ⟨mb,rfl,rfl⟩;refine CA<|Yz 5 24 255 [] [] [] V Y V rfl V rfl (Gd (by_:=8) DS (V:Tryz.prog.info? 3=some Tryz.t3) V rfl V rfl Y Y ?_ ?_ ?_) ?_
     (focus (omega))
     (focus (omega))
     (focus (omega))
     rintro _ _ ⟨B,rfl,rfl⟩
    case' hl_9=>
     exact Am
  case' hl_4=>
   refine C0 [] [] V rfl (Gd (by_:=8) DS (V:Tryz.prog.info? 3=some Tryz.t3) V rfl V rfl Y Y ?_ ?_ ?_) ?hk_13 (fun _ _ h=>h.elim) ?hl_13
   (focus (omega))
   (focus (omega))
   (focus (omega))
   case' hk_13=>
    rintro _ _ ⟨B,rfl,rfl⟩;refine CA<|Zz (l:=[2,6])<|C0 [] [] V rfl (Zw [_] Y call75 Y V (GQ G A0)) ?hk_14 Bz ?hl_14
    case' hk_14=>
     rintro _ _ ⟨_,⟨gc,cc,sc,rfl,g,rfl⟩,rfl⟩;refine CA<|Yz 6 0 255 [] [] [] V Y V rfl V rfl (DK) ?_;rintro _ _ ⟨mb,rfl,rfl⟩
    case' hl_14=>
     refine C0 [] [] V rfl (DK) ?hk_18 (fun _ _ h=>h.elim) ?hl_18
     case' hk_18=>
      rintro _ _ ⟨mb,rfl,rfl⟩;refine CA<|Zz (l:=[2])<|C0 [] [] V rfl (Zw [_] Y call75 Y V (GQ G A0)) ?hk_19 Bz ?hl_19
      case' hk_19=>
       rintro _ _ ⟨_,⟨gc,cc,sc,rfl,g,rfl⟩,rfl⟩
      case' hl_19=>
       exact Am
     case' hl_18=>
      exact Am
   case' hl_13=>
    refine C0 [] [] V rfl (DK) ?hk_22 (fun _ _ h=>h.elim) ?hl_22
    case' hk_22=>
     rintro _ _ ⟨mb,rfl,rfl⟩;refine CA<|Zz (l:=[2,5])<|C0 [] [] V rfl (Zw [_] Y call75 Y V (GQ G A0)) ?hk_23 Bz ?hl_23
     case' hk_23=>
      rintro _ _ ⟨_,⟨gc,cc,sc,rfl,g,rfl⟩,rfl⟩;refine CA<|Yz 5 24 255 [] [] [] V Y V rfl V rfl (Gd (by_:=8) DS (V:Tryz.prog.info? 3=some Tryz.t3) V rfl V rfl Y Y ?_ ?_ ?_) ?_
      (focus (omega))
      (focus (omega))
      (focus (omega))
      rintro _ _ ⟨B,rfl,rfl⟩
     case' hl_23=>
      refine C0 [] [] V rfl (Gd (by_:=8) DS (V:Tryz.prog.info? 3=some Tryz.t3) V rfl V rfl Y Y ?_ ?_ ?_) ?hk_27 (fun _ _ h=>h.elim) ?hl_27
      (focus (omega))
      (focus (omega))
      (focus (omega))
      case' hk_27=>
       rintro _ _ ⟨B,rfl,rfl⟩;refine CA<|Zz (l:=[2])<|C0 [] [] V rfl (Zw [_] Y call75 Y V (GQ G A0)) ?hk_28 Bz ?hl_28
       case' hk_28=>
        rintro _ _ ⟨_,⟨gc,cc,sc,rfl,g,rfl⟩,rfl⟩
       case' hl_28=>
        exact Am
      case' hl_27=>
       exact Am
    case' hl_22=>
     exact Am
  all_goals
   refine CA<|A1 8 V (BM (vs:=[(1,I0 cap),(2,.slice gc sh.length cc),(3,I2 B sh.length sh.length),(4,.map (some mb)),(5,I0 cap)]) (cs:=#[.string ⟨#[]⟩,I0 0,I0 0,.pointer none,.pointer none,I0 cap,.slice gc sh.length cc,I2 B sh.length sh.length,.map (some mb),I0 cap]) Y (Aa (pl:=#[(0,5),(5,1),(6,1),(7,1),(8,1),(9,1)]) zeroValue162 Mb (fun _=>by kernel_rfl) AD))<|Yw 9 1023 V (FN Y (cs:=#[.string ⟨#[]⟩,I0 0,I0 0,.pointer none,.pointer none,I0 cap,.slice gc sh.length cc,I2 B sh.length sh.length,.map (some mb),I0 cap]) AD)<|AF fun r=>A1 10 V (BI Y)<|Ao<|Hx (by exact ⟨r,mb,B,gc,cc,sc,g,V,V⟩)
 rintro _ _ ⟨r,mb,B,gc,cc,sc,g,rfl,rfl⟩;refine AN Y<|Zp Y V<|Zh 0 Mb V rfl sizeOf160 Y<|Zc [_] Y call76 Y V (gu r 162 (0,0) _ _ _ _ _ _ _ _ _ _) ?_;rintro _ _ ⟨_,⟨rfl,rfl⟩,rfl⟩;refine A5<|AN Y<|Za Y<|Ax Y<|Di V results36 Y Y (by exact ⟨⟨r,[],fun _=>pV r,fun _=>pV r,cap,.slice gc sh.length cc,I2 B sh.length sh.length,.map (some mb),cap⟩,mb,_,sc,V,⟨V,lJ g⟩,dL r cap hc gc sh.length cc mb B A0,V⟩)
variable{k:Nat}{K:C4}
theorem xA{L:List Bp}(B:Da z ns L mb es ck lm su)(hd:z.bl.Nodup)(hk:k<ns){sz:Int}(l8:1<=sz)(l9:sz<=z.fr)(hK:∀e∈L,e.key≠K):BQ prog 41 #[.pointer (some ⟨z.r,0,none⟩),I0 (k:Int),.string K,I0 sz] [z.S,[(mb,.map es ck)],su] (fun v H'=>v= .tuple #[.slice none 0 0,.bool true]/\∃z' Z X ow gq b,z'.r=z.r/\z'.cs=z.cs/\Da z' ns (L++[⟨b,K,(k:Int),sz⟩]) mb Z X ow gq/\H'=[z'.S,[(mb,.map Z X)],gq]):=by
 obtain ⟨sha,pz,o8⟩:=B.sh;have hg:=B.none hK
 refine Ct func41 V ntmps41 V ?_;intro u R;refine Zb [0,1,2,3] ?_;refine A3<|Ze (Bx #[_])<|AF fun bp=>Za Y<|AH Y<|Tv ?_;refine Zq<|A3<|Zl N3 Y<|Zv (BZ mB Y Y)<|Zm Y<|Ab (t:=20) Y V (fun gd=>by cases gd)<|fun gd=>Zf Y Y<|Yg (Ar (n:=0) Y Y)<|BW Y Y<|Zm Y<|Ae (t:=24) Y V (fun g2=>by omega)<|fun g2=>Zf Y Y<|Yl N3 Y<|Yg (Aq Y V)<|Yf 6 Mb V rfl eK Y<|Lg Y (Gn Wo (z.root)) (BL db Y (congrArg some o8)) V rfl ?_;refine Yg (AR DS Y)<|Yg (G8 Y Y)<|BW Y Y<|Zm Y<|Ae (t:=33) Y V (fun g3=>by omega)<|fun g3=>Zf Y Y<|Yg (Dz Y Y)<|BW Y Y<|Z0<|Zn [1,2,3,4,36] ?_;refine Zx<|Ap Y (fun g4=>by omega)<|fun g4=>AC<|CD<|AH Y<|Zb [10,1,2,3,4] ?_;refine Ch (e0:=[(10,_)]) (H0:=[z.S,[(mb,.map es ck)],su]) (fun e H=>∃(z1:Bf) (J:Array MapEntry) (I:Nat) (gm:List (C4×A2)) (W:List A8) (tv:A2),(((z1.r=z.r/\z1.cs=z.cs)/\sz<=z1.fr/\∀x∈L,x.key≠K)/\Da z1 ns (L) mb J I gm W)/\e=[(10,tv)]/\H=[z1.S,[(mb,.map J I)],W]) Wp ?hx_1 ?hy_1
 case hx_1=>
  refine A3<|Zl N3 Y<|Zp Y rfl<|Zh 8 Mb rfl rfl fj Y<|CO (Gn Wo (z.root)) (BL isAgg155 Y (congrArg some B.mv)) rfl rfl<|Zm Y<|Zo Wh (EN (Dx HO (D:=fun _=>True)) ie mm B.map (fun _ _=>trivial) (trivial) (⟨by rw [hg];first|done|rfl,by rw [hg];first|done|rfl⟩) Y Y)<|Zm Y<|Zd Y rfl<|Zd Y rfl<|Za Y<|AH Y<|AN Y<|A5<|AY Y (fun g7=>by cases g7)<|fun g7=>AC<|HM (e:=[(10,_)]) (h:=by exact ⟨z,es,ck,lm,su,_,⟨⟨⟨V,V⟩,l9,hK⟩,B⟩,V,V⟩)
 rintro _ _ ⟨z1,J,I,gm,W,tv,⟨⟨⟨l5,cu⟩,ek,U⟩,g⟩,rfl,rfl⟩;rw [<-l5,<-cu];have pq:=g.use (k:Int)
 have pg:z1.fr<=1000000:=by have h1:=g.free;have h2:=g.cap;have h3:=NK g.sz 0;omega
 refine GU (s:=z1.S) Wo (fun cO=>?_);rw [Bf.keys]at cO;refine A3<|D2 Y<|Tx<|Zx<|Zq<|AP<|Zb [10,13,1,2,3,4] ?_;refine Ay (e0:=[(10,_),(13,_)]) (fun m e H=>m=0/\(True)/\e=[(10,tv),(13,.slice none 0 0)]/\H=[]) (by exact ⟨V,trivial,V,V⟩) Wp ?_;rintro _ _ _ ⟨rfl,_,rfl,rfl⟩;refine Zq<|A3<|Zl N3 Y<|Zp Y V<|Zh 9 Mb V rfl A6 Y<|CO (Gn Wo (z1.root)) (BL AE Y B2) V rfl<|Zm Y<|Zv (Dz Y Y)<|A5<|Ap Y (fun g5=>by omega)<|fun g5=>BB<|Zt<|Zt<|AV<|Zx<|Zq<|A3<|Zl N3 Y<|Zp Y V<|Zh 9 Mb V rfl A6 Y<|CO (Gn Wo (z1.root)) (BL AE Y B2) V rfl<|Zm Y<|Zv (Dz Y Y)<|A5<|Ap Y (fun g6=>by omega)<|fun g6=>B4<|AN Y<|Zm Y<|Zm Y<|Zv (BM (vs:=[(0,_),(1,_),(2,_)]) (cs:=#[_,_,_,_,_]) Y (Aa (pl:=#[(0,1),(1,1),(2,1),(3,1),(4,1)]) zeroValue158 N1 (fun _=>by kernel_rfl) V))<|Ze (FN Y (cs:=#[.string K,I0 (k:Int),I0 sz,.pointer none,.pointer none]) AD)<|AF fun bn=>B1 Y<|Zn [2,4,13,17] ?_;refine Zx<|Zq<|vI (b:=bn) (s:=z1.S) Wo Wo (fun ax=>?_);refine CK (s1:=z1.S) (s2:=[(bn,_)]) Wo Wo ?_;rw [show z1.S++[(bn,Obj.cells #[.string K,I0 (k:Int),I0 sz,.pointer none,.pointer none] 158 (0,0))]=(z1.more (⟨bn,K,(k:Int),sz⟩:Bp)).S from Bf.more_S z1 (⟨bn,K,(k:Int),sz⟩:Bp) ax];refine GU (s:=(z1.more (⟨bn,K,(k:Int),sz⟩:Bp)).S) Wo (fun O=>?_);rw [Bf.keys]at O;obtain ⟨p2,j5,af,d9,G⟩:=YN g cO (⟨bn,K,(k:Int),sz⟩:Bp) ax;refine Zg<|Zm Y<|Zl N3 Y<|Zp Y V<|Zh 0 Mb V rfl sizeOf160 Y<|Zh 0 ia V rfl fh Y<|Zc [_,_] Y call90 Y V (QZ (z1.more (⟨bn,K,(k:Int),sz⟩:Bp)) O d9 j5 af) ?_;rintro _ _ ⟨_,⟨rfl,rfl⟩,rfl⟩
 refine A5<|A3<|Zl N3 Y<|Zp Y V<|Zh 8 Mb V rfl fj Y<|CO (Gn Wo ((Bf.root ({(z1.more (⟨bn,K,(k:Int),sz⟩:Bp))with nx:=DT (DT (z1.more (⟨bn,K,(k:Int),sz⟩:Bp)).nx (⟨bn,K,(k:Int),sz⟩:Bp).b (pV (z1.more (⟨bn,K,(k:Int),sz⟩:Bp)).r)) p2 (pV (⟨bn,K,(k:Int),sz⟩:Bp).b),bf:=DT (DT (z1.more (⟨bn,K,(k:Int),sz⟩:Bp)).bf (⟨bn,K,(k:Int),sz⟩:Bp).b (pV p2)) (z1.more (⟨bn,K,(k:Int),sz⟩:Bp)).r (pV (⟨bn,K,(k:Int),sz⟩:Bp).b)}:Bf)))) (BL isAgg155 Y (congrArg some g.mv)) V rfl<|Zm Y<|Zm Y<|Ze (FD (Dx HO (D:=fun _=>True)) ie g.map (fun _ _=>trivial) (trivial) Y Y Y Wo) ?_;rintro _ _ ⟨rfl,ic,gy,p8,j3,kv,rfl⟩;refine Z0<|Zn [4,13,17] ?_;refine CD<|Zl N3 Y<|Zm Y<|Zc [_,_,_] Y call91 Y rfl (Nl ({(z1.more (⟨bn,K,(k:Int),sz⟩:Bp))with nx:=DT (DT (z1.more (⟨bn,K,(k:Int),sz⟩:Bp)).nx (⟨bn,K,(k:Int),sz⟩:Bp).b (pV (z1.more (⟨bn,K,(k:Int),sz⟩:Bp)).r)) p2 (pV (⟨bn,K,(k:Int),sz⟩:Bp).b),bf:=DT (DT (z1.more (⟨bn,K,(k:Int),sz⟩:Bp)).bf (⟨bn,K,(k:Int),sz⟩:Bp).b (pV p2)) (z1.more (⟨bn,K,(k:Int),sz⟩:Bp)).r (pV (⟨bn,K,(k:Int),sz⟩:Bp).b)}:Bf) O (e:=(⟨bn,K,(k:Int),sz⟩:Bp)) d9 (.inl rfl) g.used (k:=k) rfl (x:=FW (L) (k:Int)) (by rw [FF,cM hk];rfl) A0 (by show 0<=sz/\sz<=_;omega) (by show _<=z1.fr/\z1.fr<=_;omega)) ?_;rintro _ _ ⟨_,⟨rfl,p9,o9,rfl⟩,rfl⟩;refine A5<|AN Y<|Za Y<|Ax Y<|KZ ?_;refine K8 V (dD results41 Y Y) (by exact ⟨V,({({(z1.more (⟨bn,K,(k:Int),sz⟩:Bp))with nx:=DT (DT (z1.more (⟨bn,K,(k:Int),sz⟩:Bp)).nx (⟨bn,K,(k:Int),sz⟩:Bp).b (pV (z1.more (⟨bn,K,(k:Int),sz⟩:Bp)).r)) p2 (pV (⟨bn,K,(k:Int),sz⟩:Bp).b),bf:=DT (DT (z1.more (⟨bn,K,(k:Int),sz⟩:Bp)).bf (⟨bn,K,(k:Int),sz⟩:Bp).b (pV p2)) (z1.more (⟨bn,K,(k:Int),sz⟩:Bp)).r (pV (⟨bn,K,(k:Int),sz⟩:Bp).b)}:Bf)with fr:=z1.fr -1*sz}:Bf),ic,gy,p8,p9,bn,V,V,SK g G U j3 kv V hk ⟨l8,ek⟩ o9,V⟩)
theorem x8{L1 L2:List Bp}{y:Bp}(B:Da z ns (L1++y::L2) mb es ck lm su)(hd:z.bl.Nodup)(hk:k<ns){sz:Int}(p9:1<=sz)(qw:sz<=z.fr+y.sz):BQ prog 41 #[.pointer (some ⟨z.r,0,none⟩),I0 (k:Int),.string y.key,I0 sz] [z.S,[(mb,.map es ck)],su] (fun v H'=>v= .tuple #[.slice none 0 0,.bool true]/\∃z' cu ax pz j5 b,z'.r=z.r/\z'.cs=z.cs/\Da z' ns (L1++L2++[⟨b,y.key,(k:Int),sz⟩]) mb cu ax pz j5/\H'=[z'.S,[(mb,.map cu ax)],j5]):=by
 obtain ⟨sha,qy,pg⟩:=B.sh;have hg:=B.get (e:=y) B6
 have l9:∀x∈L1++L2,x.key≠y.key:=fun x hx=>by
  have af:=B.keys;rw [CN,F2,HN,JT]at af;rcases CI.1 hx with hx|hx
  · exact af.2.2 _ (Ek hx) _ (Fo ..)
  · exact fun hh=>af.2.1.1 (hh▸Ek hx)
 refine Ct func41 V ntmps41 V ?_;intro u R;refine Zb [0,1,2,3] ?_;refine A3<|Ze (Bx #[_])<|AF fun bp=>Za Y<|AH Y<|Tv ?_;refine Zq<|A3<|Zl N3 Y<|Zv (BZ mB Y Y)<|Zm Y<|Ab (t:=20) Y V (fun gd=>by cases gd)<|fun gd=>Zf Y Y<|Yg (Ar (n:=0) Y Y)<|BW Y Y<|Zm Y<|Ae (t:=24) Y V (fun g2=>by omega)<|fun g2=>Zf Y Y<|Yl N3 Y<|Yg (Aq Y V)<|Yf 6 Mb V rfl eK Y<|Lg Y (Gn Wo (z.root)) (BL db Y (congrArg some pg)) V rfl ?_;refine Yg (AR DS Y)<|Yg (G8 Y Y)<|BW Y Y<|Zm Y<|Ae (t:=33) Y V (fun g3=>by omega)<|fun g3=>Zf Y Y<|Yg (Dz Y Y)<|BW Y Y<|Z0<|Zn [1,2,3,4,36] ?_;refine Zx<|Ap Y (fun g4=>by omega)<|fun g4=>AC<|CD<|AH Y<|Zb [10,1,2,3,4] ?_;refine Ch (e0:=[(10,_)]) (H0:=[z.S,[(mb,.map es ck)],su]) (fun e H=>∃(z1:Bf) (I:Array MapEntry) (G:Nat) (U:List (C4×A2)) (J:List A8) (tv:A2),(((z1.r=z.r/\z1.cs=z.cs)/\sz<=z1.fr/\∀x∈L1++L2,x.key≠y.key)/\Da z1 ns (L1++L2) mb I G U J)/\e=[(10,tv)]/\H=[z1.S,[(mb,.map I G)],J]) Wp ?hx_1 ?hy_1
 case hx_1=>
  refine A3<|Zl N3 Y<|Zp Y rfl<|Zh 8 Mb rfl rfl fj Y<|CO (Gn Wo (z.root)) (BL isAgg155 Y (congrArg some B.mv)) rfl rfl<|Zm Y<|Zo Wh (EN (Dx HO (D:=fun _=>True)) ie mm B.map (fun _ _=>trivial) (trivial) (⟨by rw [hg];first|done|rfl,by rw [hg];first|done|rfl⟩) Y Y)<|Zm Y<|Zd Y rfl<|Zd Y rfl<|Za Y<|AH Y<|AN Y<|A5<|AY Y (fun g7=>?_) (fun g7=>?_);·
   refine A3<|Zl N3 Y<|Zm Y<|Zc [_,_] Y call86 Y V (Um B hd) ?_;rintro _ _ ⟨_,⟨rfl,z9,I,G,U,J,p8,ek,qo,W,rfl⟩,rfl⟩;refine Z0<|Zn [1,2,3,4,10,11] ?_;refine Zx<|Bc<|Zg<|Zm Y<|Zm Y<|Ze (Ah (vs:=[_]) (cs:=[_]) underlying180 LI mm Y V rfl V rfl V)<|AF fun b2=>Ze (FO (by_:=8) (news:=[_]) underlying180 (V:Tryz.prog.info? 156=some Tryz.t156) V rfl V rfl Y (IB 156) Y Wo Wh B2 V HQ An An An) ?_;rintro _ _ ⟨qz,j3,rfl⟩;obtain ⟨ql,qj,rfl⟩:=j3.form;refine B1 Y<|HM (e:=[(10,_)]) (h:=by exact ⟨z9,I,G,U,J,_,⟨⟨⟨p8,ek⟩,by have h1:=B.free;have h2:=W.free;have h3:z9.cap=z.cap:=congrArg Prod.fst ek;rw [LH]at h1 h2;rw [Jq]at h1;omega,fun x hx=>l9 x hx⟩,W⟩,rfl,rfl⟩)
  cases g7
 rintro _ _ ⟨z1,I,G,U,J,tv,⟨⟨⟨ow,gm⟩,ic,Z⟩,g⟩,rfl,rfl⟩;rw [<-ow,<-gm];have qx:=g.use (k:Int)
 have qb:z1.fr<=1000000:=by have h1:=g.free;have h2:=g.cap;have h3:=NK g.sz 0;omega
 refine GU (s:=z1.S) Wo (fun gq=>?_);rw [Bf.keys]at gq;refine A3<|D2 Y<|Tx<|Zx<|Zq<|AP<|Zb [10,13,1,2,3,4] ?_;refine Ay (e0:=[(10,_),(13,_)]) (fun m e H=>m=0/\(True)/\e=[(10,tv),(13,.slice none 0 0)]/\H=[]) (by exact ⟨V,trivial,V,V⟩) Wp ?_;rintro _ _ _ ⟨rfl,_,rfl,rfl⟩;refine Zq<|A3<|Zl N3 Y<|Zp Y V<|Zh 9 Mb V rfl A6 Y<|CO (Gn Wo (z1.root)) (BL AE Y B2) V rfl<|Zm Y<|Zv (Dz Y Y)<|A5<|Ap Y (fun g5=>by omega)<|fun g5=>BB<|Zt<|Zt<|AV<|Zx<|Zq<|A3<|Zl N3 Y<|Zp Y V<|Zh 9 Mb V rfl A6 Y<|CO (Gn Wo (z1.root)) (BL AE Y B2) V rfl<|Zm Y<|Zv (Dz Y Y)<|A5<|Ap Y (fun g6=>by omega)<|fun g6=>B4<|AN Y<|Zm Y<|Zm Y<|Zv (BM (vs:=[(0,_),(1,_),(2,_)]) (cs:=#[_,_,_,_,_]) Y (Aa (pl:=#[(0,1),(1,1),(2,1),(3,1),(4,1)]) zeroValue158 N1 (fun _=>by kernel_rfl) V))<|Ze (FN Y (cs:=#[.string y.key,I0 (k:Int),I0 sz,.pointer none,.pointer none]) AD)<|AF fun bn=>B1 Y<|Zn [2,4,13,17] ?_;refine Zx<|Zq<|vI (b:=bn) (s:=z1.S) Wo Wo (fun d9=>?_);refine CK (s1:=z1.S) (s2:=[(bn,_)]) Wo Wo ?_;rw [show z1.S++[(bn,Obj.cells #[.string y.key,I0 (k:Int),I0 sz,.pointer none,.pointer none] 158 (0,0))]=(z1.more (⟨bn,y.key,(k:Int),sz⟩:Bp)).S from Bf.more_S z1 (⟨bn,y.key,(k:Int),sz⟩:Bp) d9];refine GU (s:=(z1.more (⟨bn,y.key,(k:Int),sz⟩:Bp)).S) Wo (fun X=>?_);rw [Bf.keys]at X;obtain ⟨p2,o8,cO,gy,O⟩:=YN g gq (⟨bn,y.key,(k:Int),sz⟩:Bp) d9;refine Zg<|Zm Y<|Zl N3 Y<|Zp Y V<|Zh 0 Mb V rfl sizeOf160 Y<|Zh 0 ia V rfl fh Y<|Zc [_,_] Y call90 Y V (QZ (z1.more (⟨bn,y.key,(k:Int),sz⟩:Bp)) X gy o8 cO) ?_;rintro _ _ ⟨_,⟨rfl,rfl⟩,rfl⟩
 refine A5<|A3<|Zl N3 Y<|Zp Y V<|Zh 8 Mb V rfl fj Y<|CO (Gn Wo ((Bf.root ({(z1.more (⟨bn,y.key,(k:Int),sz⟩:Bp))with nx:=DT (DT (z1.more (⟨bn,y.key,(k:Int),sz⟩:Bp)).nx (⟨bn,y.key,(k:Int),sz⟩:Bp).b (pV (z1.more (⟨bn,y.key,(k:Int),sz⟩:Bp)).r)) p2 (pV (⟨bn,y.key,(k:Int),sz⟩:Bp).b),bf:=DT (DT (z1.more (⟨bn,y.key,(k:Int),sz⟩:Bp)).bf (⟨bn,y.key,(k:Int),sz⟩:Bp).b (pV p2)) (z1.more (⟨bn,y.key,(k:Int),sz⟩:Bp)).r (pV (⟨bn,y.key,(k:Int),sz⟩:Bp).b)}:Bf)))) (BL isAgg155 Y (congrArg some g.mv)) V rfl<|Zm Y<|Zm Y<|Ze (FD (Dx HO (D:=fun _=>True)) ie g.map (fun _ _=>trivial) (trivial) Y Y Y Wo) ?_;rintro _ _ ⟨rfl,l5,kv,q9,l8,o9,rfl⟩;refine Z0<|Zn [4,13,17] ?_;refine CD<|Zl N3 Y<|Zm Y<|Zc [_,_,_] Y call91 Y rfl (Nl ({(z1.more (⟨bn,y.key,(k:Int),sz⟩:Bp))with nx:=DT (DT (z1.more (⟨bn,y.key,(k:Int),sz⟩:Bp)).nx (⟨bn,y.key,(k:Int),sz⟩:Bp).b (pV (z1.more (⟨bn,y.key,(k:Int),sz⟩:Bp)).r)) p2 (pV (⟨bn,y.key,(k:Int),sz⟩:Bp).b),bf:=DT (DT (z1.more (⟨bn,y.key,(k:Int),sz⟩:Bp)).bf (⟨bn,y.key,(k:Int),sz⟩:Bp).b (pV p2)) (z1.more (⟨bn,y.key,(k:Int),sz⟩:Bp)).r (pV (⟨bn,y.key,(k:Int),sz⟩:Bp).b)}:Bf) X (e:=(⟨bn,y.key,(k:Int),sz⟩:Bp)) gy (.inl rfl) g.used (k:=k) rfl (x:=FW (L1++L2) (k:Int)) (by rw [FF,cM hk];rfl) A0 (by show 0<=sz/\sz<=_;omega) (by show _<=z1.fr/\z1.fr<=_;omega)) ?_;rintro _ _ ⟨_,⟨rfl,qa,pq,rfl⟩,rfl⟩;refine A5<|AN Y<|Za Y<|Ax Y<|KZ ?_;refine K8 V (dD results41 Y Y) (by exact ⟨V,({({(z1.more (⟨bn,y.key,(k:Int),sz⟩:Bp))with nx:=DT (DT (z1.more (⟨bn,y.key,(k:Int),sz⟩:Bp)).nx (⟨bn,y.key,(k:Int),sz⟩:Bp).b (pV (z1.more (⟨bn,y.key,(k:Int),sz⟩:Bp)).r)) p2 (pV (⟨bn,y.key,(k:Int),sz⟩:Bp).b),bf:=DT (DT (z1.more (⟨bn,y.key,(k:Int),sz⟩:Bp)).bf (⟨bn,y.key,(k:Int),sz⟩:Bp).b (pV p2)) (z1.more (⟨bn,y.key,(k:Int),sz⟩:Bp)).r (pV (⟨bn,y.key,(k:Int),sz⟩:Bp).b)}:Bf)with fr:=z1.fr -1*sz}:Bf),l5,kv,q9,qa,bn,V,V,SK g O Z l8 o9 V hk ⟨p9,ic⟩ pq,V⟩)
structure ItM where
 b:Nat
 id:Int
 q:QM
 tn:Int
 base:Int
 rq:B8
 rc:Nat
 L:List RP
 res:C8
 wq:B8
 wc:Nat
 since:Int
abbrev ItM.A91(c:ItM):Array Go.Value:=#[I0 c.q.kd,I0 c.q.tb,I0 c.q.cl,I0 c.q.lo,I0 c.q.hi,I0 c.q.bq,I0 c.q.ot,I0 c.tn,I0 c.base,.slice c.rq c.L.length c.rc,I0 c.id,.slice c.wq c.res.rows.length c.wc,I0 c.res.val,.bool c.res.fnd,I0 c.since]
def ItM.key(x:ItM):C4:=str (Cs x.q)
def ItM.iq(x:ItM):Int×QM:=(x.id,x.q)
def ItM.obj(x:ItM):Obj:= .cells x.A91 127 (0,0)
def ItM.ch(x:ItM):A8:=(x.b,x.obj)
def DZ(pos base:Int)(win:List BJ):List BJ:=win.drop (win.length -(pos -base).toNat)
structure ItM.ok(M MR:List A8)(pos:Int)(win:List BJ)(x:ItM):Prop where
 q:BG x.q
 base:0<=x.base/\x.base<=10000
 tn:0<=x.tn/\x.tn<=1000000
 rp:Ex M (.slice x.rq x.L.length x.rc) x.L
 rl:x.L.length<=1000000
 fit:∀y∈x.L,y.fits
 rw:DV MR (.slice x.wq x.res.rows.length x.wc) x.res.rows
 reach:(pos -x.base).toNat<=win.length
 run:∃r0,Eo x.q x.L=some r0/\FX x.q x.base 0 (r0,x.base) (DZ pos x.base win)=some (x.res,x.since)
variable{pos:Int}{x:ItM}
theorem ItM.ok.mono{M M' MR g:List A8}{win:List BJ}(h:x.ok M MR pos win)(m:∀c∈M,c∈M')(B:∀c∈MR,c∈g):x.ok M' g pos win:=⟨h.q,h.base,h.tn,h.rp.mono m,h.rl,h.fit,h.rw.mono B,h.reach,h.run⟩
structure GL(its:List ItM)(next:Int)(esQ:Array MapEntry)(ckQ:Nat)(lmQ:List (Int×A2))(lv:A2)(ML:List A8)(esI:Array MapEntry)(ckI:Nat)(lmI:List (C4×A2))(esK:Array MapEntry)(ckK:Nat)(lmK:List (Int×A2))(SI:List A8):Prop where
 idx:El (its.map ItM.iq) esQ ckQ lmQ
 ist:WF (its.map ItM.iq) lv ML
 im:Ck (fun k:C4=>Value.string k) esI ckI lmI
 imem:∀p,p∈lmI↔∃x∈its,p=(x.key,pV x.b)
 km:Ck (fun n:Int=>Value.int .i64 n) esK ckK lmK
 kmem:∀p,p∈lmK↔∃x∈its,p=(x.id,.string x.key)
 keys:(its.map ItM.key).Nodup
 ids:∀x∈its,1<=x.id/\x.id<=next
 nx:0<=next/\next<=1000000000
 len:its.length<=500
 q:∀x∈its,BG x.q
 sub:∀x∈its,x.ch∈SI
variable{its:List ItM}{next:Int}{esQ esI esK:Array MapEntry}{ckQ ckI ckK:Nat}{lmQ lmK:List (Int×A2)}{lv:A2}{ML SI:List A8}{lmI:List (C4×A2)}
theorem GL.get(h:GL its next esQ ckQ lmQ lv ML esI ckI lmI esK ckK lmK SI)(hx:x∈its):EL x.key lmI=some (pV x.b):=Cw h.im.keys ((h.imem _).2 ⟨x,hx,rfl⟩)
theorem GL.none{its:List ItM}{next:Int}{esQ:Array MapEntry}{ckQ:Nat}{lmQ:List (Int×A2)}{lv:A2}{ML:List A8}{esI:Array MapEntry}{ckI:Nat}{lmI:List (C4×A2)}{esK:Array MapEntry}{ckK:Nat}{lmK:List (Int×A2)}{SI:List A8}(h:GL its next esQ ckQ lmQ lv ML esI ckI lmI esK ckK lmK SI){K:C4}(g:∀x∈its,x.key≠K):EL K lmI=none:=DN fun p m=>by
 obtain ⟨x,hx,rfl⟩:=(h.imem p).1 m;exact g x hx
theorem GL.len_eq(h:GL its next esQ ckQ lmQ lv ML esI ckI lmI esK ckK lmK SI):(lmI.map (·.1)).Perm (its.map ItM.key):=by
 refine (Sh h.im.keys h.keys).2 fun a=>?_;constructor
 · intro g
   obtain ⟨p,m,rfl⟩:=CM.1 g;obtain ⟨x,hx,rfl⟩:=(h.imem p).1 m;exact Ek hx
 · intro g
   obtain ⟨x,hx,rfl⟩:=CM.1 g;exact CM.2 ⟨_,(h.imem _).2 ⟨x,hx,V⟩,V⟩
theorem XG(g:(its.map ItM.key).Nodup)(hi:((its.map ItM.iq).map (·.1)).Nodup){y:ItM}(hx:x∈its)(hy:y∈its):y.key≠x.key↔y.id≠x.id:=by
 rw [Mz]at hi;constructor;· intro h e;exact h (by rw [Ga hi hx hy e.symm])
 · intro h e;exact h (by rw [Ga g hx hy e.symm])
theorem xx(h:GL its next esQ ckQ lmQ lv ML esI ckI lmI esK ckK lmK SI)(hx:x∈its)
 {X:Array MapEntry}{O:Nat}{Z:List (Int×A2)}(hq:El ((its.map ItM.iq).filter fun y=>y.1≠x.id) X O Z){U:Array MapEntry}{I:Nat}{m:List (C4×A2)}(hm:Ck (fun k:C4=>Value.string k) U I m)(hp:∀p,p∈m↔p∈lmI/\p.1≠x.key)
 {W:Array MapEntry}{J:Nat}{B:List (Int×A2)}(hk:Ck (fun n:Int=>Value.int .i64 n) W J B)(af:∀p,p∈B↔p∈lmK/\p.1≠x.id):GL (its.filter fun y=>y.key≠x.key) next X O Z (.pointer none) [] U I m W J B SI:=by
 have g:=h.idx.ids;have e1:(its.filter fun y=>y.key≠x.key).map ItM.iq=(its.map ItM.iq).filter fun y=>y.1≠x.id:=by
  rw [List.filter_map];congr 1;refine kh fun y hy=>?_;exact decide_eq_decide.2 (XG h.keys g hx hy)
 have G:∀y,y∈(its.filter fun y=>y.key≠x.key)↔y∈its/\y.key≠x.key:=fun y=>by rw [GP];simp
 refine ⟨by rw [e1];exact hq,.inl ⟨rfl,rfl⟩,hm,fun p=>?_,hk,fun p=>?_,h.keys.sublist (Z1.map _),fun y hy=>h.ids y ((G y).1 hy).1,h.nx,On (RW _ _) h.len,fun y hy=>h.q y ((G y).1 hy).1,fun y hy=>h.sub y ((G y).1 hy).1⟩
 · rw [hp,h.imem]
   constructor;· rintro ⟨⟨y,hy,rfl⟩,hn⟩;exact ⟨y,(G y).2 ⟨hy,hn⟩,rfl⟩
   · rintro ⟨y,hy,rfl⟩;exact ⟨⟨y,((G y).1 hy).1,rfl⟩,((G y).1 hy).2⟩
 · rw [af,h.kmem]
   constructor;· rintro ⟨⟨y,hy,rfl⟩,hn⟩;exact ⟨y,(G y).2 ⟨hy,(XG h.keys g hx hy).2 hn⟩,rfl⟩
   · rintro ⟨y,hy,rfl⟩;exact ⟨⟨y,((G y).1 hy).1,rfl⟩,(XG h.keys g hx ((G y).1 hy).1).1 ((G y).1 hy).2⟩
theorem xy(h:GL its next esQ ckQ lmQ lv ML esI ckI lmI esK ckK lmK SI)(hx:∀y∈its,y.key≠x.key)(af:x.id=next+1)(hn:next<1000000000)(hl:its.length<500)(hv:BG x.q)
 {U:Array MapEntry}{I:Nat}{W:List (Int×A2)}(hq:El (its.map ItM.iq++[(x.id,x.q)]) U I W){J:Array MapEntry}{B:Nat}{g:List (C4×A2)}(hm:Ck (fun k:C4=>Value.string k) J B g)(hp:∀p,p∈g↔p=(x.key,pV x.b)\/(p∈lmI/\p.1≠x.key))
 {O:Array MapEntry}{G:Nat}{m:List (Int×A2)}(hk:Ck (fun n:Int=>Value.int .i64 n) O G m)(X:∀p,p∈m↔p=(x.id,.string x.key)\/(p∈lmK/\p.1≠x.id)):GL (its++[x]) (next+1) U I W (.pointer none) [] J B g O G m (SI++[x.ch]):=by
 have ax:=h.nx;refine ⟨by rw [CN];exact hq,.inl ⟨rfl,rfl⟩,hm,fun p=>?_,hk,fun p=>?_,?_,fun y hy=>?_,by omega,by rw [C2];simp;omega,fun y hy=>?_,fun y hy=>?_⟩
 · rw [hp,h.imem]
   constructor
   · rintro (rfl|⟨⟨y,hy,rfl⟩,_⟩)
     · exact ⟨x,by simp,rfl⟩
     · exact ⟨y,Fc _ hy,rfl⟩
   · rintro ⟨y,hy,rfl⟩
     rcases CI.1 hy with hy|hy
     · exact .inr ⟨⟨y,hy,rfl⟩,hx y hy⟩
     · rw [CH.1 hy];exact .inl rfl
 · rw [X,h.kmem]
   constructor
   · rintro (rfl|⟨⟨y,hy,rfl⟩,_⟩)
     · exact ⟨x,by simp,rfl⟩
     · exact ⟨y,Fc _ hy,rfl⟩
   · rintro ⟨y,hy,rfl⟩
     rcases CI.1 hy with hy|hy
     · have:=h.ids y hy
       exact .inr ⟨⟨y,hy,V⟩,by show y.id≠x.id;omega⟩
     · rw [CH.1 hy];exact .inl rfl
 · rw [CN,HN]
   refine ⟨h.keys,by simp,fun a Z b hb=>?_⟩;obtain ⟨y,hy,rfl⟩:=CM.1 Z;obtain rfl:=CH.1 hb;exact hx y hy
 · rcases CI.1 hy with hy|hy
   · have:=h.ids y hy;omega
   · rw [CH.1 hy];omega
 · rcases CI.1 hy with hy|hy
   · exact h.q y hy
   · rw [CH.1 hy];exact hv
 · rcases CI.1 hy with hy|hy
   · exact Fc _ (h.sub y hy)
   · rw [CH.1 hy];simp
variable{mq:Nat}
theorem XJ{B:Nat}{lm:List (Int×A2)}(G:El (its.map ItM.iq) es ck lm)(hx:x∈its):BQ prog 92 #[I1 B,I0 x.id] [[(B,.cells #[.map (some mq),lv] 166 (0,0))],[(mq,.map es ck)]]
 (fun r H'=>∃m g I,r= .bool true/\El ((its.map ItM.iq).filter fun y=>y.1≠x.id) m g I/\H'=[[(B,.cells #[.map (some mq),.pointer none] 166 (0,0))],[(mq,.map m g)]]):=WJ G (x:=x.iq) (Ek hx)
theorem NQ{M:List A8}{p:B8}{cap a:Nat}{l:List BJ}(h:EQ M (.slice p l.length cap) l)(W:a<=l.length):EQ M (.slice (Eb p a cap 2) (l.length -a) (cap -a)) (l.drop a):=by
 obtain ⟨Z,B,e,⟨X,J⟩,I⟩:=h;injection e with e1 e2 e3
 subst e1 e3;refine ⟨_,_,by rw [D0],⟨by rw [D0];omega,by rw [D0];omega⟩,fun i x hx=>?_⟩;rw [S2]at hx;have hi:=(C6.1 hx).1
 obtain ⟨G,g,off,cur,T,zz,rfl,O,U,m⟩:=I (a+i) x hx;have hc:Eb (some ⟨g,off,none⟩) a cap 2=some ⟨g,off+a*2,none⟩:=by
  unfold Eb;rw [As A0,Pr,CW]
 rw [hc];exact ⟨G,g,_,cur,T,zz,rfl,O,by omega,by rw [show off+a*2+i*2=off+(a+i)*2 by omega];exact m⟩
theorem Hw(n:Int):Az prog 35 #[I0 n] [] (.bool (decide (0<=n/\n<=10000))):=by
 refine Se func35 ntmps35 [0] ?_;intro u R;refine A3<|AH Y<|AN Y<|Zv (IL Y Y)<|Zm Y<|Ae (t:=5) Y V (fun g=>?_) (fun g=>?_);focus
  refine Zf Y Y<|Yg (N9 Y Y)<|Zv (AL Y Y) ?_
 rotate_left
 focus
  refine AG<|Zv (AO Y Y) ?_
 all_goals
  refine Ax Y<|AX V results35 Y (by exact ⟨congrArg Value.bool (by simp [g]),V⟩)
variable{mk mi ip cp:Nat}
theorem Nu{wq:B8}{wn wc:Nat}(I:0<=pos/\pos<=10000)(base:Int)(G:0<=base/\base<=10000)(J:wn<=wc/\wn<=1000000):Az prog 53 #[I1 cp,I0 base] [[(cp,.cells #[I0 pos,.slice wq wn wc,I1 r,I1 ip,.map (some mi),.map (some mk),I0 next] 116 (0,0))]] (if(pos -base).toNat<=wn then .tuple #[.slice (Eb wq (wn -(pos -base).toNat) wc 2) (pos -base).toNat (wc -(wn -(pos -base).toNat)),.bool true]else .tuple #[.slice none 0 0,.bool false]):=by
 have B:=mL;obtain ⟨n,hn⟩:∃n:Nat,n=(pos -base).toNat:=⟨_,rfl⟩;have g:max (pos -base) 0=(n:Int):=by omega
 rw [<-hn];refine Se func53 ntmps53 [0,1] ?_;intro u R;refine A3<|Za Y<|AH Y<|AN Y<|Zp Y V<|Zh 0 Ge V rfl A6 Y<|Zl AE Y ?_;refine Zm Y ?_
 (refine Ba (Gu Y Y (IntWalk.i64_in _ ?_)) ?_;(focus (omega)))
 refine Zv (Pq Y Y)<|D2 Y<|Zq ?_;rw [g];refine Zg<|Zm Y<|Zm Y<|Zp Y V<|Zh 1 Ge V rfl N4 Y<|Zl SU Y ?_;refine Zv (AR HA Y)<|Zv (Df Y Y)<|Z0<|Zn [0,6,20] ?_;refine Zx<|Ap Y (fun m=>?_) (fun m=>?_);·
  refine A3<|Za Y<|Ax Y<|Zt<|Di rfl results53 Y Y (by exact ⟨by rw [As A0],rfl⟩)
 refine B4<|Zq<|Aw (n:=14) (0::1::3::7::0::16::48::112::240::0::1008::2047::4095::8191::[]) 0 AD AD V<|A1 0 V (AQ Y)<|A1 1 V (Aq Y V)<|A1 2 V (AB (off:=1) Ge V rfl N4 Y)<|Bk 3 V SU Y ?_;refine A1 4 V (AQ Y)<|A1 5 V (Aq Y V)<|A1 6 V (AB (off:=1) Ge V rfl N4 Y)<|Bk 7 V SU Y ?_;refine A1 8 V (AR HA Y)<|A1 9 V (AQ Y) ?_
 (refine FB (D':=2047) 10 (CQ Y Y ?_ ?_) ?_;(focus (omega));(focus (omega)))
 refine A1 11 V (Bw HA Fi Y Y A0)<|A1 12 V (BI Y)<|A1 13 V (BI Y)<|Ao<|Zn [4,5] ?_;refine Zx<|AJ<|Di rfl results53 Y Y (by exact ⟨by rw [B0 A0,show wn -(wn -n)=n by omega],rfl⟩)
variable{wv:A2}
theorem Vo(h:GL its next esQ ckQ lmQ lv ML esI ckI lmI esK ckK lmK SI)(hx:x∈its):BQ prog 43 #[I1 cp,.string x.key] [[(cp,.cells #[I0 pos,wv,I1 r,I1 ip,.map (some mi),.map (some mk),I0 next] 116 (0,0))],[(ip,.cells #[.map (some mq),lv] 166 (0,0))],[(mq,.map esQ ckQ)],[(mi,.map esI ckI)],[(mk,.map esK ckK)],SI] (fun v H'=>v= .bool true/\∃J B bn G g af I m ax,GL (its.filter fun y=>y.key≠x.key) next J B bn (.pointer none) [] G g af I m ax SI/\H'=[[(cp,.cells #[I0 pos,wv,I1 r,I1 ip,.map (some mi),.map (some mk),I0 next] 116 (0,0))],[(ip,.cells #[.map (some mq),.pointer none] 166 (0,0))],[(mq,.map J B)],[(mi,.map G g)],[(mk,.map I m)],SI]):=by
 have hg:=h.get hx;have X:(x.b,Obj.cells x.A91 127 (0,0))∈SI:=h.sub x hx
 have l5:x.iq∈its.map ItM.iq:=Ek hx;refine Se func43 ntmps43 [0,1] ?_;intro u R;refine A3<|AH Y<|AN Y<|Zp Y rfl<|Zh 4 Ge rfl rfl SO Y<|Zl RR Y<|Zm Y<|Zo Wh (EN (Dx HO (D:=fun _=>True)) SM Wg h.im (fun _ _=>trivial) (trivial) (⟨by rw [hg];first|done|rfl,by rw [hg];first|done|rfl⟩) Y Y)<|Zm Y<|Zd Y rfl<|Zd Y rfl<|Za Y<|AH Y<|B7 Y<|Zv (Bh Y)<|Z0<|Zn [0,1,5,17] ?_;refine Zx<|AY Y (fun W=>by cases W)<|fun W=>B4<|Zq<|Aw (n:=9) (0::1::3::7::0::16::48::112::255::[]) 256 AD AD V<|A1 0 V (AQ Y)<|A1 1 V (Aq Y V)<|A1 2 V (AB (off:=3) Ge V rfl sizeOf112 Y)<|Bk 3 V isAgg112 Y<|A1 4 V (AQ Y)<|A1 5 V (Aq Y V)<|A1 6 V (AB (off:=10) Ln V rfl A6 Y)<|CS (D':=255) 7 V rfl V (Eg Wo (X)) (BL AE Y B2) ?_;refine Zz (l:=[8])<|C0 [false,false] [] V rfl (Zw [_,_] Y call92 Y V (XJ h.idx hx)) ?_ Bz Am;rintro _ _ ⟨_,⟨U,O,cu,rfl,Z,rfl⟩,rfl⟩;refine CA<|Ao<|Zx<|Zq<|Aw (n:=9) (0::1::3::7::0::16::48::112::255::[]) 256 AD AD V<|A1 0 V (AQ Y)<|A1 1 V (Aq Y V)<|A1 2 V (AB (off:=5) Ge V rfl sizeOf87 Y)<|Bk 3 V isAgg87 Y<|A1 4 V (AQ Y)<|A1 5 V (Aq Y V)<|A1 6 V (AB (off:=10) Ln V rfl A6 Y)<|CS (D':=255) 7 V rfl V (Eg Wo (X)) (BL AE Y B2) ?_;refine Yw 8 511 V (LF (Cc D3 (D:=fun _=>True)) er h.km (fun _ _=>trivial) (trivial) Y Y Wo) ?_;rintro _ _ ⟨rfl,ek,cO,j5,gq,ic,rfl⟩;refine Ao<|Zn [0,1] ?_;refine Zx<|AN Y<|Zp Y V<|Zh 4 Ge V rfl SO Y<|Zl RR Y<|Zm Y<|Ze (LF (Dx HO (D:=fun _=>True)) SM h.im (fun _ _=>trivial) (trivial) Y Y Wo) ?_;rintro _ _ ⟨rfl,gm,d9,kv,gy,j3,rfl⟩;refine A5<|A3<|Ax Y<|AX V results43 Y (by exact ⟨V,U,O,cu,gm,d9,kv,ek,cO,j5,xx h hx Z gy j3 gq ic,V⟩)
theorem mr(h:GL its next esQ ckQ lmQ lv ML esI ckI lmI esK ckK lmK SI)(B:∀y∈its,y.key≠K):Az prog 43 #[I1 cp,.string K] [[(cp,.cells #[I0 pos,wv,I1 r,I1 ip,.map (some mi),.map (some mk),I0 next] 116 (0,0))],[(mi,.map esI ckI)]] (.bool false):=by
 have m:=h.none B;refine Se func43 ntmps43 [0,1] ?_;intro u R;refine A3<|AH Y<|AN Y<|Zp Y rfl<|Zh 4 Ge rfl rfl SO Y<|Zl RR Y<|Zm Y<|Zo Wh (EN (Dx HO (D:=fun _=>True)) SM Wg h.im (fun _ _=>trivial) (trivial) (⟨by rw [m];first|done|rfl,by rw [m];first|done|rfl⟩) Y Y)<|Zm Y<|Zd Y rfl<|Zd Y rfl<|Za Y<|AH Y<|B7 Y<|Zv (Bh Y)<|Z0<|Zn [0,1,5,17] ?_;refine Zx<|AY Y (fun g=>?_) (fun g=>?_);·
  refine A3<|Ax Y<|Zt<|AX V results43 Y (by exact ⟨V,V⟩)
 cases g
theorem UE(h:GL its next esQ ckQ lmQ lv ML esI ckI lmI esK ckK lmK SI)(hx:∀y∈its,y.key≠x.key)(g:x.id=next+1)(hn:next<1000000000)(hl:its.length<500)(hv:BG x.q):BQ prog 44 #[I1 cp,.string x.key,.pointer (some ⟨x.b,0,none⟩)] [[(cp,.cells #[I0 pos,wv,I1 r,I1 ip,.map (some mi),.map (some mk),I0 next] 116 (0,0))],[(ip,.cells #[.map (some mq),lv] 166 (0,0))],[(mq,.map esQ ckQ)],[(mi,.map esI ckI)],[(mk,.map esK ckK)],[(x.b,.cells #[I0 x.q.kd,I0 x.q.tb,I0 x.q.cl,I0 x.q.lo,I0 x.q.hi,I0 x.q.bq,I0 x.q.ot,I0 x.tn,I0 x.base,.slice x.rq x.L.length x.rc,I0 0,.slice x.wq x.res.rows.length x.wc,I0 x.res.val,.bool x.res.fnd,I0 x.since] 127 (0,0))],SI] (fun v H'=>v=undef/\∃O G bn I m af J B ax,GL (its++[x]) (next+1) O G bn (.pointer none) [] I m af J B ax (SI++[x.ch])/\H'=[[(cp,.cells #[I0 pos,wv,I1 r,I1 ip,.map (some mi),.map (some mk),I0 (next+1)] 116 (0,0))],[(ip,.cells #[.map (some mq),.pointer none] 166 (0,0))],[(mq,.map O G)],[(mi,.map I m)],[(mk,.map J B)],(SI++[x.ch])]):=by
 rw [<-g];have hg:=h.none hx
 have qo:=h.nx;have kv:EL x.id lmK=none:=DN fun p hp=>by
  obtain ⟨y,hy,rfl⟩:=(h.kmem p).1 hp;have:=h.ids y hy
  show y.id≠x.id;omega
 have ic:∀y∈its.map ItM.iq,y.1≠x.id:=fun y hy=>by
  obtain ⟨z,hz,rfl⟩:=CM.1 hy;have:=h.ids z hz
  show z.id≠x.id;omega
 refine Se func44 ntmps44 [0,1,2] ?_;intro u R;refine AN Y<|Zp Y V<|Zh 6 Ge V rfl A6 Y<|Zl AE Y ?_;refine Yi Y Y<|Zp Y V<|Zh 6 Ge V rfl A6 Y<|Xe (Zs A6 Y Y V) ?_;refine A5<|Zq ?_;rw [<-g];refine Zg<|Zm Y<|Zm Y<|Zp Y V<|Zh 6 Ge V rfl A6 Y<|Zl AE Y ?_;refine Zp Y V<|Zh 10 Ln V rfl A6 Y<|Xe (Zs A6 Y Y V) ?_;refine Z0<|Zn [0,1,2] ?_;refine Zx<|Zq<|Aw (n:=21) (0::1::3::7::0::0::32::96::224::0::512::1536::3584::0::0::8191::40959::114687::245759::507903::1048575::[]) 1474560 AD AD V<|A1 0 V (AQ Y)<|A1 1 V (Aq Y V)<|A1 2 V (AB (off:=4) Ge V rfl SO Y)<|Bk 3 V RR Y ?_;refine A1 4 V (AQ Y)<|A1 5 V (AQ Y)<|A1 6 V (Aq Y V)<|A1 7 V (AB (off:=5) Ge V rfl sizeOf87 Y)<|Bk 8 V isAgg87 Y ?_;refine A1 9 V (AQ Y)<|A1 10 V (Aq Y V)<|A1 11 V (AB (off:=10) Ln V rfl A6 Y)<|Bk 12 V AE Y ?_;refine A1 13 rfl (AQ Y)<|A1 14 rfl (AQ Y)<|Zz (l:=[15])<|C0 [false,false,false] [] rfl rfl (KP (Dx HO (D:=fun _=>True)) SM Wg h.im (fun _ _=>trivial) (trivial) (by rw [hg];first|done|rfl) Y Y Wo) ?_ (fun _ _ h=>h.elim) Am;rintro _ _ ⟨qj,qa,qw,j3,qy,rfl,l9,l5,gq,p8,rfl⟩;refine CA<|A1 16 V (CV Y V)<|Zz (l:=[17])<|C0 [] [] V rfl (Ik l9 l5 gq Y Y Y Wo) ?_ (fun _ _ h=>h.elim) Am;rintro _ _ ⟨rfl,ek,cO,pz,o8,p9,rfl⟩;refine CA<|Yw 18 524287 rfl (KP (Cc D3 (D:=fun _=>True)) er Ks h.km (fun _ _=>trivial) (trivial) (by rw [kv];first|done|rfl) Y Y Wo) ?_;rintro _ _ ⟨ql,qb,qx,j5,qz,rfl,o9,l8,gy,pg,rfl⟩;refine A1 19 V (CV Y V)<|Zz (l:=[20])<|C0 [] [] V rfl (Ik o9 l8 gy Y Y Y Wo) ?_ (fun _ _ h=>h.elim) Am;rintro _ _ ⟨rfl,gm,d9,q9,ow,pq,rfl⟩;refine CA<|Ao<|Zn [0,2] ?_;refine Zx<|CK (s1:=SI) (s2:=[x.ch]) Wo Wo ?_;have X:(x.b,Obj.cells x.A91 127 (0,0))∈SI++[x.ch]:=HC _ (CH.2 rfl)
 refine Aw (n:=14) (0::1::3::7::0::16::48::112::0::256::768::1792::3840::8191::[]) 8192 AD AD V<|A1 0 V (AQ Y)<|A1 1 V (Aq Y V)<|A1 2 V (AB (off:=3) Ge V rfl sizeOf112 Y)<|Bk 3 V isAgg112 Y ?_;refine A1 4 V (AQ Y)<|A1 5 V (Aq Y V)<|A1 6 V (AB (off:=10) Ln V rfl A6 Y)<|CS (D':=255) 7 V rfl V (Eg Wo (X)) (BL AE Y B2) ?_;refine A1 8 V (AQ Y)<|A1 9 V (Aq Y V)<|A1 10 V (AB (off:=0) Ln V rfl G2 Y)<|A1 11 V (Ai (off:=0) G4 V rfl D4 Y)<|CS (D':=8191) 12 V rfl V (Eg Wo (X)) (AA (cs:=x.q.A89) FG D4 Y Wn (by exact (by apply HW.1;rfl))) ?_;refine Zz (l:=[13])<|C0 [false,false,false] [] rfl rfl (Zw [_,_,_] Y call93 Y rfl (jY h.idx ic hv (by rw [Bm];exact hl))) ?_ Bz Am;rintro _ _ ⟨_,⟨W,U,cu,rfl,Z,rfl⟩,rfl⟩;refine CA<|Ao<|D6 rfl results44 (by exact ⟨rfl,W,U,cu,ek,cO,pz,gm,d9,q9,by rw [g];exact xy h hx g hn hl hv Z o8 (fun p=>by rw [p9,p8];exact O6 _ _ _ _) ow (fun p=>by rw [pq,pg];exact O6 _ _ _ _),rfl⟩)
structure CZ where
 cp:Nat
 pos:Int
 wq:B8
 wc:Nat
 win:List BJ
 sW:List A8
 z:Bf
 ns:Nat
 PL:List Bp
 mb:Nat
 esP:Array MapEntry
 ckP:Nat
 lmP:List (C4×A2)
 su:List A8
 ip:Nat
 mq:Nat
 mi:Nat
 mkb:Nat
 next:Int
 its:List ItM
 esQ:Array MapEntry
 ckQ:Nat
 lmQ:List (Int×A2)
 lv:A2
 ML:List A8
 esI:Array MapEntry
 ckI:Nat
 lmI:List (C4×A2)
 esK:Array MapEntry
 ckK:Nat
 lmK:List (Int×A2)
 SI:List A8
 M:List A8
 MR:List A8
abbrev CZ.A92(c:CZ):Array Go.Value:=#[I0 c.pos,.slice c.wq c.win.length c.wc,.pointer (some ⟨c.z.r,0,none⟩),.pointer (some ⟨c.ip,0,none⟩),.map (some c.mi),.map (some c.mkb),I0 c.next]
structure CZ.okb(c:CZ):Prop where
 pos:0<=c.pos/\c.pos<=10000
 win:BX 2 26 (.slice c.wq c.win.length c.wc) c.win.length (Dy c.win) c.sW
 wl:c.win.length<=64
 wp:∀(i:Nat) (r:BJ),c.win[i]?=some r->r.p=c.pos -(c.win.length:Int)+1+(i:Int)/\CE c.M (.slice r.q r.cs.length r.cap) r.cs/\Dq r.p r.cs
 pool:Da c.z c.ns c.PL c.mb c.esP c.ckP c.lmP c.su
 pk:∀k,k∈c.PL.map (·.key)↔k∈c.its.map ItM.key
 its:GL c.its c.next c.esQ c.ckQ c.lmQ c.lv c.ML c.esI c.ckI c.lmI c.esK c.ckK c.lmK c.SI
 tns:∀x∈c.its,x.tn<(c.ns:Int)
structure CZ.ok(c:CZ):Prop extends CZ.okb c where
 all:∀x∈c.its,x.ok c.M c.MR c.pos c.win
structure CZ.like(c d:CZ):Prop where
 cp:d.cp=c.cp
 pos:d.pos=c.pos
 win:d.win=c.win
 ns:d.ns=c.ns
 sc:d.z.cs=c.z.cs
variable{c:CZ}
theorem CZ.like.trans{a b:CZ}(h:a.like b)(k:b.like c):a.like c:=⟨k.cp.trans h.cp,k.pos.trans h.pos,k.win.trans h.win,k.ns.trans h.ns,k.sc.trans h.sc⟩
theorem CZ.like.cap{d:CZ}(h:c.like d):d.z.cap=c.z.cap:=congrArg Prod.fst h.sc
theorem iK(h:c.okb):EQ (c.sW++c.M) (.slice c.wq c.win.length c.wc) c.win:=Jv h.win (by have:=h.wl;have g:maxLen=9223372036854775807:=rfl;omega) fun r m=>by
 obtain ⟨i,hi⟩:=HK m;exact (h.wp i r hi).2.1
theorem Ur{α:Type}{l:List α}{x:α}(h:x∈l):∃A B,l=A++x::B:=cP h
theorem kS{PL:List Bp}(X:∀k,k∈PL.map (·.key)↔k∈its.map ItM.key){I J:List Bp}{e:Bp}(W:PL=I++e::J)(hn:(PL.map (·.key)).Nodup)(U:e.key=K):∀k,k∈(I++J).map (·.key)↔k∈(its.filter fun y=>y.key≠K).map ItM.key:=by
 intro k;subst W U;have O:=X k
 rw [CN,F2,HN,JT]at hn;constructor
 · intro h
   rw [CN,CI]at h;have m:k≠e.key:=by
    rintro rfl;rcases h with h|h
    · exact hn.2.2 _ h _ (Fo ..) rfl
    · exact hn.2.1.1 h
   obtain ⟨y,hy,rfl⟩:=CM.1 (O.1 (by rw [CN,F2,CI,Dg];rcases h with h|h;exact .inl h;exact .inr (.inr h)));exact CM.2 ⟨y,GP.2 ⟨hy,by simpa using m⟩,V⟩
 · intro h
   obtain ⟨y,hy,rfl⟩:=CM.1 h;obtain ⟨B,G⟩:=GP.1 hy;have g:=O.2 (Ek B)
   rw [CN,F2,CI,Dg]at g;rw [CN,CI];rcases g with g|g|g
   · exact .inl g
   · simp [g]at G
   · exact .inr g
theorem gH(h:c.okb)(hx:x∈c.its):BQ prog 20 #[.pointer (some ⟨c.cp,0,none⟩),.string x.key] [[(c.cp,.cells #[I0 c.pos,.slice c.wq c.win.length c.wc,.pointer (some ⟨c.z.r,0,none⟩),.pointer (some ⟨c.ip,0,none⟩),.map (some c.mi),.map (some c.mkb),I0 c.next] 116 (0,0))],c.sW,c.z.S,[(c.mb,.map c.esP c.ckP)],c.su,[(c.ip,.cells #[.map (some c.mq),c.lv] 166 (0,0))],[(c.mq,.map c.esQ c.ckQ)],c.ML,[(c.mi,.map c.esI c.ckI)],[(c.mkb,.map c.esK c.ckK)],c.SI,c.M,c.MR] (fun v H'=>v= .bool true/\∃d:CZ,d.okb/\c.like d/\d.next=c.next/\(d.M=c.M/\d.MR=c.MR)/\d.SI=c.SI/\d.mi=c.mi/\d.its=(c.its.filter fun y=>y.key≠x.key)/\(∀e∈d.PL,e∈c.PL)/\H'=[[(d.cp,.cells #[I0 d.pos,.slice d.wq d.win.length d.wc,.pointer (some ⟨d.z.r,0,none⟩),.pointer (some ⟨d.ip,0,none⟩),.map (some d.mi),.map (some d.mkb),I0 d.next] 116 (0,0))],d.sW,d.z.S,[(d.mb,.map d.esP d.ckP)],d.su,[(d.ip,.cells #[.map (some d.mq),d.lv] 166 (0,0))],[(d.mq,.map d.esQ d.ckQ)],d.ML,[(d.mi,.map d.esI d.ckI)],[(d.mkb,.map d.esK d.ckK)],d.SI,d.M,d.MR]):=by
 obtain ⟨e,Z,B⟩:=CM.1 ((h.pk x.key).2 (Ek hx));obtain ⟨L1,L2,m⟩:=Ur Z;have g:=h.pool
 rw [m]at g;rw [<-B];refine Se func20 ntmps20 [0,1] ?_;intro u R;refine A3<|D2 Y<|Zq<|Bc<|GU (s:=c.z.S) Wo (fun W=>?_);rw [Bf.keys]at W;refine Zg<|Zm Y<|Zv (BZ Iv Y Y)<|A5<|AY Y (fun G=>by cases G)<|fun G=>B4<|AN Y<|Zp Y V<|Zh 2 Ge V rfl sizeOf109 Y<|Zl N3 Y<|Zm Y<|Zc [_,_] Y call62 Y V (kI g W) ?_;rintro _ _ ⟨_,⟨rfl,z2,es2,ck2,lm2,su2,U,O,X,J,rfl⟩,rfl⟩;refine A5<|AN Y<|Zm Y ?_;rw [B];refine Zc [_,_] Y call43 Y V (Vo h.its hx) ?_;rintro _ _ ⟨_,⟨rfl,eq3,cq3,lq3,ei3,ci3,li3,ek3,ck3,lk3,I,rfl⟩,rfl⟩;refine B1 Y<|Zn [4] ?_;refine Zx<|AJ<|AX V results20 Y (by
  refine ⟨rfl,({c with z:=z2,PL:=L1++L2,esP:=es2,ckP:=ck2,lmP:=lm2,su:=su2,its:=c.its.filter fun y=>y.key≠x.key,esQ:=eq3,ckQ:=cq3,lmQ:=lq3,lv:= .pointer none,ML:=[],esI:=ei3,ckI:=ci3,lmI:=li3,esK:=ek3,ckK:=ck3,lmK:=lk3}:CZ),⟨h.pos,h.win,h.wl,h.wp,J,kS h.pk m h.pool.keys B,I,fun y hy=>h.tns y (GP.1 hy).1⟩,⟨rfl,rfl,rfl,rfl,O⟩,rfl,⟨rfl,rfl⟩,rfl,rfl,rfl,fun y hy=>by rw [m];rcases CI.1 hy with h9|h9<;>simp [h9],?_⟩;simp only [U];rfl)
theorem Np(h:c.okb):BQ prog 22 #[.pointer (some ⟨c.cp,0,none⟩)] [[(c.cp,.cells c.A92 116 (0,0))],[(c.mi,.map c.esI c.ckI)]] (fun r H'=>∃(zs:List C4) (s':List A8),zs.Perm (c.its.map ItM.key)/\(zs.Pairwise fun x y=>x.data.toList<=y.data.toList)/\Row 9 r (zs.map Value.string) s'/\H'=[[(c.cp,.cells c.A92 116 (0,0))],[(c.mi,.map c.esI c.ckI)],s']):=by
 have m:=h.its.len_eq;have I:=m.length_eq
 rw [Bm,Bm]at I;have U:=h.its.len
 refine Se func22 ntmps22 [0] ?_;intro u R;refine A3<|AH Y<|B7 Y<|Zv (BZ Iv Y Y)<|A5<|AY Y (fun g=>by cases g)<|fun g=>B4<|AN Y<|Zp Y V<|Zh 4 Ge V rfl SO Y<|Zl RR Y<|Zc [_] Y call64 Y V (fG c.mi) ?_;rintro _ _ ⟨_,⟨O,rfl,rfl⟩,rfl⟩;refine Zc [_] Y call63 Y V (WV h.its.im A0 O c.mi (M:=[(c.mi,.map c.esI c.ckI)]) B6) ?_;rintro _ _ ⟨_,⟨zs,W,G,B,J,rfl⟩,rfl⟩;refine Ax Y<|AX V results22 Y (by exact ⟨zs,W,G.trans m,B,J,V⟩)
theorem nP(c:CZ):Az prog 21 #[.pointer (some ⟨c.cp,0,none⟩)] [[(c.cp,.cells c.A92 116 (0,0))]] (I0 c.pos):=by
 refine Se func21 ntmps21 [0] ?_;intro u R;refine A3<|AH Y<|B7 Y<|Zv (BZ Iv Y Y)<|A5<|AY Y (fun g=>by cases g)<|fun g=>B4<|AN Y<|Zp Y V<|Zh 0 Ge V rfl A6 Y<|Zl AE Y<|Ax Y<|AX V results21 Y (by exact ⟨V,V⟩)
theorem gL(h:c.okb)(B:k<c.ns):Az prog 23 #[.pointer (some ⟨c.cp,0,none⟩),I0 (k:Int)] [[(c.cp,.cells c.A92 116 (0,0))],c.z.S,[(c.mb,.map c.esP c.ckP)],c.su] (I0 (FW c.PL (k:Int))):=by
 refine Se func23 ntmps23 [0,1] ?_;intro u R;refine A3<|D2 Y<|Zq<|GU (s:=c.z.S) Wo (fun m=>?_);rw [Bf.keys]at m;refine Zg<|Zm Y<|Zv (BZ Iv Y Y)<|A5<|AY Y (fun g=>by cases g)<|fun g=>B4<|AN Y<|Zp Y V<|Zh 2 Ge V rfl sizeOf109 Y<|Zl N3 Y<|Zm Y<|Xr [_,_] Y call65 Y V (wM h.pool m B)<|Ax Y<|AX V results23 Y (by exact ⟨V,V⟩)
end Go.Proofs.YtelliknjeemfoaaGreatDoor
