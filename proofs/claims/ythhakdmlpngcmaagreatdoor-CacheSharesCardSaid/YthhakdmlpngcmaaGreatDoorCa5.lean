/- The pool made; Put where there is room. -/
import Derived.Test.YthhakdmlpngcmaaGreatDoorMm2
set_option linter.unusedVariables false
set_option linter.unusedSimpArgs false
namespace Go.Proofs.YthhakdmlpngcmaaGreatDoor
open Go.Proofs.Tryz
open Go Go.RowKit Gw
set_option maxRecDepth 100000
attribute [local irreducible] Gw.At Gw.Nx Gw.Ops
variable{r:Nat}
theorem dQ{nx bf nx' bf':Nat->A4}{l:List Nat}(h:H6 nx bf r l)(B:∀a∈r::l,nx' a=nx a)(h2:∀a∈r::l,bf' a=bf a):H6 nx' bf' r l:=fun q m=>by
 have e1:q.1∈r::l:=by rw [<-Hw r l r];exact DS m
 have e2:q.2∈r::l:=by
  have g:q.2∈l++[r]:=by rw [<-JB r l r];exact DS m
  rcases C2.1 g with g|g
  · exact E7 _ g
  · rw [C5.1 g];exact E0 ..
 rw [B _ e1,h2 _ e2];exact h q m
def BS.more(z:BS)(e:Bf):BS:={z with E:=z.E++[e],nx:=Cq z.nx e.b (.pointer none),bf:=Cq z.bf e.b (.pointer none)}
theorem BS.more_S(z:BS)(e:Bf)(g:e.b∉z.S.map (·.1)):z.S++[(e.b,.cells #[.string e.key,I4 e.te,I4 e.sz,.pointer none,.pointer none] 157 (0,0))]=(z.more e).S:=by
 rw [z.keys]at g;have B:z.r≠e.b:=fun h=>g (h▸E0 ..)
 unfold BS.more BS.S;simp only [EO _ _ B,C0,Dd,JT,PJ];congr 2
 · refine Wc fun x G=>?_
   have m:x.b≠e.b:=fun h=>g (h▸E7 _ (DS G));unfold Bf.ch;simp only [EO _ _ m]
 · unfold Bf.ch
   simp only [IB]
theorem rG{z:BS}{ns:Nat}{L:List Bf}{mb:Nat}{es:Array MapEntry}{ck:Nat}{lm:List (Bk×A4)}{su:List A9}(h:CK z ns L mb es ck lm su)(W:z.bl.Nodup)(e:Bf)(G:e.b∉z.S.map (·.1)):∃p,p∈(z.more e).bl/\(z.more e).bf z.r=pV p/\e∈(z.more e).E/\
 H6 (Cq (Cq (z.more e).nx e.b (pV z.r)) p (pV e.b)) (Cq (Cq (z.more e).bf e.b (pV p)) z.r (pV e.b)) z.r ((L++[e]).map (·.b)):=by
 rw [z.keys]at G;have m:∀a∈z.r::L.map (·.b),a∈z.bl:=fun a g=>by
  rcases DB.1 g with rfl|g
  · exact E0 ..
  · obtain ⟨x,I,rfl⟩:=C6.1 g
    exact E7 _ (DS (h.sub x I))
 have B:∀a∈z.r::L.map (·.b),a≠e.b:=fun a g X=>G (X▸m a g);obtain ⟨p,J,h2,O⟩:=qi (x:=e.b) (h.nodup W) (fun I=>G (m _ I)) (dQ (nx':=(z.more e).nx) (bf':=(z.more e).bf) h.ring (fun a g=>EO _ _ (B a g)) (fun a g=>EO _ _ (B a g)));refine ⟨p,?_,h2,G2 _ (C5.2 rfl),by rw [C0];exact O⟩;have U:=m p J
 unfold BS.bl BS.more at*;rcases DB.1 U with h5|h5
 · rw [h5];exact E0 ..
 · refine E7 _ ?_
   show p∈(z.E++[e]).map (·.b);rw [C0];exact Ek _ h5
theorem Y8{l:List Int}{i:Nat}{x:Int}(h:l[i]?=some x):(l.take (i+1)).sum=(l.take i).sum+x:=by
 obtain ⟨hi,rfl⟩:=C4.1 h;rw [PF,BT hi,oe];simp
theorem OI:∀{l:List Int},(∀x∈l,0<=x)->∀i,0<=(l.take i).sum/\(l.take i).sum<=l.sum
 |[],_,i=>by simp
 |x::l,h,0=>by
  have:=OI (fun y g=>h y (E7 _ g)) l.length;rw [G3]at this;have m:=h x (E0 ..)
  simp only [IF,List.sum_nil,j8];omega
 |x::l,h,i+1=>by
  have:=OI (fun y g=>h y (E7 _ g)) i;have m:=h x (E0 ..)
  simp only [lz,j8];omega
theorem di(r:Nat)(cap:Int)(hc:1<=cap/\cap<=1000000)(a:B8)(ns c mb g:Nat)(B:ns<=maxLen):CK ⟨r,[],fun _=>pV r,fun _=>pV r,cap,.slice a ns c,I6 g ns ns,.map (some mb),cap⟩ ns [] mb #[] 0 [] [(g,.cells (List.replicate ns (Value.int .i64 0)).toArray 3 (0,0))]:=by
 refine ⟨fun e h=>by simp at h,qh V rfl,V,EX _,fun p=>by simp,mu,?_,fun e h=>by simp at h,fun e h=>by simp at h,?_,?_,⟨a,c,V⟩,hc⟩
 · rw [show(List.range ns).map (fun k:Nat=>Value.int .i64 (Ck [] (k:Int)))=List.replicate ns (Value.int .i64 0) from by
    rw [List.eq_replicate_iff];refine ⟨by simp,fun b m=>?_⟩;obtain ⟨k,_,rfl⟩:=C6.1 m;rfl]
   exact Jb _ g _ ns B4 B
 · show cap=cap -Fj []
   unfold Fj;simp
 · show 0<=cap
   omega
theorem GV{v:A4}{xs:List Int}{s:List A9}(J:Row 3 v (xs.map (Value.int .i64)) s)(hn:xs.length<=1000000):BR prog 66 #[v] [s] (fun r H'=>∃g c s2,r= .slice g xs.length c/\Row 3 r (xs.map (Value.int .i64)) s2/\H'=[s2,s]):=by
 have af:=mL;obtain ⟨X,cv,hv⟩:=J.form;rw [B6]at hv;subst hv;refine Se func66 ntmps66 [0] ?_;intro u R;refine A1<|A5 Y<|Zq<|A1<|Zm Y<|Zv (Dq DE Y Y)<|A6<|AU Y (fun W=>?_) (fun W=>?_);·
  have O:X=none:=by cases X with
   |none=>rfl
   |some x=>cases W
  subst O;have h0:xs=[]:=by
   rcases J with⟨_,h,_⟩|⟨g,cap,cur,z,h,_⟩
   · simpa using h
   · cases h
  subst h0;refine Zq<|Bc<|Zg<|A5 Y<|AJ<|Zt<|AP V results66 Y (by exact ⟨none,0,[],V,Gs _,V⟩)
 refine AC<|Zx<|A1<|Ze (EQ DE AE)<|AG fun Z=>Zm Y<|Ze (Gp (by_:=8) DE (rfl:Tryz.prog.info? 3=some Tryz.t3) rfl rfl rfl rfl Y ((Jb 3 Z [] 0 rfl B1)) Y (J) Wo Wo (by exact fun u hu=>by obtain ⟨x,_,rfl⟩:=C6.1 hu;rfl) Hi Hi) ?_;rintro _ _ ⟨U,m,rfl⟩;rw [Kx]at m;have B:=m
 obtain ⟨I,G,rfl⟩:=m.form;refine A5 Y<|AJ<|AP V results66 Y (by exact ⟨I,G,U,by simp,B,V⟩)
theorem mJ{v:A4}{sh:List Int}{X:List A9}(G:Row 3 v (sh.map (Value.int .i64)) X)(cap:Int)(hc:1<=cap/\cap<=1000000)(hl:1<=sh.length/\sh.length<=8)(h0:∀x∈sh,0<=x)(Z:sh.sum<=cap):BR prog 27 #[I4 cap,v] [X] (fun r H'=>∃z mb su sc,r= .tuple #[.pointer (some ⟨z.r,0,none⟩),I4 0]/\(z.cap=cap/\Jr sc z.sh sh)/\CK z sh.length [] mb #[] 0 [] su/\H'=[z.S,[(mb,.map #[] 0)],su,sc,X]):=by
 have bn:=mL;obtain ⟨pv,cv,hv⟩:=G.form;rw [B6]at hv;subst hv;refine Se func27 ntmps27 [0,1] ?_;intro u R;refine A1<|Za Y<|A5 Y<|Zq<|A1<|Zm Y<|Zv (EH Y Y)<|Zm Y<|Ao (t:=12) Y V (fun g1=>by omega)<|fun g1=>Zf Y Y<|Yg (Ed Y Y)<|Zv (AL Y Y)<|Zm Y<|Ao (t:=16) Y V (fun g2=>by omega)<|fun g2=>Zf Y Y<|Yg (Ac DE Y)<|Yg (Ay (n:=1) Y Y)<|Zv (AL Y Y)<|Zm Y<|Ao (t:=21) Y V (fun g3=>by omega)<|fun g3=>Zf Y Y<|Yg (Ac DE Y)<|Yg (DR (n:=8) Y Y)<|Zv (AL Y Y)<|Z0<|Zn [0,1,25] ?_;refine Zx<|Aw Y (fun g4=>by omega)<|fun g4=>AC<|Zx<|A1<|Zm Y<|A5 Y<|Zq<|A1<|Zm Y<|Zv (Ac DE Y)<|Zm Y<|A6<|AQ<|Zb [6,29,0,1,27,28] ?_;refine BI (e0:=[(6,_),(29,_)]) (fun m e H=>∃(i:Nat),m=sh.length -i/\(i<=sh.length)/\e=[(6,I4 (cap -(sh.take i).sum)),(29,I4 (i:Int))]/\H=[]) (by exact ⟨0,V,C7 _,by simp,V⟩) Wp ?_;rintro _ _ _ ⟨i,rfl,hi,rfl,rfl⟩;refine A1<|Zv (Ay Y Y)<|A6<|Zq<|Aw Y (fun J=>?_) (fun J=>?_);·
  obtain ⟨n,O⟩:∃n,sh[i]?=some n:=⟨_,BT J⟩;obtain ⟨bs,cs,cur,zs,W,rfl,ax,af,I,_⟩:=Ob G (k:=i) (y0:=I4 n) (by rw [DP,O];rfl);injection W with e1 e2 e3
  subst e1 e3;have cu:=h0 n (DQ O)
  have cO:=OI h0 i;have U:=OI h0 (i+1)
  rw [Y8 O]at U;refine AC<|Zx<|Zq<|AQ<|A1<|BU (Be DE AE Y Y A0)<|Zl AH Y (hv:=by exact I) ?_;refine A5 Y<|Zq<|A1<|Zm Y<|Zv (EH Y Y)<|Zm Y<|Ao (t:=35) Y V (fun g5=>by omega)<|fun g5=>Zf Y Y<|Zf Y Y<|Yg (Ed Y Y)<|Zv (AL Y Y)<|A6<|Aw Y (fun g6=>by omega)<|fun g6=>AC<|Zx<|Zg<|Zm Y<|Zm Y ?_
  (refine BU (FP Y Y (IntWalk.i64_in _ ?_)) ?_;(focus (omega)))
  refine AW Y<|Zn [0,1,6,27,28,29] ?_;refine A8<|Zx<|Zg<|Ya (n:=1) Y Y<|Zm Y<|Z0<|Zn [6,29,0,1,27,28] ?_;refine Aa (e':=[(6,_),(29,_)]) (by exact ⟨i+1,rfl,by omega,by rw [Y8 O,Int.sub_sub],rfl⟩)
 refine BD<|Zt<|Zt<|AV<|Zx<|Zb [0,1] ?_;refine CW (e0:=[(0,_),(1,_)]) (H0:=[]) (fun e H=>∃(r mb g:Nat) (gc:B8) (cc:Nat) (sc:List A9),(Row 3 (.slice gc sh.length cc) (sh.map (Value.int .i64)) sc)/\e=[(9,I5 r)]/\H=[[(r,.cells #[.string ⟨#[]⟩,I4 0,I4 0,.pointer none,.pointer none,I4 cap,.slice gc sh.length cc,I6 g sh.length sh.length,.map (some mb),I4 cap] 161 (0,0))],[(mb,.map #[] 0)],[(g,.cells (List.replicate sh.length (Value.int .i64 0)).toArray 3 (0,0))],sc]) Wp ?hx_3 ?hy_3
 case hx_3=>
  refine BA (n:=11) (0::0::2::0::8::24::0::0::255::511::1023::[]) 612 AF AF V<|A3 0 V (AO Y)<|A3 1 V (AO Y)<|A3 3 V (AO Y)<|A3 4 V (Ac DE Y)<|A3 7 V (AO Y)<|Zz (l:=[2,5,6])<|B7 [] [] V rfl (Zw [_] Y call66 Y V (GV G A0)) ?_ Bv ?_;·
   rintro _ _ ⟨_,⟨gc,cc,sc,rfl,B,rfl⟩,rfl⟩;refine BW<|Zz (l:=[5,6])<|B7 [] [] V rfl (Gc (by_:=8) DE (V:Tryz.prog.info? 3=some Tryz.t3) V rfl V rfl Y Y ?_ ?_ ?_) ?hk_5 (fun _ _ h=>h.elim) ?hl_5
   (focus (omega))
   (focus (omega))
   (focus (omega))
   case hk_5=>
    rintro _ _ ⟨g,rfl,rfl⟩;refine BW<|Yw 6 255 V (DX)<|AG fun mb=>A3 8 V (BM (vs:=[(1,I4 cap),(2,.slice gc sh.length cc),(3,I6 g sh.length sh.length),(4,.map (some mb)),(5,I4 cap)]) (cs:=#[.string ⟨#[]⟩,I4 0,I4 0,.pointer none,.pointer none,I4 cap,.slice gc sh.length cc,I6 g sh.length sh.length,.map (some mb),I4 cap]) Y (AY (pl:=#[(0,5),(5,1),(6,1),(7,1),(8,1),(9,1)]) gE HR (fun _=>by kernel_rfl) AF))<|Yw 9 1023 V (F5 Y (cs:=#[.string ⟨#[]⟩,I4 0,I4 0,.pointer none,.pointer none,I4 cap,.slice gc sh.length cc,I6 g sh.length sh.length,.map (some mb),I4 cap]) AF)<|AG fun r=>A3 10 V (Aq Y)<|Ag<|Zn [9] ?_;refine Av (e':=[(9,_)]) (by exact ⟨r,mb,g,gc,cc,sc,B,V,V⟩)
   refine B7 [] [] V rfl (DX) ?_ (fun _ _ h=>h.elim) Aj;rintro _ _ ⟨mb,rfl,rfl⟩;refine BW<|Zz (l:=[5])<|B7 [] [] V rfl (Gc (by_:=8) DE (V:Tryz.prog.info? 3=some Tryz.t3) V rfl V rfl Y Y ?_ ?_ ?_) ?hk_10 (fun _ _ h=>h.elim) ?hl_10
   (focus (omega))
   (focus (omega))
   (focus (omega))
   case hk_10=>
    rintro _ _ ⟨g,rfl,rfl⟩;refine BW<|A3 8 V (BM (vs:=[(1,I4 cap),(2,.slice gc sh.length cc),(3,I6 g sh.length sh.length),(4,.map (some mb)),(5,I4 cap)]) (cs:=#[.string ⟨#[]⟩,I4 0,I4 0,.pointer none,.pointer none,I4 cap,.slice gc sh.length cc,I6 g sh.length sh.length,.map (some mb),I4 cap]) Y (AY (pl:=#[(0,5),(5,1),(6,1),(7,1),(8,1),(9,1)]) gE HR (fun _=>by kernel_rfl) AF))<|Yw 9 1023 V (F5 Y (cs:=#[.string ⟨#[]⟩,I4 0,I4 0,.pointer none,.pointer none,I4 cap,.slice gc sh.length cc,I6 g sh.length sh.length,.map (some mb),I4 cap]) AF)<|AG fun r=>A3 10 V (Aq Y)<|Ag<|Zn [9] ?_;refine Av (e':=[(9,_)]) (by exact ⟨r,mb,g,gc,cc,sc,B,V,V⟩)
   exact Aj
  refine B7 [] [] V rfl (Gc (by_:=8) DE (V:Tryz.prog.info? 3=some Tryz.t3) V rfl V rfl Y Y ?_ ?_ ?_) ?hk_13 (fun _ _ h=>h.elim) ?hl_13
  (focus (omega))
  (focus (omega))
  (focus (omega))
  case hk_13=>
   rintro _ _ ⟨g,rfl,rfl⟩;refine BW<|Zz (l:=[2,6])<|B7 [] [] V rfl (Zw [_] Y call66 Y V (GV G A0)) ?_ Bv ?_;·
    rintro _ _ ⟨_,⟨gc,cc,sc,rfl,B,rfl⟩,rfl⟩;refine BW<|Yw 6 255 V (DX)<|AG fun mb=>A3 8 V (BM (vs:=[(1,I4 cap),(2,.slice gc sh.length cc),(3,I6 g sh.length sh.length),(4,.map (some mb)),(5,I4 cap)]) (cs:=#[.string ⟨#[]⟩,I4 0,I4 0,.pointer none,.pointer none,I4 cap,.slice gc sh.length cc,I6 g sh.length sh.length,.map (some mb),I4 cap]) Y (AY (pl:=#[(0,5),(5,1),(6,1),(7,1),(8,1),(9,1)]) gE HR (fun _=>by kernel_rfl) AF))<|Yw 9 1023 V (F5 Y (cs:=#[.string ⟨#[]⟩,I4 0,I4 0,.pointer none,.pointer none,I4 cap,.slice gc sh.length cc,I6 g sh.length sh.length,.map (some mb),I4 cap]) AF)<|AG fun r=>A3 10 V (Aq Y)<|Ag<|Zn [9] ?_;refine Av (e':=[(9,_)]) (by exact ⟨r,mb,g,gc,cc,sc,B,V,V⟩)
   refine B7 [] [] V rfl (DX) ?_ (fun _ _ h=>h.elim) Aj;rintro _ _ ⟨mb,rfl,rfl⟩;refine BW<|Zz (l:=[2])<|B7 [] [] V rfl (Zw [_] Y call66 Y V (GV G A0)) ?_ Bv Aj;rintro _ _ ⟨_,⟨gc,cc,sc,rfl,B,rfl⟩,rfl⟩;refine BW<|A3 8 V (BM (vs:=[(1,I4 cap),(2,.slice gc sh.length cc),(3,I6 g sh.length sh.length),(4,.map (some mb)),(5,I4 cap)]) (cs:=#[.string ⟨#[]⟩,I4 0,I4 0,.pointer none,.pointer none,I4 cap,.slice gc sh.length cc,I6 g sh.length sh.length,.map (some mb),I4 cap]) Y (AY (pl:=#[(0,5),(5,1),(6,1),(7,1),(8,1),(9,1)]) gE HR (fun _=>by kernel_rfl) AF))<|Yw 9 1023 V (F5 Y (cs:=#[.string ⟨#[]⟩,I4 0,I4 0,.pointer none,.pointer none,I4 cap,.slice gc sh.length cc,I6 g sh.length sh.length,.map (some mb),I4 cap]) AF)<|AG fun r=>A3 10 V (Aq Y)<|Ag<|Zn [9] ?_;refine Av (e':=[(9,_)]) (by exact ⟨r,mb,g,gc,cc,sc,B,V,V⟩)
  refine B7 [] [] V rfl (DX) ?_ (fun _ _ h=>h.elim) Aj;rintro _ _ ⟨mb,rfl,rfl⟩;refine BW<|Zz (l:=[2,5])<|B7 [] [] V rfl (Zw [_] Y call66 Y V (GV G A0)) ?_ Bv ?_;·
   rintro _ _ ⟨_,⟨gc,cc,sc,rfl,B,rfl⟩,rfl⟩;refine BW<|Zz (l:=[5])<|B7 [] [] V rfl (Gc (by_:=8) DE (V:Tryz.prog.info? 3=some Tryz.t3) V rfl V rfl Y Y ?_ ?_ ?_) ?hk_24 (fun _ _ h=>h.elim) ?hl_24
   (focus (omega))
   (focus (omega))
   (focus (omega))
   case hk_24=>
    rintro _ _ ⟨g,rfl,rfl⟩;refine BW<|A3 8 V (BM (vs:=[(1,I4 cap),(2,.slice gc sh.length cc),(3,I6 g sh.length sh.length),(4,.map (some mb)),(5,I4 cap)]) (cs:=#[.string ⟨#[]⟩,I4 0,I4 0,.pointer none,.pointer none,I4 cap,.slice gc sh.length cc,I6 g sh.length sh.length,.map (some mb),I4 cap]) Y (AY (pl:=#[(0,5),(5,1),(6,1),(7,1),(8,1),(9,1)]) gE HR (fun _=>by kernel_rfl) AF))<|Yw 9 1023 V (F5 Y (cs:=#[.string ⟨#[]⟩,I4 0,I4 0,.pointer none,.pointer none,I4 cap,.slice gc sh.length cc,I6 g sh.length sh.length,.map (some mb),I4 cap]) AF)<|AG fun r=>A3 10 V (Aq Y)<|Ag<|Zn [9] ?_;refine Av (e':=[(9,_)]) (by exact ⟨r,mb,g,gc,cc,sc,B,V,V⟩)
   exact Aj
  refine B7 [] [] V rfl (Gc (by_:=8) DE (V:Tryz.prog.info? 3=some Tryz.t3) V rfl V rfl Y Y ?_ ?_ ?_) ?hk_27 (fun _ _ h=>h.elim) ?hl_27
  (focus (omega))
  (focus (omega))
  (focus (omega))
  case hk_27=>
   rintro _ _ ⟨g,rfl,rfl⟩;refine BW<|Zz (l:=[2])<|B7 [] [] V rfl (Zw [_] Y call66 Y V (GV G A0)) ?_ Bv Aj;rintro _ _ ⟨_,⟨gc,cc,sc,rfl,B,rfl⟩,rfl⟩;refine BW<|A3 8 V (BM (vs:=[(1,I4 cap),(2,.slice gc sh.length cc),(3,I6 g sh.length sh.length),(4,.map (some mb)),(5,I4 cap)]) (cs:=#[.string ⟨#[]⟩,I4 0,I4 0,.pointer none,.pointer none,I4 cap,.slice gc sh.length cc,I6 g sh.length sh.length,.map (some mb),I4 cap]) Y (AY (pl:=#[(0,5),(5,1),(6,1),(7,1),(8,1),(9,1)]) gE HR (fun _=>by kernel_rfl) AF))<|Yw 9 1023 V (F5 Y (cs:=#[.string ⟨#[]⟩,I4 0,I4 0,.pointer none,.pointer none,I4 cap,.slice gc sh.length cc,I6 g sh.length sh.length,.map (some mb),I4 cap]) AF)<|AG fun r=>A3 10 V (Aq Y)<|Ag<|Zn [9] ?_;refine Av (e':=[(9,_)]) (by exact ⟨r,mb,g,gc,cc,sc,B,V,V⟩)
  exact Aj
 rintro _ _ ⟨r,mb,g,gc,cc,sc,B,rfl,rfl⟩;refine A1<|Zm Y<|Zp Y V<|Zh 0 HR V rfl sizeOf159 Y<|Zc [_] Y call67 Y V (iH r 161 (0,0) _ _ _ _ _ _ _ _ _ _) ?_;rintro _ _ ⟨_,⟨rfl,rfl⟩,rfl⟩;refine A6<|A1<|Zm Y<|Za Y<|A5 Y<|AJ<|DJ V results27 Y Y (by exact ⟨⟨r,[],fun _=>pV r,fun _=>pV r,cap,.slice gc sh.length cc,I6 g sh.length sh.length,.map (some mb),cap⟩,mb,_,sc,V,⟨V,mF B⟩,di r cap hc gc sh.length cc mb g A0,V⟩)
structure ItM where
 b:Nat
 id:Int
 q:QM
 tn:Int
 base:Int
 rq:B8
 rc:Nat
 L:List RP
 res:CB
 wq:B8
 wc:Nat
 since:Int
abbrev ItM.A74(c:ItM):Array Go.Value:=#[I4 c.q.kd,I4 c.q.tb,I4 c.q.cl,I4 c.q.lo,I4 c.q.hi,I4 c.q.bq,I4 c.q.ot,I4 c.tn,I4 c.base,.slice c.rq c.L.length c.rc,I4 c.id,.slice c.wq c.res.rows.length c.wc,I4 c.res.val,.bool c.res.fnd,I4 c.since]
def ItM.key(x:ItM):Bk:=str (Bi x.q)
def ItM.iq(x:ItM):Int×QM:=(x.id,x.q)
def ItM.obj(x:ItM):Obj:= .cells x.A74 121 (0,0)
def ItM.ch(x:ItM):A9:=(x.b,x.obj)
def Cy(pos base:Int)(win:List BQ):List BQ:=win.drop (win.length -(pos -base).toNat)
structure ItM.ok(M MR:List A9)(pos:Int)(win:List BQ)(x:ItM):Prop where
 q:BK x.q
 base:0<=x.base/\x.base<=10000
 tn:0<=x.tn/\x.tn<=1000000
 rp:GI M (.slice x.rq x.L.length x.rc) x.L
 rl:x.L.length<=1000000
 fit:∀y∈x.L,y.fits
 rw:EB MR (.slice x.wq x.res.rows.length x.wc) x.res.rows
 reach:(pos -x.base).toNat<=win.length
 run:∃r0,Eo x.q x.L=some r0/\GN x.q x.base 0 (r0,x.base) (Cy pos x.base win)=some (x.res,x.since)
variable{pos:Int}{x:ItM}
theorem ItM.ok.mono{M m MR g:List A9}{win:List BQ}(h:x.ok M MR pos win)(B:∀c∈M,c∈m)(G:∀c∈MR,c∈g):x.ok m g pos win:=⟨h.q,h.base,h.tn,h.rp.mono B,h.rl,h.fit,h.rw.mono G,h.reach,h.run⟩
structure GK(its:List ItM)(next:Int)(esQ:Array MapEntry)(ckQ:Nat)(lmQ:List (Int×A4))(lv:A4)(ML:List A9)(esI:Array MapEntry)(ckI:Nat)(lmI:List (Bk×A4))(esK:Array MapEntry)(ckK:Nat)(lmK:List (Int×A4))(SI:List A9):Prop where
 idx:El (its.map ItM.iq) esQ ckQ lmQ
 ist:WQ (its.map ItM.iq) lv ML
 im:Co (fun k:Bk=>Value.string k) esI ckI lmI
 imem:∀p,p∈lmI↔∃x∈its,p=(x.key,pV x.b)
 km:Co (fun n:Int=>Value.int .i64 n) esK ckK lmK
 kmem:∀p,p∈lmK↔∃x∈its,p=(x.id,.string x.key)
 keys:(its.map ItM.key).Nodup
 ids:∀x∈its,1<=x.id/\x.id<=next
 nx:0<=next/\next<=1000000000
 len:its.length<=500
 q:∀x∈its,BK x.q
 sub:∀x∈its,x.ch∈SI
variable{its:List ItM}{next:Int}{esQ esI esK:Array MapEntry}{ckQ ckI ckK:Nat}{lmQ lmK:List (Int×A4)}{lv:A4}{ML SI:List A9}{lmI:List (Bk×A4)}
theorem GK.get(h:GK its next esQ ckQ lmQ lv ML esI ckI lmI esK ckK lmK SI)(g:x∈its):Dp x.key lmI=some (pV x.b):=D7 h.im.keys ((h.imem _).2 ⟨x,g,rfl⟩)
theorem GK.none{its:List ItM}{next:Int}{esQ:Array MapEntry}{ckQ:Nat}{lmQ:List (Int×A4)}{lv:A4}{ML:List A9}{esI:Array MapEntry}{ckI:Nat}{lmI:List (Bk×A4)}{esK:Array MapEntry}{ckK:Nat}{lmK:List (Int×A4)}{SI:List A9}(h:GK its next esQ ckQ lmQ lv ML esI ckI lmI esK ckK lmK SI){K:Bk}(g:∀x∈its,x.key≠K):Dp K lmI=none:=Da fun p m=>by
 obtain ⟨x,B,rfl⟩:=(h.imem p).1 m;exact g x B
theorem GK.len_eq(h:GK its next esQ ckQ lmQ lv ML esI ckI lmI esK ckK lmK SI):(lmI.map (·.1)).Perm (its.map ItM.key):=by
 refine (OS h.im.keys h.keys).2 fun a=>?_;constructor
 · intro g
   obtain ⟨p,B,rfl⟩:=C6.1 g;obtain ⟨x,m,rfl⟩:=(h.imem p).1 B;exact DS m
 · intro g
   obtain ⟨x,m,rfl⟩:=C6.1 g;exact C6.2 ⟨_,(h.imem _).2 ⟨x,m,V⟩,V⟩
theorem XM(B:(its.map ItM.key).Nodup)(hi:((its.map ItM.iq).map (·.1)).Nodup){y:ItM}(g:x∈its)(m:y∈its):y.key≠x.key↔y.id≠x.id:=by
 rw [K0]at hi;constructor;· intro h e;exact h (by rw [Ga hi g m e.symm])
 · intro h e;exact h (by rw [Ga B g m e.symm])
theorem yA(h:GK its next esQ ckQ lmQ lv ML esI ckI lmI esK ckK lmK SI)(hx:x∈its)
 {Z:Array MapEntry}{U:Nat}{af:List (Int×A4)}(hq:El ((its.map ItM.iq).filter fun y=>y.1≠x.id) Z U af){W:Array MapEntry}{J:Nat}{B:List (Bk×A4)}(hm:Co (fun k:Bk=>Value.string k) W J B)(hp:∀p,p∈B↔p∈lmI/\p.1≠x.key)
 {X:Array MapEntry}{O:Nat}{G:List (Int×A4)}(hk:Co (fun n:Int=>Value.int .i64 n) X O G)(ax:∀p,p∈G↔p∈lmK/\p.1≠x.id):GK (its.filter fun y=>y.key≠x.key) next Z U af (.pointer none) [] W J B X O G SI:=by
 have m:=h.idx.ids;have e1:(its.filter fun y=>y.key≠x.key).map ItM.iq=(its.map ItM.iq).filter fun y=>y.1≠x.id:=by
  rw [List.filter_map];congr 1;refine dd fun y g=>?_;exact decide_eq_decide.2 (XM h.keys m hx g)
 have I:∀y,y∈(its.filter fun y=>y.key≠x.key)↔y∈its/\y.key≠x.key:=fun y=>by rw [Fc];simp
 refine ⟨by rw [e1];exact hq,.inl ⟨rfl,rfl⟩,hm,fun p=>?_,hk,fun p=>?_,h.keys.sublist (Sp.map _),fun y g=>h.ids y ((I y).1 g).1,h.nx,Q1 (Of _ _) h.len,fun y g=>h.q y ((I y).1 g).1,fun y g=>h.sub y ((I y).1 g).1⟩
 · rw [hp,h.imem]
   constructor;· rintro ⟨⟨y,g,rfl⟩,hn⟩;exact ⟨y,(I y).2 ⟨g,hn⟩,rfl⟩
   · rintro ⟨y,g,rfl⟩;exact ⟨⟨y,((I y).1 g).1,rfl⟩,((I y).1 g).2⟩
 · rw [ax,h.kmem]
   constructor;· rintro ⟨⟨y,g,rfl⟩,hn⟩;exact ⟨y,(I y).2 ⟨g,(XM h.keys m hx g).2 hn⟩,rfl⟩
   · rintro ⟨y,g,rfl⟩;exact ⟨⟨y,((I y).1 g).1,rfl⟩,(XM h.keys m hx ((I y).1 g).1).1 ((I y).1 g).2⟩
theorem yB(h:GK its next esQ ckQ lmQ lv ML esI ckI lmI esK ckK lmK SI)(hx:∀y∈its,y.key≠x.key)(af:x.id=next+1)(hn:next<1000000000)(hl:its.length<500)(hv:BK x.q)
 {W:Array MapEntry}{J:Nat}{X:List (Int×A4)}(hq:El (its.map ItM.iq++[(x.id,x.q)]) W J X){O:Array MapEntry}{G:Nat}{m:List (Bk×A4)}(hm:Co (fun k:Bk=>Value.string k) O G m)(hp:∀p,p∈m↔p=(x.key,pV x.b)\/(p∈lmI/\p.1≠x.key))
 {U:Array MapEntry}{I:Nat}{B:List (Int×A4)}(hk:Co (fun n:Int=>Value.int .i64 n) U I B)(Z:∀p,p∈B↔p=(x.id,.string x.key)\/(p∈lmK/\p.1≠x.id)):GK (its++[x]) (next+1) W J X (.pointer none) [] O G m U I B (SI++[x.ch]):=by
 have ax:=h.nx;refine ⟨by rw [C0];exact hq,.inl ⟨rfl,rfl⟩,hm,fun p=>?_,hk,fun p=>?_,?_,fun y g=>?_,by omega,by rw [Bm];simp;omega,fun y g=>?_,fun y g=>?_⟩
 · rw [hp,h.imem]
   constructor
   · rintro (rfl|⟨⟨y,g,rfl⟩,_⟩)
     · exact ⟨x,by simp,rfl⟩
     · exact ⟨y,Ek _ g,rfl⟩
   · rintro ⟨y,g,rfl⟩
     rcases C2.1 g with g|g
     · exact .inr ⟨⟨y,g,rfl⟩,hx y g⟩
     · rw [C5.1 g];exact .inl rfl
 · rw [Z,h.kmem]
   constructor
   · rintro (rfl|⟨⟨y,g,rfl⟩,_⟩)
     · exact ⟨x,by simp,rfl⟩
     · exact ⟨y,Ek _ g,rfl⟩
   · rintro ⟨y,g,rfl⟩
     rcases C2.1 g with g|g
     · have:=h.ids y g
       exact .inr ⟨⟨y,g,V⟩,by show y.id≠x.id;omega⟩
     · rw [C5.1 g];exact .inl rfl
 · rw [C0,GW]
   refine ⟨h.keys,by simp,fun a ha b hb=>?_⟩;obtain ⟨y,g,rfl⟩:=C6.1 ha;obtain rfl:=C5.1 hb;exact hx y g
 · rcases C2.1 g with g|g
   · have:=h.ids y g;omega
   · rw [C5.1 g];omega
 · rcases C2.1 g with g|g
   · exact h.q y g
   · rw [C5.1 g];exact hv
 · rcases C2.1 g with g|g
   · exact Ek _ (h.sub y g)
   · rw [C5.1 g];simp
variable{mq:Nat}
theorem XP{B:Nat}{es:Array MapEntry}{ck:Nat}{lm:List (Int×A4)}(G:El (its.map ItM.iq) es ck lm)(J:x∈its):BR prog 87 #[I5 B,I4 x.id] [[(B,.cells #[.map (some mq),lv] 165 (0,0))],[(mq,.map es ck)]]
 (fun r H'=>∃m g I,r= .bool true/\El ((its.map ItM.iq).filter fun y=>y.1≠x.id) m g I/\H'=[[(B,.cells #[.map (some mq),.pointer none] 165 (0,0))],[(mq,.map m g)]]):=WT G (x:=x.iq) (DS J)
theorem Na{M:List A9}{p:B8}{cap a:Nat}{l:List BQ}(h:Ec M (.slice p l.length cap) l)(X:a<=l.length):Ec M (.slice (Ea p a cap 2) (l.length -a) (cap -a)) (l.drop a):=by
 obtain ⟨p',G,e,⟨Z,O⟩,J⟩:=h;injection e with e1 e2 e3
 subst e1 e3;refine ⟨_,_,by rw [CH],⟨by rw [CH];omega,by rw [CH];omega⟩,fun i x B=>?_⟩;rw [RW]at B;have hi:=(C4.1 B).1
 obtain ⟨I,g,off,cur,T,zz,rfl,U,W,m⟩:=J (a+i) x B;have hc:Ea (some ⟨g,off,none⟩) a cap 2=some ⟨g,off+a*2,none⟩:=by
  unfold Ea;rw [As A0,N2,Ca]
 rw [hc];exact ⟨I,g,_,cur,T,zz,rfl,U,by omega,by rw [show off+a*2+i*2=off+(a+i)*2 by omega];exact m⟩
theorem JK(n:Int):BJ prog 26 #[I4 n] [] (.bool (decide (0<=n/\n<=10000))):=by
 refine Se func26 ntmps26 [0] ?_;intro u R;refine A1<|A5 Y<|A1<|Zm Y<|Zv (Gj Y Y)<|Zm Y<|Ao (t:=5) Y V (fun g=>?_) (fun g=>?_);·
  refine Zf Y Y<|Yg (NJ Y Y)<|Zv (AX Y Y)<|A5 Y<|AJ<|AP V results26 Y (by exact ⟨congrArg Value.bool (by simp [g]),V⟩)
 refine A7 Y V<|A7 Y V<|Zv (AL Y Y)<|A5 Y<|AJ<|AP V results26 Y (by exact ⟨congrArg Value.bool (by simp [g]),V⟩)
variable{mk mi ip cp:Nat}
theorem O3{wq:B8}{wn wc:Nat}(J:0<=pos/\pos<=10000)(base:Int)(I:0<=base/\base<=10000)(O:wn<=wc/\wn<=1000000):BJ prog 55 #[I5 cp,I4 base] [[(cp,.cells #[I4 pos,.slice wq wn wc,I5 r,I5 ip,.map (some mi),.map (some mk),I4 next] 95 (0,0))]] (if(pos -base).toNat<=wn then .tuple #[.slice (Ea wq (wn -(pos -base).toNat) wc 2) (pos -base).toNat (wc -(wn -(pos -base).toNat)),.bool true]else .tuple #[.slice none 0 0,.bool false]):=by
 have B:=mL;obtain ⟨n,G⟩:∃n:Nat,n=(pos -base).toNat:=⟨_,rfl⟩;have g:max (pos -base) 0=(n:Int):=by omega
 rw [<-G];refine Se func55 ntmps55 [0,1] ?_;intro u R;refine A1<|Za Y<|A5 Y<|A1<|Zm Y<|Zp Y V<|Zh 0 Fl V rfl AE Y<|Zl AH Y ?_;refine Zm Y ?_
 (refine BU (FP Y Y (IntWalk.i64_in _ ?_)) ?_;(focus (omega)))
 refine Zv (Q7 Y Y)<|A5 Y<|Zq<|Zq ?_;rw [g];refine Zg<|Zm Y<|Zm Y<|Zp Y V<|Zh 1 Fl V rfl SM Y<|Zl isAgg25 Y ?_;refine Zv (Ac HF Y)<|Zv (DR Y Y)<|Z0<|Zn [0,6,20] ?_;refine Zx<|Aw Y (fun m=>?_) (fun m=>?_);·
  refine A1<|Za Y<|A5 Y<|AJ<|Zt<|DJ rfl results55 Y Y (by exact ⟨by rw [As A0],rfl⟩)
 refine AC<|Zx<|Zq<|BA (n:=14) (0::1::3::7::0::16::48::112::240::0::1008::2047::4095::8191::[]) 0 AF AF V<|A3 0 V (AO Y)<|A3 1 V (Ak Y V)<|A3 2 V (AA (off:=1) Fl V rfl SM Y)<|BE 3 V isAgg25 Y ?_;refine A3 4 V (AO Y)<|A3 5 V (Ak Y V)<|A3 6 V (AA (off:=1) Fl V rfl SM Y)<|BE 7 V isAgg25 Y ?_;refine A3 8 V (Ac HF Y)<|A3 9 V (AO Y) ?_
 (refine Dn (D':=2047) 10 (CO Y Y ?_ ?_) ?_;(focus (omega));(focus (omega)))
 refine A3 11 V (C8 HF GC Y Y A0)<|A3 12 V (Aq Y)<|A3 13 V (Aq Y)<|Ag<|Zn [4,5] ?_;refine Zx<|AJ<|DJ rfl results55 Y Y (by exact ⟨by rw [Ax A0,show wn -(wn -n)=n by omega],rfl⟩)
variable{wv:A4}
theorem Vv(h:GK its next esQ ckQ lmQ lv ML esI ckI lmI esK ckK lmK SI)(hx:x∈its):BR prog 41 #[I5 cp,.string x.key] [[(cp,.cells #[I4 pos,wv,I5 r,I5 ip,.map (some mi),.map (some mk),I4 next] 95 (0,0))],[(ip,.cells #[.map (some mq),lv] 165 (0,0))],[(mq,.map esQ ckQ)],[(mi,.map esI ckI)],[(mk,.map esK ckK)],SI] (fun v H'=>v= .bool true/\∃J B bn G g af I m ax,GK (its.filter fun y=>y.key≠x.key) next J B bn (.pointer none) [] G g af I m ax SI/\H'=[[(cp,.cells #[I4 pos,wv,I5 r,I5 ip,.map (some mi),.map (some mk),I4 next] 95 (0,0))],[(ip,.cells #[.map (some mq),.pointer none] 165 (0,0))],[(mq,.map J B)],[(mi,.map G g)],[(mk,.map I m)],SI]):=by
 have hg:=h.get hx;have X:(x.b,Obj.cells x.A74 121 (0,0))∈SI:=h.sub x hx
 have kv:x.iq∈its.map ItM.iq:=DS hx;refine Se func41 ntmps41 [0,1] ?_;intro u R;refine A1<|A5 Y<|A1<|Zm Y<|Zp Y rfl<|Zh 4 Fl rfl rfl RK Y<|Zl ON Y<|Zm Y<|Zo Wh (EU (Dt HA (D:=fun _=>True)) RC W4 h.im (fun _ _=>trivial) (trivial) (⟨by rw [hg];first|done|rfl,by rw [hg];first|done|rfl⟩) Y Y)<|Zm Y<|Zd Y rfl<|Zd Y rfl<|Za Y<|A5 Y<|Zq<|A1<|Zm Y<|Zv (Bt Y)<|Z0<|Zn [0,1,5,17] ?_;refine Zx<|AU Y (fun W=>by cases W)<|fun W=>AC<|Zx<|Zq<|BA (n:=9) (0::1::3::7::0::16::48::112::255::[]) 256 AF AF V<|A3 0 V (AO Y)<|A3 1 V (Ak Y V)<|A3 2 V (AA (off:=3) Fl V rfl sizeOf90 Y)<|BE 3 V isAgg90 Y<|A3 4 V (AO Y)<|A3 5 V (Ak Y V)<|A3 6 V (AA (off:=10) Hs V rfl AE Y)<|Cc (D':=255) 7 V rfl V (Dy Wo (X)) (BF AH Y B0) ?_;refine Zz (l:=[8])<|B7 [false,false] [] V rfl (Zw [_,_] Y call87 Y V (XP h.idx hx)) ?_ Bv Aj;rintro _ _ ⟨_,⟨U,O,cu,rfl,Z,rfl⟩,rfl⟩;refine BW<|Ag<|Zx<|Zq<|BA (n:=9) (0::1::3::7::0::16::48::112::255::[]) 256 AF AF V<|A3 0 V (AO Y)<|A3 1 V (Ak Y V)<|A3 2 V (AA (off:=5) Fl V rfl sizeOf93 Y)<|BE 3 V isAgg93 Y<|A3 4 V (AO Y)<|A3 5 V (Ak Y V)<|A3 6 V (AA (off:=10) Hs V rfl AE Y)<|Cc (D':=255) 7 V rfl V (Dy Wo (X)) (BF AH Y B0) ?_;refine Yw 8 511 V (K6 (Cf D4 (D:=fun _=>True)) dy h.km (fun _ _=>trivial) (trivial) Y Y Wo) ?_;rintro _ _ ⟨rfl,dn,cO,j3,gm,gy,rfl⟩;refine Ag<|Zn [0,1] ?_;refine Zx<|A1<|Zm Y<|Zp Y V<|Zh 4 Fl V rfl RK Y<|Zl ON Y<|Zm Y<|Ze (K6 (Dt HA (D:=fun _=>True)) RC h.im (fun _ _=>trivial) (trivial) Y Y Wo) ?_;rintro _ _ ⟨rfl,ek,d9,j5,gq,ic,rfl⟩;refine A6<|A1<|A5 Y<|AJ<|AP V results41 Y (by exact ⟨V,U,O,cu,ek,d9,j5,dn,cO,j3,yA h hx Z gq ic gm gy,V⟩)
variable{K:Bk}
theorem nZ(h:GK its next esQ ckQ lmQ lv ML esI ckI lmI esK ckK lmK SI)(B:∀y∈its,y.key≠K):BJ prog 41 #[I5 cp,.string K] [[(cp,.cells #[I4 pos,wv,I5 r,I5 ip,.map (some mi),.map (some mk),I4 next] 95 (0,0))],[(mi,.map esI ckI)]] (.bool false):=by
 have m:=h.none B;refine Se func41 ntmps41 [0,1] ?_;intro u R;refine A1<|A5 Y<|A1<|Zm Y<|Zp Y rfl<|Zh 4 Fl rfl rfl RK Y<|Zl ON Y<|Zm Y<|Zo Wh (EU (Dt HA (D:=fun _=>True)) RC W4 h.im (fun _ _=>trivial) (trivial) (⟨by rw [m];first|done|rfl,by rw [m];first|done|rfl⟩) Y Y)<|Zm Y<|Zd Y rfl<|Zd Y rfl<|Za Y<|A5 Y<|Zq<|A1<|Zm Y<|Zv (Bt Y)<|Z0<|Zn [0,1,5,17] ?_;refine Zx<|AU Y (fun g=>?_) (fun g=>?_);·
  refine A1<|A5 Y<|AJ<|Zt<|AP V results41 Y (by exact ⟨V,V⟩)
 cases g
theorem UR(h:GK its next esQ ckQ lmQ lv ML esI ckI lmI esK ckK lmK SI)(hx:∀y∈its,y.key≠x.key)(g:x.id=next+1)(hn:next<1000000000)(hl:its.length<500)(hv:BK x.q):BR prog 42 #[I5 cp,.string x.key,.pointer (some ⟨x.b,0,none⟩)] [[(cp,.cells #[I4 pos,wv,I5 r,I5 ip,.map (some mi),.map (some mk),I4 next] 95 (0,0))],[(ip,.cells #[.map (some mq),lv] 165 (0,0))],[(mq,.map esQ ckQ)],[(mi,.map esI ckI)],[(mk,.map esK ckK)],[(x.b,.cells #[I4 x.q.kd,I4 x.q.tb,I4 x.q.cl,I4 x.q.lo,I4 x.q.hi,I4 x.q.bq,I4 x.q.ot,I4 x.tn,I4 x.base,.slice x.rq x.L.length x.rc,I4 0,.slice x.wq x.res.rows.length x.wc,I4 x.res.val,.bool x.res.fnd,I4 x.since] 121 (0,0))],SI] (fun v H'=>v=undef/\∃O G bn I m af J B ax,GK (its++[x]) (next+1) O G bn (.pointer none) [] I m af J B ax (SI++[x.ch])/\H'=[[(cp,.cells #[I4 pos,wv,I5 r,I5 ip,.map (some mi),.map (some mk),I4 (next+1)] 95 (0,0))],[(ip,.cells #[.map (some mq),.pointer none] 165 (0,0))],[(mq,.map O G)],[(mi,.map I m)],[(mk,.map J B)],(SI++[x.ch])]):=by
 rw [<-g];have hg:=h.none hx
 have qo:=h.nx;have ic:Dp x.id lmK=none:=Da fun p hp=>by
  obtain ⟨y,hy,rfl⟩:=(h.kmem p).1 hp;have:=h.ids y hy
  show y.id≠x.id;omega
 have gy:∀y∈its.map ItM.iq,y.1≠x.id:=fun y hy=>by
  obtain ⟨z,hz,rfl⟩:=C6.1 hy;have:=h.ids z hz
  show z.id≠x.id;omega
 refine Se func42 ntmps42 [0,1,2] ?_;intro u R;refine A1<|Zm Y<|Zp Y V<|Zh 6 Fl V rfl AE Y<|Zl AH Y ?_;refine Yi Y Y<|Zp Y V<|Zh 6 Fl V rfl AE Y<|Xe (Zs AE Y Y V) ?_;refine A6<|Zq ?_;rw [<-g];refine Zg<|Zm Y<|Zm Y<|Zp Y V<|Zh 6 Fl V rfl AE Y<|Zl AH Y ?_;refine Zp Y V<|Zh 10 Hs V rfl AE Y<|Xe (Zs AE Y Y V) ?_;refine Z0<|Zn [0,1,2] ?_;refine Zx<|Zq<|BA (n:=21) (0::1::3::7::0::0::32::96::224::0::512::1536::3584::0::0::8191::40959::114687::245759::507903::1048575::[]) 1474560 AF AF V<|A3 0 V (AO Y)<|A3 1 V (Ak Y V)<|A3 2 V (AA (off:=4) Fl V rfl RK Y)<|BE 3 V ON Y ?_;refine A3 4 V (AO Y)<|A3 5 V (AO Y)<|A3 6 V (Ak Y V)<|A3 7 V (AA (off:=5) Fl V rfl sizeOf93 Y)<|BE 8 V isAgg93 Y ?_;refine A3 9 V (AO Y)<|A3 10 V (Ak Y V)<|A3 11 V (AA (off:=10) Hs V rfl AE Y)<|BE 12 V AH Y ?_;refine A3 13 rfl (AO Y)<|A3 14 rfl (AO Y)<|Zz (l:=[15])<|B7 [false,false,false] [] rfl rfl (Ki (Dt HA (D:=fun _=>True)) RC W4 h.im (fun _ _=>trivial) (trivial) (by rw [hg];first|done|rfl) Y Y Wo) ?_ (fun _ _ h=>h.elim) Aj;rintro _ _ ⟨qj,qa,qw,j3,qz,rfl,l8,kv,gm,p8,rfl⟩;refine BW<|A3 16 V (CE Y V)<|Zz (l:=[17])<|B7 [] [] V rfl (Iu l8 kv gm Y Y Y Wo) ?_ (fun _ _ h=>h.elim) Aj;rintro _ _ ⟨rfl,dn,cO,pz,l9,p9,rfl⟩;refine BW<|Yw 18 524287 rfl (Ki (Cf D4 (D:=fun _=>True)) dy HS h.km (fun _ _=>trivial) (trivial) (by rw [ic];first|done|rfl) Y Y Wo) ?_;rintro _ _ ⟨ql,qb,qx,j5,r9,rfl,o8,l5,gq,pg,rfl⟩;refine A3 19 V (CE Y V)<|Zz (l:=[20])<|B7 [] [] V rfl (Iu o8 l5 gq Y Y Y Wo) ?_ (fun _ _ h=>h.elim) Aj;rintro _ _ ⟨rfl,ek,d9,q9,o9,pq,rfl⟩;refine BW<|Ag<|Zn [0,2] ?_;refine Zx<|Cb (s1:=SI) (s2:=[x.ch]) Wo Wo ?_;have X:(x.b,Obj.cells x.A74 121 (0,0))∈SI++[x.ch]:=G2 _ (C5.2 rfl)
 refine BA (n:=14) (0::1::3::7::0::16::48::112::0::256::768::1792::3840::8191::[]) 8192 AF AF V<|A3 0 V (AO Y)<|A3 1 V (Ak Y V)<|A3 2 V (AA (off:=3) Fl V rfl sizeOf90 Y)<|BE 3 V isAgg90 Y ?_;refine A3 4 V (AO Y)<|A3 5 V (Ak Y V)<|A3 6 V (AA (off:=10) Hs V rfl AE Y)<|Cc (D':=255) 7 V rfl V (Dy Wo (X)) (BF AH Y B0) ?_;refine A3 8 V (AO Y)<|A3 9 V (Ak Y V)<|A3 10 V (AA (off:=0) Hs V rfl HG Y)<|A3 11 V (Ap (off:=0) GB V rfl CM Y)<|Cc (D':=8191) 12 V rfl V (Dy Wo (X)) (AB (cs:=x.q.A72) F1 CM Y Wn (by exact (by apply I2.1;rfl))) ?_;refine Zz (l:=[13])<|B7 [false,false,false] [] rfl rfl (Zw [_,_,_] Y call88 Y rfl (jy h.idx gy hv (by rw [B6];exact hl))) ?_ Bv Aj;rintro _ _ ⟨_,⟨W,U,cu,rfl,Z,rfl⟩,rfl⟩;refine BW<|Ag<|Ce rfl results42 (by exact ⟨rfl,W,U,cu,dn,cO,pz,ek,d9,q9,by rw [g];exact yB h hx g hn hl hv Z l9 (fun p=>by rw [p9,p8];exact OE _ _ _ _) o9 (fun p=>by rw [pq,pg];exact OE _ _ _ _),rfl⟩)
structure CZ where
 cp:Nat
 pos:Int
 wq:B8
 wc:Nat
 win:List BQ
 sW:List A9
 z:BS
 ns:Nat
 PL:List Bf
 mb:Nat
 esP:Array MapEntry
 ckP:Nat
 lmP:List (Bk×A4)
 su:List A9
 ip:Nat
 mq:Nat
 mi:Nat
 mkb:Nat
 next:Int
 its:List ItM
 esQ:Array MapEntry
 ckQ:Nat
 lmQ:List (Int×A4)
 lv:A4
 ML:List A9
 esI:Array MapEntry
 ckI:Nat
 lmI:List (Bk×A4)
 esK:Array MapEntry
 ckK:Nat
 lmK:List (Int×A4)
 SI:List A9
 M:List A9
 MR:List A9
abbrev CZ.A75(c:CZ):Array Go.Value:=#[I4 c.pos,.slice c.wq c.win.length c.wc,.pointer (some ⟨c.z.r,0,none⟩),.pointer (some ⟨c.ip,0,none⟩),.map (some c.mi),.map (some c.mkb),I4 c.next]
structure CZ.okb(c:CZ):Prop where
 pos:0<=c.pos/\c.pos<=10000
 win:Bd 2 57 (.slice c.wq c.win.length c.wc) c.win.length (Du c.win) c.sW
 wl:c.win.length<=64
 wp:∀(i:Nat) (r:BQ),c.win[i]?=some r->r.p=c.pos -(c.win.length:Int)+1+(i:Int)/\Cv c.M (.slice r.q r.cs.length r.cap) r.cs/\EK r.p r.cs
 pool:CK c.z c.ns c.PL c.mb c.esP c.ckP c.lmP c.su
 pk:∀k,k∈c.PL.map (·.key)↔k∈c.its.map ItM.key
 its:GK c.its c.next c.esQ c.ckQ c.lmQ c.lv c.ML c.esI c.ckI c.lmI c.esK c.ckK c.lmK c.SI
 tns:∀x∈c.its,x.tn<(c.ns:Int)
structure CZ.ok(c:CZ):Prop extends CZ.okb c where
 all:∀x∈c.its,x.ok c.M c.MR c.pos c.win
structure CZ.like(c d:CZ):Prop where
 cp:d.cp=c.cp
 pos:d.pos=c.pos
 win:d.win=c.win
 ns:d.ns=c.ns
 sc:d.z.cs=c.z.cs
variable{c:CZ}
theorem CZ.like.trans{a b:CZ}(h:a.like b)(k:b.like c):a.like c:=⟨k.cp.trans h.cp,k.pos.trans h.pos,k.win.trans h.win,k.ns.trans h.ns,k.sc.trans h.sc⟩
theorem CZ.like.cap{d:CZ}(h:c.like d):d.z.cap=c.z.cap:=congrArg Prod.fst h.sc
theorem iV(h:c.okb):Ec (c.sW++c.M) (.slice c.wq c.win.length c.wc) c.win:=KF h.win (by have:=h.wl;have g:maxLen=9223372036854775807:=rfl;omega) fun r m=>by
 obtain ⟨i,hi⟩:=HH m;exact (h.wp i r hi).2.1
theorem kU{α:Type}{l:List α}{x:α}(h:x∈l):∃A B,l=A++x::B:=Wf h
theorem lN{PL:List Bf}(hk:∀k,k∈PL.map (·.key)↔k∈its.map ItM.key){O U:List Bf}{e:Bf}(Z:PL=O++e::U)(m:(PL.map (·.key)).Nodup)(X:e.key=K):∀k,k∈(O++U).map (·.key)↔k∈(its.filter fun y=>y.key≠K).map ItM.key:=by
 intro k;subst Z X;have W:=hk k
 rw [C0,Dd,GW,HK]at m;constructor
 · intro h
   rw [C0,C2]at h;have B:k≠e.key:=by
    rintro rfl;rcases h with h|h
    · exact m.2.2 _ h _ (E0 ..) rfl
    · exact m.2.1.1 h
   obtain ⟨y,G,rfl⟩:=C6.1 (W.1 (by rw [C0,Dd,C2,DB];rcases h with h|h;exact .inl h;exact .inr (.inr h)));exact C6.2 ⟨y,Fc.2 ⟨G,by simpa using B⟩,V⟩
 · intro h
   obtain ⟨y,G,rfl⟩:=C6.1 h;obtain ⟨I,J⟩:=Fc.1 G;have g:=W.2 (DS I)
   rw [C0,Dd,C2,DB]at g;rw [C0,C2];rcases g with g|g|g
   · exact .inl g
   · simp [g]at J
   · exact .inr g
theorem XX(h:c.okb)(Z:x∈c.its):BR prog 49 #[.pointer (some ⟨c.cp,0,none⟩),.string x.key] [[(c.cp,.cells #[I4 c.pos,.slice c.wq c.win.length c.wc,.pointer (some ⟨c.z.r,0,none⟩),.pointer (some ⟨c.ip,0,none⟩),.map (some c.mi),.map (some c.mkb),I4 c.next] 95 (0,0))],c.sW,c.z.S,[(c.mb,.map c.esP c.ckP)],c.su,[(c.ip,.cells #[.map (some c.mq),c.lv] 165 (0,0))],[(c.mq,.map c.esQ c.ckQ)],c.ML,[(c.mi,.map c.esI c.ckI)],[(c.mkb,.map c.esK c.ckK)],c.SI,c.M,c.MR] (fun v H'=>v= .bool true/\∃d:CZ,d.okb/\c.like d/\d.next=c.next/\(d.M=c.M/\d.MR=c.MR)/\d.SI=c.SI/\d.mi=c.mi/\d.its=(c.its.filter fun y=>y.key≠x.key)/\(∀e∈d.PL,e∈c.PL)/\H'=[[(d.cp,.cells #[I4 d.pos,.slice d.wq d.win.length d.wc,.pointer (some ⟨d.z.r,0,none⟩),.pointer (some ⟨d.ip,0,none⟩),.map (some d.mi),.map (some d.mkb),I4 d.next] 95 (0,0))],d.sW,d.z.S,[(d.mb,.map d.esP d.ckP)],d.su,[(d.ip,.cells #[.map (some d.mq),d.lv] 165 (0,0))],[(d.mq,.map d.esQ d.ckQ)],d.ML,[(d.mi,.map d.esI d.ckI)],[(d.mkb,.map d.esK d.ckK)],d.SI,d.M,d.MR]):=by
 obtain ⟨e,he,B⟩:=C6.1 ((h.pk x.key).2 (DS Z));obtain ⟨L1,L2,m⟩:=kU he;have g:=h.pool
 rw [m]at g;rw [<-B];refine Se func49 ntmps49 [0,1] ?_;intro u R;refine A1<|A5 Y<|Zq<|Zq<|Bc<|H5 (s:=c.z.S) Wo (fun X=>?_);rw [BS.keys]at X;refine Zg<|Zm Y<|Zv (Bh RE Y Y)<|A6<|AU Y (fun G=>by cases G)<|fun G=>AC<|Zx<|A1<|Zm Y<|Zp Y V<|Zh 2 Fl V rfl sizeOf87 Y<|Zl LN Y<|Zm Y<|Zc [_,_] Y call98 Y V (kz g X) ?_;rintro _ _ ⟨_,⟨rfl,z2,es2,ck2,lm2,su2,U,O,af,J,rfl⟩,rfl⟩;refine A6<|A1<|Zm Y<|Zm Y ?_;rw [B];refine Zc [_,_] Y call41 Y V (Vv h.its Z) ?_;rintro _ _ ⟨_,⟨rfl,eq3,cq3,lq3,ei3,ci3,li3,ek3,ck3,lk3,I,rfl⟩,rfl⟩;refine AW Y<|Zn [4] ?_;refine Zx<|AJ<|AP V results49 Y (by
  refine ⟨rfl,({c with z:=z2,PL:=L1++L2,esP:=es2,ckP:=ck2,lmP:=lm2,su:=su2,its:=c.its.filter fun y=>y.key≠x.key,esQ:=eq3,ckQ:=cq3,lmQ:=lq3,lv:= .pointer none,ML:=[],esI:=ei3,ckI:=ci3,lmI:=li3,esK:=ek3,ckK:=ck3,lmK:=lk3}:CZ),⟨h.pos,h.win,h.wl,h.wp,J,lN h.pk m h.pool.keys B,I,fun y W=>h.tns y (Fc.1 W).1⟩,⟨rfl,rfl,rfl,rfl,O⟩,rfl,⟨rfl,rfl⟩,rfl,rfl,rfl,fun y W=>by rw [m];rcases C2.1 W with h9|h9<;>simp [h9],?_⟩;simp only [U];rfl)
theorem Ny(h:c.okb):BR prog 17 #[.pointer (some ⟨c.cp,0,none⟩)] [[(c.cp,.cells c.A75 95 (0,0))],[(c.mi,.map c.esI c.ckI)]] (fun r H'=>∃(zs:List Bk) (s':List A9),zs.Perm (c.its.map ItM.key)/\(zs.Pairwise fun x y=>x.data.toList<=y.data.toList)/\Row 9 r (zs.map Value.string) s'/\H'=[[(c.cp,.cells c.A75 95 (0,0))],[(c.mi,.map c.esI c.ckI)],s']):=by
 have m:=h.its.len_eq;have I:=m.length_eq
 rw [B6,B6]at I;have U:=h.its.len
 refine Se func17 ntmps17 [0] ?_;intro u R;refine A1<|A5 Y<|Zq<|A1<|Zm Y<|Zv (Bh RE Y Y)<|A6<|AU Y (fun g=>by cases g)<|fun g=>AC<|Zx<|A1<|Zm Y<|Zp Y V<|Zh 4 Fl V rfl RK Y<|Zl ON Y<|Zc [_] Y call54 Y V (fT c.mi) ?_;rintro _ _ ⟨_,⟨O,rfl,rfl⟩,rfl⟩;refine Zc [_] Y call53 Y V (Wm h.its.im A0 O c.mi (M:=[(c.mi,.map c.esI c.ckI)]) B4) ?_;rintro _ _ ⟨_,⟨zs,W,G,B,J,rfl⟩,rfl⟩;refine A5 Y<|AJ<|AP V results17 Y (by exact ⟨zs,W,G.trans m,B,J,V⟩)
theorem oK(c:CZ):BJ prog 15 #[.pointer (some ⟨c.cp,0,none⟩)] [[(c.cp,.cells c.A75 95 (0,0))]] (I4 c.pos):=by
 refine Se func15 ntmps15 [0] ?_;intro u R;refine A1<|A5 Y<|Zq<|A1<|Zm Y<|Zv (Bh RE Y Y)<|A6<|AU Y (fun g=>by cases g)<|fun g=>AC<|Zx<|A1<|Zm Y<|Zp Y V<|Zh 0 Fl V rfl AE Y<|Zl AH Y<|A5 Y<|AJ<|AP V results15 Y (by exact ⟨V,V⟩)
theorem gV(h:c.okb){k:Nat}(B:k<c.ns):BJ prog 12 #[.pointer (some ⟨c.cp,0,none⟩),I4 (k:Int)] [[(c.cp,.cells c.A75 95 (0,0))],c.z.S,[(c.mb,.map c.esP c.ckP)],c.su] (I4 (Ck c.PL (k:Int))):=by
 refine Se func12 ntmps12 [0,1] ?_;intro u R;refine A1<|A5 Y<|Zq<|Zq<|H5 (s:=c.z.S) Wo (fun m=>?_);rw [BS.keys]at m;refine Zg<|Zm Y<|Zv (Bh RE Y Y)<|A6<|AU Y (fun g=>by cases g)<|fun g=>AC<|Zx<|A1<|Zm Y<|Zp Y V<|Zh 2 Fl V rfl sizeOf87 Y<|Zl LN Y<|Zm Y<|Xr [_,_] Y call37 Y V (wh h.pool m B)<|A5 Y<|AJ<|AP V results12 Y (by exact ⟨V,V⟩)
def BQ.pc(r:BQ):Int×List Chg:=(r.p,r.cs)
theorem OY{q:QM}{base:Int}:∀{l l':List BQ} {i:Nat} {st:CB×Int},l.map BQ.pc=l'.map BQ.pc->GN q base i st l=GN q base i st l'
 |[],[],_,_,_=>rfl
 |[],_::_,_,_,h=>by simp at h
 |_::_,[],_,_,h=>by simp at h
 |x::l,y::l',i,st,h=>by
  rw [Dd,Dd]at h;injection h with h1 h2
  injection h1 with h3 h4
  unfold GN;rw [h3,h4];split;· exact OY h2
  · rfl
theorem O9{base:Int}{win:List BQ}(h:(pos -base).toNat<=win.length):(Cy pos base win).length=(pos -base).toNat:=by
 unfold Cy;rw [CH];omega
theorem Rb(h:c.okb){r:BQ}(g:r∈c.win):r.cs.length<=8:=by
 obtain ⟨i,hi⟩:=HH g;exact (h.wp i r hi).2.2.len.2
theorem yQ{l m:List BQ}(g:l.map BQ.pc=m.map BQ.pc){n:Nat}(h:∀y∈m,y.cs.length<=n):∀y∈l,y.cs.length<=n:=fun y O=>by
 have B:y.pc∈m.map BQ.pc:=by rw [<-g];exact DS O
 obtain ⟨w,J,I⟩:=C6.1 B;have h2:=h w J
 have G:y.cs=w.cs:=(congrArg Prod.snd I).symm;rw [G];exact h2
theorem U1(h:c.ok)(O:x∈c.its):BR prog 11 #[.pointer (some ⟨c.cp,0,none⟩),.string x.key] [[(c.cp,.cells c.A75 95 (0,0))],[(c.mi,.map c.esI c.ckI)],c.SI,c.M] (fun r H'=>∃G B s,r= .tuple #[.agg #[I4 x.q.kd,I4 x.q.tb,I4 x.q.cl,I4 x.q.lo,I4 x.q.hi,I4 x.q.bq,I4 x.q.ot,I4 x.tn,I4 x.base,.slice G x.L.length B],.bool true]/\GI s (.slice G x.L.length B) x.L/\H'=[[(c.cp,.cells c.A75 95 (0,0))],[(c.mi,.map c.esI c.ckI)],c.SI,c.M,s]):=by
 have W:=h.its.get O;have g:=h.all x O
 have J:(x.b,Obj.cells x.A74 121 (0,0))∈c.SI:=h.its.sub x O;refine Se func11 ntmps11 [0,1] ?_;intro u R;refine A1<|Ze (Ey Th (cs:=#[I4 0,I4 0,I4 0,I4 0,I4 0,I4 0,I4 0,I4 0,I4 0,.slice none 0 0]) AF)<|AG fun Z=>A5 Y<|Zq<|A1<|Zm Y<|Zv (Bh RE Y Y)<|Zm Y<|Ah (t:=8) Y V (fun U=>by cases U)<|fun U=>Zf Y Y<|Yg (Ak Y V)<|Yf 4 Fl V rfl RK Y<|Yl ON Y ?_;refine Zf Y Y<|Dw Y Wh (De (Dt HA (D:=fun _=>True)) RC W4 h.its.im (fun _ _=>trivial) (trivial) (by rw [W];first|done|rfl) Y Y) rfl rfl ?_;refine Yg (Bh underlying118 Y Y)<|Zv (AL Y Y)<|Z0<|Zn [0,1,4,16] ?_;refine Zx<|AU Y (fun m=>by cases m)<|fun m=>AC<|Zx<|A1<|Zm Y<|Zp Y V<|Zh 4 Fl V rfl RK Y<|Zl ON Y ?_;refine Zm Y<|Zo Wh (De (Dt HA (D:=fun _=>True)) RC W4 h.its.im (fun _ _=>trivial) (trivial) (by rw [W];first|done|rfl) Y Y) ?_;refine Zp Y V<|Zh 0 Hs V rfl HG Y<|CS (IX Wo (J)) (AB (cs:=#[I4 x.q.kd,I4 x.q.tb,I4 x.q.cl,I4 x.q.lo,I4 x.q.hi,I4 x.q.bq,I4 x.q.ot,I4 x.tn,I4 x.base,.slice x.rq x.L.length x.rc]) Tl HG Y B5 (by exact (by apply I2.1;rfl))) V rfl ?_;refine Zc [_] Y call36 Y V (Qj x.q x.tn x.base g.rp g.rl g.fit) ?_;rintro _ _ ⟨_,⟨G,B,X,rfl,I,rfl⟩,rfl⟩;refine Xe (BL HG Y Y Hb Wu (by exact EI rfl) FA B1 (by exact BC _)) ?_;refine A5 Y<|AJ<|CL V results11 Y Wh (Au Tl HG Wn (BN V)) Y (by exact ⟨G,B,X,V,I,V⟩)
theorem uz(h:c.ok)(B:∀y∈c.its,y.key≠K):BJ prog 11 #[.pointer (some ⟨c.cp,0,none⟩),.string K] [[(c.cp,.cells c.A75 95 (0,0))],[(c.mi,.map c.esI c.ckI)]] (.tuple #[.agg #[I4 0,I4 0,I4 0,I4 0,I4 0,I4 0,I4 0,I4 0,I4 0,.slice none 0 0],.bool false]):=by
 have G:=h.its.none B;refine Se func11 ntmps11 [0,1] ?_;intro u R;refine A1<|Ze (Ey Th (cs:=#[I4 0,I4 0,I4 0,I4 0,I4 0,I4 0,I4 0,I4 0,I4 0,.slice none 0 0]) AF)<|AG fun I=>A5 Y<|Zq<|A1<|Zm Y<|Zv (Bh RE Y Y)<|Zm Y<|Ah (t:=8) Y V (fun m=>by cases m)<|fun m=>Zf Y Y<|Yg (Ak Y rfl)<|Yf 4 Fl rfl rfl RK Y<|Yl ON Y<|Zf Y Y<|Dw Y Wh (De (Dt HA (D:=fun _=>True)) RC W4 h.its.im (fun _ _=>trivial) (trivial) (by rw [G];first|done|rfl) Y Y) rfl rfl<|Yg (IG underlying118 Y Y)<|Zv (AL Y Y)<|Z0<|Zn [0,1,4,16] ?_;refine Zx<|AU Y (fun g=>?_) (fun g=>?_);·
  refine A1<|Zv (BM (vs:=[]) (cs:=#[_,_,_,_,_,_,_,_,_,_]) Y (AY (pl:=#[(0,7),(7,1),(8,1),(9,1)]) Th GB (fun _=>by kernel_rfl) rfl))<|Xe (BL HG Y Y Hb Wu (EI rfl) FA Wn (by exact BC _))<|A5 Y<|AJ<|Zt<|CL rfl results11 Y Wh (Au Tl HG Wn (BN rfl)) Y lE
 cases g
theorem uU(h:c.ok)(I:x∈c.its)(W:c.pos<x.base):BJ prog 18 #[.pointer (some ⟨c.cp,0,none⟩),.string x.key] [[(c.cp,.cells c.A75 95 (0,0))],[(c.mi,.map c.esI c.ckI)],c.SI,c.M] (.tuple #[.agg #[I4 0,I4 0,I4 0,I4 0,I4 0,I4 0,I4 0,.slice none 0 0,I4 0,.bool false,I4 0,I4 0,I4 0,.slice none 0 0,.slice none 0 0],.bool false]):=by
 refine Se func18 ntmps18 [0,1] ?_;intro u R;refine A1<|Ze (Ey Mp (cs:=#[I4 0,I4 0,I4 0,I4 0,I4 0,I4 0,I4 0,.slice none 0 0,I4 0,.bool false,I4 0,I4 0,I4 0,.slice none 0 0,.slice none 0 0]) AF)<|AG fun U=>A5 Y<|A1<|Zm Y<|Zm Y<|Zc [_,_] Y call11 Y V (U1 h I) ?_;rintro _ _ ⟨_,⟨J,B,X,rfl,G,rfl⟩,rfl⟩;refine Zm Y<|Zd Y V<|Zd Y V<|Ze (Ey Th (cs:=#[I4 0,I4 0,I4 0,I4 0,I4 0,I4 0,I4 0,I4 0,I4 0,.slice none 0 0]) AF)<|AG fun O=>Xe (Xw HG #[I4 x.q.kd,I4 x.q.tb,I4 x.q.cl,I4 x.q.lo,I4 x.q.hi,I4 x.q.bq,I4 x.q.ot,I4 x.tn,I4 x.base,.slice J x.L.length B])<|A5 Y<|Zq<|Zq<|BA (n:=11) (0::1::3::7::15::7::39::103::231::511::1023::[]) 0 AF AF V<|A3 0 V (AO Y)<|A3 1 V (Bt Y)<|A3 2 V (AO Y)<|CU (t:=21) Y (fun g=>?_) (fun g=>?_);·
  rw [g];cases g
 rw [g];refine An 3 V (AA (off:=8) GB V rfl AE Y)<|DO 4 V Wh (BF AH Y B0)<|An 5 V (AO Y)<|An 6 V (Ak Y V)<|An 7 V (AA (off:=0) Fl V rfl AE Y)<|DO 8 V Wh (BF AH Y B0)<|An 9 V (Ed Y Y)<|A3 10 V (AL Y Y)<|Ag<|Zn [0,4,6,29] ?_;refine Zx<|Aw Y (fun m=>?_) (fun m=>?_);·
  refine A1<|Zv (BM (vs:=[]) (cs:=#[_,_,_,_,_,_,_,_,_,_,_,_,_,_,_]) Y (AY (pl:=#[(0,7),(7,3),(10,1),(11,1),(12,1),(13,1),(14,1)]) Mp N5 (fun _=>by kernel_rfl) rfl))<|Xe (BL Lk Y Y Hb Wu (EI rfl) FA Wn (by exact BC _))<|A5 Y<|AJ<|Zt<|CL rfl results18 Y Wh (Au isAgg63 Lk Wn (BN rfl)) Y lE
 exfalso;omega
set_option maxHeartbeats 1000000 in
theorem yJ(h:c.ok)(hx:x∈c.its)(hb:x.base<=c.pos):BR prog 18 #[.pointer (some ⟨c.cp,0,none⟩),.string x.key] [[(c.cp,.cells c.A75 95 (0,0))],c.sW,[(c.mi,.map c.esI c.ckI)],c.SI,c.M] (fun w H'=>∃(z:Xx) (l:List BQ) (s s2:List A9),z.a=⟨x.q,x.res,x.since,c.pos,x.base,x.L,l⟩/\l.map BQ.pc=(Cy c.pos x.base c.win).map BQ.pc/\z.ok (s++s2)/\w= .tuple #[.agg z.A73,.bool true]/\H'=[[(c.cp,.cells c.A75 95 (0,0))],c.sW,[(c.mi,.map c.esI c.ckI)],c.SI,c.M,s,s2]):=by
 have sO:=mL;have G:=h.all x hx
 obtain ⟨r0,gq,J⟩:=G.run;have l5:=G.base
 have pg:=h.pos;have ve:=h.wl
 have pq:=Ez h.win;have gy:=G.reach
 obtain ⟨wl,g⟩:∃wl,wl=(Cy c.pos x.base c.win):=⟨_,rfl⟩;have O:wl.length=(c.pos -x.base).toNat:=by rw [g];exact O9 gy
 have ic:Ec (c.sW++c.M) (.slice (Ea c.wq (c.win.length -(c.pos -x.base).toNat) c.wc 2) (c.pos -x.base).toNat (c.wc -(c.win.length -(c.pos -x.base).toNat))) wl:=by
  have h1:=Na (a:=c.win.length -(c.pos -x.base).toNat) (iV h.tookb) A0;rw [g];rwa [show c.win.length -(c.win.length -(c.pos -x.base).toNat)=(c.pos -x.base).toNat by omega]at h1
 obtain ⟨cv,dn⟩:∃cv,cv=c.wc -(c.win.length -(c.pos -x.base).toNat):=⟨_,rfl⟩;obtain ⟨pv,gm⟩:∃pv,pv=Ea c.wq (c.win.length -(c.pos -x.base).toNat) c.wc 2:=⟨_,rfl⟩;rw [<-dn,<-gm,<-O]at ic;obtain ⟨p8,ql,e8,⟨sM,sJ⟩,l8⟩:=id ic;injection e8 with e81 e82 e83
 subst e81 e83;rw [<-g]at J⊢;refine Se func18 ntmps18 [0,1] ?_;intro u R;refine A1<|Ze (Ey Mp (cs:=#[I4 0,I4 0,I4 0,I4 0,I4 0,I4 0,I4 0,.slice none 0 0,I4 0,.bool false,I4 0,I4 0,I4 0,.slice none 0 0,.slice none 0 0]) AF)<|AG fun bo=>A5 Y<|A1<|Zm Y<|Zm Y<|Zc [_,_] Y call11 Y V (U1 h hx) ?_;rintro _ _ ⟨_,⟨pz,cz,se,rfl,j3,rfl⟩,rfl⟩;refine Zm Y<|Zd Y V<|Zd Y V<|Ze (Ey Th (cs:=#[I4 0,I4 0,I4 0,I4 0,I4 0,I4 0,I4 0,I4 0,I4 0,.slice none 0 0]) AF)<|AG fun be=>Xe (Xw HG #[I4 x.q.kd,I4 x.q.tb,I4 x.q.cl,I4 x.q.lo,I4 x.q.hi,I4 x.q.bq,I4 x.q.ot,I4 x.tn,I4 x.base,.slice pz x.L.length cz]) ?_;refine A5 Y<|Zq<|Zq<|BA (n:=11) (0::1::3::7::15::7::39::103::231::511::1023::[]) 0 AF AF V<|A3 0 V (AO Y)<|A3 1 V (Bt Y)<|A3 2 V (AO Y)<|CU (t:=21) Y (fun g1=>?_) (fun g1=>?_);·
  rw [g1];cases g1
 rw [g1];refine An 3 V (AA (off:=8) GB V rfl AE Y)<|DO 4 V Wh (BF AH Y B0) ?_;refine An 5 V (AO Y)<|An 6 V (Ak Y V)<|An 7 V (AA (off:=0) Fl V rfl AE Y)<|DO 8 V Wh (BF AH Y B0) ?_;refine An 9 V (Ed Y Y)<|A3 10 V (AL Y Y)<|Ag<|Zn [0,4,6,29] ?_;refine Zx<|Aw Y (fun kv=>by omega)<|fun kv=>AC<|Zx<|A1<|Zm Y<|Zh 8 GB V rfl AE Y<|Zl AH Y ?_;refine Xr [_,_] Y call55 Y V (O3 pg x.base l5 ⟨pq,by omega⟩) ?_;rw [Ax gy,<-dn,<-gm,<-O];refine Zm Y<|Zd Y V<|Zd Y V<|Za Y<|A5 Y<|Zq<|Cb (s1:=c.sW) (s2:=c.M) Wo Wo ?_;refine Zg<|Zm Y<|Zv (Ac HF Y)<|Ze (WX (by_:=32) (sz:=2) (l:=0) HF (V:Tryz.prog.info? 57=some Tryz.t57) V rfl V Y Y ?_ ?_ ?_) ?_
 (focus (omega))
 (focus (omega))
 (focus (omega))
 rintro _ _ ⟨gr,qo,rfl,X,rfl⟩;refine AW Y<|Zn [4,6,8,10] ?_;refine Zx<|Zq<|Zq<|Bc<|Zg<|Zm Y<|Zv (Ac HF Y)<|Zm Y<|A6<|AQ<|Zb [10,43,4,6,41,42] ?_;refine BI (e0:=[(10,_),(43,_)]) (fun m e H=>∃(k:Nat) (l:List BQ) (vr:A4) (W MR:List A9),m=wl.length -k/\((k<=wl.length/\l.length=k)/\Bd 2 57 vr l.length (Du l) W/\(∀r∈l,Cv MR (.slice r.q r.cs.length r.cap) r.cs)/\l.map BQ.pc=(wl.take k).map BQ.pc)/\e=[(10,vr),(43,I4 (k:Int))]/\H=[W,MR]) (by exact ⟨0,[],_,_,[],V,⟨⟨C7 _,V⟩,kg A0 X,fun r Z=>absurd Z B4,V⟩,V,V⟩) Wp ?_;rintro _ _ _ ⟨k,l,vr,W,MR,rfl,⟨⟨hk,l9⟩,hR,bn,B⟩,rfl,rfl⟩;refine A1<|Zv (Ay Y Y)<|A6<|Zq<|Aw Y (fun o8=>?_) (fun o8=>?_);·
  obtain ⟨r,Z⟩:∃r,wl[k]?=some r:=⟨_,BT A0⟩;obtain ⟨cO,g9,r9,qw,T9,vo,p9,o9,qz,ek⟩:=l8 k r Z;rw [p9];obtain ⟨gv,af,rfl⟩:=hR.form;have qx:=Rb h.tookb (r:=r) (by rw [g]at Z;exact KB (DQ Z))
  refine AC<|Zx<|Zq<|AQ<|A1<|BU (Ae HF GC Y Y A0)<|CS (IX Wo (o9)) (AB (cs:=#[I4 r.p,.slice r.q r.cs.length r.cap]) Iv GC Y A0 (by exact ek)) V rfl ?_;refine Ze (Al TX #[_,_])<|AG fun br=>Xe (Xw GC #[I4 r.p,.slice r.q r.cs.length r.cap]) ?_;refine A6<|Zg<|Zm Y<|Zo Wh (AB (cs:=#[I4 r.p,.slice r.q r.cs.length r.cap]) Iv GC Y B5 (by exact BN V)) ?_;refine Zc [_] Y call45 Y V (Qi r.p cO A0) ?_;rintro _ _ ⟨_,⟨q2,cap2,s2,rfl,cu,rfl⟩,rfl⟩;refine Ze (Ai (vs:=[_]) (cs:=[_,_]) HF GC TX Y V rfl V rfl V)<|AG fun gb=>Ze (BV (by_:=32) (sz:=2) HF (V:Tryz.prog.info? 57=some Tryz.t57) V rfl V rfl Y (hR) Y (Dl 2 gb 1 1 57 (0,0) [I4 r.p,.slice q2 r.cs.length cap2] V) Wo Wo Ft A0 A0) ?_;rintro _ _ ⟨qj,I,rfl⟩;obtain ⟨sw,sj,rfl⟩:=I.form;refine AW Y<|A8<|Zx<|Cb (s1:=s2) (s2:=MR) Wo Wo ?_;refine Zg<|Ya (n:=1) Y Y<|Zm Y<|Z0<|Zn [10,43,4,6,41,42] ?_;refine Aa (e':=[(10,_),(43,_)]) (by
   exact ⟨k+1,l++[⟨r.p,q2,cap2,r.cs⟩],_,qj,s2++MR,rfl,⟨⟨by omega,by rw [Bm,l9];rfl⟩,BZ I (by rw [Bm];rfl) (by rw [Kn];rfl),fun y U=>by
    rcases C2.1 U with U|U
    · exact Gy (bn y U) s2
    · rw [C5.1 U];exact Jm cu MR,by rw [C0,B,Bn Z,C0];rfl⟩,rfl,rfl⟩)
 obtain rfl:k=wl.length:=by omega
 rw [G3]at B;obtain ⟨gv,af,rfl⟩:=hR.form;refine BD<|Zt<|Zt<|AV<|Zx<|Zq<|jl (s1:=c.sW) (s2:=c.M) (by repeat(first|exact Uq.here _|apply Uq.there)) ?_;refine Cb (s1:=se) (s2:=W) Wo Wo ?_;refine Cb (s1:=(se++W)) (s2:=MR) Wo Wo ?_;have j5:Ec ((se++W)++MR) (.slice gv l.length af) l:=Lt (KF hR A0 bn) (fun q hq=>by rcases C2.1 hq with h9|h9<;>simp [h9])
 have d9:∀y∈l,y.cs.length<=1000:=yQ B fun y U=>by
  have:=Rb h.tookb (r:=y) (by rw [g]at U;exact KB U);omega
 have ax:K3 x.q x.base x.L l=some ⟨x.q,x.res,x.since,c.pos,x.base,x.L,l⟩:=by
  rw [QP gq A0,OY B,J];show some (bQ.mk x.q x.res x.since (x.base+(l.length:Int)) x.base x.L l)=_
  rw [show x.base+(l.length:Int)=c.pos by omega]
 refine Zg<|Zo Wh (AB (cs:=#[I4 x.q.kd,I4 x.q.tb,I4 x.q.cl,I4 x.q.lo,I4 x.q.hi,I4 x.q.bq,I4 x.q.ot,I4 x.tn,I4 x.base,.slice pz x.L.length cz]) Tl HG Y B5 (by exact BN V)) ?_;refine Zm Y<|Zc [_,_] Y call56 Y V (yV x.q x.tn x.base A0 (j3.mono fun q hq=>by simp [hq]) G.rl gq j5 d9) ?_;rintro _ _ ⟨_,⟨z,s9,b9,q9,rfl,rfl⟩,rfl⟩;obtain ⟨rfl,qa,qb⟩:b9=true/\z.a=⟨x.q,x.res,x.since,c.pos,x.base,x.L,l⟩/\z.ok (s9++((se++W)++MR)):=by
  rcases q9 with⟨h1,h2,h3⟩|⟨_,h2⟩
  · rw [ax]at h2;injection h2 with h2;exact ⟨h1,h2.symm,h3⟩
  · rw [ax]at h2;cases h2
 refine Zd Y rfl<|Zd Y rfl<|Xe (BL Lk Y Y Hb Wu (by exact EI rfl) FA B1 (by exact BC _)) ?_;refine A5 Y<|AJ<|CL V results18 Y Wh (Au isAgg63 Lk Wn (BN V)) Y (by exact ⟨z,l,s9,(se++W)++MR,qa,B,qb,V,V⟩)
theorem sy(h:c.ok)(I:x∈c.its)(G:x.base<=c.pos):BR prog 18 #[.pointer (some ⟨c.cp,0,none⟩),.string x.key] [[(c.cp,.cells c.A75 95 (0,0))],c.sW,[(c.mi,.map c.esI c.ckI)],c.SI,c.M] (fun w H'=>∃(z:Xx) (l:List BQ) (s:List A9),z.a=⟨x.q,x.res,x.since,c.pos,x.base,x.L,l⟩/\l.map BQ.pc=(Cy c.pos x.base c.win).map BQ.pc/\z.ok s/\w= .tuple #[.agg z.A73,.bool true]/\H'=[[(c.cp,.cells c.A75 95 (0,0))],c.sW,[(c.mi,.map c.esI c.ckI)],c.SI,c.M,s]):=by
 refine Gx (yJ h I G) V ?_;rintro w H' ⟨z,l,s,s2,g,h2,m,B,rfl⟩;exact ⟨_,⟨z,l,s++s2,g,h2,m,B,V⟩,by simp⟩
end Go.Proofs.YthhakdmlpngcmaaGreatDoor
