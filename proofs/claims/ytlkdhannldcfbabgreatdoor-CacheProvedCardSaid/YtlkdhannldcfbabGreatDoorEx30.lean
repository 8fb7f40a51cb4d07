/- Walking by chunks: elements of several cells: copy, append of zero elements, clear of a part, a part of an own row overwritten; slices.overlaps. No function of the program is named. -/
import Derived.Test.YtlkdhannldcfbabGreatDoorEx25
import Derived.Lib.AppendZerosOnto
import Derived.Lib.Overlaps
import Derived.RecoverIn
import Derived.RangeFuncNested
set_option linter.unusedVariables false
set_option linter.unusedSimpArgs false
namespace Gw
open Go Go.RowKit
theorem Gb{c:AN}{i:Nat}{ys:List A2}(h:i+ys.length<=c.size):(ET c i ys).size=c.size:=by
 unfold ET;simp only [Hs,C0,Cd,Cp,W1];omega
theorem Ee{sz:Nat}{e:AM}{g k cap:Nat}{cur:AN}{z:Nat×Nat}{xs ys:List A2}{i:Nat}(h:BU sz e (I6 g k cap) k xs [(g,.cells cur e z)])(hi:i+ys.length<=xs.length):
 BU sz e (I6 g k cap) k (xs.take i++ys++xs.drop (i+ys.length)) [(g,.cells (ET cur i ys) e z)]:=by
 obtain ⟨hl,⟨G,_⟩|⟨g',U,W,z',G,h2,I,J,B,O,K⟩⟩:=h;· injection G with G;cases G
 injection G with h3 _ h4
 injection h3 with h3
 injection h3 with h3
 injection h2 with h2 _
 injection h2 with _ h2
 injection h2 with h5 _ h6
 subst h3 h4 h5 h6;have X:k*sz<=cap*sz:=Wk sz I
 have Z:cur.toList.length=cap*sz:=by rw [W1,B]
 have e1:cur.toList=xs++cur.toList.drop (k*sz):=by rw [<-O,LO]
 refine ⟨?_,.inr ⟨g,cap,_,z,V,V,I,J,?_,?_,?_⟩⟩;· simp only [C0,Cd,Cp];omega
 · rw [Gb (by rw [B];omega),B]
 · show(ET cur i ys).toList.take (k*sz)=_
   unfold ET;show(cur.toList.take i++ys++cur.toList.drop (i+ys.length)).take (k*sz)=_
   have t1:cur.toList.take i=xs.take i:=by
    conv=>lhs;rw [e1]
    exact de A0
   have t2:cur.toList.drop (i+ys.length)=xs.drop (i+ys.length)++cur.toList.drop (k*sz):=by
    conv=>lhs;rw [e1]
    exact kf A0
   rw [t1,t2,<-DH];refine J1 ?_;simp only [C0,Cd,Cp];omega
 · show Iq z (ET cur i ys).size
   rw [Gb (by rw [B];omega)];exact K
theorem WO{sz:Nat}{e:AM}{g k cap:Nat}{xs:List A2}{s:List A8}(h:BU sz e (I6 g k cap) k xs s)(i:Nat)(hi:i<=k):BU sz e (I6 g i cap) i (xs.take (i*sz)) s:=by
 obtain ⟨hl,⟨G,_⟩|⟨g',U,B,Z,G,rfl,X,I,J,O,K⟩⟩:=h;· injection G with G;cases G
 injection G with h3 _ h4
 injection h3 with h3
 injection h3 with h3
 subst h3 h4;have W:i*sz<=k*sz:=Wk sz hi
 refine ⟨by rw [Cd];omega,.inr ⟨g,cap,B,Z,rfl,rfl,by omega,I,J,?_,K⟩⟩;rw [<-O,Xs,SR W]
theorem Jr{sz:Nat}{e:AM}{g k cap:Nat}{cur:AN}{z:Nat×Nat}{xs:List A2}(h:BU sz e (I6 g k cap) k xs [(g,.cells cur e z)]):Bq cur 0 xs/\cur.size=cap*sz/\k<=cap/\cap<=maxLen/\Iq z cur.size:=by
 obtain ⟨X,⟨B,_⟩|⟨Z,U,W,z',B,h2,K,G,I,O,J⟩⟩:=h;· injection B with B;cases B
 injection B with h3 _ h4
 injection h2 with h2 _
 injection h2 with _ h2
 injection h2 with h5 _ h6
 subst h4 h5 h6;exact ⟨by unfold Bq;rw [SU,X];exact O,I,K,G,J⟩
theorem WN{sz:Nat}{e:AM}{g k cap:Nat}{cur:AN}{z:Nat×Nat}{xs:List A2}(h:BU sz e (I6 g k cap) k xs [(g,.cells cur e z)])(m:Nat)(Z:k<=m)(I:m<=cap):∃ys,ys.length=(m -k)*sz/\BU sz e (I6 g m cap) m (xs++ys) [(g,.cells cur e z)]:=by
 obtain ⟨G,B,W,J,K⟩:=Jr h;have U:=h.1
 have X:m*sz<=cap*sz:=Wk sz I;have h2:k*sz+(m -k)*sz=m*sz:=by rw [<-Mp];congr 1;omega
 unfold Bq at G;rw [SU,U]at G;refine ⟨(cur.toList.drop (k*sz)).take ((m -k)*sz),by rw [Cd,Cp,W1,B];omega,?_,.inr ⟨g,cap,cur,z,rfl,rfl,I,J,B,?_,K⟩⟩
 · have O:cur.toList.length=cap*sz:=by rw [W1,B]
   rw [C0,Cd,Cp,O,U];omega
 · conv=>rhs;rw [<-G]
   rw [<-h2,List.take_add]
theorem JH{c:AN}{o:Nat}{xs:List A2}(h:Bq c o xs)(i m:Nat)(B:i+m<=xs.length):Bq c (o+i) ((xs.drop i).take m):=by
 unfold Bq at*;rw [Cd,Cp,SR A0];conv=>rhs;rw [<-h]
 rw [ia,Xs,SR A0,cG]
theorem Sc(z:A2)(m:Nat)(h:∀u∈z.cells.toList,u.oneCell'=true):∀y∈(Builtin.zeroCells z.cells m).toList,y.oneCell'=true:=by
 intro y hy;simp only [Builtin.zeroCells,sC,Array.mem_map,Array.mem_range]at hy;obtain ⟨j,I,rfl⟩:=hy;refine h _ ?_;have G:0<z.cells.size:=by
  rcases Rg z.cells.size with h9|h9
  · rw [h9]at I;omega
  · exact h9
 have B:j%z.cells.size<z.cells.size:=ir _ G;rw [getElem!_pos z.cells (j%z.cells.size) B];exact sC.2 (Array.getElem_mem B)
section
variable{P:Program}{u:A5}{env:Env}{H H' R R2:Hp}{d:Option Nat}{ty:AM}{pos:String}{af:Array Edge}{g:Option (Nat×Bool)}
theorem Jn{x y:Operand}{dT sT e:AM}{sz b o n cap Z o' n' G:Nat}{c c1:AN}{T T1:AM}{z z1:Nat×Nat}{cs:List A2}
 (hu:P.underlying dT=some (.slice e))(hs:∀w:A5,(Go.sizeOf e).run P w= .ok sz w)(hx:∀a,ev a env x= .slice (some ⟨b,o,none⟩) n cap)(hy:∀a,ev a env y= .slice (some ⟨Z,o',none⟩) n' G)
 (W:Has Z (.cells c1 T1 z1) H)(O:One [(b,.cells c T z)] H R)(bn:Bq c1 o' cs)(hn:cs.length=min n' n*sz)(I:o+cs.length<=c.size)(hz:Iq z c.size)(h1:∀v∈cs,v.oneCell'=true):
 OpW P u ⟨d,.call ⟨.builtin .copy,#[x,y],#[dT,sT]⟩,ty,pos,af,g⟩ env H (fun v H1=>v=I4 ((min n' n:Nat):Int)/\H1=[(b,.cells (ET c o cs) T z)]::R) (fun _ _=>False):=fun a w B K Kp hK _=>by
 have U:Sat u ([(b,.cells c T z)]::R) w:=B.perm (by simpa using O.perm);have hb:=U.get (b,.cells c T z) (by simp)
 have ax:=B.get _ W.mem;have hl:=run_loadCells_list (P:=P) w ⟨Z,o',none⟩ cs (Hr ax bn)
 rw [hn]at hl;have X:=Ck (P:=P) b o T z cs 0 c w hb hz (by simpa using I) h1
 simp only [Pu]at X;have J:Nat.min n' n=min n' n:=rfl
 have:(execOp (ev a env) ⟨d,.call ⟨.builtin .copy,#[x,y],#[dT,sT]⟩,ty,pos,af,g⟩).run P w= .ok (.value (I4 ((min n' n:Nat):Int))) (w.setRow b (ET c o cs)):=by
  simp [Dv,resolve,invoke,builtin,hx a,hy a,Builtin.copy_,run_underlying hu,Builtin.lenOf,Builtin.firstCells,hs,J,hl,X,ET,goInt]
 rw [this];exact hK _ _ _ ⟨V,V⟩ (U.upd (.here _) V rfl V (setRow_heap w b c _ T z hb) fun k hk=>setRow_other w b k _ hk)
theorem Lh{x y:Operand}{t ti e T:AM}{i:TypeInfo}{z:A2}{by_ sz k m cap gb:Nat}{cur:AN}{zz:Nat×Nat}{xs:List A2}
 (ht:P.underlying t=some (.slice e))(d9:P.underlying ti=some (.int .i64))(hi:P.info? e=some i)(cO:i.size=sz)(O:i.bytes=by_)(ek:i.zero=some z)(Z:z.cells.size=sz)
 (hx:∀a,ev a env x=I6 gb k cap)(hy:∀a,ev a env y=I4 (m:Int))(W:Has gb (.cells cur T zz) H)(cu:Bq cur 0 xs)(J:xs.length=k*sz)(h0:0<m)(gQ:0<sz)(hg:cap<k+m)(ax:k+m<=maxLen)(hb:(k+m)*by_<=140737488355328):
 OpW P u ⟨d,.call ⟨.builtin .append,#[x,y],#[t,ti]⟩,ty,pos,af,g⟩ env H (fun v' H1=>∃s',BU sz e v' (k+m) (xs++(Builtin.zeroCells z.cells m).toList) s'/\H1=s'::H) (fun _ _=>False):=fun a w I K Kp hK _=>by
 have gy:=mL;have hl:=run_loadCells_list (P:=P) w.drew ⟨gb,0,none⟩ xs (Hr (I.drew.get _ W.mem) cu)
 rw [J]at hl;have X:(Builtin.firstCells i.size k (I6 gb k cap)).run P w.drew= .ok xs.toArray w.drew:=by
  rw [cO];simp [Builtin.firstCells,hl]
 have gq:m*by_<=(k+m)*by_:=Wk _ A0;have hr:=Lib.run_append_grow_zeros (P:=P) w t ti ty e i z .i64 .i64 ht d9 hi ek (some ⟨gb,0,none⟩) k cap xs X m h0 A0 hg A0 (by rw [O];omega) (growslice_fits A0 (by rw [O];exact hb))
 have B:∀{v':A2} {w':A5},(Builtin.append_ #[t,ti] ty #[I6 gb k cap,I4 (m:Int)]).run P w= .ok v' w'->(execOp (ev a env) ⟨d,.call ⟨.builtin .append,#[x,y],#[t,ti]⟩,ty,pos,af,g⟩).run P w= .ok (.value v') w':=fun h=>by
  simp only [Dv,resolve,invoke,builtin,SM,Fc,Lk,hx a,hy a,Sem.run_bind,Sem.run_pure,Result.andThen_ok,h]
 rw [B hr];have bn:=grownCap_ge w (k+m) cap e
 have U:grownCap w (k+m) cap e<=maxLen:=grownCap_le_maxLen w (k+m) cap e ax;have G:(xs++(Builtin.zeroCells z.cells m).toList).length=(k+m)*sz:=by
  have gm:(Builtin.zeroCells z.cells m).toList.length=m*sz:=by rw [W1,size_zeroCells,Z]
  rw [C0,gm,J,Mp]
 refine hK _ _ _ ⟨[(w.heap.size,.cells (xs.toArray++Builtin.zeroCells z.cells m++Builtin.zeroCells z.cells (grownCap w (k+m) cap e -(k+m))) e (0,0))],⟨G,.inr ⟨w.heap.size,grownCap w (k+m) cap e,_,(0,0),V,V,bn,U,?_,?_,BB _⟩⟩,V⟩ (I.drew.alloc _)
 · simp only [kx,size_zeroCells,Z,Hs,J]
   rw [<-Mp,<-Mp];congr 1;omega
 · simp only [dq]
   exact J1 G
theorem PE{x:Operand}{t e:AM}{i:TypeInfo}{z:A2}{sz gb k cap m c:Nat}{cur:AN}{T:AM}{zz:Nat×Nat}
 (ht:P.underlying t=some (.slice e))(hi:P.info? e=some i)(bn:i.zero=some z)(ax:z.cells.size=sz)(cO:∀u∈z.cells.toList,u.oneCell'=true)
 (hx:∀a,ev a env x= .slice (Ej (some ⟨gb,0,none⟩) k cap sz) m c)(hm:k+m<=cap)(W:cur.size=cap*sz)(X:Iq zz cur.size)(J:One [(gb,.cells cur T zz)] H R):
 OpW P u ⟨d,.call ⟨.builtin .clear,#[x],#[t]⟩,ty,pos,af,g⟩ env H (fun _ H1=>H1=[(gb,.cells (ET cur (k*sz) (Builtin.zeroCells z.cells m).toList) T zz)]::R) (fun _ _=>False):=fun a w O K Kp hK _=>by
 have G:Sat u ([(gb,.cells cur T zz)]::R) w:=O.perm (by simpa using J.perm);have B:∀{v':A2} {w':A5},(Builtin.clear_ #[t] ty #[.slice (Ej (some ⟨gb,0,none⟩) k cap sz) m c]).run P w= .ok v' w'->(execOp (ev a env) ⟨d,.call ⟨.builtin .clear,#[x],#[t]⟩,ty,pos,af,g⟩).run P w= .ok (.value v') w':=fun h=>by
  simp only [Dv,resolve,invoke,builtin,SM,Fc,Lk,hx a,Sem.run_bind,Sem.run_pure,Result.andThen_ok,h]
 rcases Rg m with h0|h0
 · subst h0
   have hr:(Builtin.clear_ #[t] ty #[.slice (Ej (some ⟨gb,0,none⟩) k cap sz) 0 c]).run P w= .ok (.tuple #[]) w:=by
    have:∃q,Ej (some ⟨gb,0,none⟩) k cap sz=some q:=by unfold Ej;split<;>exact ⟨_,rfl⟩
    obtain ⟨q,Z⟩:=this;rw [Z];simp [Builtin.clear_,run_underlying ht]
   rw [B hr];refine hK _ _ _ V ?_;have:(Builtin.zeroCells z.cells 0).toList=[]:=NX (by rw [W1,size_zeroCells];simp)
   rw [this,A52];exact G
 · have Z:Ej (some ⟨gb,0,none⟩) k cap sz=some ⟨gb,k*sz,none⟩:=by
    unfold Ej;rw [As A0,PB,Cb,Dd]
   have hg:=G.get (gb,.cells cur T zz) B7;have cu:(Builtin.zeroCells z.cells m).toList.length=m*sz:=by rw [W1,size_zeroCells,ax]
   have I:∀y∈(Builtin.zeroCells z.cells m).toList,y.oneCell'=true:=Sc z m cO;have d9:k*sz+m*sz<=cap*sz:=by rw [<-Mp];exact Wk _ hm
   have U:=Ck (P:=P) gb (k*sz) T zz (Builtin.zeroCells z.cells m).toList 0 cur w hg X (by rw [cu,W];omega) I;have hr:(Builtin.clear_ #[t] ty #[.slice (Ej (some ⟨gb,0,none⟩) k cap sz) m c]).run P w= .ok (.tuple #[]) (w.setRow gb (ET cur (k*sz) (Builtin.zeroCells z.cells m).toList)):=by
    rw [Z];obtain ⟨m',rfl⟩:∃m',m=m'+1:=⟨m -1,by omega⟩;simp [Builtin.clear_,run_underlying ht,VH hi bn,ET]at U⊢;simp [U]
   rw [B hr];exact hK _ _ _ V (G.upd (.here _) V rfl V (setRow_heap w gb cur _ T zz hg) fun k hk=>setRow_other w gb k _ hk)
theorem Bp{t e:AM}{x lo:Operand}{b o n cap l sz:Nat}{K:IntKind}(J:P.underlying t=some (.slice e))(I:∀w:A5,(Go.sizeOf e).run P w= .ok sz w)(hx:∀a,ev a env x= .slice (some ⟨b,o,none⟩) n cap)(G:∀a,ev a env lo= .int K (l:Int))(B:l<=n)(h2:l<cap):
 OpP P ⟨d,.slice t x (some lo) none none,ty,pos,af,g⟩ env [] (.slice (some ⟨b,o+l*sz,none⟩) (n -l) (cap -l)):=by
 have h:=Bz (d:=d) (ty:=ty) (pos:=pos) (af:=af) (g:=g) J I hx G B;have e1:Ej (some ⟨b,o,none⟩) l cap sz=some ⟨b,o+l*sz,none⟩:=by
  unfold Ej;rw [As A0,PB,Cb]
 rwa [e1]at h
theorem aO{t ty b j s1 s2:Nat}{fn:Func}{v x y:A2}(G:fn.results=#[.cell t ty,.tmp s1,.tmp s2]){w:A5}{tmps:AN}(hx:tmps.getD t undef= .pointer (some ⟨b,j,none⟩))(B:(loadVar ty ⟨b,j,none⟩).run P w= .ok v w)(hy:tmps.getD s1 undef=x)(hz:tmps.getD s2 undef=y):(results fn tmps).run P w= .ok (.tuple #[v,x,y]) w:=by
 rw [Nd]at hx hy hz;simp [results,G,hx,hy,hz,asAddr,B]
theorem NV{e:Exit}{N:Nat}{r:Option Nat}{fn:Func}{Q:A2->Hp->Prop}{Pn:List PanicEntry->Hp->Prop}{H':Hp}{t ty b j s1 s2:Nat}{v x y:A2}{o:Obj}(I:Fp e=true)(U:fn.results=#[.cell t ty,.tmp s1,.tmp s2])(hv:∀a,GN a env t= .pointer (some ⟨b,j,none⟩))(G:Has b o H)(J:∀w:A5,w.heap[b]?=some o->(loadVar ty ⟨b,j,none⟩).run P w= .ok v w)(hx:∀a,GN a env s1=x)(hy:∀a,GN a env s2=y)(O:Q (.tuple #[v,x,y]) H')(K:Sub (H'++R) H:=by repeat(first|exact Sub.refl _|exact Sub.nil _|(apply Sub.cons;(focus (repeat(first|exact One.here _ _|apply One.there))))|refine Sub.drop _ ?_)):Nx ⟨N,[],u,r⟩ (bodyPost P fn (Gf u R Q Pn) e) env H:=
 Mg I (fun a w B=>aO U (by rw [Ce a env (by rw [B.size];exact B.fit),hv a]) (J w (B.sat.get _ G.mem)) (by rw [Ce a env (by rw [B.size];exact B.fit),hx a]) (by rw [Ce a env (by rw [B.size];exact B.fit),hy a])) O K
theorem Y7{t s q k:Nat}{fn:Func}(B:fn.results=#[.tmp t,.tmp s,.tmp q,.tmp k])(w:A5)(tmps:AN):(results fn tmps).run P w= .ok (.tuple #[tmps.getD t undef,tmps.getD s undef,tmps.getD q undef,tmps.getD k undef]) w:=by simp [results,B]
theorem lW{e:Exit}{N:Nat}{r:Option Nat}{fn:Func}{Q:A2->Hp->Prop}{Pn:List PanicEntry->Hp->Prop}{H':Hp}{t s q k:Nat}{v x y z:A2}(G:Fp e=true)(K:fn.results=#[.tmp t,.tmp s,.tmp q,.tmp k])(hv:∀a,GN a env t=v)(hx:∀a,GN a env s=x)(hy:∀a,GN a env q=y)(hz:∀a,GN a env k=z)(J:Q (.tuple #[v,x,y,z]) H')(I:Sub (H'++R) H:=by repeat(first|exact Sub.refl _|exact Sub.nil _|(apply Sub.cons;(focus (repeat(first|exact One.here _ _|apply One.there))))|refine Sub.drop _ ?_)):Nx ⟨N,[],u,r⟩ (bodyPost P fn (Gf u R Q Pn) e) env H:=
 Mg G (fun a w B=>by rw [Y7 K,Ce a env (by rw [B.size];exact B.fit),Ce a env (by rw [B.size];exact B.fit),Ce a env (by rw [B.size];exact B.fit),Ce a env (by rw [B.size];exact B.fit),hv a,hx a,hy a,hz a]) J I
theorem UB{f:FuncId}{fn:Func}{ax:Array Operand}{ats:Array AM}{tS tR e:AM}{size a b oa ob la ca lb cb:Nat}{xa xb:AN}{Ta Tb:AM}{zb:Nat×Nat}
 (hf:P.funcs[f]?=some fn)(hname:(fn.name== "runtime.NumGoroutine")=false)(hb:fn.body.isNone=true)(hn:Extern.findNext fn=none)(he:Extern.find fn=some (Extern.SlicesOverlaps.overlaps #[tS,tS] #[tR]))
 (ht:P.underlying tS=some (.slice e))(hz:∀w:A5,(Go.sizeOf e).run P w= .ok size w)(ha:∀c,ax.toList.map (ev c env)=[.slice (some ⟨a,oa,none⟩) la ca,.slice (some ⟨b,ob,none⟩) lb cb])(hne:a≠b)(hk:xb.size≠0):
 OpP P ⟨d,.call ⟨.value (.func f),ax,ats⟩,ty,pos,af,g⟩ env [(a,.cells xa Ta (0,0)),(b,.cells xb Tb zb)] (.bool false):=fun c w hs=>by
 have g1:=hs (a,.cells xa Ta (0,0)) (by simp);have g2:=hs (b,.cells xb Tb zb) (by simp)
 have h1:ax.map (ev c env)=#[.slice (some ⟨a,oa,none⟩) la ca,.slice (some ⟨b,ob,none⟩) lb cb]:=by
  have:=JX (ev c env) ax;rw [this,ha c]
 have h2:=run_callFunc_extern hf hname hb hn he #[.slice (some ⟨a,oa,none⟩) la ca,.slice (some ⟨b,ob,none⟩) lb cb] w;rw [Lib.run_overlaps_apart w tS tR e ht size hz ⟨a,oa,none⟩ ⟨b,ob,none⟩ la ca lb cb hne Ta Tb xa.size xb.size (by simp [World.shape?,g1]) (by simp [World.shape?,g2]) hk (by simp [World.frozen?,g1]) (by simp [World.frozen?,g1])]at h2;have h3:ev c env (.func f)= .func (.func f) #[] #[]:=rfl
 simp [Dv,resolve,h3,Deferred.ofValue,invoke,h1,h2,Result.andThen]
end
section
variable{α:Type}{κ:α->A2}{D:α->Prop}{P:Program}{es:Array MapEntry}{clock r:Nat}{l:List (α×A2)}{kt et:AM}
variable{u:A5}{env:Env}{H R:Hp}{d:Option Nat}{ty:AM}{pos:String}{af:Array Edge}{g:Option (Nat×Bool)}{t:AM}{m x y:Operand}{k:α}{v:A2}
theorem EH(W:GD P kt κ D)(ht:P.underlying t=some (.map kt et))(hm:Co κ es clock l)(Z:∀p∈l,D p.1)(X:D k)(hx:∀a,ev a env m= .map (some r))(hy:∀a,ev a env x=κ k)(hv:∀a,ev a env y=v)(I:One [(r,.map es clock)] H R):
 OpW P u ⟨d,.insert t m x y,ty,pos,af,g⟩ env H (fun v' H1=>v'=undef/\∃G B O,Co κ G B O/\(∀p,p∈O↔p=(k,v)\/(p∈l/\p.1≠k))/\H1=[(r,.map G B)]::R) (fun _ _=>False):=fun a w hs K U J hp=>
 FK (d:=d) (ty:=ty) (pos:=pos) (af:=af) (g:=g) W ht hm Z X hx hy hv I a w hs K U J hp
theorem Du [DecidableEq α]{et:AM}{z v0:A2}(G:GD P kt κ D)(O:P.underlying t=some (.map kt et))(hz:∀w:A5,(zeroValue et).run P w= .ok z w)(K:Co κ es clock l)(U:∀p∈l,D p.1)(I:D k)(hv:(EM k l).getD z=v0)(hx:∀a,ev a env m= .map (some r))(hy:∀a,ev a env x=κ k):
 OpP P ⟨d,.lookup t m x false,ty,pos,af,g⟩ env [(r,.map es clock)] v0:=fun a w W=>by
 have J:=W (r,.map es clock) B7;show((do pure (Next.value (<-Instr.lookup t (ev a env m) (ev a env x) false))):Sem Next).run P w=_
 rw [hx a,hy a,<-hv];rcases IL G K U w k I with⟨B,h2⟩|⟨j,v,B,h2⟩
 · rw [DY h2]
   simp only [Instr.lookup,Sem.run_bind,run_underlying O,Result.andThen,MapKept.run_getObj_map J,FB G I,Sem.run_pure,B,hz];rfl
 · rw [D8 K.keys (Ek h2)]
   simp only [Instr.lookup,Sem.run_bind,run_underlying O,Result.andThen,MapKept.run_getObj_map J,FB G I,Sem.run_pure,B];rfl
theorem OP{d:Nat}{x y:Operand}{t yt e:AM}{p:BE}(B:P.underlying t=some (.pointer e))(hx:∀a,ev a env x= .pointer p)(hy:∀a,ev a env y= .pointer none):OpP P ⟨some d,.binOp .eql t x y yt,ty,pos,af,g⟩ env [] (.bool p.isNone):=by
 cases p with
 |none=>exact O1 B hx hy
 |some a=>exact Bb B hx hy
theorem G6{d:Nat}{x y:Operand}{t yt e:AM}{p:BE}(B:P.underlying t=some (.pointer e))(hx:∀a,ev a env x= .pointer p)(hy:∀a,ev a env y= .pointer none):OpP P ⟨some d,.binOp .neq t x y yt,ty,pos,af,g⟩ env [] (.bool p.isSome):=by
 cases p with
 |none=>exact O0 B hx hy
 |some a=>exact Nz B hx hy
theorem Dz{c cs:AN}(h:cs.size=c.size):ET c 0 cs.toList=cs:=by
 rw [av c cs.toList (by simpa using h)]
theorem Az{c:AN}{n:Nat}(h:c.size=n):c.extract 0 (0+n)=c:=by
 subst h;simp
end
section
variable{P:Program}{u:A5}{env:Env}{H R:Hp}{d:Option Nat}{ty:AM}{pos:String}{af:Array Edge}{g:Option (Nat×Bool)}
theorem PH{x y:Operand}{t su e:AM}{i:TypeInfo}{z:A2}{by_:Nat}{v:A2}{xs:List A2}{s:List A8}{l:List UInt8}
 (ht:P.underlying t=some (.slice e))(ax:P.underlying su=some .string)(hi:P.info? e=some i)(gy:i.size=1)(bn:i.bytes=by_)(ic:i.zero=some z)(kv:z.oneCell'=true)
 (hx:∀a,ev a env x=v)(d9:Row e v xs s)(hy:∀a,ev a env y= .string (str l))(cu:One s H R)
 (hm:0<l.length)(U:xs.length+l.length<=maxLen)(hb:(xs.length+l.length)*by_<=140737488355328):
 OpW P u ⟨d,.call ⟨.builtin .append,#[x,y],#[t,su]⟩,ty,pos,af,g⟩ env H (fun v' H1=>∃s',Row e v' (xs++l.map u8v) s'/\H1=s'::R) (fun _ _=>False):=fun a w ek K Kp hK _=>by
 have Z:Sat u (s::R) w:=ek.perm (by simpa using cu.perm);have j5:Sat u R w:=Z.sub ⟨s,by simp only [D2];exact OS⟩
 have gQ:z.cells=#[z]:=by cases z<;>first|rfl|simp [Value.oneCell']at kv
 have l5:=mL;have G:(str l).size=l.length:=by simp [str,ByteArray.size]
 have gm:Lib.strCells (str l)=l.map u8v:=by simp only [Lib.strCells,str];rfl
 have hl:(l.map u8v).length=l.length:=Bk ..;have B:∀{v':A2} {w':A5},(Builtin.append_ #[t,su] ty #[v,.string (str l)]).run P w= .ok v' w'->(execOp (ev a env) ⟨d,.call ⟨.builtin .append,#[x,y],#[t,su]⟩,ty,pos,af,g⟩).run P w= .ok (.value v') w':=fun h=>by
  simp only [Dv,resolve,invoke,builtin,SM,Fc,Lk,hx a,hy a,Sem.run_bind,Sem.run_pure,Result.andThen_ok,h]
 have I:∀(n cap:Nat) (cells:AN) (w1:A5),w1={w with drawn:=n,heap:=w.heap.push (.cells cells e)}->Sat u ([(w.heap.size,.cells cells e (0,0))]::R) w1:=fun n cap cells w1 h=>by
  subst h;exact (j5.drawn n).alloc _
 rcases d9 with⟨rfl,rfl,rfl⟩|⟨gb,cap,cur,zz,rfl,rfl,hle,hcm,hcs,htk,hfr⟩
 · have hr:=run_append_nil_string (P:=P) w t su ty e i z ht ax hi ic (str l) (by omega) (by rw [G];simp only [MY,Dd]at U;omega) (by rw [bn,G];simp only [MY,Dd]at hb;omega)
   rw [B hr,G];have W:=grownCap_ge w l.length 0 e
   have J:grownCap w l.length 0 e<=maxLen:=grownCap_le_maxLen w l.length 0 e (by simpa using U);refine hK _ _ _ ⟨[(w.heap.size,.cells ((str l).data.map (fun b=>Value.int .u8 b.toNat)++Builtin.zeroCells z.cells (grownCap w l.length 0 e -l.length)) e (0,0))],.inr ⟨w.heap.size,grownCap w l.length 0 e,_,(0,0),?_,rfl,?_,J,?_,?_,BB _⟩,rfl⟩ (I _ 0 _ _ rfl);· simp
   · simpa using W
   · simp [size_zeroCells,gQ,str];omega
   · have:((str l).data.map (fun b=>Value.int .u8 b.toNat)).toList=l.map u8v:=by rw [Array.toList_map];rfl
     simp only [N4,dq,this];exact J1 rfl
 · have hg:=Z.get (gb,.cells cur e zz) (by simp)
   by_cases O:xs.length+l.length<=cap
   · have hf:=Lib.run_firstCells_string (P:=P) w 1 (str l)
     rw [G,gm]at hf;have gq:=Ck (P:=P) gb xs.length e zz (l.map u8v) 0 cur w hg hfr (by rw [hl,hcs];omega) (sH l)
     simp only [Pu]at gq;have hr:(Builtin.append_ #[t,su] ty #[I6 gb xs.length cap,.string (str l)]).run P w= .ok (I6 gb (xs.length+l.length) cap) (w.setRow gb (ET cur xs.length (l.map u8v))):=by
      simp [Builtin.append_,run_underlying ht,run_underlying ax,Go.sizeOf,typeInfo,hi,gy,Builtin.lenOf,G,O,hf,Cb,gq,ET]
     rw [B hr];have cO:(ET cur xs.length (l.map u8v)).size=cap:=by
      unfold ET;simp;omega
     refine hK _ _ _ ⟨[(gb,.cells (ET cur xs.length (l.map u8v)) e zz)],.inr ⟨gb,cap,_,zz,by simp,rfl,by simpa using O,hcm,cO,?_,by rw [cO,<-hcs];exact hfr⟩,rfl⟩
      (Z.upd (.here _) rfl rfl rfl (setRow_heap w gb cur _ e zz hg) fun k hk=>setRow_other w gb k _ hk)
     unfold ET;rw [htk];simp only [DH];rw [<-DH];exact J1 B7
   · have X:∀j v,xs[j]?=some v->w.cell? ((⟨gb,0,none⟩:Addr).add j)=some v:=fun j v hj=>by
      rw [Cb];refine Cq hg ?_;have j3:j<xs.length:=(C7.1 hj).1
      have:(cur.toList.take xs.length)[j]?=some v:=by rw [htk];exact hj
      rw [HR,Ax j3]at this;simpa using this
     have hr:=Lib.run_append_grow_string (P:=P) w t su ty e i z ht ax hi ic ⟨gb,0,none⟩ xs.length cap xs (by rw [gy];omega) X (str l) A0 A0 (growslice_fits A0 (by rw [bn,G];exact hb));rw [B hr,G,gm];have W:=grownCap_ge w (xs.length+l.length) cap e
     have J:grownCap w (xs.length+l.length) cap e<=maxLen:=grownCap_le_maxLen w (xs.length+l.length) cap e U;refine hK _ _ _ ⟨[(w.heap.size,.cells (xs.toArray++(l.map u8v).toArray++Builtin.zeroCells z.cells (grownCap w (xs.length+l.length) cap e -(xs.length+l.length))) e (0,0))],.inr ⟨w.heap.size,grownCap w (xs.length+l.length) cap e,_,(0,0),?_,V,?_,J,?_,?_,BB _⟩,V⟩ (I _ 0 _ _ V);· simp
     · simpa using W
     · simp [size_zeroCells,gQ];omega
     · simp only [dq]
       exact J1 B7
theorem ak{s t q e:AM}{x:Operand}{j:TypeInfo}{b:Nat}{c:AN}{z:Nat×Nat}(O:P.underlying s=some (.pointer q))(I:P.underlying t=some .unsafePointer)(K:P.info? q=some j)(J:j.size≠0)(hc:0<c.size)(hx:∀a,ev a env x=I5 b):
 OpP P ⟨d,.convert s t x,ty,pos,af,g⟩ env [(b,.cells c e z)] (I5 b):=fun a w h=>by
 have G:=h (b,.cells c e z) B7;have B:w.shape? b=some (e,c.size):=by simp [World.shape?,G]
 have:=Lib.run_to_unsafe (P:=P) (w:=w) ⟨b,0,none⟩ O I K J B hc;simp [KM,hx a,this]
theorem VR{s t q e:AM}{x:Operand}{j:TypeInfo}{b:Nat}{c:AN}{z:Nat×Nat}(O:P.underlying s=some .unsafePointer)(I:P.underlying t=some (.pointer q))(K:P.info? q=some j)(J:liesAt P P.depth e (c.size/P.cellsOf e) 0 q 1=true)(hx:∀a,ev a env x=I5 b):
 OpP P ⟨d,.convert s t x,ty,pos,af,g⟩ env [(b,.cells c e z)] (I5 b):=fun a w h=>by
 have G:=h (b,.cells c e z) B7;have B:w.shape? b=some (e,c.size):=by simp [World.shape?,G]
 have:=Lib.run_from_unsafe (P:=P) (w:=w) ⟨b,0,none⟩ O I K B J;simp [KM,hx a,this]
theorem UC{t q:AM}{x y:Operand}{yt:AM}{j:TypeInfo}{p:Addr}(G:P.underlying t=some (.pointer q))(B:P.info? q=some j)(hx:∀a,ev a env x= .pointer (some p))(hy:∀a,ev a env y= .pointer (some p)):
 OpP P ⟨d,.binOp .neq t x y yt,ty,pos,af,g⟩ env [] (.bool false):=fun a w _=>by
 have:=Lib.run_neq_ptr_same (P:=P) w p G B;simp [Ch,hx a,hy a,eqGuard,this]
theorem A51{f:FuncId}{fn:Func}{e:AN→Sem A2}{ax:Array Operand}{ats:Array AM}{vs:List A2}{v:A2}(hf:P.funcs[f]?=some fn)(hname:(fn.name== "runtime.NumGoroutine")=false)(hb:fn.body.isNone=true)(hn:Extern.findNext fn=none)(he:Extern.find fn=some e)
 (ha:∀a,ax.toList.map (ev a env)=vs)(hr:∀w:A5,(e vs.toArray).run P w= .ok v w):
 OpP P ⟨d,.call ⟨.value (.func f),ax,ats⟩,ty,pos,af,g⟩ env [] v:=fun a w _=>by
 have h1:ax.map (ev a env)=vs.toArray:=by rw [<-ha a];exact JX _ ax
 have h2:=run_callFunc_extern hf hname hb hn he vs.toArray w;rw [hr w]at h2;have h3:ev a env (.func f)= .func (.func f) #[] #[]:=rfl
 simp [Dv,resolve,h3,Deferred.ofValue,invoke,h1,h2,Result.andThen]
theorem ZH{t:AM}{x:Operand}{p:Addr}{n c:Nat}(hx:∀a,ev a env x= .slice (some p) n c)(hc:c≠0):
 OpW P u ⟨d,.call ⟨.builtin .unsafeSliceData,#[x],#[t]⟩,ty,pos,af,g⟩ env H (fun v H1=>v= .pointer (some p)/\H1=H) (fun _ _=>False):=fun a w B K I G _=>by
 have h:=Lib.run_unsafeSliceData_row (P:=P) (w:=w) #[t] ty p n c hc;have:(execOp (ev a env) ⟨d,.call ⟨.builtin .unsafeSliceData,#[x],#[t]⟩,ty,pos,af,g⟩).run P w= .ok (.value (.pointer (some p))) w:=by
  simp only [Dv,resolve,invoke,builtin,SM,Fc,Lk,hx a,Sem.run_bind,Sem.run_pure,Result.andThen_ok,h]
 rw [this];exact G _ _ _ ⟨V,V⟩ B
theorem Sm{t it e:AM}{x y:Operand}{b:Nat}{c:AN}{z:Nat×Nat}{l:List UInt8}(ht:P.underlying t=some (.pointer e))(W:P.cellsOf e=1)(hx:∀a,ev a env x=I5 b)(hy:∀a,ev a env y=I4 (l.length:Int))(h0:l≠[])(U:l.length<=9223372036854775807)
 (J:One [(b,.cells c e z)] H R)(hc:c.toList.take l.length=l.map u8v):
 OpW P u ⟨d,.call ⟨.builtin .unsafeString,#[x,y],#[t,it]⟩,ty,pos,af,g⟩ env H (fun v H1=>v= .string (str l)/\H1=R) (fun _ _=>False):=fun a w O K Kp hK _=>by
 have G:Sat u ([(b,.cells c e z)]::R) w:=O.perm (by simpa using J.perm);have B:Sat u R w:=G.sub ⟨[(b,.cells c e z)],by simp only [D2];exact OS⟩
 have hb:=G.get (b,.cells c e z) (by simp);have cu:w.shape? b=some (e,c.size):=by simp [World.shape?,hb]
 have ax:l.length<=c.size:=by
  have h1:(c.toList.take l.length).length=l.length:=by rw [hc,Bk]
  rw [Cd]at h1;have h2:=tG l.length c.toList.length
  rw [h1]at h2;exact SZ h2 (Nat.le_of_eq (show c.toList.length=c.size from W1))
 have X:Bq c 0 (l.map u8v):=by unfold Bq;rw [SU,Bk];exact hc
 have h:=Lib.run_unsafeString_row (P:=P) w t it ty e ht W b c.size cu l h0 ax U (fun j x hx=>Hr hb X j (.int .u8 x.toNat) (by rw [E6,hx];rfl));have:(execOp (ev a env) ⟨d,.call ⟨.builtin .unsafeString,#[x,y],#[t,it]⟩,ty,pos,af,g⟩).run P w= .ok (.value (.string (str l))) (w.freeze ⟨b,0,none⟩ l.length):=by
  simp only [Dv,resolve,invoke,builtin,SM,Fc,Lk,hx a,hy a,Sem.run_bind,Sem.run_pure,Result.andThen_ok,h];rfl
 rw [this];refine hK _ _ _ ⟨V,V⟩ ?_;have Z:l.length≠0:=by simpa using h0
 have I:=G.nodup;simp only [D2,PJ,Fc,LI]at I;unfold World.freeze;rw [As Z];refine ⟨B.os,B.tape,B.output,B.nodup,fun p hp=>?_⟩;have bn:p.1≠b:=fun h=>I.1 (CI.2 ⟨p,hp,h⟩)
 show(w.heap.modify b _)[p.1]?=some p.2;rw [W0,As (fun h=>bn h.symm)];exact B.get p hp
end
section
variable{P:Program}{ops:Array Oper}{l:List Oper}{cx:Cx}{Q:Exit->Act->A5->Prop}{env:Env}{H:Hp}
theorem ol{I:Operand}{fv:Fn}{caps:AN}{ty:AM}{pos:String}{af:Array Edge}(O:cx.r=none)(K:∀a,ev a env I= .func fv #[] caps)
 (k:Ops P ops l ⟨cx.N,⟨.fn fv caps,#[]⟩::cx.D,cx.u,cx.r⟩ Q env H):Ops P ops (⟨none,.defer ⟨.value I,#[],#[]⟩,ty,pos,af,none⟩::l) cx Q env H:=fun a w G=>by
 have B:Fit a.tmps.size env:=by rw [G.size];exact G.fit
 simp only [wpL];rw [GG ops _ a env B,show wantedE ops a env (⟨none,.defer ⟨.value I,#[],#[]⟩,ty,pos,af,none⟩:Oper).guard=true from rfl,Ax rfl];refine ⟨fun _ _=>trivial,?_⟩;have J:(Fx cx.r).round=none:=O
 rw [J,Oper.semAt_none,Ff a env B];have:(execOp (ev a env) ⟨none,.defer ⟨.value I,#[],#[]⟩,ty,pos,af,none⟩).run P w= .ok (.defer ⟨.fn fv caps,#[]⟩) w:=by
  simp [execOp,resolve,K a,Deferred.ofValue]
 rw [this,Oper.uponIn_defer];have h:=k {a with defers:=⟨.fn fv caps,#[]⟩::cx.D} w ⟨G.size,rfl,G.fit,G.sat⟩
 have e:CB env {a with defers:=⟨.fn fv caps,#[]⟩::cx.D}={CB env a with defers:=⟨.fn fv caps,#[]⟩::(CB env a).defers}:=by
  rw [FL,Fy,G.defers]
 rw [e]at h;exact h
end
def QJ(P:Program)(f:FuncId)(args:AN)(m m':FrameMode)(H:Hp)(Q:Hp->Prop):Prop:=
 ∀(u:A5) (R:Hp) (w:A5),Sat u (H++R) w->CallsDIn Fence.wide 0 P f args m w fun e m2 w'=>∃v H',e= .returned v/\m2=m'/\Q H'/\Sat u (H'++R) w'
theorem Rn{P:Program}{f:FuncId}{args:AN}{m:FrameMode}{w:A5}{G R2:Ending->FrameMode->A5->Prop}(h:CallsDIn Fence.wide 0 P f args m w G)(K:∀e I B,G e I B->R2 e I B):CallsDIn Fence.wide 0 P f args m w R2:=
 ⟨h.1,fun c cs hc O=>by
   obtain ⟨e,U,B,fr,J,h2⟩:=h.2 c cs hc O;exact ⟨e,U,B,fr,K _ _ _ J,h2⟩⟩
theorem jK{P:Program}{fn:Func}{tmps:AN}{f:FuncId}{caps:AN}{m m':FrameMode}{w u:A5}{Hd Rr R:Hp}{Qd:Hp->Prop}{Q:A2->Hp->Prop}{Pn:List PanicEntry->Hp->Prop}
 (X:m≠ .run)(J:settle m'= .returning)(hc:∀(args:AN) (w:A5),(callFunc f args).run P w= .ok (.enter f args) w)(W:QJ P f caps m m' Hd Qd)(hs:Sat u (Hd++Rr) w)
 (G:∀H1 B,Qd H1->Sat u (H1++Rr) B->∃v H',(results fn tmps).run P B= .ok v B/\Q v H'/\Sat u (H'++R) B):
 LeavesInM Fence.wide 0 P fn tmps (Gf u R Q Pn) [⟨.fn (.func f) caps,#[]⟩] m w:=by
 refine ⟨X,.inr ⟨fun h=>by simp [Fence.wide]at h,.func f,caps,f,caps,V,?_,fun _ _=>trivial,?_⟩⟩;· simp [invoke,hc]
 · refine Rn (W u Rr w hs) ?_
   rintro e m2 B ⟨v,H1,rfl,rfl,Z,I⟩;obtain ⟨K,H',O,h2,U⟩:=G H1 B Z I;show LeavesInM Fence.wide 0 P fn tmps (Gf u R Q Pn) [] (settle m2) B
   rw [J];exact ⟨K,O,.inl ⟨K,H',V,h2,U⟩⟩
section
variable{P:Program}{N:Nat}{u:A5}{fn:Func}{R H Hd Rr:Hp}{Q:A2->Hp->Prop}{Pn:List PanicEntry->Hp->Prop}{env:Env}{e:Exit}{f:FuncId}{caps:AN}{Qd:Hp->Prop}{m':FrameMode}
end
def tK(P:Program)(ops:Array Oper)(l:List Nat)(cx:Cx)(cs:List Frame)(Q:Exit->Act->List Frame->A5->Prop)(env:Env)(H:Hp):Prop:=∀a w,St cx env H a w->wpOpsSIn Fence.wide 0 P ops Q l (CB env a) cs w
section
variable{P:Program}{ops:Array Oper}{l:List Nat}{i:Nat}{cx:Cx}{cs:List Frame}{Q:Exit->Act->List Frame->A5->Prop}{env:Env}{H:Hp}
theorem Qu{d:Nat}{I:Op}{ty:AM}{pos:String}{af:Array Edge}{v:A2}(K:ops[i]?=some ⟨some d,I,ty,pos,af,none⟩)(h:OpP P ⟨some d,I,ty,pos,af,none⟩ env [] v)(J:Nat.blt d cx.N=true)
 (k:tK P ops l cx cs Q ((d,v)::env) H):tK P ops (i::l) cx cs Q env H:=fun a w G=>by
 have B:Fit a.tmps.size env:=by rw [G.size];exact G.fit
 simp only [wpOpsSIn,K];refine ⟨fun _ _=>trivial,?_⟩;rw [GG ops _ a env B,show wantedE ops a env (⟨some d,I,ty,pos,af,none⟩:Oper).guard=true from rfl,Ax rfl,Ff a env B,h a w B7];exact k a w ⟨G.size,G.defers,G.fit.cons J v,G.sat⟩
theorem iw{d:Nat}{ty:AM}{pos:String}{af:Array Edge}(J:ops[i]?=some ⟨some d,.call ⟨.builtin .recover,#[],#[]⟩,ty,pos,af,none⟩)(K:recoverD cs=none)(I:Nat.blt d cx.N=true)
 (k:tK P ops l cx cs Q ((d,.nilIface)::env) H):tK P ops (i::l) cx cs Q env H:=fun a w G=>by
 have B:Fit a.tmps.size env:=by rw [G.size];exact G.fit
 simp only [wpOpsSIn,J];refine ⟨fun _ _=>trivial,?_⟩;rw [GG ops _ a env B,show wantedE ops a env (⟨some d,.call ⟨.builtin .recover,#[],#[]⟩,ty,pos,af,none⟩:Oper).guard=true from rfl,Ax rfl,Ff a env B];have:(execOp (ev a env) ⟨some d,.call ⟨.builtin .recover,#[],#[]⟩,ty,pos,af,none⟩).run P w= .ok .recover w:=by
  simp [Dv,resolve,invoke,builtin]
 rw [this];simp only [K];exact k a w ⟨G.size,G.defers,G.fit.cons I _,G.sat⟩
end
theorem ZU{P:Program}{f:FuncId}{fn:Func}{id:Nat}{ops:Array Oper}{y:Code}{args:AN}{N:Nat}{m m':FrameMode}{H:Hp}{Qd:Hp->Prop}{env1:Env}(hf:P.funcs[f]?=some fn)(hb:fn.body=some (.seq (.region id ops false) y))(hN:fn.ntmps=N)(hs:Nat.ble args.size N=true)(ax:fn.results=#[])
 (K:∀(u:A5) (R:Hp) (c:Frame) (cs:List Frame) (Q:Exit->Act->List Frame->A5->Prop),c.mode=m->(∀a w,St ⟨N,[],u,none⟩ env1 (H++R) a w->Q .normal (CB env1 a) ({c with mode:=m'}::cs) w)->tK P ops (List.range ops.size) ⟨N,[],u,none⟩ (c::cs) Q (Fj 0 args.toList) (H++R))
 (h:∀u R,At P ⟨N,[],u,none⟩ y (bodyPost P fn (Gf u R (fun _ H'=>Qd H') (fun _ _=>False))) env1 (H++R)):QJ P f args m m' H Qd:=fun u R w O=>by
 have X:args.size<=N:=eV hs;have J:CB (Fj 0 args.toList) {tmps:=args++Array.replicate (fn.ntmps -args.size) undef,defers:=[]}={tmps:=args++Array.replicate (fn.ntmps -args.size) undef,defers:=[]}:=by
  refine KX _ fun p hp=>?_;obtain ⟨_,h2⟩:=FU _ _ _ hp;simp only [Sf,Hx]at h2;have Z:p.1<args.size:=by
   rcases Fi p.1 args.size with h|h
   · exact h
   · simp [LN h]at h2
  rw [fp Z];exact h2
 refine callsDIn_of_wpSIn (F:=Fence.wide) hf hb trivial fun c₀ cs hm=>?_;rw [<-J];refine wpSIn_seq (wpSIn_region ?_);refine K u R c₀ cs _ hm (fun a w1 af=>?_) _ w ⟨by simp [hN];omega,V,fun p hp=>?_,O⟩
 · refine wpSIn_of_wpIn rfl (wpIn_mono (h u R a w1 af) ?_)
   intro e a2 w2 B;cases e with
   |normal=>
    obtain ⟨U,v,hr,I⟩:=B;rcases I with⟨v',H',G,h2,W⟩|⟨_,_,_,h4,_⟩
    · exact ⟨U,m',rfl,v,hr,v',H',G,rfl,h2,W⟩
    · exact h4.elim
   |ret=>
    obtain ⟨U,v,hr,I⟩:=B;rcases I with⟨v',H',G,h2,W⟩|⟨_,_,_,h4,_⟩
    · exact ⟨U,m',rfl,v,hr,v',H',G,rfl,h2,W⟩
    · exact h4.elim
   |panic ch=>
    obtain ⟨U,I⟩:=B;rcases I with⟨_,_,G,_⟩|⟨_,_,_,h4,_⟩
    · cases G
    · exact h4.elim
   |outgrown=>
    rcases B with⟨_,_,G,_⟩|⟨_,_,_,h4,_⟩
    · cases G
    · exact h4.elim
   |exit i=>exact B.elim
   |goto i=>exact B.elim
 · obtain ⟨_,h2⟩:=FU _ _ _ hp
   simp only [Sf,Hx]at h2;rcases Fi p.1 args.size with h|h
   · exact nf h X
   · simp [LN h]at h2
section
variable{P:Program}{ops:Array Oper}{l:List Oper}{cx:Cx}{Q:Exit->Act->A5->Prop}{env:Env}{H:Hp}
theorem il{f:FuncId}{x:Operand}{v:A2}{G:Array AM}{ty:AM}{pos:String}{af:Array Edge}(O:cx.r=none)(hx:∀a,ev a env x=v)
 (k:Ops P ops l ⟨cx.N,⟨.fn (.func f) #[],#[v]⟩::cx.D,cx.u,cx.r⟩ Q env H):Ops P ops (⟨none,.defer ⟨.value (.func f),#[x],G⟩,ty,pos,af,none⟩::l) cx Q env H:=fun a w I=>by
 have B:Fit a.tmps.size env:=by rw [I.size];exact I.fit
 simp only [wpL];rw [GG ops _ a env B,show wantedE ops a env (⟨none,.defer ⟨.value (.func f),#[x],G⟩,ty,pos,af,none⟩:Oper).guard=true from rfl,Ax rfl];refine ⟨fun _ _=>trivial,?_⟩;have J:(Fx cx.r).round=none:=O
 rw [J,Oper.semAt_none,Ff a env B];have K:ev a env (.func f)= .func (.func f) #[] #[]:=rfl
 have:(execOp (ev a env) ⟨none,.defer ⟨.value (.func f),#[x],G⟩,ty,pos,af,none⟩).run P w= .ok (.defer ⟨.fn (.func f) #[],#[v]⟩) w:=by
  simp [execOp,resolve,K,hx a,Deferred.ofValue]
 rw [this,Oper.uponIn_defer];have h:=k {a with defers:=⟨.fn (.func f) #[],#[v]⟩::cx.D} w ⟨I.size,rfl,I.fit,I.sat⟩
 have e:CB env {a with defers:=⟨.fn (.func f) #[],#[v]⟩::cx.D}={CB env a with defers:=⟨.fn (.func f) #[],#[v]⟩::(CB env a).defers}:=by
  rw [FL,Fy,I.defers]
 rw [e]at h;exact h
end
theorem jJ{P:Program}{fn:Func}{tmps:AN}{fa f:FuncId}{va caps:AN}{ma m':FrameMode}{w u:A5}{Hd Rr R:Hp}{Qd:Hp->Prop}{Q:A2->Hp->Prop}{Pn:List PanicEntry->Hp->Prop}
 (U:settle ma= .returning)(J:∀(args:AN) (w:A5),(callFunc fa args).run P w= .ok (.enter fa args) w)(K:QJ P fa va .returning ma [] (fun H'=>H'=[]))
 (O:settle m'= .returning)(hc:∀(args:AN) (w:A5),(callFunc f args).run P w= .ok (.enter f args) w)(W:QJ P f caps .returning m' Hd Qd)(X:Sat u (Hd++Rr) w)
 (G:∀H1 B,Qd H1->Sat u (H1++Rr) B->∃v H',(results fn tmps).run P B= .ok v B/\Q v H'/\Sat u (H'++R) B):
 LeavesInM Fence.wide 0 P fn tmps (Gf u R Q Pn) [⟨.fn (.func fa) #[],va⟩,⟨.fn (.func f) caps,#[]⟩] .returning w:=by
 refine ⟨by simp,.inr ⟨fun h=>by simp [Fence.wide]at h,.func fa,#[],fa,va,V,?_,fun _ _=>trivial,?_⟩⟩;· simp [invoke,J]
 · refine Rn (K u (Hd++Rr) w X) ?_
   rintro e Z B ⟨v,H1,rfl,rfl,rfl,I⟩;show LeavesInM Fence.wide 0 P fn tmps (Gf u R Q Pn) [⟨.fn (.func f) caps,#[]⟩] (settle Z) B
   rw [U];exact jK B7 O hc W I G
section
variable{P:Program}{N:Nat}{u:A5}{fn:Func}{R H Hd Rr:Hp}{Q:A2->Hp->Prop}{Pn:List PanicEntry->Hp->Prop}{env:Env}{e:Exit}{fa f:FuncId}{va caps:AN}{Qd:Hp->Prop}{ma m':FrameMode}
theorem A59(he:Fp e=true)(W:settle ma= .returning)(K:∀(args:AN) (w:A5),(callFunc fa args).run P w= .ok (.enter fa args) w)(O:QJ P fa va .returning ma [] (fun H'=>H'=[]))
 (U:settle m'= .returning)(hc:∀(args:AN) (w:A5),(callFunc f args).run P w= .ok (.enter f args) w)(hd:QJ P f caps .returning m' Hd Qd)(hp:F3 Hd H Rr)
 (I:∀H1,Qd H1->∃v H',(∀(a:Act) (w:A5),Fit a.tmps.size env->Sat u (H1++Rr) w->(results fn (CB env a).tmps).run P w= .ok v w)/\Q v H'/\zF (H'++R) (H1++Rr)):
 Nx ⟨N,[⟨.fn (.func fa) #[],va⟩,⟨.fn (.func f) caps,#[]⟩],u,none⟩ (bodyPostM Fence.wide 0 P fn (Gf u R Q Pn) e) env H:=fun a w J=>by
 have X:(CB env a).defers=[⟨.fn (.func fa) #[],va⟩,⟨.fn (.func f) caps,#[]⟩]:=by rw [Fy];exact J.defers
 have G:LeavesInM Fence.wide 0 P fn (CB env a).tmps (Gf u R Q Pn) (CB env a).defers .returning w:=by
  rw [X];refine jJ W K O U hc hd (J.sat.perm hp.perm) fun H1 w' hq B=>?_;obtain ⟨v,H',h2,Z,h4⟩:=I H1 hq;exact ⟨v,H',h2 a w' (by rw [J.size];exact J.fit) B,Z,B.sub h4⟩
 cases e<;>first|exact G|simp [Fp]at he
end
theorem dx{P:Program}{f:FuncId}{fn:Func}{y:Code}{args:AN}{N:Nat}{m:FrameMode}{H:Hp}{Qd:Hp->Prop}(hf:P.funcs[f]?=some fn)(hb:fn.body=some y)(hN:fn.ntmps=N)(hs:Nat.ble args.size N=true)
 (h:∀u R,At P ⟨N,[],u,none⟩ y (bodyPost P fn (Gf u R (fun _ H'=>Qd H') (fun _ _=>False))) (Fj 0 args.toList) (H++R)):QJ P f args m m H Qd:=fun u R w O=>by
 have Z:args.size<=N:=eV hs;have K:CB (Fj 0 args.toList) {tmps:=args++Array.replicate (fn.ntmps -args.size) undef,defers:=[]}={tmps:=args++Array.replicate (fn.ntmps -args.size) undef,defers:=[]}:=by
  refine KX _ fun p hp=>?_;obtain ⟨_,h2⟩:=FU _ _ _ hp;simp only [Sf,Hx]at h2;have af:p.1<args.size:=by
   rcases Fi p.1 args.size with h|h
   · exact h
   · simp [LN h]at h2
  rw [fp af];exact h2
 refine callsDIn_of_wpSIn (F:=Fence.wide) hf hb trivial fun W cs hm=>?_;have J:({W with mode:=m}:Frame)=W:=by cases W;simp only at hm;subst hm;rfl
 rw [<-K];refine wpSIn_of_wpIn V (wpIn_mono (h u R _ w ⟨by simp [hN];omega,V,fun p hp=>?_,O⟩) ?_)
 · obtain ⟨_,h2⟩:=FU _ _ _ hp
   simp only [Sf,Hx]at h2;rcases Fi p.1 args.size with h|h
   · exact nf h Z
   · simp [LN h]at h2
 · intro e a2 w2 B
   cases e with
   |normal=>
    obtain ⟨U,v,hr,I⟩:=B;rcases I with⟨v',H',G,h2,X⟩|⟨_,_,_,h4,_⟩
    · exact ⟨U,m,by rw [J],v,hr,v',H',G,rfl,h2,X⟩
    · exact h4.elim
   |ret=>
    obtain ⟨U,v,hr,I⟩:=B;rcases I with⟨v',H',G,h2,X⟩|⟨_,_,_,h4,_⟩
    · exact ⟨U,m,by rw [J],v,hr,v',H',G,rfl,h2,X⟩
    · exact h4.elim
   |panic ch=>
    obtain ⟨U,I⟩:=B;rcases I with⟨_,_,G,_⟩|⟨_,_,_,h4,_⟩
    · cases G
    · exact h4.elim
   |outgrown=>
    rcases B with⟨_,_,G,_⟩|⟨_,_,_,h4,_⟩
    · cases G
    · exact h4.elim
   |exit i=>exact B.elim
   |goto i=>exact B.elim
section
variable{P:Program}{u:A5}{env:Env}{H R:Hp}{d:Option Nat}{ty:AM}{pos:String}{af:Array Edge}{g:Option (Nat×Bool)}
theorem AA7{t e:AM}{f0 f1 f2 f3:Field}(w:A5)(n:Nat)(x0 x1 x2 x3 y0 y1 y2 y3:Int)(hu:P.underlying t=some (.struct #[f0,f1,f2,f3]))(hst:P.stoodInHeld t=false)
 (h0:f0.name≠ "_"∧f0.type=e∧f0.offset=0)(h1:f1.name≠ "_"∧f1.type=e∧f1.offset=1)(h2:f2.name≠ "_"∧f2.type=e∧f2.offset=2)(h3:f3.name≠ "_"∧f3.type=e∧f3.offset=3)
 (he:P.underlying e=some (.int .i64))(ha:∀w:A5,(isAgg e).run P w= .ok false w):
 (Op.equalIn (n+2) t (.agg #[I4 x0,I4 x1,I4 x2,I4 x3]) (.agg #[I4 y0,I4 y1,I4 y2,I4 y3])).run P w= .ok (decide (x0=y0/\x1=y1/\x2=y2/\x3=y3)) w:=by
 obtain ⟨n0,e0,o0⟩:=h0;obtain ⟨n1,e1,o1⟩:=h1;obtain ⟨n2,e2,o2⟩:=h2;obtain ⟨n3,e3,o3⟩:=h3;have ei:∀(m k:Int) (w:A5),(Op.equalIn (n+1) e (I4 m) (I4 k)).run P w= .ok (decide (m=k)) w:=fun m k w=>Q7 n w he m k
 have p0:∀(v0 v1 v2 v3:A2) (w:A5),(part e #[v0,v1,v2,v3] 0).run P w= .ok v0 w:=fun _ _ _ _ w=>FC w (ha w) _ _ rfl;have p1:∀(v0 v1 v2 v3:A2) (w:A5),(part e #[v0,v1,v2,v3] 1).run P w= .ok v1 w:=fun _ _ _ _ w=>FC w (ha w) _ _ rfl
 have p2:∀(v0 v1 v2 v3:A2) (w:A5),(part e #[v0,v1,v2,v3] 2).run P w= .ok v2 w:=fun _ _ _ _ w=>FC w (ha w) _ _ rfl;have p3:∀(v0 v1 v2 v3:A2) (w:A5),(part e #[v0,v1,v2,v3] 3).run P w= .ok v3 w:=fun _ _ _ _ w=>FC w (ha w) _ _ rfl
 rw [show n+2=(n+1)+1 from rfl,Op.equalIn];generalize n+1=m at*;simp only [Sem.run_bind,run_underlying hu,Result.andThen_ok,run_program,hst,P0,I0];rw [<-sy];simp only [lP,oB,n0,n1,n2,n3,e0,e1,e2,e3,o0,o1,o2,o3,ne_eq,me,KK];simp only [Sem.run_bind,p0,p1,p2,p3,ei,Result.andThen_ok];by_cases c0:x0=y0
 · by_cases c1:x1=y1
   · by_cases c2:x2=y2
     · by_cases c3:x3=y3<;>simp [c0,c1,c2,c3,p0,p1,p2,p3,ei,n1,n2,n3]
     · simp [c0,c1,c2,p0,p1,p2,p3,ei,n1,n2,n3]
   · simp [c0,c1,p0,p1,p2,p3,ei,n1,n2,n3]
 · simp [c0,p0,p1,p2,p3,ei,n1,n2,n3]
theorem au{t yt e:AM}{f0 f1 f2 f3:Field}{x y:Operand}{x0 x1 x2 x3 y0 y1 y2 y3:Int}(hg:P.eqGuardType P.depth t=false)(hu:P.underlying t=some (.struct #[f0,f1,f2,f3]))(hst:P.stoodInHeld t=false)
 (h0:f0.name≠ "_"∧f0.type=e∧f0.offset=0)(h1:f1.name≠ "_"∧f1.type=e∧f1.offset=1)(h2:f2.name≠ "_"∧f2.type=e∧f2.offset=2)(h3:f3.name≠ "_"∧f3.type=e∧f3.offset=3)
 (he:P.underlying e=some (.int .i64))(ha:∀w:A5,(isAgg e).run P w= .ok false w)
 (hx:∀a,ev a env x= .agg #[I4 x0,I4 x1,I4 x2,I4 x3])(hy:∀a,ev a env y= .agg #[I4 y0,I4 y1,I4 y2,I4 y3]):OpP P ⟨d,.binOp .eql t x y yt,ty,pos,af,g⟩ env [] (.bool (decide (x0=y0/\x1=y1/\x2=y2/\x3=y3))):=fun a w _=>by
 simp [Ch,hx a,hy a,go_sem,run_eqGuard_agg w _ t _ _ _ _ hg,KA,Op.equal,Op.maxDepth,AA7 w 9998 x0 x1 x2 x3 y0 y1 y2 y3 hu hst h0 h1 h2 h3 he ha]
end
def JQ(b:Nat)(o:Obj)(s:List A8):List A8:=s.map fun p=>if p.1=b then(b,o)else p
theorem nL(b:Nat)(o:Obj)(s:List A8):(JQ b o s).map (·.1)=s.map (·.1):=by
 unfold JQ;rw [Mn];apply cD;intro p _;show(if p.1=b then(b,o)else p).1=p.1
 split;· rename_i h;exact h.symm
 · rfl
theorem A03{b:Nat}{o:Obj}{s:List A8}{p:A8}(h:p∈JQ b o s):p=(b,o)\/(p.1≠b/\p∈s):=by
 obtain ⟨q,B,e⟩:=CI.1 h;split at e;· exact .inl e.symm
 · rename_i hn;subst e;exact .inr ⟨hn,B⟩
theorem ZZ{u w G:A5}{H R:Hp}{s:List A8}{b:Nat}{o o':Obj}(B:Sat u H w)(W:One s H R)(Z:(b,o)∈s)(e1:G.os=w.os)(e2:G.tape=w.tape)(U:G.output=w.output)
 (X:G.heap[b]?=some o')(O:∀k,k≠b->G.heap[k]?=w.heap[k]?):Sat u (JQ b o' s::R) G:=by
 have K:=W.perm;have hn:((s++R.flatten).map (·.1)).Nodup:=(K.map _).nodup_iff.1 B.nodup
 refine ⟨e1.trans B.os,e2.trans B.tape,U.trans B.output,?_,fun p I=>?_⟩;· rw [D2,CN,nL,<-CN];exact hn
 · rw [D2]at I
   rcases CD.1 I with h|h
   · rcases A03 h with rfl|⟨h2,h3⟩
     · exact X
     · rw [O _ h2];exact B.get p (K.mem_iff.2 (G1 _ h3))
   · have J:p.1≠b:=fun e=>by
      rw [CN,HX]at hn;exact hn.2.2 b (CI.2 ⟨_,Z,V⟩) p.1 (Fk h) e.symm
     rw [O _ J];exact B.get p (K.mem_iff.2 (HK _ h))
theorem Ht{P:Program}{cx:Cx}{c:Code}{Q:Exit->Act->A5->Prop}{env:Env}{H R:Hp}{s:List A8}(G:One s H R)(k:(s.map (·.1)).Nodup->At P cx c Q env H):At P cx c Q env H:=fun a w B=>k (by
 have:=B.sat.nodup;rw [(G.perm.map (·.1)).nodup_iff,CN]at this;exact (HX.1 this).1) a w B
theorem yf{P:Program}{cx:Cx}{c:Code}{Q:Exit->Act->A5->Prop}{env:Env}{H R R2:Hp}{s:List A8}{b:Nat}{y:Obj}(G:One [(b,y)] H R)(h2:One s R R2)(k:b∉s.map (·.1)->At P cx c Q env H):At P cx c Q env H:=fun a w B=>k (fun I=>by
 have:=B.sat.nodup;rw [((G.perm.trans (Th _ h2.perm)).map (·.1)).nodup_iff,CN,CN]at this;exact (HX.1 this).2.2 b B7 b (G1 _ I) V) a w B
theorem FN{s:List A8}{H R:Hp}(h:One s H R){b:Nat}{x:Obj}(B:(b,x)∈s):(b,x)∈H.flatten:=h.perm.mem_iff.2 (G1 _ B)
theorem HY{s:List A8}{H R:Hp}(h:One s H R){p:A8}(B:p∈s):∀c∈[p],c∈H.flatten:=fun c hc=>by
 rw [CH.1 hc];exact h.perm.mem_iff.2 (G1 _ B)
section
variable{P:Program}{u:A5}{env:Env}{H R:Hp}{d:Option Nat}{ty:AM}{pos:String}{af:Array Edge}{g:Option (Nat×Bool)}
theorem IZ{t:AM}{x y:Operand}{b i:Nat}{c:AN}{T:AM}{z:Nat×Nat}{v:A2}{s X:List A8}(hs:∀w:A5,(Go.sizeOf t).run P w= .ok 1 w)(hx:∀a,ev a env x= .pointer (some ⟨b,i,none⟩))(hy:∀a,ev a env y=v)(J:v.oneCell'=true)
 (W:One s H R)(U:(b,.cells c T z)∈s)(hc:JQ b (.cells (c.setIfInBounds i v) T z) s=X)(hi:i<c.size)(hz:Iq z c.size):
 OpW P u ⟨d,.store t x y,ty,pos,af,g⟩ env H (fun v' H1=>v'=undef/\H1=X::R) (fun _ _=>False):=fun a w G K Kp Z _=>by
 have O:=G.get _ (W.perm.mem_iff.2 (G1 _ U));have B:v.cells=#[v]:=by cases v<;>first|rfl|simp [Value.oneCell']at J
 have I:=KH (P:=P) O hi hz J;have:(execOp (ev a env) ⟨d,.store t x y,ty,pos,af,g⟩).run P w= .ok .skip (w.setCell ⟨b,i,none⟩ v):=by
  simp [SG,hx a,hy a,Instr.storeAt,Instr.sureAddr,storeVar,hs,B,storeCells,Addr.add_zero',I]
 rw [this];exact Z _ _ _ ⟨V,V⟩ (hc▸ZZ G W U V rfl V (Py v O) fun k hk=>Lp v hk)
theorem Xk{t:AM}{x y:Operand}{b i n:Nat}{c cs:AN}{T:AM}{z:Nat×Nat}{s U:List A8}(hs:∀w:A5,(Go.sizeOf t).run P w= .ok n w)(hx:∀a,ev a env x= .pointer (some ⟨b,i,none⟩))(hy:∀a,ev a env y= .agg cs)(W:∀v∈cs.toList,v.oneCell'=true)
 (O:One s H R)(J:(b,.cells c T z)∈s)(hc:JQ b (.cells (ET c i cs.toList) T z) s=U)(hn:cs.size=n)(hi:i+n<=c.size)(hz:Iq z c.size):
 OpW P u ⟨d,.store t x y,ty,pos,af,g⟩ env H (fun v' H1=>v'=undef/\H1=U::R) (fun _ _=>False):=fun a w B K Kp X _=>by
 have I:=B.get _ (O.perm.mem_iff.2 (G1 _ J));have G:=Ck (P:=P) b i T z cs.toList 0 c w I hz (by simp;omega) W
 simp only [Pu]at G;have:(execOp (ev a env) ⟨d,.store t x y,ty,pos,af,g⟩).run P w= .ok .skip (w.setRow b (ET c i cs.toList)):=by
  simp [SG,hx a,hy a,Instr.storeAt,Instr.sureAddr,storeVar,hs,Value.cells,hn,G,ET]
 rw [this];exact X _ _ _ ⟨rfl,rfl⟩ (hc▸ZZ B O J rfl rfl rfl (by rw [setRow_heap w b c _ T z I]) fun k Z=>setRow_other w b k _ Z)
end
end Gw
namespace Gw
open Go Go.RowKit
open Go.ChangeMaps (setBlock)
section
variable{α:Type}{P:Program}{κ:α->A2}{D:α->Prop}{u:A5}{env:Env}{H R:Hp}{d:Option Nat}{ty:AM}{pos:String}{af:Array Edge}{g:Option (Nat×Bool)}{t kt et:AM}{m x y:Operand}{r:Nat}{es:Array MapEntry}{clock:Nat}{l:List (α×A2)}{k:α}{z v:A2}
def mu(es:Array MapEntry)(j st:Nat):Prop:=∃e,es.toList[j]?=some e/\e.born=st
theorem A61{es:Array MapEntry}{j:Nat}{e0:MapEntry}{kv:A2}(h:es[j]?=some e0)(G:e0.key=kv):(es.modify j fun e=>{e with key:=kv})=es:=by
 obtain ⟨J,B⟩:=Iv.1 h;apply lr B7;intro i I h2;rw [Array.getElem_modify];split
 · rename_i e;subst e
   rw [B];subst G;rfl
 · rfl
theorem L6 [DecidableEq α]{v0:A2}(hK:GD P kt κ D)(ht:P.underlying t=some (.map kt et))(hz:∀w:A5,(zeroValue et).run P w= .ok z w)(I:Co κ es clock l)(hl:∀p∈l,D p.1)(hk:D k)(hv:(EM k l).getD z=v0)(hx:∀a,ev a env m= .map (some r))(hy:∀a,ev a env x=κ k)(U:One [(r,.map es clock)] H R):
 OpW P u ⟨d,.mapEntry t m x,ty,pos,af,g⟩ env H (fun v' H1=>∃G B O j st,v'= .tuple #[v0,I4 ((st:Nat):Int)]/\Co κ G B O/\O[j]?=some (k,v0)/\mu G j st/\(∀p,p∈O↔p=(k,v0)\/(p∈l/\p.1≠k))/\H1=[(r,.map G B)]::R) (fun _ _=>False):=fun a w W K Kp d9 _=>by
 obtain ⟨hb,_⟩:=Jq U W (.map es clock)
 suffices hrun:∃G B O j st,(Instr.mapEntry t (.map (some r)) (κ k)).run P w= .ok (.tuple #[v0,I4 ((st:Nat):Int)]) (setBlock w r (.map G B))/\Co κ G B O/\O[j]?=some (k,v0)/\mu G j st/\∀p,p∈O↔p=(k,v0)\/(p∈l/\p.1≠k) by
  obtain ⟨G,B,O,j,st,h1,h2,h3,h4,h5⟩:=hrun;have:(execOp (ev a env) ⟨d,.mapEntry t m x,ty,pos,af,g⟩).run P w= .ok (.value (.tuple #[v0,I4 ((st:Nat):Int)])) (setBlock w r (.map G B)):=by
   show((do pure (Next.value (<-Instr.mapEntry t (ev a env m) (ev a env x))):Sem Next)).run P w=_;rw [hx a,hy a,Sem.run_bind,h1];rfl
  rw [this];exact d9 _ _ _ ⟨G,B,O,j,st,V,h2,h3,h4,h5,V⟩ (Jq U W _).2
 rcases IL hK I hl w k hk with⟨h1,h2⟩|⟨j,q,h1,h2⟩
 · rw [DY h2]at hv
   subst hv;refine ⟨es.push {key:=κ k,val:=z,born:=clock},clock+1,l++[(k,z)],l.length,clock,?_,⟨?_,?_,?_,?_⟩,by simp,⟨{key:=κ k,val:=z,born:=clock},by rw [<-I.size];simp,rfl⟩,?_⟩
   · simp only [Instr.mapEntry,Sem.run_bind,run_underlying ht,Result.andThen,MapKept.run_getObj_map hb,FB hK hk,h1,hz,Fv hb,Sem.run_pure]
     rfl
   · simp [I.pairs]
   · simp only [nm,CN,Fc,Lk]
     rw [HX];refine ⟨I.born,by simp,?_⟩;intro a ha b J ax;simp only [CI,CH]at ha J;obtain ⟨e,Z,rfl⟩:=ha;have:=I.old e Z
     omega
   · intro e Z
     simp only [nm,CD,CH]at Z;rcases Z with Z|rfl
     · have:=I.old e Z;omega
     · simp
   · rw [CN,HX]
     refine ⟨I.keys,by simp,?_⟩;intro a ha b J ax;simp only [Fc,Lk,CH]at J;obtain ⟨p,hp,rfl⟩:=CI.1 ha;exact h2 p hp (by rw [ax,J])
   · intro p
     rw [CD,CH];constructor
     · rintro (h|rfl)
       · exact .inr ⟨h,h2 p h⟩
       · exact .inl rfl
     · rintro (rfl|⟨h,_⟩)
       · exact .inr rfl
       · exact .inl h
 · obtain ⟨e0,bn,cu,gm⟩:=I.of h2
   have hq:EM k l=some q:=D8 I.keys (Ek h2);rw [hq]at hv;subst hv;have X:es[j]?=some e0:=by simpa using bn
   have ek:(Instr.keyThatStays (((es[j]?).map (·.key)).getD (κ k)) (κ k)).run P w= .ok (κ k) w:=by
    rw [X];show(Instr.keyThatStays e0.key (κ k)).run P w=_
    rw [cu];exact hK.stays w k hk
   refine ⟨es,clock,l,j,e0.born,?_,I,h2,⟨e0,bn,V⟩,fun p=>⟨fun h=>?_,fun h=>?_⟩⟩
   · simp only [Instr.mapEntry,Sem.run_bind,run_underlying ht,Result.andThen,MapKept.run_getObj_map hb,FB hK hk,h1,ek,Fv hb,Sem.run_pure]
     rw [A61 X cu,X];rfl
   · by_cases cO:p.1=k
     · refine .inl ?_
       obtain ⟨i,hi⟩:=HU h;obtain rfl:=Lf I.keys hi h2 cO;rw [h2]at hi;exact (SP hi).symm
     · exact .inr ⟨h,cO⟩
   · rcases h with rfl|⟨h,_⟩
     · exact Ek h2
     · exact h
theorem sK{es:Array MapEntry}{j st:Nat}(hn:(es.toList.map (·.born)).Nodup)(h:mu es j st):es.findIdx? (fun e=>(e.born:Int)==(st:Int))=some j:=by
 obtain ⟨e,I,O⟩:=h;have J:=(C7.1 I).1
 rw [show es.findIdx? (fun e=>(e.born:Int)==(st:Int))=es.toList.findIdx? (fun e=>(e.born:Int)==(st:Int)) from by rw [<-List.findIdx?_toArray,Array.toArray_toList],cS];refine ⟨J,?_,fun i hi=>?_⟩
 · have G:es.toList[j]=e:=(C7.1 I).2
   rw [G,O];simp
 · have B:i<es.toList.length:=by omega
   intro G;have U:(es.toList[i]).born=st:=by have K:=beq_iff_eq.1 G;omega
   have K:(es.toList.map (·.born))[i]?=(es.toList.map (·.born))[j]?:=by
    rw [E6,E6,I,BT B];show some (es.toList[i]).born=some e.born
    rw [U,O]
   have:=(tB (by simpa using B) hn).1 K;omega
theorem JB{j st:Nat}{v0:A2}(O:Co κ es clock l)(Z:l[j]?=some (k,v0))(hb:mu es j st)(hx:∀a,ev a env m= .map (some r))(hs:∀a,ev a env x=I4 ((st:Nat):Int))(hy:∀a,ev a env y=v)(I:One [(r,.map es clock)] H R):
 OpW P u ⟨d,.entryStore t m x y,ty,pos,af,g⟩ env H (fun v' H1=>v'=undef/\∃U G l',Co κ U G l'/\(∀p,p∈l'↔p=(k,v)\/(p∈l/\p.1≠k))/\H1=[(r,.map U G)]::R) (fun _ _=>False):=fun a w J K Kp ax _=>by
 obtain ⟨W,_⟩:=Jq I J (.map es clock);obtain ⟨e0,bn,cu,cO⟩:=O.of Z;have X:(Instr.entryStore t (.map (some r)) (I4 ((st:Nat):Int)) v).run P w= .ok () (setBlock w r (.map (es.modify j fun e=>{e with val:=v}) clock)):=by
  simp only [Instr.entryStore,Sem.run_bind,Result.andThen,MapKept.run_getObj_map W,asInt,asIntOf,Sem.run_pure,sK O.born hb,Fv W]
 have:(execOp (ev a env) ⟨d,.entryStore t m x y,ty,pos,af,g⟩).run P w= .ok .skip (setBlock w r (.map (es.modify j fun e=>{e with val:=v}) clock)):=by
  show((do Instr.entryStore t (ev a env m) (ev a env x) (ev a env y);pure Next.skip):Sem Next).run P w=_;rw [hx a,hs a,hy a,Sem.run_bind,X];rfl
 rw [this];refine ax _ _ _ ⟨V,_,clock,l.set j (k,v),⟨?_,?_,?_,?_⟩,lY O.keys Z v,V⟩ (Jq I J _).2
 · rw [gE]
   apply P2;intro i;have hj:(es.toList.map (fun e=>(e.key,e.val)))[i]?=(l.map (fun p=>(κ p.1,p.2)))[i]?:=by rw [O.pairs]
   rw [E6,E6]at hj;rw [E6,E6,gC,W4];by_cases B:j=i
   · subst B
     rw [Ax rfl,Ax (C7.1 Z).1,bn];simp [cu]
   · simpa [B]using hj
 · have:(es.modify j fun e=>{e with val:=v}).toList.map (·.born)=es.toList.map (·.born):=by
    rw [gE];apply P2;intro i;simp only [E6,gC];by_cases B:j=i;· subst B;cases es.toList[j]?<;>simp
    · simp [B]
   rw [this];exact O.born
 · intro e he
   rw [gE]at he;obtain ⟨i,hi⟩:=HU he;simp only [gC]at hi;cases h9:es.toList[i]?with
   |none=>simp [h9]at hi
   |some e1=>
    have:=O.old e1 (Ek h9);by_cases B:j=i
    · subst B
      simp only [h9,KK,Option.map_eq_map,PB,cE]at hi;subst hi;exact this
    · simp [h9,B]at hi
      subst hi;exact this
 · rw [bN Z v];exact O.keys
end
end Gw
namespace Gw
open Go Go.RowKit
def Kw{α:Type}(P:Program)(gf:FuncId)(lb:AN)(Hit:Hp)(A:List α->List A8->Prop)(encs:α->AN)(Adm Full:List α->Prop):Prop:=
 ∀(l:Nat) (J:List α->List A8->Prop),(∀pre s,J pre s->A pre s)->(∀pre x s,Adm (pre++[x])->J pre s->GR P l (encs x) [s] (fun v H'=>∃s',v= .bool true/\H'=[s']/\J (pre++[x]) s'))->
  ∀s,J [] s->BS P gf (#[.func (.yield l) #[] #[]]++lb) (Hit++[s]) (fun _ H'=>∃ys s',Full ys/\H'=[s']/\J ys s')
theorem Eg.toC{α:Type}{P:Program}{K:FuncId}{O:AN}{I:Hp}{A:List A8->Prop}{G:α->AN}{xs:List α}(h:Eg P K O I A G xs):Kw P K O I (fun _=>A) G (fun p=>∃B,xs=p++B) (fun ys=>ys=xs):=fun l J W hy s h0=>
 (h l J W (fun pre x B s hx X=>hy pre x s ⟨B,by rw [hx,DH];rfl⟩ X) s h0).mono (by
   rintro v H' ⟨Z,U,h2⟩;exact ⟨xs,Z,V,U,h2⟩)
theorem JI{α:Type}{A:List α->List A8->Prop}{Adm Full:List α->Prop}{P:Program}{cx:Cx}{Q:Exit->Act->A5->Prop}{env:Env}{H Z H0 R:Hp}{g:Operand}{ps:Array Tmp}{B O:Code}{gf:FuncId}{lb:AN}{G:α->AN}
 (I:List α->Hp->Prop)(E:α->Env->Hp->Prop)(hr:cx.r=none)(hg:∀a,ev a env g= .func (.func gf) #[] lb)(W:∀(args:AN) (w:A5),(callFunc gf args).run P w= .ok (.enter gf args) w)
 (X:Kw P gf lb Z A G Adm Full)(hA:∀pre H1 c d,I pre H1->A pre ([c,d]++H1.flatten))(bn:∀x,(G x).size=ps.size)(ax:(ps.toList.all fun t=>Nat.blt t cx.N)=true)(hp:F3 (Z++H0) H R)(h0:I [] H0)
 (K:∀(l:Nat) (x:α) (u:A5) (H:Hp),At P ⟨cx.N,[],u,some l⟩ B (Exit.then (fun a w=>∃e Hn,E x e Hn/\Is ⟨cx.N,[],u,some l⟩ (e++env) (Hn++H) a w) (fun _ _ _=>False)) ((ps.toList.zip (G x).toList).reverse++env) H)
 (U:∀(l:Nat) (pre:List α) (x:α) (u:A5) (e:Env) (Hn H1 R1:Hp) (r0:Loop),Adm (pre++[x])->I pre H1->E x e Hn->At P ⟨cx.N,[],u,some l⟩ O (Hu u I (pre++[x]) ([(l,.loop r0)]::R1)) (e++env) (H1++(Hn++([(l,.loop r0)]::R1))))
 (hk:∀(D:Nat) (ys:List α) (H2:Hp),Full ys->I ys H2->Nx ⟨cx.N,⟨.collected D,#[]⟩::cx.D,cx.u,none⟩ (Q .normal) env ([(D,.deferred (some []))]::(H2++R))):At P cx (.rangeFunc g ps B O) Q env H:=
 Ku (Hk:=[]) (St:=False) (Enc:=yY G) I (fun _ _=>False) (fun x _ _ e Hn=>E x e Hn) hr hg W (fun l J Jx af hX hy s h9=>(X l J af (fun pre x s ha hj=>OA (hy pre x s _ [] ha hj ⟨rfl,rfl⟩) fun v H' ⟨s',h1,h2⟩=>h2.elim (fun h=>⟨s',h.1,h1,h.2⟩) fun h=>(hX _ _ h.2).elim) s h9).mono (by rintro v H' ⟨ys,s',h1,h2,h3⟩;exact ⟨s',h2,.inl ⟨ys,h1,h3⟩⟩)) (fun _ _ h=>h) hA (fun x vs sx he=>by rw [he.1];exact bn x) ax hp h0
  (fun l x vs sx u H he=>by obtain ⟨rfl,rfl⟩:=he;exact K l x u H)
  (fun l pre x u vs sx e Hn H1 R1 r0 hx hI he hE=>by
    obtain ⟨rfl,rfl⟩:=he;exact QE (NK (U l pre x u e Hn H1 R1 r0 hx hI hE)) fun f h h1 h2=>by simp only [D2,HW,H4,h,h1,h2];omega) (fun D ys H2 hf hI=>hk D ys H2 hf hI) fun _ _ _ h=>h.elim
theorem QC{α:Type}{A:List A8->Prop}{P:Program}{cx:Cx}{Q:Exit->Act->A5->Prop}{env:Env}{H Z H0 R:Hp}{g:Operand}{ps:Array Tmp}{B O:Code}{gf:FuncId}{lb:AN}{G:α->AN}{xs:List α}
 (I:List α->Hp->Prop)(E:α->Env->Hp->Prop)(hr:cx.r=none)(hg:∀a,ev a env g= .func (.func gf) #[] lb)(W:∀(args:AN) (w:A5),(callFunc gf args).run P w= .ok (.enter gf args) w)
 (X:Eg P gf lb Z A G xs)(hA:∀pre H1 c d,I pre H1->A ([c,d]++H1.flatten))(ax:∀x,(G x).size=ps.size)(af:(ps.toList.all fun t=>Nat.blt t cx.N)=true)(hp:F3 (Z++H0) H R)(h0:I [] H0)
 (J:∀(l:Nat) (x:α) (u:A5) (H:Hp),At P ⟨cx.N,[],u,some l⟩ B (Exit.then (fun a w=>∃e Hn,E x e Hn/\Is ⟨cx.N,[],u,some l⟩ (e++env) (Hn++H) a w) (fun _ _ _=>False)) ((ps.toList.zip (G x).toList).reverse++env) H)
 (U:∀(l:Nat) (pre:List α) (x:α) (K:List α) (u:A5) (e:Env) (Hn H1 R1:Hp) (r0:Loop),xs=pre++x::K->I pre H1->E x e Hn->At P ⟨cx.N,[],u,some l⟩ O (Hu u I (pre++[x]) ([(l,.loop r0)]::R1)) (e++env) (H1++(Hn++([(l,.loop r0)]::R1))))
 (hk:∀(D:Nat) (H2:Hp),I xs H2->Nx ⟨cx.N,⟨.collected D,#[]⟩::cx.D,cx.u,none⟩ (Q .normal) env ([(D,.deferred (some []))]::(H2++R))):At P cx (.rangeFunc g ps B O) Q env H:=
 JI I E hr hg W X.toC hA ax af hp h0 J (fun l pre x u e Hn H1 R1 r0 ⟨K,h⟩=>U l pre x K u e Hn H1 R1 r0 (by rw [h,DH];rfl)) fun D ys H2 h hI=>hk D H2 (h▸hI)
theorem kQ{α:Type}{A:List A8->Prop}{P:Program}{cx:Cx}{Q:Exit->Act->A5->Prop}{env:Env}{H O H0 R:Hp}{g:Operand}{ps:Array Tmp}{assign body:Code}{gf:FuncId}{lb:AN}{G:α->AN}{xs:List α}{l0:Nat}{r0:Loop}
 (I:List α->Hp->Prop)(E:α->Env->Hp->Prop)(hr:cx.r=some l0)(j3:Has l0 (.loop r0) H)(hg:∀a,ev a env g= .func (.func gf) #[] lb)(gm:∀(args:AN) (w:A5),(callFunc gf args).run P w= .ok (.enter gf args) w)
 (gQ:Eg P gf lb O A G xs)(hA:∀pre H1 c,I pre H1->A ([c]++H1.flatten))(qa:∀x,(G x).size=ps.size)(q9:(ps.toList.all fun t=>Nat.blt t cx.N)=true)(hp:F3 (O++H0) H R)(h0:I [] H0)
 (U:∀(l:Nat) (x:α) (u:A5) (H:Hp),At P ⟨cx.N,[],u,some l⟩ assign (Exit.then (fun a w=>∃e Hn,E x e Hn/\Is ⟨cx.N,[],u,some l⟩ (e++env) (Hn++H) a w) (fun _ _ _=>False)) ((ps.toList.zip (G x).toList).reverse++env) H)
 (ek:∀(l:Nat) (pre:List α) (x:α) (af:List α) (u:A5) (e:Env) (Hn H1 R1:Hp) (r1:Loop),xs=pre++x::af->I pre H1->E x e Hn->At P ⟨cx.N,[],u,some l⟩ body (Hu u I (pre++[x]) ([(l,.loop r1)]::R1)) (e++env) (H1++(Hn++([(l,.loop r1)]::R1))))
 (hk:∀(H2:Hp),I xs H2->Nx cx (Q .normal) env (H2++R)):At P cx (.rangeFunc g ps assign body) Q env H:=by
 intro a w hs;refine wpIn_rangeFunc ?_;intro fn qw;have qb:(Fx cx.r).round=some l0:=hr
 have p9:=hs.sat.get _ j3.mem;rw [qb];obtain ⟨B,J⟩:∃B:LoopState->Option Code->Loop,B=fun st pe=>{state:=st,pending:=pe,fn,tmps:=(CB env a).tmps,params:=ps,assign,body,defers:=r0.defers}:=⟨_,rfl⟩;have o8:Sat cx.u ((O++H0)++R) w:=hs.sat.perm hp.perm
 have kv:Sat cx.u ([(w.heap.size,.loop (B .ready none))]::(O++H0++R)) (w.alloc (.loop (B .ready none))):=o8.alloc (.loop (B .ready none));have gy:Fit a.tmps.size env:=by rw [hs.size];exact hs.fit
 refine ⟨w.heap.size,[],w.alloc (.loop (B .ready none)),⟨.fn (.func gf) lb,#[.func (.yield (w.heap.size)) #[] #[]]⟩,w.alloc (.loop (B .ready none)),gf,
  #[.func (.yield (w.heap.size)) #[] #[]]++lb,w.alloc (.loop (B .ready none)),?_,?_,fun _ _=>trivial,?_,fun h=>by simp [Fx,Fence.wide]at h,?_⟩
 · rw [J];exact run_enterLoop_inner p9 _ _ _ _ _
 · simp only [resolve,Ff a env gy,hg a]
   simp [Deferred.ofValue,ev,Act.eval]
 · simp [invoke,gm]
 · refine Ym ?_
   have hJ:=gQ (w.heap.size) (fun pre s=>∃H1,I pre H1/\s=[(w.heap.size,.loop (B .ready none))]++H1.flatten) (by rintro pre _ ⟨H1,h1,rfl⟩;exact hA pre H1 _ h1) ?_ _ ⟨H0,h0,rfl⟩
   · have ic:([(w.heap.size,Obj.loop (B .ready none))]::(O++H0++R)).flatten.Perm ((O++[[(w.heap.size,Obj.loop (B .ready none))]++H0.flatten])++R).flatten:=by
      simp only [D2,HW,PJ,SO,N4,H4,E7,DH];exact To.symm
     refine Calls.mono (hJ cx.u R _ (kv.perm ic)) fun e w2 he=>?_;rcases he with⟨v,H',rfl,⟨s',rfl,H2,d9,rfl⟩,l5⟩|⟨_,_,_,h,_⟩
     · have Z:Sat cx.u ([(w.heap.size,Obj.loop (B .ready none))]::(H2++R)) w2:=by
        refine l5.perm ?_;simp
       have hl:=Z.get (w.heap.size,Obj.loop (B .ready none)) B7;have X:=run_endLoop (P:=P) hl (by rw [J];simp)
       have pz:(B .ready none).pending=none:=by rw [J]
       have p8:=hk H2 d9 a (w2.putObj w.heap.size (.loop {B .ready none with state:= .exhausted}))
        ⟨hs.size,hs.defers,hs.fit,(Z.turn (o':= .loop {B .ready none with state:= .exhausted})).sub ⟨[(w.heap.size,.loop {B .ready none with state:= .exhausted})],by
          simp only [D2];exact OS⟩⟩
       refine ⟨_,_,X,?_⟩;have key:∀(p:Option Code) (A:Act) (W:A5),p=none->Q .normal A W->(match p with|none=>Q .normal A W|some c=>c.wpIn (Fx cx.r) 0 P Q A W):=fun p A W h1 h2=>by subst h1;exact h2
       refine key _ _ _ pz ?_;exact p8
     · exact h.elim
   · rintro pre x af s qo ⟨H1,hI,rfl⟩ u R1 w1 ql K Kp hK
     have cO:Sat u ([(w.heap.size,Obj.loop (B .ready none))]::(H1++R1)) w1:=by
      refine ql.perm ?_;simp
     have hl:=cO.get (w.heap.size,Obj.loop (B .ready none)) B7;have hy:=run_yield (P:=P) (args:=G x) hl (by rw [J];exact qa x)
     rw [hy];show RoundIn Fence.wide 0 P (w.heap.size) _ _ _ _ w1 _
     rw [J];refine roundIn_of_wpIn (F:=Fence.wide) trivial ?_;have qj:({tmps:=(ps.zip (G x)).foldl (fun tmps x=>match x with|(t,a)=>tmps.setIfInBounds t a) (CB env a).tmps,defers:=[]}:Act)=CB ((ps.toList.zip (G x).toList).reverse++env) {a with defers:=[]}:=by
      rw [Jt,FL [] env a];have h1:(ps.zip (G x)).foldl (fun tmps x=>match x with|(t,a)=>tmps.setIfInBounds t a) (CB env a).tmps=(CB (ps.toList.zip (G x).toList).reverse (CB env a)).tmps:=by
       rw [<-Ob,<-sn,Array.toList_zip]
      rw [h1,FL [] _ (CB env a)]
     have gq:Fit cx.N ((ps.toList.zip (G x).toList).reverse++env):=by
      intro q hq;rcases CD.1 hq with hq|hq
      · have:=gx.1 hq
        have h2:=Pr.1 q9 q.1 (List.of_mem_zip this).1;simpa using h2
      · exact hs.fit q hq
     have ha:=U (w.heap.size) x u ([(w.heap.size,Obj.loop (B .ready none))]::(H1++R1)) {a with defers:=[]} w1 ⟨hs.size,rfl,gq,cO⟩;rw [<-qj]at ha;refine wpIn_mono ha fun e a1 w2 he=>?_;cases e<;>first|exact he|skip
     obtain ⟨e9,Hn,hE,a2,ax,rfl⟩:=he;have cu:Sat u ([(w.heap.size,Obj.loop (B .ready none))]::(H1++(Hn++R1))) w2:=by
      refine ax.sat.perm ?_;simp only [D2,HW,PJ];refine To.trans (List.Perm.cons _ ?_);rw [<-DH,<-DH];exact OS.append_right _
     have pg:=cu.get (w.heap.size,Obj.loop (B .ready none)) B7;refine ⟨_,run_beginRound pg (by rw [J]),?_⟩;have o9:Sat u (H1++(Hn++([(w.heap.size,Obj.loop {B .ready none with state:= .busy})]::R1))) (w2.putObj (w.heap.size) (.loop {B .ready none with state:= .busy})):=by
      refine (cu.turn (o':= .loop {B .ready none with state:= .busy})).perm ?_;simp only [D2,HW,PJ];rw [<-DH,<-DH];exact To.symm
     have hb:=ek (w.heap.size) pre x af u e9 Hn H1 R1 _ qo hI hE a2 _ ⟨ax.size,ax.defers,ax.fit,o9⟩;refine wpIn_mono hb fun e a3 w3 l8=>?_;cases e<;>first|exact l8.elim|skip
     obtain ⟨H2,d9,qh⟩:=l8;have bn:Sat u ([(w.heap.size,Obj.loop {B .ready none with state:= .busy})]::(H2++R1)) w3:=by
      refine qh.perm ?_;simp only [D2,HW,PJ];exact To
     have pq:=bn.get (w.heap.size,Obj.loop {B .ready none with state:= .busy}) B7;have X:=run_endRound (P:=P) none pq
     refine ⟨_,_,X,?_⟩;refine hK _ _ _ ⟨[(w.heap.size,.loop (B .ready none))]++H2.flatten,V,V,H2,d9,V⟩ ?_;have l9:=bn.turn (o':= .loop (B .ready none))
     have j5:({{B .ready none with state:=LoopState.busy}with state:=if(none:Option Code).isNone=true then LoopState.ready else .done,pending:=none}:Loop)=B .ready none:=by rw [J];rfl
     rw [j5];refine l9.perm ?_;simp
def Ni{α:Type}(P:Program)(gf:FuncId)(lb:AN)(Hit:Hp)(A:List A8->Prop)(encs:α->AN)(xs:List α):Prop:=
 ∀(l:Nat) (J Jx:List α->List A8->Prop),(∀pre s,J pre s->A s)->(∀pre x post s,xs=pre++x::post->J pre s->GR P l (encs x) [s] (fun v H'=>∃s',H'=[s']/\((v= .bool true/\J (pre++[x]) s')\/(v= .bool false/\Jx (pre++[x]) s'))))->
  ∀s,J [] s->BS P gf (#[.func (.yield l) #[] #[]]++lb) (Hit++[s]) (fun _ H'=>∃s',H'=[s']/\(J xs s'\/∃pre,Jx pre s'))
theorem Ni.all{α:Type}{P:Program}{X:FuncId}{Z:AN}{G:Hp}{A:List A8->Prop}{B:α->AN}{xs:List α}(h:Ni P X Z G A B xs):Eg P X Z G A B xs:=fun l J hA hy s h0=>by
 refine (h l J (fun _ _=>False) hA (fun pre x O s hx hj=>?_) s h0).mono ?_
 · intro u R w hs K Kp hK
   refine hy pre x O s hx hj u R w hs K Kp fun v H' w' hq I=>hK v H' w' ?_ I;obtain ⟨W,U,h2,h3⟩:=hq;exact ⟨W,h2,.inl ⟨U,h3⟩⟩
 · rintro v H' ⟨W,U,h2|⟨_,h2⟩⟩
   · exact ⟨W,U,h2⟩
   · exact h2.elim
theorem Yt{α:Type}{A:List A8->Prop}{P:Program}{cx:Cx}{Q:Exit->Act->A5->Prop}{env:Env}{H ax H0 R:Hp}{g:Operand}{ps:Array Tmp}{G U:Code}{gf:FuncId}{lb:AN}{K:α->AN}{xs:List α}
 (I Ix:List α->Hp->Prop)(E:α->Env->Hp->Prop)(hr:cx.r=none)(hg:∀a,ev a env g= .func (.func gf) #[] lb)(Z:∀(args:AN) (w:A5),(callFunc gf args).run P w= .ok (.enter gf args) w)
 (af:Ni P gf lb ax A K xs)(hA:∀pre H1 c d,I pre H1->A ([c,d]++H1.flatten))(d9:∀x,(K x).size=ps.size)(cO:(ps.toList.all fun t=>Nat.blt t cx.N)=true)(hp:F3 (ax++H0) H R)(h0:I [] H0)
 (O:∀(l:Nat) (x:α) (u:A5) (H:Hp),At P ⟨cx.N,[],u,some l⟩ G (Exit.then (fun a w=>∃e Hn,E x e Hn/\Is ⟨cx.N,[],u,some l⟩ (e++env) (Hn++H) a w) (fun _ _ _=>False)) ((ps.toList.zip (K x).toList).reverse++env) H)
 (X:∀(l:Nat) (pre:List α) (x:α) (B:List α) (u:A5) (e:Env) (Hn H1 R1:Hp) (r0:Loop),xs=pre++x::B->I pre H1->E x e Hn->At P ⟨cx.N,[],u,some l⟩ U (Kv u I Ix (pre++[x]) ([(l,.loop r0)]::R1)) (e++env) (H1++(Hn++([(l,.loop r0)]::R1))))
 (hk:∀(D:Nat) (W:Hp),I xs W->Nx ⟨cx.N,⟨.collected D,#[]⟩::cx.D,cx.u,none⟩ (Q .normal) env ([(D,.deferred (some []))]::(W++R)))
 (cu:∀(D:Nat) (pre:List α) (W:Hp),Ix pre W->Nx ⟨cx.N,⟨.collected D,#[]⟩::cx.D,cx.u,none⟩ (Q .ret) env ([(D,.deferred (some []))]::(W++R))):At P cx (.rangeFunc g ps G U) Q env H:=
 Ku (Hk:=[]) (A:=fun _=>A) (St:=True) (Adm:=fun p=>∃B,xs=p++B) (Full:=fun ys=>ys=xs) (Enc:=yY K) I Ix (fun x _ _ e Hn=>E x e Hn) hr hg Z (fun l J Jx bn _ hy s h9=>(af l J Jx bn (fun pre x B s hx hj=>OA (hy pre x s _ [] ⟨B,by rw [hx,DH];rfl⟩ hj ⟨rfl,rfl⟩) fun _ _ h=>h) s h9).mono (by rintro v H' ⟨s',h1,h2⟩;exact ⟨s',h1,h2.imp (fun h=>⟨xs,rfl,h⟩) id⟩)) (fun _ _ _=>trivial) hA (fun x vs sx he=>by rw [he.1];exact d9 x) cO hp h0
  (fun l x vs sx u H he=>by obtain ⟨rfl,rfl⟩:=he;exact O l x u H)
  (fun l pre x u vs sx e Hn H1 R1 r0 ⟨B,hx⟩ hI he hE=>by
    obtain ⟨rfl,rfl⟩:=he;exact QE (X l pre x B u e Hn H1 R1 r0 (by rw [hx,DH];rfl) hI hE) fun f h h1 h2=>by simp only [D2,HW,H4,h,h1,h2];omega) (fun D ys W hf hI=>by rw [hf]at hI;exact hk D W hI) cu
theorem V4{P:Program}{cx:Cx}{G:Code}{Q:Exit->Act->A5->Prop}{env:Env}{M s1 s2:List A8}{H R:Hp}(I:One M H R)(J:M.Perm (s1++s2))(k:At P cx G Q env (s1::s2::R)):At P cx G Q env H:=fun a w B=>
 k a w ⟨B.size,B.defers,B.fit,B.sat.perm (by
   have:=I.perm.trans (ri R.flatten J);simpa only [D2,DH]using this)⟩
def VE{κ:Type} [DecidableEq κ](sz:Nat)(e:AM)(lm:List (κ×A2))(n:κ->Nat)(xs:κ->List A2)(M:List A8):Prop:=
 ∃seg:κ->List A8,(∀k,BU sz e ((EM k lm).getD (.slice none 0 0)) (n k) (xs k) (seg k))/\M.Perm ((lm.map (·.1)).flatMap seg)
theorem dR{κ:Type} [DecidableEq κ](sz:Nat)(e:AM):VE sz e ([]:List (κ×A2)) (fun _=>0) (fun _=>[]) []:=⟨fun _=>[],fun _=>Bh _ _,.refl _⟩
theorem R5{κ:Type} [DecidableEq κ]{sz:Nat}{e:AM}{lm:List (κ×A2)}{n:κ->Nat}{xs:κ->List A2}{M:List A8}(hk:(lm.map (·.1)).Nodup)(h:VE sz e lm n xs M)(k:κ):
 ∃s M',BU sz e ((EM k lm).getD (.slice none 0 0)) (n k) (xs k) s/\M.Perm (s++M')/\∀(v':A2) (Z:List A8) (n':Nat) (xs':List A2) (B:List (κ×A2)),(B.map (·.1)).Nodup->(∀p,p∈B↔p=(k,v')\/(p∈lm/\p.1≠k))->BU sz e v' n' xs' Z->
  VE sz e B (fun x=>if x=k then n' else n x) (fun x=>if x=k then xs' else xs x) (Z++M'):=by
 obtain ⟨G,hr,hM⟩:=h;refine ⟨G k,((lm.map (·.1)).filter fun x=>decide (x≠k)).flatMap G,hr k,hM.trans ?_,?_⟩
 · by_cases U:k∈lm.map (·.1)
   · have J:(lm.map (·.1)).Perm (k::(lm.map (·.1)).filter fun x=>decide (x≠k)):=(T7 hk (LI.2 ⟨by simp,hk.sublist cC⟩)).2 fun a=>by
      by_cases W:a=k
      · subst W;simp only [DS,true_or,iff_true];exact U
      · simp only [DS,GF,W,false_or,HA,ne_eq,me,ka]
     have h2:=J.flatMap_right G;rwa [Hv]at h2
   · have h0:=hr k
     rw [DY fun p K X=>U (CI.2 ⟨p,K,X⟩)]at h0;have hs:G k=[]:=by
      rcases h0 with⟨_,⟨_,_,h⟩|⟨g,cap,cur,z,h,_⟩⟩
      · exact h
      · simp at h
     have hf:((lm.map (·.1)).filter fun x=>decide (x≠k))=lm.map (·.1):=eW.2 fun a W=>by
      simp only [HA];intro h;subst h;exact U W
     rw [hs,hf];exact .refl _
 · intro v' Z n' xs' B O K af
   refine ⟨fun x=>if x=k then Z else G x,fun x=>?_,?_⟩
   · by_cases hx:x=k
     · subst hx
       simp only [KK];rw [D8 O ((K _).2 (.inl rfl))];exact af
     · simp only [As hx]
       have hg:EM x B=EM x lm:=by
        by_cases U:∃v,(x,v)∈lm
        · obtain ⟨v,hv⟩:=U
          rw [D8 hk hv,D8 O ((K _).2 (.inr ⟨hv,hx⟩))]
        · rw [DY (l:=lm) fun p I X=>U ⟨p.2,by rw [<-X];exact I⟩,DY (l:=B) fun p I X=>by
           rcases (K p).1 I with rfl|⟨J,_⟩
           · exact hx X.symm
           · exact U ⟨p.2,by rw [<-X];exact J⟩]
       rw [hg];exact hr x
   · have J:(B.map (·.1)).Perm (k::(lm.map (·.1)).filter fun x=>decide (x≠k)):=(T7 O (LI.2 ⟨by simp,hk.sublist cC⟩)).2 fun a=>by
      simp only [DS,GF,CI,HA];constructor
      · rintro ⟨p,I,rfl⟩
        rcases (K p).1 I with rfl|⟨J,h2⟩
        · exact .inl rfl
        · exact .inr ⟨⟨p,J,rfl⟩,h2⟩
      · rintro (rfl|⟨⟨p,J,rfl⟩,h2⟩)
        · exact ⟨_,(K _).2 (.inl rfl),rfl⟩
        · exact ⟨p,(K p).2 (.inr ⟨J,h2⟩),rfl⟩
     have h2:=J.flatMap_right fun x=>if x=k then Z else G x
     rw [Hv,Ax rfl]at h2;refine List.Perm.symm (h2.trans ?_);rw [List.flatMap_def,List.flatMap_def,cD (g:=G) fun a W=>?_];rw [As (by simpa using(GF.1 W).2)]
theorem VE.row{κ:Type} [DecidableEq κ]{sz:Nat}{e:AM}{lm:List (κ×A2)}{n:κ->Nat}{xs:κ->List A2}{M:List A8}(h:VE sz e lm n xs M)(k:κ):∃s,BU sz e ((EM k lm).getD (.slice none 0 0)) (n k) (xs k) s/\∀c∈s,c∈M:=by
 obtain ⟨B,I,J⟩:=h;refine ⟨B k,I k,fun c hc=>J.mem_iff.2 ?_⟩;by_cases G:k∈lm.map (·.1);· exact Tr.2 ⟨k,G,hc⟩
 · have h0:=I k
   rw [DY fun p O K=>G (CI.2 ⟨p,O,K⟩)]at h0;rcases h0 with⟨_,⟨_,_,h⟩|⟨g,cap,cur,z,h,_⟩⟩
   · rw [h]at hc;cases hc
   · simp at h
def Lj(D:Nat):A8:=(D,.deferred (some []))
def zG(N:Nat)(u:A5)(I:Nat->Env->Hp->Prop)(B:Env)(R:Hp)(n:Nat)(a:Act)(w:A5):Prop:=∃m e H Ds a0,m<n/\I m e H/\St ⟨N,K3 Ds,u,none⟩ (e++B) (Ds.map Lj::(H++R)) a0 w/\a=CB (e++B) a0
theorem AC9{P:Program}{N:Nat}{u:A5}{Q:Exit->Act->A5->Prop}{c:Code}{e0 B:Env}{H H0 R:Hp}(I:Nat->Env->Hp->Prop){n:Nat}(h0:I n e0 H0)(hp:F3 H0 H R)(O:∀(Ds:List Nat) n e H,I n e H->At P ⟨N,K3 Ds,u,none⟩ c (Exit.then (zG N u I B R n) Q) (e++B) (Ds.map Lj::(H++R))):At P ⟨N,[],u,none⟩ (.loop c) Q (e0++B) H:=by
 intro a w U b k cs cO hb hr;have key:∀n Ds e H a w,I n e H->St ⟨N,K3 Ds,u,none⟩ (e++B) (Ds.map Lj::(H++R)) a w->
  ∃x Z w',Q x Z w'/\ArrivesIn (Machine.fenced P (Fx none)) P (lone (b.atR (CB (e++B) a) (.code c:: .inLoop c::k)) cs w) b k cs x Z w':=by
  intro n;induction n using Nat.strongRecOn with
  |_ n ih=>
   intro Ds e H a w hI U;obtain ⟨x,X,W,J,G⟩:=O Ds n e H hI a w U b (.inLoop c::k) cs cO hb hr;cases x with
   |normal=>
    obtain ⟨m,e',H',af,a0,bn,ax,d9,rfl⟩:=J;obtain ⟨e₂,a₂,w₂,cu,K⟩:=ih m bn af e' H' a0 W ax d9;exact ⟨e₂,a₂,w₂,cu,.of_steps (StepsIn.trans G (.one (fenced_calm hb hr V) stepR_inLoop)) K⟩
   |exit id=>exact ⟨_,X,W,J,.pass (x:= .inLoop c) rfl (fun _ _=> .inl B7) G⟩
   |goto l=>exact ⟨_,X,W,J,.pass (x:= .inLoop c) rfl (fun _ _=> .inl B7) G⟩
   |ret=>exact ⟨_,X,W,J,.pass (x:= .inLoop c) rfl (fun _ _=> .inl B7) G⟩
   |panic ch=>exact ⟨_,X,W,J,.pass (x:= .inLoop c) rfl (fun _ _=> .inl B7) G⟩
   |outgrown=>exact ⟨_,X,W,J,.pass (x:= .inLoop c) rfl (fun _ _=> .inl B7) G⟩
 obtain ⟨x,Z,w',J,G⟩:=key n [] e0 H0 a w h0 ⟨U.size,U.defers,U.fit,U.sat.perm (by simpa using hp.perm)⟩;exact ⟨x,Z,w',J,.of_steps (.one (fenced_calm hb hr V) stepR_loop) G⟩
theorem j4{N:Nat}{u:A5}{Q:Exit->Act->A5->Prop}{I:Nat->Env->Hp->Prop}{B e':Env}{R H H1 K H':Hp}{n m D:Nat}{Ds:List Nat}(h:I m e' H')(O:One [(D,.deferred (some []))] H H1)(h2:One (Ds.map Lj) H1 K)(W:m<n:=by omega)(X:Sub (H'++R) K:=by repeat(first|exact Sub.refl _|exact Sub.nil _|(apply Sub.cons;(focus (repeat(first|exact One.here _ _|apply One.there))))|refine Sub.drop _ ?_)):
 Nx ⟨N,⟨.collected D,#[]⟩::K3 Ds,u,none⟩ ((Exit.then (zG N u I B R n) Q) .normal) (e'++B) H:=fun a w J=>by
 have G:Sat u (((D::Ds).map Lj)::K) w:=J.sat.perm (by
  refine O.perm.trans ?_;have:=h2.perm
  simp only [D2,Fc,SO,PJ]at this⊢;exact this.cons _)
 refine ⟨m,e',H',D::Ds,a,W,h,⟨J.size,J.defers,J.fit,G.sub ?_⟩,V⟩;obtain ⟨Z,U⟩:=X.amid;exact ⟨Z,by simp only [D2,DH];exact Th _ U⟩
theorem A58{P:Program}{N:Nat}{u:A5}{fn:Func}{R H H0 H':Hp}{Q:A2->Hp->Prop}{Pn:List PanicEntry->Hp->Prop}{env:Env}{e:Exit}{Ds:List Nat}{v:A2}(he:Fp e=true)(hr:Res P fn env v)(hd:One (Ds.map Lj) H H0)(hq:Q v H')(hp:Sub (H'++R) H0:=by repeat(first|exact Sub.refl _|exact Sub.nil _|(apply Sub.cons;(focus (repeat(first|exact One.here _ _|apply One.there))))|refine Sub.drop _ ?_)):
 Nx ⟨N,K3 Ds,u,none⟩ (bodyPostM Fence.wide 0 P fn (Gf u R Q Pn) e) env H:=fun a w O=>by
 have X:(CB env a).defers=K3 Ds:=by rw [Fy];exact O.defers
 have J:Sat u (Ds.map Lj::(H'++R)) w:=by
  refine (O.sat.perm (by simpa using hd.perm):Sat u (Ds.map Lj::H0) w).sub ?_;obtain ⟨Z,hZ⟩:=hp.amid;exact ⟨Z,by simp only [D2,DH];exact Th _ hZ⟩
 have G:∀(Ds:List Nat) (w:A5),Sat u (Ds.map Lj::(H'++R)) w->LeavesInM Fence.wide 0 P fn (CB env a).tmps (Gf u R Q Pn) (K3 Ds) .returning w:=by
  intro Ds;induction Ds with
  |nil=>intro w U;exact ⟨v,hr a w (by rw [O.size];exact O.fit),.inl ⟨v,H',rfl,hq,U.perm B7⟩⟩
  |cons D Ds ih=>
   intro w U;have K:Sat u ([(D,.deferred (some []))]::(Ds.map Lj::(H'++R))) w:=by
    refine U.perm ?_;simp [Lj]
   have I:=K.get (D,.deferred (some [])) B7;have W:Sat u (Ds.map Lj::(H'++R)) (w.putObj D (.deferred none)):=(K.turn (o':= .deferred none)).sub ⟨[(D,.deferred none)],by simp only [D2];exact OS⟩
   refine ⟨by simp [K3],.inl ⟨D,_,V,aB I,?_⟩⟩;exact ih _ W
 have B:=G Ds w J;rw [<-X]at B;cases e<;>first|exact B|simp [Fp]at he
section
variable{P:Program}{u:A5}{env:Env}{H:Hp}{d:Option Nat}{ty:AM}{pos:String}{af:Array Edge}{g:Option (Nat×Bool)}
theorem Xl{t e l c by_ sz:Nat}{x y:Operand}{z:A2}{i:TypeInfo}{k k':IntKind}(hu:P.underlying t=some (.slice e))(hi:P.info? e=some i)(hs:i.size=sz)(O:i.bytes=by_)(U:i.zero=some z)
 (hx:∀a,ev a env x= .int k (l:Int))(hy:∀a,ev a env y= .int k' (c:Int))(ax:l<=c)(hc:c<=9223372036854775807)(hb:by_*c<=281474976710656):
 OpW P u ⟨d,.makeSlice t x y,ty,pos,af,g⟩ env H (fun v' H1=>∃b cur,v'=I6 b l c/\cur.size=c*sz/\H1=[(b,.cells cur e (0,0))]::H) (fun _ _=>False):=fun a w I K Kp hK _=>by
 have w1:IntKind.i64.wrap (l:Int)=(l:Int):=ED _ (by omega);have w2:IntKind.i64.wrap (c:Int)=(c:Int):=ED _ hc
 have J:¬((281474976710656:Int)<(by_:Int)*(c:Int)):=by
  rw [<-nt];omega
 have X:¬((c:Int)<0):=by omega
 have Z:¬((l:Int)<0):=by omega
 have h5:¬((c:Int)<(l:Int)):=by omega
 have B:∃cur:AN,cur.size=c*sz/\(Instr.makeSlice t (ev a env x) (ev a env y)).run P w= .ok (.slice (some ⟨w.heap.size,0,none⟩) l c) {w with heap:=w.heap.push (.cells cur e)}:=by
  refine ⟨(Array.range (c*sz)).map ((if c*sz=0 then(#[]:AN)else z.cells)[·%(if c*sz=0 then(#[]:AN)else z.cells).size]!),by simp,?_⟩;rw [hx a,hy a];unfold Instr.makeSlice;simp only [Sem.run_bind,run_underlying hu,Result.andThen_ok,asInt,asIntOf,Sem.run_pure,typeInfo,run_program,hi,O,w1,w2];simp only [X,Z,h5,J,gt_iff_lt,Nat.reducePow,eL,ie,P0,I0,Int.reducePow,Int.cast_ofNat_Int];simp only [Sem.run_bind,run_askRoom,Result.andThen_ok,Go.sizeOf,typeInfo,run_program,hi,Sem.run_pure,hs,SJ];by_cases h0:c*sz=0;· simp [h0,newRow]
  · have W:(zeroValue e).run P w= .ok z w:=by simp [zeroValue,typeInfo,hi,U]
    simp only [h0,I0,Sem.run_bind,W,Result.andThen_ok,Sem.run_pure,newRow,run_newObj]
 obtain ⟨cur,G,B⟩:=B;have:(execOp (ev a env) ⟨d,.makeSlice t x y,ty,pos,af,g⟩).run P w= .ok (.value (.slice (some ⟨w.heap.size,0,none⟩) l c)) {w with heap:=w.heap.push (.cells cur e)}:=by
  rw [RH,Sem.run_bind,B];rfl
 rw [this];exact hK _ _ _ ⟨_,cur,V,G,V⟩ (I.alloc _)
theorem ny{sz:Nat}{e:AM}{g c:Nat}{cur:AN}(h:c<=maxLen)(B:cur.size=c*sz):BU sz e (I6 g 0 c) 0 [] [(g,.cells cur e (0,0))]:=
 ⟨by simp,.inr ⟨g,c,cur,(0,0),rfl,rfl,CM _,h,B,by simp,BB _⟩⟩
end
def EqT(P:Program)(k:Nat)(t:AM)(v u:A2)(b:Bool):Prop:=∀(n:Nat) (w:A5),(Op.equalIn (n+k) t v u).run P w= .ok b w
section
variable{P:Program}{t e:AM}
theorem IW(B:P.underlying e=some (.int .i64))(m k:Int):EqT P 2 e (I4 m) (I4 k) (decide (m=k)):=fun n w=>Q7 (n+1) w B m k
theorem df(B:P.underlying e=some .bool)(a b:Bool):EqT P 2 e (.bool a) (.bool b) (decide (a=b)):=fun n w=>by
 show(Op.equalIn ((n+1)+1) e _ _).run P w=_;simp [Op.equalIn,run_underlying B];cases a<;>cases b<;>rfl
theorem mP(B:P.underlying e=some .string)(a b:CA):EqT P 2 e (.string a) (.string b) (decide (a=b)):=fun n w=>by
 show(Op.equalIn ((n+1)+1) e _ _).run P w=_;simp [Op.equalIn,run_underlying B];cases a with|mk a=>cases b with|mk b=>
 by_cases h:a=b
 · subst h
   have:(({data:=a}:CA)=={data:=a})=true:=by show(a==a)=true;simp
   simp [this]
 · have:(({data:=a}:CA)=={data:=b})=false:=by show(a==b)=false;simpa using h
   simp [this,h]
theorem dh(J:P.underlying t=some (.array 3 e))(G:P.underlying e=some (.int .i64))(B:∀w:A5,(isAgg e).run P w= .ok false w)(I:∀w:A5,(Go.sizeOf e).run P w= .ok 1 w)(x y:V3):
 EqT P 2 t (.agg #[I4 x.a,I4 x.b,I4 x.c]) (.agg #[I4 y.a,I4 y.b,I4 y.c]) (decide (x=y)):=fun n w=>SX w n x y J G B I
def YY(d:Nat)(xs ys:AN)(L:List Field):Sem Bool:=do
 for f in L do
  if f.name≠ "_" then
   if !(<-Op.equalIn d f.type (<-part f.type xs f.offset) (<-part f.type ys f.offset))then return false
 pure true
inductive FEq(P:Program)(xs ys:AN):List Field->List Bool->Prop
 |nil:FEq P xs ys [] []
 |cons {f:Field} {v u:A2} {b:Bool} {fs:List Field} {bs:List Bool} (hn:f.name≠ "_") (hx:∀w:A5,(part f.type xs f.offset).run P w= .ok v w) (hy:∀w:A5,(part f.type ys f.offset).run P w= .ok u w) (h:EqT P 2 f.type v u b) (k:FEq P xs ys fs bs):FEq P xs ys (f::fs) (b::bs)
theorem jm{xs ys:AN}{fs:List Field}{bs:List Bool}(h:FEq P xs ys fs bs)(n:Nat)(w:A5):(YY (n+2) xs ys fs).run P w= .ok (bs.all id) w:=by
 induction h with
 |nil=>simp [YY]
 |cons hn hx hy h k ih=>
  unfold YY at*;rw [lP];simp only [hn,ne_eq,me,KK,Sem.run_bind,hx,hy,h n w,Result.andThen_ok,oR,id];rename_i b _ _;cases b;· simp
  · simpa using ih
theorem Oh{fs:Array Field}{xs ys:AN}{bs:List Bool}{b:Bool}(J:P.underlying t=some (.struct fs))(B:P.stoodInHeld t=false)(h:FEq P xs ys fs.toList bs)(I:bs.all id=b):EqT P 3 t (.agg xs) (.agg ys) b:=fun n w=>by
 show(Op.equalIn ((n+2)+1) t _ _).run P w=_;rw [Op.equalIn];simp only [Sem.run_bind,run_underlying J,Result.andThen_ok,run_program,B,P0,I0];rw [<-sy,<-I];have G:=jm h n w
 unfold YY at G;simpa only [Sem.run_bind]using G
theorem Ci{xs:AN}{j:Nat}{v:A2}(B:∀w:A5,(isAgg e).run P w= .ok false w)(h:xs[j]?=some v):∀w:A5,(part e xs j).run P w= .ok v w:=fun w=>FC w (B w) _ _ h
theorem Ph{xs:AN}{j n:Nat}{cs:AN}(B:∀w:A5,(isAgg e).run P w= .ok true w)(G:∀w:A5,(Go.sizeOf e).run P w= .ok n w)(h:xs.extract j (j+n)=cs)(hn:j+n<=xs.size):∀w:A5,(part e xs j).run P w= .ok (.agg cs) w:=fun w=>by
 simp [part,B,G,h]
end
section
variable{P:Program}{u:A5}{env:Env}{H R:Hp}{d:Option Nat}{ty:AM}{pos:String}{af:Array Edge}{g:Option (Nat×Bool)}
theorem vV{t yt:AM}{x y:Operand}{p q:AN}{b:Bool}(B:P.eqGuardType P.depth t=false)(hx:∀a,ev a env x= .agg p)(hy:∀a,ev a env y= .agg q)(h:EqT P 3 t (.agg p) (.agg q) b):OpP P ⟨d,.binOp .eql t x y yt,ty,pos,af,g⟩ env [] (.bool b):=fun a w _=>by
 simp [Ch,hx a,hy a,go_sem,run_eqGuard_agg w _ t _ _ _ _ B,KA,Op.equal,Op.maxDepth,h 9997 w]
theorem xX{t yt:AM}{x y:Operand}{p q:AN}{b:Bool}(B:P.eqGuardType P.depth t=false)(hx:∀a,ev a env x= .agg p)(hy:∀a,ev a env y= .agg q)(h:EqT P 3 t (.agg p) (.agg q) b):OpP P ⟨d,.binOp .neq t x y yt,ty,pos,af,g⟩ env [] (.bool (!b)):=fun a w _=>by
 simp [Ch,hx a,hy a,go_sem,run_eqGuard_agg w _ t _ _ _ _ B,N8,Op.equal,Op.maxDepth,h 9997 w]
end
end Gw
