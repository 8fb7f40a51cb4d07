/- Walking by chunks: elements of several cells: copy, append of zero elements, clear of a part, a part of an own row overwritten; slices.overlaps. No function of the program is named. -/
/- Walking by chunks: results in a slot, a cell and two slots; in two cells and a slot. No function of the program is named. -/
import Derived.Test.YtkdgffcfmgmemaaGreatDoorEz
import Derived.Test.YtkdgffcfmgmemaaGreatDoorEx25
import Derived.Test.YtkdgffcfmgmemaaGreatDoorEx5
import Derived.Lib.AppendZerosOnto
import Derived.Lib.Overlaps
set_option linter.unusedVariables false
set_option linter.unusedSimpArgs false
namespace Gw
open Go Go.RowKit
theorem Fe{c:Array Value}{i:Nat}{ys:List Value}(h:i+ys.length≤c.size):(Ed c i ys).size=c.size:=by
 unfold Ed;simp only [uP,tK,tL,tN,w9];omega
theorem EH{sz:Nat}{e:TypeId}{g k cap:Nat}{cur:Array Value}{z:Nat×Nat}{xs ys:List Value}{i:Nat}(h:BX sz e (I6 g k cap) k xs [(g,.cells cur e z)])(hi:i+ys.length≤xs.length):
 BX sz e (I6 g k cap) k (xs.take i++ys++xs.drop (i+ys.length)) [(g,.cells (Ed cur i ys) e z)]:=by
 obtain ⟨hl,⟨h1,_⟩|⟨g',cap',cur',z',h1,h2,hle,hcm,hcs,htk,hfr⟩⟩:=h
 · injection h1 with h1;cases h1
 injection h1 with h3 _ h4
 injection h3 with h3
 injection h3 with h3
 injection h2 with h2 _
 injection h2 with _ h2
 injection h2 with h5 _ h6
 subst h3 h4 h5 h6;have hle2:k*sz≤cap*sz:=vY sz hle
 have hlt:cur.toList.length=cap*sz:=by rw [w9,hcs]
 have e1:cur.toList=xs++cur.toList.drop (k*sz):=by rw [←htk,uY]
 refine ⟨?_,.inr ⟨g,cap,_,z,rfl,rfl,hle,hcm,?_,?_,?_⟩⟩
 · simp only [tK,tL,tN];omega
 · rw [Fe (by rw [hcs];omega),hcs]
 · show(Ed cur i ys).toList.take (k*sz)=_
   unfold Ed;show(cur.toList.take i++ys++cur.toList.drop (i+ys.length)).take (k*sz)=_
   have t1:cur.toList.take i=xs.take i:=by
    conv=>lhs;rw [e1]
    exact vP (by omega)
   have t2:cur.toList.drop (i+ys.length)=xs.drop (i+ys.length)++cur.toList.drop (k*sz):=by
    conv=>lhs;rw [e1]
    exact List.drop_append_of_le_length (by omega)
   rw [t1,t2,←tO];refine ul ?_;simp only [tK,tL,tN];omega
 · show KY z (Ed cur i ys).size
   rw [Fe (by rw [hcs];omega)];exact hfr
theorem Sb{sz:Nat}{e:TypeId}{g k cap:Nat}{xs:List Value}{s:List AR}(h:BX sz e (I6 g k cap) k xs s)(i:Nat)(hi:i≤k):BX sz e (I6 g i cap) i (xs.take (i*sz)) s:=by
 obtain ⟨hl,⟨h1,_⟩|⟨g',cap',cur',z',h1,rfl,hle,hcm,hcs,htk,hfr⟩⟩:=h
 · injection h1 with h1;cases h1
 injection h1 with h3 _ h4
 injection h3 with h3
 injection h3 with h3
 subst h3 h4;have h5:i*sz≤k*sz:=vY sz hi
 refine ⟨by rw [tL];omega,.inr ⟨g,cap,cur',z',rfl,rfl,by omega,hcm,hcs,?_,hfr⟩⟩;rw [←htk,xB,wB h5]
theorem JD{sz:Nat}{e:TypeId}{g k cap:Nat}{cur:Array Value}{z:Nat×Nat}{xs:List Value}(h:BX sz e (I6 g k cap) k xs [(g,.cells cur e z)]):Bw cur 0 xs∧cur.size=cap*sz∧k≤cap∧cap≤maxLen∧KY z cur.size:=by
 obtain ⟨hl,⟨h1,_⟩|⟨g',cap',cur',z',h1,h2,hle,hcm,hcs,htk,hfr⟩⟩:=h
 · injection h1 with h1;cases h1
 injection h1 with h3 _ h4
 injection h2 with h2 _
 injection h2 with _ h2
 injection h2 with h5 _ h6
 subst h4 h5 h6;exact ⟨by unfold Bw;rw [wO,hl];exact htk,hcs,hle,hcm,hfr⟩
theorem Sa{sz:Nat}{e:TypeId}{g k cap:Nat}{cur:Array Value}{z:Nat×Nat}{xs:List Value}(h:BX sz e (I6 g k cap) k xs [(g,.cells cur e z)])(m:Nat)(hm:k≤m)(hmc:m≤cap):∃ys,ys.length=(m -k)*sz∧BX sz e (I6 g m cap) m (xs++ys) [(g,.cells cur e z)]:=by
 obtain ⟨hin,hcs,hle,hcm,hfr⟩:=JD h;have hl:=h.1
 have h1:m*sz≤cap*sz:=vY sz hmc;have h2:k*sz+(m -k)*sz=m*sz:=by rw [←wC];congr 1;omega
 unfold Bw at hin;rw [wO,hl]at hin;refine ⟨(cur.toList.drop (k*sz)).take ((m -k)*sz),by rw [tL,tN,w9,hcs];omega,?_,.inr ⟨g,cap,cur,z,rfl,rfl,hmc,hcm,hcs,?_,hfr⟩⟩
 · have hlt:cur.toList.length=cap*sz:=by rw [w9,hcs]
   rw [tK,tL,tN,hlt,hl];omega
 · conv=>rhs;rw [←hin]
   rw [←h2,List.take_add]
theorem Ia{c:Array Value}{o:Nat}{xs:List Value}(h:Bw c o xs)(i m:Nat)(hm:i+m≤xs.length):Bw c (o+i) ((xs.drop i).take m):=by
 unfold Bw at*;rw [tL,tN,wB (by omega)];conv=>rhs;rw [←h]
 rw [zU,xB,wB (by omega),yH]
theorem PY(z:Value)(m:Nat)(h:∀u∈z.cells.toList,u.oneCell'=true):∀y∈(Builtin.zeroCells z.cells m).toList,y.oneCell'=true:=by
 intro y hy;simp only [Builtin.zeroCells,zH,Array.mem_map,Array.mem_range]at hy;obtain ⟨j,hj,rfl⟩:=hy;refine h _ ?_;have hpos:0<z.cells.size:=by
  rcases vJ z.cells.size with h9|h9
  · rw [h9]at hj;omega
  · exact h9
 have hlt:j%z.cells.size<z.cells.size:=AA3 _ hpos;rw [getElem!_pos z.cells (j%z.cells.size) hlt];exact zH.2 (Array.getElem_mem hlt)
section
variable{P:Program}{u:World}{env:Env}{H H' R R2:Hp}{d:Option Nat}{ty:TypeId}{pos:String}{af:Array Edge}{g:Option (Nat×Bool)}
theorem J8{x y:Operand}{dT sT e:TypeId}{sz b o n cap b' o' n' cap':Nat}{c c1:Array Value}{T T1:TypeId}{z z1:Nat×Nat}{cs:List Value}
 (hu:P.underlying dT=some (.slice e))(hs:∀w:World,(Go.sizeOf e).run P w= .ok sz w)(hx:∀a,ev a env x= .slice (some ⟨b,o,none⟩) n cap)(hy:∀a,ev a env y= .slice (some ⟨b',o',none⟩) n' cap')
 (hsrc:Has b' (.cells c1 T1 z1) H)(hone:One [(b,.cells c T z)] H R)(hcs:Bw c1 o' cs)(hn:cs.length=min n' n*sz)(hfit:o+cs.length≤c.size)(hz:KY z c.size)(h1:∀v∈cs,v.oneCell'=true):
 OpW P u ⟨d,.call ⟨.builtin .copy,#[x,y],#[dT,sT]⟩,ty,pos,af,g⟩ env H (fun v H1=>v=I4 ((min n' n:Nat):Int)∧H1=[(b,.cells (Ed c o cs) T z)]::R) (fun _ _=>False):=fun a w hsat K Kp hK _=>by
 have hs1:Sat u ([(b,.cells c T z)]::R) w:=hsat.perm (by simpa using hone.perm);have hb:=hs1.get (b,.cells c T z) (by simp)
 have hb':=hsat.get _ hsrc.mem;have hl:=run_loadCells_list (P:=P) w ⟨b',o',none⟩ cs (I7 hb' hcs)
 rw [hn]at hl;have hst:=D8 (P:=P) b o T z cs 0 c w hb hz (by simpa using hfit) h1
 simp only [wU]at hst;have hmin:Nat.min n' n=min n' n:=rfl
 have:(execOp (ev a env) ⟨d,.call ⟨.builtin .copy,#[x,y],#[dT,sT]⟩,ty,pos,af,g⟩).run P w= .ok (.value (I4 ((min n' n:Nat):Int))) (w.setRow b (Ed c o cs)):=by
  simp [EJ,resolve,invoke,builtin,hx a,hy a,Builtin.copy_,run_underlying hu,Builtin.lenOf,Builtin.firstCells,hs,hmin,hl,hst,Ed,goInt]
 rw [this];exact hK _ _ _ ⟨rfl,rfl⟩ (hs1.upd (.here _) rfl rfl rfl (setRow_heap w b c _ T z hb) fun k hk=>setRow_other w b k _ hk)
theorem KV{x y:Operand}{t ti e T:TypeId}{i:TypeInfo}{z:Value}{by_ sz k m cap gb:Nat}{cur:Array Value}{zz:Nat×Nat}{xs:List Value}
 (ht:P.underlying t=some (.slice e))(hti:P.underlying ti=some (.int .i64))(hi:P.info? e=some i)(hsz:i.size=sz)(hby:i.bytes=by_)(hzi:i.zero=some z)(hz1:z.cells.size=sz)
 (hx:∀a,ev a env x=I6 gb k cap)(hy:∀a,ev a env y=I4 (m:Int))(hhas:Has gb (.cells cur T zz) H)(hin:Bw cur 0 xs)(hxl:xs.length=k*sz)(h0:0<m)(hs0:0<sz)(hg:cap<k+m)(h63:k+m≤maxLen)(hb:(k+m)*by_≤140737488355328):
 OpW P u ⟨d,.call ⟨.builtin .append,#[x,y],#[t,ti]⟩,ty,pos,af,g⟩ env H (fun v' H1=>∃s',BX sz e v' (k+m) (xs++(Builtin.zeroCells z.cells m).toList) s'∧H1=s'::H) (fun _ _=>False):=fun a w hsat K Kp hK _=>by
 have hml:=mL;have hl:=run_loadCells_list (P:=P) w.drew ⟨gb,0,none⟩ xs (I7 (hsat.drew.get _ hhas.mem) hin)
 rw [hxl]at hl;have hold:(Builtin.firstCells i.size k (I6 gb k cap)).run P w.drew= .ok xs.toArray w.drew:=by
  rw [hsz];simp [Builtin.firstCells,hl]
 have hmb:m*by_≤(k+m)*by_:=vY _ (by omega);have hr:=Lib.run_append_grow_zeros (P:=P) w t ti ty e i z .i64 .i64 ht hti hi hzi (some ⟨gb,0,none⟩) k cap xs hold m h0 (by omega) hg (by omega) (by rw [hby];omega) (growslice_fits (by omega) (by rw [hby];exact hb))
 have run_of:∀{v':Value} {w':World},(Builtin.append_ #[t,ti] ty #[I6 gb k cap,I4 (m:Int)]).run P w= .ok v' w'→(execOp (ev a env) ⟨d,.call ⟨.builtin .append,#[x,y],#[t,ti]⟩,ty,pos,af,g⟩).run P w= .ok (.value v') w':=fun h=>by
  simp only [EJ,resolve,invoke,builtin,wV,uo,wM,hx a,hy a,Sem.run_bind,Sem.run_pure,Result.andThen_ok,h]
 rw [run_of hr];have hge:=grownCap_ge w (k+m) cap e
 have hcap:grownCap w (k+m) cap e≤maxLen:=grownCap_le_maxLen w (k+m) cap e h63;have hall:(xs++(Builtin.zeroCells z.cells m).toList).length=(k+m)*sz:=by
  have hzl:(Builtin.zeroCells z.cells m).toList.length=m*sz:=by rw [w9,size_zeroCells,hz1]
  rw [tK,hzl,hxl,wC]
 refine hK _ _ _ ⟨[(w.heap.size,.cells (xs.toArray++Builtin.zeroCells z.cells m++Builtin.zeroCells z.cells (grownCap w (k+m) cap e -(k+m))) e (0,0))],⟨hall,.inr ⟨w.heap.size,grownCap w (k+m) cap e,_,(0,0),rfl,rfl,hge,hcap,?_,?_,BQ _⟩⟩,rfl⟩ (hsat.drew.alloc _)
 · simp only [yD,size_zeroCells,hz1,uP,hxl]
   rw [←wC,←wC];congr 1;omega
 · simp only [xO]
   exact ul hall
theorem Mk{x:Operand}{t e:TypeId}{i:TypeInfo}{z:Value}{sz gb k cap m c:Nat}{cur:Array Value}{T:TypeId}{zz:Nat×Nat}
 (ht:P.underlying t=some (.slice e))(hi:P.info? e=some i)(hzi:i.zero=some z)(hz1:z.cells.size=sz)(hzo:∀u∈z.cells.toList,u.oneCell'=true)
 (hx:∀a,ev a env x= .slice (ER (some ⟨gb,0,none⟩) k cap sz) m c)(hm:k+m≤cap)(hcs:cur.size=cap*sz)(hfr:KY zz cur.size)(hone:One [(gb,.cells cur T zz)] H R):
 OpW P u ⟨d,.call ⟨.builtin .clear,#[x],#[t]⟩,ty,pos,af,g⟩ env H (fun _ H1=>H1=[(gb,.cells (Ed cur (k*sz) (Builtin.zeroCells z.cells m).toList) T zz)]::R) (fun _ _=>False):=fun a w hsat K Kp hK _=>by
 have hs1:Sat u ([(gb,.cells cur T zz)]::R) w:=hsat.perm (by simpa using hone.perm);have run_of:∀{v':Value} {w':World},(Builtin.clear_ #[t] ty #[.slice (ER (some ⟨gb,0,none⟩) k cap sz) m c]).run P w= .ok v' w'→(execOp (ev a env) ⟨d,.call ⟨.builtin .clear,#[x],#[t]⟩,ty,pos,af,g⟩).run P w= .ok (.value v') w':=fun h=>by
  simp only [EJ,resolve,invoke,builtin,wV,uo,wM,hx a,Sem.run_bind,Sem.run_pure,Result.andThen_ok,h]
 rcases vJ m with h0|h0
 · subst h0
   have hr:(Builtin.clear_ #[t] ty #[.slice (ER (some ⟨gb,0,none⟩) k cap sz) 0 c]).run P w= .ok (.tuple #[]) w:=by
    have:∃q,ER (some ⟨gb,0,none⟩) k cap sz=some q:=by unfold ER;split<;>exact ⟨_,rfl⟩
    obtain ⟨q,hq⟩:=this;rw [hq];simp [Builtin.clear_,run_underlying ht]
   rw [run_of hr];refine hK _ _ _ rfl ?_;have:(Builtin.zeroCells z.cells 0).toList=[]:=uf (by rw [w9,size_zeroCells];simp)
   rw [this,iq];exact hs1
 · have hq:ER (some ⟨gb,0,none⟩) k cap sz=some ⟨gb,k*sz,none⟩:=by
    unfold ER;rw [if_neg (by omega),vV,CJ,uL]
   have hg:=hs1.get (gb,.cells cur T zz) (by simp);have hzl:(Builtin.zeroCells z.cells m).toList.length=m*sz:=by rw [w9,size_zeroCells,hz1]
   have hzone:∀y∈(Builtin.zeroCells z.cells m).toList,y.oneCell'=true:=PY z m hzo;have hfit:k*sz+m*sz≤cap*sz:=by rw [←wC];exact vY _ hm
   have hst:=D8 (P:=P) gb (k*sz) T zz (Builtin.zeroCells z.cells m).toList 0 cur w hg hfr (by rw [hzl,hcs];omega) hzone;have hr:(Builtin.clear_ #[t] ty #[.slice (ER (some ⟨gb,0,none⟩) k cap sz) m c]).run P w= .ok (.tuple #[]) (w.setRow gb (Ed cur (k*sz) (Builtin.zeroCells z.cells m).toList)):=by
    rw [hq];obtain ⟨m',rfl⟩:∃m',m=m'+1:=⟨m -1,by omega⟩;simp [Builtin.clear_,run_underlying ht,RS hi hzi,Ed]at hst⊢;simp [hst]
   rw [run_of hr];exact hK _ _ _ rfl (hs1.upd (.here _) rfl rfl rfl (setRow_heap w gb cur _ T zz hg) fun k hk=>setRow_other w gb k _ hk)
theorem Bn{t e:TypeId}{x lo:Operand}{b o n cap l sz:Nat}{lk:IntKind}(hu:P.underlying t=some (.slice e))(hs:∀w:World,(Go.sizeOf e).run P w= .ok sz w)(hx:∀a,ev a env x= .slice (some ⟨b,o,none⟩) n cap)(hl:∀a,ev a env lo= .int lk (l:Int))(h1:l≤n)(h2:l<cap):
 OpP P ⟨d,.slice t x (some lo) none none,ty,pos,af,g⟩ env [] (.slice (some ⟨b,o+l*sz,none⟩) (n -l) (cap -l)):=by
 have h:=Bz (d:=d) (ty:=ty) (pos:=pos) (af:=af) (g:=g) hu hs hx hl h1;have e1:ER (some ⟨b,o,none⟩) l cap sz=some ⟨b,o+l*sz,none⟩:=by
  unfold ER;rw [if_neg (by omega),vV,CJ]
 rwa [e1]at h
theorem VT{t ty b j s1 s2:Nat}{fn:Func}{v x y:Value}(hr:fn.results=#[.cell t ty,.tmp s1,.tmp s2]){w:World}{tmps:Array Value}(hx:tmps.getD t undef= .pointer (some ⟨b,j,none⟩))(hl:(loadVar ty ⟨b,j,none⟩).run P w= .ok v w)(hy:tmps.getD s1 undef=x)(hz:tmps.getD s2 undef=y):(results fn tmps).run P w= .ok (.tuple #[v,x,y]) w:=by
 rw [uM]at hx hy hz;simp [results,hr,hx,hy,hz,asAddr,hl]
theorem Gj{e:Exit}{N:Nat}{r:Option Nat}{fn:Func}{Q:Value→Hp→Prop}{Pn:List PanicEntry→Hp→Prop}{H':Hp}{t ty b j s1 s2:Nat}{v x y:Value}{o:Obj}(he:FC e=true)(hr:fn.results=#[.cell t ty,.tmp s1,.tmp s2])(hv:∀a,Ep a env t= .pointer (some ⟨b,j,none⟩))(hb:Has b o H)(hl:∀w:World,w.heap[b]?=some o→(loadVar ty ⟨b,j,none⟩).run P w= .ok v w)(hx:∀a,Ep a env s1=x)(hy:∀a,Ep a env s2=y)(hq:Q (.tuple #[v,x,y]) H')(hp:Sub (H'++R) H:=by repeat(first|exact Sub.refl _|exact Sub.nil _|(apply Sub.cons;(focus (repeat(first|exact One.here _ _|apply One.there))))|refine Sub.drop _ ?_)):Nx ⟨N,[],u,r⟩ (bodyPost P fn (Ff u R Q Pn) e) env H:=
 JY he (fun a w hs=>VT hr (by rw [Bu a env (by rw [hs.size];exact hs.fit),hv a]) (hl w (hs.sat.get _ hb.mem)) (by rw [Bu a env (by rw [hs.size];exact hs.fit),hx a]) (by rw [Bu a env (by rw [hs.size];exact hs.fit),hy a])) hq hp
theorem UC{t s q k:Nat}{fn:Func}(hr:fn.results=#[.tmp t,.tmp s,.tmp q,.tmp k])(w:World)(tmps:Array Value):(results fn tmps).run P w= .ok (.tuple #[tmps.getD t undef,tmps.getD s undef,tmps.getD q undef,tmps.getD k undef]) w:=by simp [results,hr]
theorem mV{e:Exit}{N:Nat}{r:Option Nat}{fn:Func}{Q:Value→Hp→Prop}{Pn:List PanicEntry→Hp→Prop}{H':Hp}{t s q k:Nat}{v x y z:Value}(he:FC e=true)(hr:fn.results=#[.tmp t,.tmp s,.tmp q,.tmp k])(hv:∀a,Ep a env t=v)(hx:∀a,Ep a env s=x)(hy:∀a,Ep a env q=y)(hz:∀a,Ep a env k=z)(hq:Q (.tuple #[v,x,y,z]) H')(hp:Sub (H'++R) H:=by repeat(first|exact Sub.refl _|exact Sub.nil _|(apply Sub.cons;(focus (repeat(first|exact One.here _ _|apply One.there))))|refine Sub.drop _ ?_)):Nx ⟨N,[],u,r⟩ (bodyPost P fn (Ff u R Q Pn) e) env H:=
 JY he (fun a w hs=>by rw [UC hr,Bu a env (by rw [hs.size];exact hs.fit),Bu a env (by rw [hs.size];exact hs.fit),Bu a env (by rw [hs.size];exact hs.fit),Bu a env (by rw [hs.size];exact hs.fit),hv a,hx a,hy a,hz a]) hq hp
theorem QW{f:FuncId}{fn:Func}{ax:Array Operand}{ats:Array TypeId}{tS tR e:TypeId}{size a b oa ob la ca lb cb:Nat}{xa xb:Array Value}{Ta Tb:TypeId}{zb:Nat×Nat}
 (hf:P.funcs[f]?=some fn)(hname:(fn.name== "runtime.NumGoroutine")=false)(hb:fn.body.isNone=true)(hn:Extern.findNext fn=none)(he:Extern.find fn=some (Extern.SlicesOverlaps.overlaps #[tS,tS] #[tR]))
 (ht:P.underlying tS=some (.slice e))(hz:∀w:World,(Go.sizeOf e).run P w= .ok size w)(ha:∀c,ax.toList.map (ev c env)=[.slice (some ⟨a,oa,none⟩) la ca,.slice (some ⟨b,ob,none⟩) lb cb])(hne:a≠b)(hk:xb.size≠0):
 OpP P ⟨d,.call ⟨.value (.func f),ax,ats⟩,ty,pos,af,g⟩ env [(a,.cells xa Ta (0,0)),(b,.cells xb Tb zb)] (.bool false):=fun c w hs=>by
 have g1:=hs (a,.cells xa Ta (0,0)) (by simp);have g2:=hs (b,.cells xb Tb zb) (by simp)
 have h1:ax.map (ev c env)=#[.slice (some ⟨a,oa,none⟩) la ca,.slice (some ⟨b,ob,none⟩) lb cb]:=by
  have:=Jl (ev c env) ax;rw [this,ha c]
 have h2:=run_callFunc_extern hf hname hb hn he #[.slice (some ⟨a,oa,none⟩) la ca,.slice (some ⟨b,ob,none⟩) lb cb] w;rw [Lib.run_overlaps_apart w tS tR e ht size hz ⟨a,oa,none⟩ ⟨b,ob,none⟩ la ca lb cb hne Ta Tb xa.size xb.size (by simp [World.shape?,g1]) (by simp [World.shape?,g2]) hk (by simp [World.frozen?,g1]) (by simp [World.frozen?,g1])]at h2;have h3:ev c env (.func f)= .func (.func f) #[] #[]:=rfl
 simp [EJ,resolve,h3,Deferred.ofValue,invoke,h1,h2,Result.andThen]
end
section
variable{P:Program}{u:World}{H R:Hp}{env:Env}
theorem UA{s0 t ty b j s1 s2:Nat}{fn:Func}{o v x y:Value}(hr:fn.results=#[.tmp s0,.cell t ty,.tmp s1,.tmp s2]){w:World}{tmps:Array Value}(ho:tmps.getD s0 undef=o)(hx:tmps.getD t undef= .pointer (some ⟨b,j,none⟩))(hl:(loadVar ty ⟨b,j,none⟩).run P w= .ok v w)(hy:tmps.getD s1 undef=x)(hz:tmps.getD s2 undef=y):(results fn tmps).run P w= .ok (.tuple #[o,v,x,y]) w:=by
 rw [uM]at ho hx hy hz;simp [results,hr,ho,hx,hy,hz,asAddr,hl]
theorem Y5{e:Exit}{N:Nat}{r:Option Nat}{fn:Func}{Q:Value→Hp→Prop}{Pn:List PanicEntry→Hp→Prop}{H':Hp}{s0 t ty b j s1 s2:Nat}{z v x y:Value}{o:Obj}(he:FC e=true)(hr:fn.results=#[.tmp s0,.cell t ty,.tmp s1,.tmp s2])(hz:∀a,Ep a env s0=z)(hv:∀a,Ep a env t= .pointer (some ⟨b,j,none⟩))(hb:Has b o H)(hl:∀w:World,w.heap[b]?=some o→(loadVar ty ⟨b,j,none⟩).run P w= .ok v w)(hx:∀a,Ep a env s1=x)(hy:∀a,Ep a env s2=y)(hq:Q (.tuple #[z,v,x,y]) H')
 (hp:Sub (H'++R) H:=by repeat(first|exact Sub.refl _|exact Sub.nil _|(apply Sub.cons;(focus (repeat(first|exact One.here _ _|apply One.there))))|refine Sub.drop _ ?_)):Nx ⟨N,[],u,r⟩ (bodyPost P fn (Ff u R Q Pn) e) env H:=
 JY he (fun a w hs=>UA hr (by rw [Bu a env (by rw [hs.size];exact hs.fit),hz a]) (by rw [Bu a env (by rw [hs.size];exact hs.fit),hv a]) (hl w (hs.sat.get _ hb.mem)) (by rw [Bu a env (by rw [hs.size];exact hs.fit),hx a]) (by rw [Bu a env (by rw [hs.size];exact hs.fit),hy a])) hq hp
theorem VU{t ty b j t2 ty2 b2 j2 s1:Nat}{fn:Func}{v v2 x:Value}(hr:fn.results=#[.cell t ty,.cell t2 ty2,.tmp s1]){w:World}{tmps:Array Value}(hx:tmps.getD t undef= .pointer (some ⟨b,j,none⟩))(hl:(loadVar ty ⟨b,j,none⟩).run P w= .ok v w)(hx2:tmps.getD t2 undef= .pointer (some ⟨b2,j2,none⟩))(hl2:(loadVar ty2 ⟨b2,j2,none⟩).run P w= .ok v2 w)(hy:tmps.getD s1 undef=x):(results fn tmps).run P w= .ok (.tuple #[v,v2,x]) w:=by
 rw [uM]at hx hx2 hy;simp [results,hr,hx,hx2,hy,asAddr,hl,hl2]
theorem dF{e:Exit}{N:Nat}{r:Option Nat}{fn:Func}{Q:Value→Hp→Prop}{Pn:List PanicEntry→Hp→Prop}{H':Hp}{t ty b j t2 ty2 b2 j2 s1:Nat}{v v2 x:Value}{o o2:Obj}(he:FC e=true)(hr:fn.results=#[.cell t ty,.cell t2 ty2,.tmp s1])(hv:∀a,Ep a env t= .pointer (some ⟨b,j,none⟩))(hv2:∀a,Ep a env t2= .pointer (some ⟨b2,j2,none⟩))(hx:∀a,Ep a env s1=x)(hb:Has b o H)(hb2:Has b2 o2 H)(hl:∀w:World,w.heap[b]?=some o→(loadVar ty ⟨b,j,none⟩).run P w= .ok v w)(hl2:∀w:World,w.heap[b2]?=some o2→(loadVar ty2 ⟨b2,j2,none⟩).run P w= .ok v2 w)(hq:Q (.tuple #[v,v2,x]) H')
 (hp:Sub (H'++R) H:=by repeat(first|exact Sub.refl _|exact Sub.nil _|(apply Sub.cons;(focus (repeat(first|exact One.here _ _|apply One.there))))|refine Sub.drop _ ?_)):Nx ⟨N,[],u,r⟩ (bodyPost P fn (Ff u R Q Pn) e) env H:=
 JY he (fun a w hs=>VU hr (by rw [Bu a env (by rw [hs.size];exact hs.fit),hv a]) (hl w (hs.sat.get _ hb.mem)) (by rw [Bu a env (by rw [hs.size];exact hs.fit),hv2 a]) (hl2 w (hs.sat.get _ hb2.mem)) (by rw [Bu a env (by rw [hs.size];exact hs.fit),hx a])) hq hp
end
end Gw
