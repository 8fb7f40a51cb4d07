/- Walking by chunks: copy, append, slices of arrays, bytes out of a string. No function of the program is named. -/
import Derived.Test.YtlkdhannldcfbaaGreatDoorEx4
import Derived.Sort.OwnSortedInts
import Derived.Lib.SlicesCompact
set_option linter.unusedVariables false
set_option linter.unusedSimpArgs false
namespace Gw
open Go Go.RowKit
section
variable{P:Program}{env:Env}{d:Option Nat}{ty:AM}{pos:String}{af:Array Edge}{g:Option (Nat×Bool)}
section
variable{t e:AM}{n:Nat}{x lo hi:Operand}{b o l h s:Nat}{lk hk:IntKind}
theorem Fg(E:P.underlying t=some (.array n e))(m:∀w:A6,(Go.sizeOf e).run P w= .ok s w)(hx:∀a,ev a env x= .pointer (some ⟨b,o,none⟩)):
 OpP P ⟨d,.slice t x none none none,ty,pos,af,g⟩ env [] (.slice (some ⟨b,o,none⟩) n n):=fun a w _=>by
 simp [Ie,hx a,Instr.sliceAt,run_underlying E,Instr.sureAddr,Instr.sliceBounds,m,Addr.add]
theorem QN(I:P.underlying t=some (.array n e))(G:∀w:A6,(Go.sizeOf e).run P w= .ok s w)(hx:∀a,ev a env x= .pointer (some ⟨b,o,none⟩))(E:∀a,ev a env lo= .int lk (l:Int))(J:l<n):
 OpP P ⟨d,.slice t x (some lo) none none,ty,pos,af,g⟩ env [] (.slice (some ⟨b,o+l*s,none⟩) (n -l) (n -l)):=fun a w _=>by
 have h2:l<=n:=by omega
 have m:¬n=l:=by omega
 simp [Ie,hx a,E a,Instr.sliceAt,run_underlying I,Instr.sureAddr,Instr.sliceBounds,Instr.sliceBound,asIntOf,G,h2,m,Cb]
theorem Sz(I:P.underlying t=some (.array n e))(G:∀w:A6,(Go.sizeOf e).run P w= .ok s w)(hx:∀a,ev a env x= .pointer (some ⟨b,o,none⟩))(E:∀a,ev a env hi= .int hk (h:Int))(m:h<=n):
 OpP P ⟨d,.slice t x none (some hi) none,ty,pos,af,g⟩ env [] (.slice (some ⟨b,o,none⟩) h n):=fun a w _=>by
 simp [Ie,hx a,E a,Instr.sliceAt,run_underlying I,Instr.sureAddr,Instr.sliceBounds,Instr.sliceBound,asIntOf,G,m,Addr.add]
end
theorem Sy{t e:AM}{x lo hi m:Operand}{b o n cap l h s:Nat}{lk hk mk:IntKind}(O:P.underlying t=some (.slice e))(M:∀w:A6,(Go.sizeOf e).run P w= .ok s w)(hx:∀a,ev a env x= .slice (some ⟨b,o,none⟩) n cap)(J:∀a,ev a env lo= .int lk (l:Int))(I:∀a,ev a env hi= .int hk (h:Int))(K:∀a,ev a env m= .int mk (h:Int))(U:l<h)(h2:h<=cap):
 OpP P ⟨d,.slice t x (some lo) (some hi) (some m),ty,pos,af,g⟩ env [] (.slice (some ⟨b,o+l*s,none⟩) (h -l) (h -l)):=fun a w _=>by
 have E:l<=h:=by omega
 have G:¬h=l:=by omega
 simp [Ie,hx a,J a,I a,K a,Instr.sliceAt,Instr.slice,run_underlying O,Instr.sliceBounds,Instr.sliceBound,asIntOf,h2,E,G,M,Cb]
variable{u:A6}{H H' R:Hp}
def CG(c:AN)(o:Nat)(cs:List A4):Prop:=(c.toList.drop o).take cs.length=cs
theorem CG.get{c:AN}{o:Nat}{cs:List A4}(h:CG c o cs)(j:Nat)(v:A4)(G:cs[j]?=some v):c[o+j]?=some v:=by
 have m:j<cs.length:=(zt.1 G).1;have E:((c.toList.drop o).take cs.length)[j]?=cs[j]?:=by rw [h]
 rw [Gk,B0 m,Hh,HS,G]at E;exact E
theorem JA{w:A6}{b o:Nat}{c:AN}{T:AM}{z:Nat×Nat}{cs:List A4}(m:w.heap[b]?=some (.cells c T z))(h:CG c o cs):∀j v,cs[j]?=some v->w.cell? ((⟨b,o,none⟩:Addr).add j)=some v:=fun j v E=>by
 rw [Cb];exact D8 m (h.get j v E)
theorem wS{x y:Operand}{W sT e:AM}{b o n cap U o' n' E:Nat}{c c' c1:AN}{T T1:AM}{z z1:Nat×Nat}{cs:List A4}
 (hu:P.underlying W=some (.slice e))(hs:∀w:A6,(Go.sizeOf e).run P w= .ok 1 w)(hx:∀a,ev a env x= .slice (some ⟨b,o,none⟩) n cap)(hy:∀a,ev a env y= .slice (some ⟨U,o',none⟩) n' E)
 (J:Has U (.cells c1 T1 z1) H)(O:Upd b (.cells c T z) (.cells c' T z) H H')(Z:CG c1 o' cs)(hn:cs.length=min n' n)(hc:FD c o cs=c')(G:o+cs.length<=c.size)(hz:MH z c.size)(h1:∀v∈cs,v.oneCell'=true):
 OpW P u ⟨d,.call ⟨.builtin .copy,#[x,y],#[W,sT]⟩,ty,pos,af,g⟩ env H (fun v H1=>v=I4 ((min n' n:Nat):Int)/\H1=H') (fun _ _=>False):=fun a w m K Kp hK _=>by
 have hb:=m.get _ O.has.mem;have X:=m.get _ J.mem
 have hl:=run_loadCells_list (P:=P) w ⟨U,o',none⟩ cs (JA X Z);rw [hn]at hl;have M:=Dn (P:=P) b o T z cs 0 c w hb hz (by simpa using G) h1
 simp only [OR]at M;have I:Nat.min n' n=min n' n:=rfl
 have:(execOp (ev a env) ⟨d,.call ⟨.builtin .copy,#[x,y],#[W,sT]⟩,ty,pos,af,g⟩).run P w= .ok (.value (I4 ((min n' n:Nat):Int))) (w.setRow b (FD c o cs)):=by
  simp [EW,resolve,invoke,builtin,hx a,hy a,Builtin.copy_,run_underlying hu,Builtin.lenOf,Builtin.firstCells,hs,I,hl,M,FD,goInt]
 rw [this];exact hK _ _ _ ⟨rfl,rfl⟩ (m.upd O rfl rfl rfl (by rw [setRow_heap w b c _ T z hb,hc]) fun k hk=>setRow_other w b k _ hk)
def Row(e:AM)(v:A4)(xs:List A4)(s:List AU):Prop:=
 (v= .slice none 0 0/\xs=[]/\s=[])\/
 ∃g cap cur z,v=I6 g xs.length cap/\s=[(g,.cells cur e z)]/\xs.length<=cap/\cap<=maxLen/\cur.size=cap/\cur.toList.take xs.length=xs/\MH z cur.size
theorem JO(e:AM):Row e (.slice none 0 0) [] []:= .inl ⟨rfl,rfl,rfl⟩
theorem gQ(e:AM)(g:Nat)(xs:List A4)(n:Nat)(hn:xs.length=n)(h:n<=maxLen):Row e (I6 g n n) xs [(g,.cells xs.toArray e (0,0))]:=by
 subst hn;exact .inr ⟨g,xs.length,xs.toArray,(0,0),V,V,B8 _,h,by simp,by simp,BU _⟩
theorem Row.form{e:AM}{v:A4}{xs:List A4}{s:List AU}(h:Row e v xs s):∃b cap,v= .slice b xs.length cap:=by
 rcases h with⟨rfl,rfl,rfl⟩|⟨g,cap,cur,z,rfl,_⟩
 · exact ⟨none,0,rfl⟩
 · exact ⟨some ⟨g,0,none⟩,cap,rfl⟩
theorem Row.some{e:AM}{v:A4}{xs:List A4}{s:List AU}(h:Row e v xs s)(hn:0<xs.length):∃g cap cur z,v=I6 g xs.length cap/\s=[(g,.cells cur e z)]/\xs.length<=cap/\cap<=maxLen/\cur.size=cap/\cur.toList.take xs.length=xs/\MH z cur.size:=by
 rcases h with⟨_,rfl,_⟩|h
 · cases hn
 · exact h
theorem EQ{x y:Operand}{t e:AM}{i:TypeInfo}{z:A4}{by_:Nat}{v:A4}{xs:List A4}{s:List AU}{b o m c:Nat}{c1:AN}{T1:AM}{z1:Nat×Nat}{news:List A4}
 (ht:P.underlying t=some (.slice e))(hi:P.info? e=some i)(O:i.size=1)(cO:i.bytes=by_)(l9:i.zero=some z)(mR:z.oneCell'=true)
 (hx:∀a,ev a env x=v)(gm:Row e v xs s)(hy:∀a,ev a env y= .slice (some ⟨b,o,none⟩) m c)(d9:One s H R)(kv:Has b (.cells c1 T1 z1) R)(Z:CG c1 o news)(M:news.length=m)(h1:∀u∈news,u.oneCell'=true)
 (hm:0<m)(U:xs.length+m<=maxLen)(hb:(xs.length+m)*by_<=140737488355328):
 OpW P u ⟨d,.call ⟨.builtin .append,#[x,y],#[t,t]⟩,ty,pos,af,g⟩ env H (fun v' H1=>∃s',Row e v' (xs++news) s'/\H1=s'::R) (fun _ _=>False):=fun a w gy K Kp hK _=>by
 have bn:Sat u (s::R) w:=gy.perm (by simpa using d9.perm);have gq:Sat u R w:=bn.sub ⟨s,by simp only [GP];exact RE⟩
 have cu:=gq.get _ kv.mem;have ax:=JA cu Z
 have l8:z.cells=#[z]:=by cases z<;>first|rfl|simp [Value.oneCell']at mR
 have X:news.length=m*i.size:=by rw [O];omega
 have o8:maxLen=9223372036854775807:=rfl;have E:∀{v':A4} {w':A6},(Builtin.append_ #[t,t] ty #[v,.slice (some ⟨b,o,none⟩) m c]).run P w= .ok v' w'->(execOp (ev a env) ⟨d,.call ⟨.builtin .append,#[x,y],#[t,t]⟩,ty,pos,af,g⟩).run P w= .ok (.value v') w':=fun h=>by
  simp only [EW,resolve,invoke,builtin,Rg,HJ,LR,hx a,hy a,Sem.run_bind,Sem.run_pure,Result.andThen_ok,h]
 have G:∀(n cap:Nat) (cells:AN) (w1:A6),w1={w with drawn:=n,heap:=w.heap.push (.cells cells e)}->Sat u ([(w.heap.size,.cells cells e (0,0))]::R) w1:=fun n cap cells w1 h=>by
  subst h;exact (gq.drawn n).alloc _
 rcases gm with⟨rfl,rfl,rfl⟩|⟨gb,cap,cur,zz,rfl,rfl,hle,hcm,hcs,htk,hfr⟩
 · have hr:=run_append_nil (P:=P) w t ty e i z ht hi l9 ⟨b,o,none⟩ m c news X ax hm (by simp only [KK,C6]at U;omega) (by rw [cO];simp only [KK,C6]at hb;omega)
   rw [E hr];have W:=grownCap_ge w m 0 e
   have I:grownCap w m 0 e<=maxLen:=grownCap_le_maxLen w m 0 e (by simpa using U);refine hK _ _ _ ⟨[(w.heap.size,.cells (news.toArray++Builtin.zeroCells z.cells (grownCap w m 0 e -m)) e (0,0))],.inr ⟨w.heap.size,grownCap w m 0 e,_,(0,0),?_,rfl,?_,I,?_,?_,BU _⟩,rfl⟩ (G _ 0 _ _ rfl);· simp [M]
   · simpa [M]using W
   · simp [size_zeroCells,l8,M];omega
   · simp [M]
 · have hg:=bn.get (gb,.cells cur e zz) (by simp)
   by_cases J:xs.length+m<=cap
   · have hf:=run_firstCells_some (P:=P) w i.size m ⟨b,o,none⟩ m c news X ax
     rw [O]at hf;have kz:=Dn (P:=P) gb xs.length e zz news 0 cur w hg hfr (by rw [M,hcs];omega) h1
     simp only [OR]at kz;have hr:(Builtin.append_ #[t,t] ty #[I6 gb xs.length cap,.slice (some ⟨b,o,none⟩) m c]).run P w= .ok (I6 gb (xs.length+m) cap) (w.setRow gb (FD cur xs.length news)):=by
      simp [Builtin.append_,run_underlying ht,Go.sizeOf,typeInfo,hi,O,Builtin.lenOf,J,hf,Cb,kz,FD]
     rw [E hr];have ek:(FD cur xs.length news).size=cap:=by
      unfold FD;simp;omega
     refine hK _ _ _ ⟨[(gb,.cells (FD cur xs.length news) e zz)],.inr ⟨gb,cap,_,zz,by simp [M],rfl,by simpa [M]using J,hcm,ek,?_,by rw [ek,<-hcs];exact hfr⟩,rfl⟩
      (bn.upd (.here _) rfl rfl rfl (setRow_heap w gb cur _ e zz hg) fun k hk=>setRow_other w gb k _ hk)
     unfold FD;rw [htk];simp only [D2];rw [<-D2];exact Hi B3
   · have bf:∀j v,xs[j]?=some v->w.cell? ((⟨gb,0,none⟩:Addr).add j)=some v:=fun j v hj=>by
      rw [Cb];refine D8 hg ?_;have lv:j<xs.length:=(zt.1 hj).1
      have:(cur.toList.take xs.length)[j]?=some v:=by rw [htk];exact hj
      rw [Gk,B0 lv]at this;simpa using this
     have hr:=run_append_grow (P:=P) w t ty e i z ht hi l9 ⟨gb,0,none⟩ xs.length cap xs (by rw [O];omega) bf ⟨b,o,none⟩ m c news X ax A0 A0 (growslice_fits A0 (by rw [cO];exact hb));rw [E hr];have W:=grownCap_ge w (xs.length+m) cap e
     have I:grownCap w (xs.length+m) cap e<=maxLen:=grownCap_le_maxLen w (xs.length+m) cap e U;refine hK _ _ _ ⟨[(w.heap.size,.cells (xs.toArray++news.toArray++Builtin.zeroCells z.cells (grownCap w (xs.length+m) cap e -(xs.length+m))) e (0,0))],.inr ⟨w.heap.size,grownCap w (xs.length+m) cap e,_,(0,0),?_,V,?_,I,?_,?_,BU _⟩,V⟩ (G _ 0 _ _ V);· simp [M]
     · simpa [M]using W
     · simp [size_zeroCells,l8,M];omega
     · simp only [cG]
       exact Hi B3
theorem su{s t e:AM}{x:Operand}{str:ByteArray}(hs:P.underlying s=some .string)(ht:P.underlying t=some (.slice e))(he:P.underlying e=some (.int .u8))(hx:∀a,ev a env x= .string str)(hm:str.size<=maxLen):
 OpW P u ⟨d,.convert s t x,ty,pos,af,g⟩ env H (fun v' H1=>∃W,Row e v' (str.data.toList.map u8v) W/\H1=W::H) (fun _ _=>False):=fun a w M K Kp Z _=>by
 have O:str.size<=grownCap w str.size 0 e:=grownCap_ge w str.size 0 e;have I:grownCap w str.size 0 e<=maxLen:=grownCap_le_maxLen w str.size 0 e hm
 have E:(str.data.toList.map u8v).length=str.size:=by rw [zu];rfl
 obtain ⟨cells,m⟩:∃cells:AN,cells=str.data.map (fun b=>Value.int .u8 b.toNat)++Array.replicate (grownCap w str.size 0 e -str.size) (.int .u8 0):=⟨_,rfl⟩;have G:cells.size=grownCap w str.size 0 e:=by
  have:str.data.size=str.size:=rfl;rw [m];simp [this];omega
 have J:(execOp (ev a env) ⟨d,.convert s t x,ty,pos,af,g⟩).run P w= .ok (.value (.slice (some ⟨w.heap.size,0,none⟩) str.size (grownCap w str.size 0 e))) (World.freeze {w with drawn:=w.drawn+1,heap:=w.heap.push (.cells cells e)} ⟨w.heap.size,cells.size,none⟩ 1):=by
  have U:(({w with drawn:=w.drawn+1,heap:=w.heap.push (.cells cells e)}:A6).shape? w.heap.size)=some (e,cells.size):=by
   simp [World.shape?]
  simp only [Pp,hx a,convert,Sem.run_bind,run_underlying hs,run_underlying ht,run_underlying he,Result.andThen_ok,Conv.stringToBytes,choose,Sem.run,Question.forced,newRow,newObj,Sem.run_pure,Mn,Hb];rw [show Question.cut (.appendCap str.size 0 e) (w.tape w.drawn (.appendCap str.size 0 e))=grownCap w str.size 0 e from rfl,<-m];simp [markStringish,U]
 rw [J];refine Z _ _ _ ⟨[(w.heap.size,.cells cells e (cells.size,cells.size+1))],.inr ⟨w.heap.size,grownCap w str.size 0 e,cells,(cells.size,cells.size+1),by rw [E],rfl,by rw [E];exact O,I,G,?_,ZQ _ _ (B8 _) _⟩,rfl⟩ ?_
 · rw [E,m]
   have:str.data.size=str.size:=rfl;simp [u8v,fc,List.take_append,this]
 · have X:Sat u ([(w.heap.size,.cells cells e (0,0))]::H) {w with drawn:=w.drawn+1,heap:=w.heap.push (.cells cells e)}:=(M.drawn (w.drawn+1)).alloc _
   refine X.upd (.here _) ?_ ?_ ?_ ?_ fun k hk=>?_;· simp [World.freeze]
   · simp [World.freeze]
   · simp [World.freeze]
   · simp only [World.freeze,Nat.one_ne_zero,Hb]
     rw [RK,B0 rfl];simp
   · simp [World.freeze,RK,Ne.symm hk]
end
theorem Bl{P:Program}{cx:Cx}{c:Code}{Q:Exit->Act->A6->Prop}{env:Env}{H:Hp}(h:At P cx c Q env ([]::H)):At P cx c Q env H:=ik (H':=[]::H) rfl h
def BZ(sz:Nat)(e:AM)(v:A4)(k:Nat)(xs:List A4)(s:List AU):Prop:=
 xs.length=k*sz/\((v= .slice none 0 0/\k=0/\s=[])\/
 ∃g cap cur z,v=I6 g k cap/\s=[(g,.cells cur e z)]/\k<=cap/\cap<=maxLen/\cur.size=cap*sz/\cur.toList.take (k*sz)=xs/\MH z cur.size)
theorem Ba(sz:Nat)(e:AM):BZ sz e (.slice none 0 0) 0 [] []:=⟨by simp,.inl ⟨rfl,rfl,rfl⟩⟩
theorem BZ.form{sz:Nat}{e:AM}{v:A4}{k:Nat}{xs:List A4}{s:List AU}(h:BZ sz e v k xs s):∃b cap,v= .slice b k cap:=by
 rcases h with⟨_,⟨rfl,rfl,rfl⟩|⟨g,cap,cur,z,rfl,_⟩⟩
 · exact ⟨none,0,rfl⟩
 · exact ⟨some ⟨g,0,none⟩,cap,rfl⟩
theorem BZ.cut{sz:Nat}{e:AM}{b:B7}{n cap k:Nat}{xs:List A4}{s:List AU}(h:BZ sz e (.slice b n cap) k xs s):BZ sz e (.slice b 0 cap) 0 [] s:=by
 rcases h with⟨_,⟨m,rfl,rfl⟩|⟨g,J,cur,z,m,rfl,K,E,G,M,I⟩⟩
 · simp only [Value.slice.injEq]at m
   obtain ⟨rfl,rfl,rfl⟩:=m;exact Ba sz e
 · simp only [Value.slice.injEq]at m
   obtain ⟨rfl,rfl,rfl⟩:=m;exact ⟨by simp,.inr ⟨g,cap,cur,z,V,V,C2 _,E,G,by simp,I⟩⟩
theorem UD{P:Program}{e:AM}{i:TypeInfo}{z:A4}(hi:P.info? e=some i)(m:i.zero=some z)(w:A6):(zeroValue e).run P w= .ok z w:=by
 simp [zeroValue,typeInfo,hi,m]
section
variable{P:Program}{u:A6}{env:Env}{H R:Hp}{d:Option Nat}{ty:AM}{pos:String}{af:Array Edge}{g:Option (Nat×Bool)}
theorem Uj{x y:Operand}{t e:AM}{i:TypeInfo}{z:A4}{by_ sz k:Nat}{v:A4}{xs:List A4}{s:List AU}{b o m c:Nat}{news:List A4}
 (ht:P.underlying t=some (.slice e))(hi:P.info? e=some i)(W:i.size=sz)(cu:i.bytes=by_)(kz:i.zero=some z)(kv:z.cells.size=sz)
 (hx:∀a,ev a env x=v)(O:BZ sz e v k xs s)(hy:∀a,ev a env y= .slice (some ⟨b,o,none⟩) m c)(d9:One s H R)(cO:∀w,Sat u R w->∀j v,news[j]?=some v->w.cell? ((⟨b,o,none⟩:Addr).add j)=some v)(hl:news.length=m*sz)(h1:∀u∈news,u.oneCell'=true)
 (hm:0<m)(l8:k+m<=maxLen)(hb:(k+m)*by_<=140737488355328):
 OpW P u ⟨d,.call ⟨.builtin .append,#[x,y],#[t,t]⟩,ty,pos,af,g⟩ env H (fun v' H1=>∃s',BZ sz e v' (k+m) (xs++news) s'/\H1=s'::R) (fun _ _=>False):=fun a w gq K Kp hK _=>by
 have bf:Sat u (s::R) w:=gq.perm (by simpa using d9.perm);have gm:Sat u R w:=bf.sub ⟨s,by simp only [GP];exact RE⟩
 have Z:=cO w gm;have X:news.length=m*i.size:=by rw [W];omega
 have o8:maxLen=9223372036854775807:=rfl;have E:∀{v':A4} {w':A6},(Builtin.append_ #[t,t] ty #[v,.slice (some ⟨b,o,none⟩) m c]).run P w= .ok v' w'->(execOp (ev a env) ⟨d,.call ⟨.builtin .append,#[x,y],#[t,t]⟩,ty,pos,af,g⟩).run P w= .ok (.value v') w':=fun h=>by
  simp only [EW,resolve,invoke,builtin,Rg,HJ,LR,hx a,hy a,Sem.run_bind,Sem.run_pure,Result.andThen_ok,h]
 have J:∀(n cap:Nat) (cells:AN) (w1:A6),w1={w with drawn:=n,heap:=w.heap.push (.cells cells e)}->Sat u ([(w.heap.size,.cells cells e (0,0))]::R) w1:=fun n cap cells w1 h=>by
  subst h;exact (gm.drawn n).alloc _
 obtain ⟨bn,O⟩:=O;have G:(xs++news).length=(k+m)*sz:=by rw [zq,bn,hl,It]
 have split:∀n p:Nat,p<=n->p*sz+(n -p)*sz=n*sz:=fun n p h=>by rw [<-It];congr 1;omega
 rcases O with⟨rfl,rfl,rfl⟩|⟨gb,cap,cur,zz,rfl,rfl,hle,hcm,hcs,htk,hfr⟩
 · have l9:xs=[]:=Lq (by omega)
   subst l9;have hr:=run_append_nil (P:=P) w t ty e i z ht hi kz ⟨b,o,none⟩ m c news X Z hm (by omega) (by rw [cu];exact SZ (by simpa using hb) (by decide:140737488355328<=281474976710656))
   rw [E hr];have U:=grownCap_ge w m 0 e
   have M:grownCap w m 0 e<=maxLen:=grownCap_le_maxLen w m 0 e (by omega);refine hK _ _ _ ⟨[(w.heap.size,.cells (news.toArray++Builtin.zeroCells z.cells (grownCap w m 0 e -m)) e (0,0))],⟨G,.inr ⟨w.heap.size,grownCap w m 0 e,_,(0,0),by simp,rfl,by omega,M,?_,?_,BU _⟩⟩,rfl⟩ (J _ 0 _ _ rfl)
   · simp only [eI,size_zeroCells,kv,HA,hl]
     exact split _ _ U
   · simp only [cG,L5,C6]
     exact Hi hl
 · have hg:=bf.get (gb,.cells cur e zz) (by simp)
   by_cases I:k+m<=cap
   · have hf:=run_firstCells_some (P:=P) w i.size m ⟨b,o,none⟩ m c news X Z
     rw [W]at hf;have lv:k*sz+m*sz<=cap*sz:=by rw [<-It];exact RM sz I
     have gy:=Dn (P:=P) gb (k*sz) e zz news 0 cur w hg hfr (by rw [hl,hcs];omega) h1;simp only [OR]at gy;have hr:(Builtin.append_ #[t,t] ty #[I6 gb k cap,.slice (some ⟨b,o,none⟩) m c]).run P w= .ok (I6 gb (k+m) cap) (w.setRow gb (FD cur (k*sz) news)):=by
      simp [Builtin.append_,run_underlying ht,Go.sizeOf,typeInfo,hi,W,Builtin.lenOf,I,hf,Cb,gy,FD]
     rw [E hr];have ek:(FD cur (k*sz) news).size=cap*sz:=by
      unfold FD;simp;omega
     refine hK _ _ _ ⟨[(gb,.cells (FD cur (k*sz) news) e zz)],⟨G,.inr ⟨gb,cap,_,zz,rfl,rfl,I,hcm,ek,?_,by rw [ek,<-hcs];exact hfr⟩⟩,rfl⟩
      (bf.upd (.here _) rfl rfl rfl (setRow_heap w gb cur _ e zz hg) fun k hk=>setRow_other w gb k _ hk)
     unfold FD;rw [htk];simp only [D2];rw [<-D2];exact Hi G
   · have ax:∀j v,xs[j]?=some v->w.cell? ((⟨gb,0,none⟩:Addr).add j)=some v:=fun j v hj=>by
      rw [Cb];refine D8 hg ?_;have mR:j<xs.length:=(zt.1 hj).1
      have:(cur.toList.take (k*sz))[j]?=some v:=by rw [htk];exact hj
      rw [Gk,B0 A0]at this;simpa using this
     have hr:=run_append_grow (P:=P) w t ty e i z ht hi kz ⟨gb,0,none⟩ k cap xs (by rw [W];exact bn) ax ⟨b,o,none⟩ m c news X Z A0 A0 (growslice_fits A0 (by rw [cu];exact hb));rw [E hr];have U:=grownCap_ge w (k+m) cap e
     have M:grownCap w (k+m) cap e<=maxLen:=grownCap_le_maxLen w (k+m) cap e l8;refine hK _ _ _ ⟨[(w.heap.size,.cells (xs.toArray++news.toArray++Builtin.zeroCells z.cells (grownCap w (k+m) cap e -(k+m))) e (0,0))],⟨G,.inr ⟨w.heap.size,grownCap w (k+m) cap e,_,(0,0),V,V,U,M,?_,?_,BU _⟩⟩,V⟩ (J _ 0 _ _ V)
     · simp only [eI,size_zeroCells,kv,HA,hl,bn]
       have:=split _ _ U;rw [It]at this;exact this
     · simp only [cG]
       exact Hi (by simpa using G)
theorem Db{x y:Operand}{t e:AM}{i:TypeInfo}{z:A4}{by_ sz k:Nat}{v:A4}{xs:List A4}{s:List AU}{b o m c:Nat}{X:AN}{T1:AM}{z1:Nat×Nat}{news:List A4}
 (ht:P.underlying t=some (.slice e))(hi:P.info? e=some i)(O:i.size=sz)(M:i.bytes=by_)(W:i.zero=some z)(U:z.cells.size=sz)
 (hx:∀a,ev a env x=v)(I:BZ sz e v k xs s)(hy:∀a,ev a env y= .slice (some ⟨b,o,none⟩) m c)(G:One s H R)(J:Has b (.cells X T1 z1) R)(E:CG X o news)(hl:news.length=m*sz)(h1:∀u∈news,u.oneCell'=true)
 (hm:0<m)(K:k+m<=maxLen)(hb:(k+m)*by_<=140737488355328):
 OpW P u ⟨d,.call ⟨.builtin .append,#[x,y],#[t,t]⟩,ty,pos,af,g⟩ env H (fun v' H1=>∃Z,BZ sz e v' (k+m) (xs++news) Z/\H1=Z::R) (fun _ _=>False):=
 Uj ht hi O M W U hx I hy G (fun w hs=>JA (hs.get _ J.mem) E) hl h1 hm K hb
theorem FJ{t e:AM}{x lo:Operand}{b o n cap l:Nat}{lk:IntKind}(J:P.underlying t=some (.slice e))(I:∀w:A6,(Go.sizeOf e).run P w= .ok 1 w)(hx:∀a,ev a env x= .slice (some ⟨b,o,none⟩) n cap)(G:∀a,ev a env lo= .int lk (l:Int))(E:l<=n)(h2:l<cap):
 OpP P ⟨d,.slice t x (some lo) none none,ty,pos,af,g⟩ env [] (.slice (some ⟨b,o+l,none⟩) (n -l) (cap -l)):=by
 have h:=Bn (d:=d) (ty:=ty) (pos:=pos) (af:=af) (g:=g) J I hx G E;have m:EF (some ⟨b,o,none⟩) l cap 1=some ⟨b,o+l,none⟩:=by
  unfold EF;rw [As A0,L7,Cb,Iv]
 rw [m]at h;exact h
theorem si{x:Operand}{T:AM}{v:A4}(hx:∀a,ev a env x= .iface T v):
 OpW P u ⟨d,.panic x,ty,pos,af,g⟩ env H (fun _ _=>False) (fun ch H'=>ch=[{v:= .iface T v,recovered:=false}]/\H'=H):=fun a w m K G _ E=>by
 have:(execOp (ev a env) ⟨d,.panic x,ty,pos,af,g⟩).run P w= .halt (.panic (.iface T v)) w:=by
  simp [sQ,hx a,Instr.panic,goPanic]
 rw [this];exact E _ _ _ ⟨V,V⟩ m
end
theorem Mk{cx:Cx}{Q:Exit->Act->A6->Prop}{env:Env}{H:Hp}{i:Nat}{ch:List PanicEntry}(h:Nx cx (Q (.panic ch)) env H):Nx cx (Exit.inBlock i Q (.panic ch)) env H:=h
section
variable{P:Program}{u:A6}{env:Env}{H R R2:Hp}{d:Option Nat}{ty:AM}{pos:String}{af:Array Edge}{g:Option (Nat×Bool)}
theorem EN{t e s:Nat}(J:P.underlying t=some (.slice e))(I:∀w:A6,(Go.sizeOf e).run P w= .ok s w):
 OpW P u ⟨d,.buildSlice t 0 #[],ty,pos,af,g⟩ env H (fun M H1=>∃b,M=I6 b 0 0/\H1=[(b,.cells ([]:List A4).toArray e (0,0))]::H) (fun _ _=>False):=fun a w m K O G _=>by
 have E:(Instr.buildSlice t 0 (#[]:Array (Nat×A4))).run P w= .ok (.slice (some ⟨w.heap.size,0,none⟩) 0 0) {w with heap:=w.heap.push (.cells #[] e)}:=by
  unfold Instr.buildSlice;simp [Sem.run_bind,run_underlying J,I,Instr.fill,newRow];congr 2;apply Array.ext<;>simp
 have:(execOp (ev a env) ⟨d,.buildSlice t 0 #[],ty,pos,af,g⟩).run P w= .ok (.value (.slice (some ⟨w.heap.size,0,none⟩) 0 0)) {w with heap:=w.heap.push (.cells #[] e)}:=by
  rw [OY,Sem.run_bind];have e0:(#[]:Array (Nat×Operand)).map (fun(i,x)=>(i,ev a env x))=#[]:=by simp
  rw [e0,E];rfl
 rw [this];exact G _ _ _ ⟨_,V,V⟩ (m.alloc _)
theorem One.has{b:Nat}{o:Obj}(h:One [(b,o)] H R):Has b o H:=by
 induction h with
 |here H=>exact .here _
 |there t h ih=>exact .there _ ih
theorem Row.le{e:AM}{v:A4}{xs:List A4}{s:List AU}(h:Row e v xs s):∃b cap,v= .slice b xs.length cap/\xs.length<=cap:=by
 rcases h with⟨rfl,rfl,rfl⟩|⟨g,cap,cur,z,rfl,_,hle,_⟩
 · exact ⟨none,0,rfl,B8 _⟩
 · exact ⟨_,cap,rfl,hle⟩
theorem bW{t ty b j s:Nat}{m:Func}{v x:A4}(G:m.results=#[.cell t ty,.tmp s]){w:A6}{tmps:AN}(hx:tmps.getD t undef= .pointer (some ⟨b,j,none⟩))(E:(loadVar ty ⟨b,j,none⟩).run P w= .ok v w)(hy:tmps.getD s undef=x):(results m tmps).run P w= .ok (.tuple #[v,x]) w:=by
 rw [JT]at hx hy;simp [results,G,hx,hy,asAddr,E]
theorem CJ{e:Exit}{N:Nat}{r:Option Nat}{E:Func}{Q:A4->Hp->Prop}{G:List PanicEntry->Hp->Prop}{H':Hp}{t ty b j s:Nat}{v x:A4}{o:Obj}(J:G7 e=true)(U:E.results=#[.cell t ty,.tmp s])(hv:∀a,FU a env t= .pointer (some ⟨b,j,none⟩))(I:Has b o H)(K:∀w:A6,w.heap[b]?=some o->(loadVar ty ⟨b,j,none⟩).run P w= .ok v w)(hx:∀a,FU a env s=x)(O:Q (.tuple #[v,x]) H')(M:Sub (H'++R) H:=by repeat(first|exact Sub.refl _|exact Sub.nil _|(apply Sub.cons;(focus (repeat(first|exact One.here _ _|apply One.there))))|refine Sub.drop _ ?_)):Nx ⟨N,[],u,r⟩ (bodyPost P E (Fe u R Q G) e) env H:=
 KZ J (fun a w m=>bW U (by rw [Bi a env (by rw [m.size];exact m.fit),hv a]) (K w (m.sat.get _ I.mem)) (by rw [Bi a env (by rw [m.size];exact m.fit),hx a])) O M
theorem Ca{ops:Array Oper}{l:List Oper}{cx:Cx}{Q:Exit->Act->A6->Prop}{d:Nat}{m:Op}{v:A4}{cs:List AU}(E:∀c∈cs,c∈H.flatten)(h:OpP P ⟨some d,m,ty,pos,af,none⟩ env cs v)(hn:ED m=true)(G:Nat.blt d cx.N=true)
 (k:Ops P ops l cx Q ((d,v)::env) H):Ops P ops (⟨some d,m,ty,pos,af,none⟩::l) cx Q env H:=
 Gn (fun _=>rfl) (fun t I=>by cases I;simpa using G) hn (h.eff (u:=cx.u) (H:=H) E) (by rintro _ _ ⟨rfl,rfl⟩;exact k) (fun _ _ h=>h.elim)
theorem jw{w:A6}{s1 s2:List AU}{a b:Nat}{x y:Obj}(J:Sat u H w)(m:One s1 H R)(h2:One s2 R R2)(E:(a,x)∈s1)(G:(b,y)∈s2):a≠b:=by
 have hn:=J.nodup;have I:H.flatten.Perm (s1++(s2++R2.flatten)):=m.perm.trans (W6 s1 h2.perm)
 rw [(I.map (·.1)).nodup_iff,Dg,Dg,PB]at hn;exact hn.2.2 a (GB.2 ⟨_,E,V⟩) b (E3 _ (GB.2 ⟨_,G,V⟩))
theorem wM{cx:Cx}{c:Code}{Q:Exit->Act->A6->Prop}{s1 s2:List AU}{a b:Nat}{x y:Obj}(E:One s1 H R)(h2:One s2 R R2)(G:(a,x)∈s1)(I:(b,y)∈s2)(k:a≠b->At P cx c Q env H):At P cx c Q env H:=
 fun act w m=>k (jw m.sat E h2 G I) act w m
theorem TG{ops:Array Oper}{l:List Oper}{cx:Cx}{Q:Exit->Act->A6->Prop}{d:Nat}{m:Op}{g:Nat×Bool}{v:A4}{cs:List AU}(I:∀a,wantedE ops a env (some g)=true)(E:∀c∈cs,c∈H.flatten)(h:OpP P ⟨some d,m,ty,pos,af,some g⟩ env cs v)(hn:ED m=true)(G:Nat.blt d cx.N=true)
 (k:Ops P ops l cx Q ((d,v)::env) H):Ops P ops (⟨some d,m,ty,pos,af,some g⟩::l) cx Q env H:=
 Gn I (fun t J=>by cases J;simpa using G) hn (h.eff (u:=cx.u) (H:=H) E) (by rintro _ _ ⟨rfl,rfl⟩;exact k) (fun _ _ h=>h.elim)
def zD(v:A4)(ys:List A4)(s:List AU):Prop:=
 (∃p c,v= .slice p 0 c/\ys=[])\/(0<ys.length/\∃b o c cur T z,v= .slice (Option.some ⟨b,o,none⟩) ys.length c/\s=[(b,.cells cur T z)]/\CG cur o ys)
theorem Oc{x y:Operand}{t e:AM}{i:TypeInfo}{z:A4}{by_:Nat}{v v2:A4}{xs ys:List A4}{s s2:List AU}
 (ht:P.underlying t=some (.slice e))(hi:P.info? e=some i)(E:i.size=1)(X:i.bytes=by_)(bn:i.zero=some z)(bf:z.oneCell'=true)
 (hx:∀a,ev a env x=v)(m:Row e v xs s)(hy:∀a,ev a env y=v2)(O:zD v2 ys s2)(G:One s H R)(U:One s2 R R2)(h1:∀u∈ys,u.oneCell'=true)
 (W:xs.length+ys.length<=maxLen)(hb:(xs.length+ys.length)*by_<=140737488355328):
 OpW P u ⟨d,.call ⟨.builtin .append,#[x,y],#[t,t]⟩,ty,pos,af,g⟩ env H (fun v' H1=>∃s',Row e v' (xs++ys) s'/\H1=s'::R) (fun _ _=>False):=by
 rcases O with⟨p,c2,rfl,rfl⟩|⟨hp,b,o,c,cur,T,z2,rfl,rfl,hin⟩
 · obtain ⟨b,c,rfl,J⟩:=m.le
   intro a w M K Kp hK _;have Z:Sat u (s::R) w:=M.perm (by simpa using G.perm)
   have I:(Builtin.firstCells i.size 0 (.slice p 0 c2)).run P w= .ok #[] w:=by
    cases p with
    |none=>simp [Builtin.firstCells]
    |some ad=>simp [Builtin.firstCells,loadCells,loadCellsFrom]
   have hr:(Builtin.append_ #[t,t] ty #[.slice b xs.length c,.slice p 0 c2]).run P w= .ok (.slice b xs.length c) w:=by
    rw [E]at I;cases b with
    |none=>simp [Builtin.append_,run_underlying ht,Go.sizeOf,typeInfo,hi,E,Builtin.lenOf,J,I]
    |some ad=>simp [Builtin.append_,run_underlying ht,Go.sizeOf,typeInfo,hi,E,Builtin.lenOf,J,I,storeCells]
   have ax:(execOp (ev a env) ⟨d,.call ⟨.builtin .append,#[x,y],#[t,t]⟩,ty,pos,af,g⟩).run P w= .ok (.value (.slice b xs.length c)) w:=by
    simp only [EW,resolve,invoke,builtin,Rg,HJ,LR,hx a,hy a,Sem.run_bind,Sem.run_pure,Result.andThen_ok,hr]
   rw [ax];exact hK _ _ _ ⟨s,by rw [H3];exact m,rfl⟩ Z
 · exact EQ ht hi E X bn bf hx m hy G U.has hin rfl h1 hp W hb
end
section
variable{P:Program}{cx:Cx}{x y:Code}{Q:Exit->Act->A6->Prop}{env:Env}{H:Hp}
theorem CL{e0 B:Env}{H0 R:Hp}(I:Env->Hp->Prop)(M:FW H0 H R)(hx:At P cx x (Exit.then (fun a w=>∃e H1 a0,I e H1/\St cx (e++B) (H1++R) a0 w/\a=CS (e++B) a0) Q) (e0++B) (H0++R))(hy:∀e H1,I e H1->At P cx y Q (e++B) (H1++R)):At P cx (.seq x y) Q (e0++B) H:=fun a w m=>by
 have E:St cx (e0++B) (H0++R) a w:=⟨m.size,m.defers,m.fit,m.sat.perm M.perm⟩;refine wpIn_seq (wpIn_mono (hx a w E) fun e U O J=>?_);cases e<;>first|exact J|(obtain ⟨e',H',a0,K,G,rfl⟩:=J;exact hy e' H' K a0 O G)
theorem Aq{I:Env->Hp->Prop}{B e':Env}{R H':Hp}(h:I e' H')(E:Sub (H'++R) H:=by repeat(first|exact Sub.refl _|exact Sub.nil _|(apply Sub.cons;(focus (repeat(first|exact One.here _ _|apply One.there))))|refine Sub.drop _ ?_)):Nx cx ((Exit.then (fun a w=>∃e H1 a0,I e H1/\St cx (e++B) (H1++R) a0 w/\a=CS (e++B) a0) Q) .normal) (e'++B) H:=fun a _ m=>⟨e',H',a,h,⟨m.size,m.defers,m.fit,m.sat.sub E.amid⟩,rfl⟩
end
end Gw
namespace Gw
open Go Go.RowKit Go.Sort
section
variable{P:Program}{u:A6}{env:Env}{H R:Hp}{d:Option Nat}{ty:AM}{pos:String}{af:Array Edge}{g:Option (Nat×Bool)}
theorem oN(c:AN)(k:Nat):FD c k []=c:=by
 unfold FD;apply MA.1;simp
end
theorem Sat.sorted{α:Type} [Inhabited α]{f:α->A4}{u w:A6}{g n:Nat}{cur:AN}{e:AM}{z:Nat×Nat}{R:Hp}(d:Array α)(os:Array Obj)(h:Sat u ([(g,.cells cur e z)]::R) w):Sat u ([(g,.cells (putCells f 0 d cur) e z)]::R) (grow (putRow f (Sort.ahead w n) g 0 d) os):=by
 have m:=h.get (g,.cells cur e z) B3;have G:g<w.heap.size:=(Hc.1 m).1
 have E:Sat u ([(g,.cells (putCells f 0 d cur) e z)]::R) (putRow f (Sort.ahead w n) g 0 d):=by
  refine h.upd (.here _) V rfl V ?_ fun k hk=>?_;· simp [putRow,mapBlock,Sort.ahead,RK,m,onCells]
  · have:g≠k:=fun e=>hk e.symm
    simp [putRow,mapBlock,Sort.ahead,RK,this]
 exact E.below ⟨V,V,V,by simp [grow],fun k hk=>heap_grow_old _ _ hk⟩
theorem NZ{P:Program}{cx:Cx}{G:Code}{Q:Exit->Act->A6->Prop}{env:Env}{s1 s2:List AU}{H E R2:Hp}(I:One s1 H E)(h2:One s2 E R2)(k:At P cx G Q env ((s1++s2)::R2)):At P cx G Q env H:=fun a w m=>
 k a w ⟨m.size,m.defers,m.fit,m.sat.perm (by
   simp only [GP,D2];exact I.perm.trans (W6 s1 h2.perm))⟩
end Gw
namespace Gw
open Go Go.RowKit
structure V3 where
 a:Int
 b:Int
 c:Int
deriving DecidableEq
def V3.zero:V3:=⟨0,0,0⟩
theorem V3.eq_iff(x y:V3):x=y↔(x.a=y.a/\x.b=y.b/\x.c=y.c):=by
 constructor;· rintro rfl;exact ⟨rfl,rfl,rfl⟩
 · cases x;cases y;rintro ⟨m,h2,E⟩;simp only at m h2 E;rw [m,h2,E]
section
variable{P:Program}{u:A6}{env:Env}{H R:Hp}{d:Option Nat}{ty:AM}{pos:String}{af:Array Edge}{g:Option (Nat×Bool)}
theorem PW{e:AM}(n:Nat)(w:A6)(E:P.underlying e=some (.int .i64))(m k:Int):(Op.equalIn (n+1) e (I4 m) (I4 k)).run P w= .ok (decide (m=k)) w:=by
 simp [Op.equalIn,run_underlying E];by_cases h:m=k<;>simp [h]
theorem FQ{e:AM}(w:A6)(m:(isAgg e).run P w= .ok false w)(xs:AN)(j:Nat){v:A4}(h:xs[j]?=some v):(part e xs j).run P w= .ok v w:=by
 simp [part,m,h]
theorem Rk{t e:AM}(w:A6)(n:Nat)(x y:V3)(X:P.underlying t=some (.array 3 e))(U:P.underlying e=some (.int .i64))(E:∀w:A6,(isAgg e).run P w= .ok false w)(W:∀w:A6,(Go.sizeOf e).run P w= .ok 1 w):
 (Op.equalIn (n+2) t (.agg #[I4 x.a,I4 x.b,I4 x.c]) (.agg #[I4 y.a,I4 y.b,I4 y.c])).run P w= .ok (decide (x=y)) w:=by
 have G:∀(m k:Int) (w:A6),(Op.equalIn (n+1) e (I4 m) (I4 k)).run P w= .ok (decide (m=k)) w:=fun m k w=>PW n w U m k;have I:∀(v0 v1 v2:A4) (w:A6),(part e #[v0,v1,v2] 0).run P w= .ok v0 w:=fun _ _ _ w=>FQ w (E w) _ _ rfl
 have J:∀(v0 v1 v2:A4) (w:A6),(part e #[v0,v1,v2] 1).run P w= .ok v1 w:=fun _ _ _ w=>FQ w (E w) _ _ rfl;have K:∀(v0 v1 v2:A4) (w:A6),(part e #[v0,v1,v2] 2).run P w= .ok v2 w:=fun _ _ _ w=>FQ w (E w) _ _ rfl
 rw [show n+2=(n+1)+1 from rfl,Op.equalIn];generalize n+1=m at*;simp only [Sem.run_bind,run_underlying X,Result.andThen_ok,W];simp only [kO,Std.Legacy.Range.size,PF,PA,Nat.div_one,fg,List.range'_zero,eN,fy];simp only [Sem.run_bind,I,J,K,G,Result.andThen_ok,C6,Iv,cS,Tr,V3.eq_iff];by_cases M:x.a=y.a<;>by_cases h2:x.b=y.b<;>by_cases O:x.c=y.c<;>simp [M,h2,O,I,J,K,G]
theorem KQ{t:AM}(p q:AN):binOp .eql t (.agg p) (.agg q)=(do pure (.bool (<-Op.equal t (.agg p) (.agg q)))):=rfl
theorem N9{t:AM}(p q:AN):binOp .neq t (.agg p) (.agg q)=(do pure (.bool (!(<-Op.equal t (.agg p) (.agg q))))):=rfl
section
variable{t yt e:AM}{x y:Operand}{p q:V3}
theorem Lr(G:P.eqGuardType P.depth t=false)(J:P.underlying t=some (.array 3 e))(E:P.underlying e=some (.int .i64))(m:∀w:A6,(isAgg e).run P w= .ok false w)(I:∀w:A6,(Go.sizeOf e).run P w= .ok 1 w)
 (hx:∀a,ev a env x= .agg #[I4 p.a,I4 p.b,I4 p.c])(hy:∀a,ev a env y= .agg #[I4 q.a,I4 q.b,I4 q.c]):OpP P ⟨d,.binOp .eql t x y yt,ty,pos,af,g⟩ env [] (.bool (decide (p=q))):=fun a w _=>by
 simp [Cu,hx a,hy a,go_sem,run_eqGuard_agg w _ t _ _ _ _ G,KQ,Op.equal,Op.maxDepth,Rk w 9998 p q J E m I]
theorem Lp(G:P.eqGuardType P.depth t=false)(J:P.underlying t=some (.array 3 e))(E:P.underlying e=some (.int .i64))(m:∀w:A6,(isAgg e).run P w= .ok false w)(I:∀w:A6,(Go.sizeOf e).run P w= .ok 1 w)
 (hx:∀a,ev a env x= .agg #[I4 p.a,I4 p.b,I4 p.c])(hy:∀a,ev a env y= .agg #[I4 q.a,I4 q.b,I4 q.c]):OpP P ⟨d,.binOp .neq t x y yt,ty,pos,af,g⟩ env [] (.bool (decide (p≠q))):=fun a w _=>by
 simp [Cu,hx a,hy a,go_sem,run_eqGuard_agg w _ t _ _ _ _ G,N9,Op.equal,Op.maxDepth,Rk w 9998 p q J E m I]
theorem J2(G:P.eqGuardType P.depth t=false)(J:P.underlying t=some (.array 3 e))(E:P.underlying e=some (.int .i64))(m:∀w:A6,(isAgg e).run P w= .ok false w)(I:∀w:A6,(Go.sizeOf e).run P w= .ok 1 w)
 (hx:∀a,ev a env x= .agg #[I4 p.a,I4 p.b,I4 p.c])(hy:∀a,ev a env y= .agg #[I4 0,I4 0,I4 0]):OpP P ⟨d,.binOp .eql t x y yt,ty,pos,af,g⟩ env [] (.bool (decide (p=V3.zero))):=Lr (q:=V3.zero) G J E m I hx hy
theorem wC(G:P.eqGuardType P.depth t=false)(J:P.underlying t=some (.array 3 e))(E:P.underlying e=some (.int .i64))(m:∀w:A6,(isAgg e).run P w= .ok false w)(I:∀w:A6,(Go.sizeOf e).run P w= .ok 1 w)
 (hx:∀a,ev a env x= .agg #[I4 p.a,I4 p.b,I4 p.c])(hy:∀a,ev a env y= .agg #[I4 0,I4 0,I4 0]):OpP P ⟨d,.binOp .neq t x y yt,ty,pos,af,g⟩ env [] (.bool (decide (p≠V3.zero))):=Lp (q:=V3.zero) G J E m I hx hy
end
end
def V3.get(v:V3)(i:Nat):Int:=if i=0 then v.a else if i=1 then v.b else v.c
theorem y8(x y:A4)(v:V3)(i:Nat)(h:i<3):(#[x,y,Value.int .i64 v.a,I4 v.b,I4 v.c]:AN)[2+i]?=some (I4 (v.get i)):=by
 rcases i with _|_|_|i
 · rfl
 · rfl
 · rfl
 · omega
def inV(n:Int):Prop:=-1000000000<=n/\n<=1000000000
instance(n:Int):Decidable (inV n):=inferInstanceAs(Decidable (_/\_))
def V3.ok(v:V3):Prop:=inV v.a/\inV v.b/\inV v.c
instance(v:V3):Decidable v.ok:=inferInstanceAs(Decidable (_/\_/\_))
theorem mJ{v:V3}:v.ok↔∀i,i<3->inV (v.get i):=by
 constructor
 · rintro ⟨m,h2,E⟩ i hi
   rcases i with _|_|_|i
   · exact m
   · exact h2
   · exact E
   · omega
 · intro h;exact ⟨h 0 A0,h 1 A0,h 2 A0⟩
theorem tJ{v:V3}{i:Nat}(h:∀j,j<i->inV (v.get j))(hi:inV (v.get i)):∀j,j<i+1->inV (v.get j):=by
 intro j m;rcases DP j i with h9|h9
 · exact h j h9
 · have e:j=i:=by omega
   rw [e];exact hi
structure F5 where
 i:Nat
 o:Oper
 v:A4
 C:List AU
 k:Bool
def lay(p:F5->Bool):List F5->Act->Act
 |[],a=>a
 |e::l,a=>lay p l (if p e then a.put e.o.dst e.v else a)
def tv(p:F5->Bool)(t:Nat):List F5->Option A4->Option A4
 |[],d=>d
 |e::l,d=>tv p t l (if p e=true/\e.o.dst=some t then some e.v else d)
theorem DJ(p:F5->Bool):∀(l:List F5) (a:Act),(lay p l a).tmps.size=a.tmps.size
 |[],_=>rfl
 |e::l,a=>by simp only [lay];rw [DJ p l];split<;>simp [ER]
theorem FZ(p:F5->Bool):∀(l:List F5) (a:Act),(lay p l a).defers=a.defers
 |[],_=>rfl
 |e::l,a=>by simp only [lay];rw [FZ p l];split<;>simp [KE]
theorem EP(p:F5->Bool)(t:Nat):∀(l:List F5) (a:Act),t<a.tmps.size->(lay p l a).tmps[t]?=tv p t l a.tmps[t]?
 |[],_,_=>rfl
 |e::l,a,ht=>by
  simp only [lay,tv];rw [EP p t l _ (by split<;>simpa [ER]using ht)];congr 1;by_cases m:p e=true;· simp only [m,Ks,c7];rw [JQ _ _ _ _ ht]
  · simp [m]
theorem FN(p q:F5->Bool)(t:Nat):∀(l:List F5) (d:Option A4),(∀e∈l,e.o.dst=some t->p e=q e)->tv p t l d=tv q t l d
 |[],_,_=>rfl
 |e::l,d,h=>by
  simp only [tv];have h0:(if p e=true/\e.o.dst=some t then some e.v else d)=(if q e=true/\e.o.dst=some t then some e.v else d):=by
   by_cases m:e.o.dst=some t
   · rw [h e (K0 ..) m]
   · simp [m]
  rw [h0];exact FN p q t l _ fun e' E=>h e' (HQ _ E)
theorem WY(p:F5->Bool)(t:Nat):∀(l:List F5) (d:Option A4),(∀e∈l,e.o.dst=some t->p e=false)->tv p t l d=d
 |[],_,_=>rfl
 |e::l,d,h=>by
  simp only [tv];rw [As (fun m=>by rw [h e (K0 ..) m.2]at m;cases m.1)];exact WY p t l d fun e' E=>h e' (HQ _ E)
theorem Px(p:F5->Bool)(t:Nat):∀(l m:List F5) (d:Option A4),tv p t (l++m) d=tv p t m (tv p t l d)
 |[],_,_=>rfl
 |e::l,m,d=>by simp only [TX,tv];exact Px p t l m _
theorem OI(p:F5->Bool):∀(l m:List F5) (a:Act),lay p (l++m) a=lay p m (lay p l a)
 |[],_,_=>rfl
 |e::l,m,a=>by simp only [TX,lay];exact OI p l m _
def zB(A:List Nat)(o:Oper):Nat:=o.after.toList.foldl (fun m e=>if Region.binds .any e then m|||(1<<<e.on)|||A.getD e.on 0 else m) 0
def TQ(ops:Array Oper)(A:List Nat)(N:Nat):Bool:=
 decide (A.length=ops.size)&&
 (List.range ops.size).all fun j=>match ops[j]?with
   |none=>false
   |some oj=>
    (zB A oj==A.getD j 0)&&
    (oj.after.toList.all fun e=>!Region.binds .any e||decide (e.on<j))&&
    ((List.range j).all fun i=>match ops[i]?with
      |none=>false
      |some oi=>oi.apart ops oj||(A.getD j 0).testBit i)&&
    ED oj.op&&(match oj.op with| .select ..=>false|_=>true)&&UT N oj.dst
structure JJ(ops:Array Oper)(A:List Nat)(N:Nat):Prop where
 len:A.length=ops.size
 edge:∀j oj e,ops[j]?=some oj->e∈oj.after->Region.binds .any e=true->e.on<j
 anc:∀j oj i,ops[j]?=some oj->(A.getD j 0).testBit i=true->∃e∈oj.after,Region.binds .any e=true/\(e.on=i\/(A.getD e.on 0).testBit i=true)
 apart:∀i j oi oj,ops[i]?=some oi->ops[j]?=some oj->i<j->oi.apart ops oj=true\/(A.getD j 0).testBit i=true
 nod:∀(j:Nat) (oj:Oper),ops[j]?=some oj->ED oj.op=true
 sel:∀(j:Nat) (oj:Oper) (cs:Array SelectCase) (b:Bool),ops[j]?=some oj->oj.op≠ .select cs b
 room:∀(j:Nat) (oj:Oper) (d:Nat),ops[j]?=some oj->oj.dst=some d->d<N
theorem WI{A:List Nat}{i:Nat}:∀(l:List Edge) (m:Nat),(l.foldl (fun m e=>if Region.binds .any e then m|||(1<<<e.on)|||A.getD e.on 0 else m) m).testBit i=true->m.testBit i=true\/∃e∈l,Region.binds .any e=true/\(e.on=i\/(A.getD e.on 0).testBit i=true)
 |[],m,h=> .inl h
 |e::l,m,h=>by
  simp only [Tl]at h;rcases WI l _ h with h1|⟨e',he,h2⟩
  · by_cases E:Region.binds .any e=true
    · rw [B0 E,kB,kB]at h1
      simp only [SP]at h1;rcases h1 with(h1|h1)|h1
      · exact .inl h1
      · refine .inr ⟨e,K0 ..,E,.inl ?_⟩
        rw [Nat.one_shiftLeft,Nat.testBit_two_pow]at h1;simpa using h1
      · exact .inr ⟨e,K0 ..,E,.inr h1⟩
    · rw [As E]at h1;exact .inl h1
  · exact .inr ⟨e',HQ _ he,h2⟩
theorem dU{ops:Array Oper}{A:List Nat}{N:Nat}(h:TQ ops A N=true):JJ ops A N:=by
 simp only [TQ,Fo,I2,Mp,L0]at h;obtain ⟨h0,h⟩:=h;have E:∀{j:Nat} {o:Oper},ops[j]?=some o->j<ops.size:=fun m=>(Hc.1 m).1
 refine ⟨h0,fun j oj e m I G=>?_,fun j oj i m G=>?_,fun i j O oj hi m J=>?_,fun j oj m=>?_,fun j oj cs b m M=>?_,fun j oj d m K=>?_⟩
 · have:=h j (E m)
   simp only [m,Fo,Mp]at this;have:=this.1.1.1.1.2 e (by simpa using I)
   simpa [G]using this
 · have:=h j (E m)
   simp only [m,Fo]at this;have:=this.1.1.1.1.1
   simp only [beq_iff_eq]at this;rw [<-this]at G;rcases WI _ _ G with h1|⟨e,I,h1⟩
   · simp at h1
   · exact ⟨e,by simpa using I,h1⟩
 · have:=h j (E m)
   simp only [m,Fo,Mp,L0]at this;have:=this.1.1.1.2 i J
   simp only [hi,SP]at this;exact this
 · have:=h j (E m)
   simp only [m,Fo]at this;exact this.1.1.2
 · have:=h j (E m)
   simp only [m,Fo]at this;rw [M]at this;simp at this
 · have:=h j (E m)
   simp only [m,Fo]at this;exact Ga this.2 d K
def fO(ops:Array Oper)(L:Array Bool):Prop:=∀j oj,ops[j]?=some oj->L.getD j false=true->∀e∈oj.after,Region.binds .any e=true->L.getD e.on false=true
theorem GN{ops:Array Oper}{A:List Nat}{N:Nat}(F:JJ ops A N){L:Array Bool}(X:fO ops L):∀(j i:Nat) (oj:Oper),ops[j]?=some oj->(A.getD j 0).testBit i=true->
 (∀e∈oj.after,Region.binds .any e=true->L.getD e.on false=true)->L.getD i false=true:=by
 intro j;induction j using Nat.strongRecOn with
 |ind j ih=>
  intro i oj O Z W;obtain ⟨e,K,m,E⟩:=F.anc j oj i O Z;rcases E with rfl|E
  · exact W e K m
  · have U:=F.edge j oj e O K m
    obtain ⟨I,G⟩:∃I,ops[e.on]?=some I:=⟨_,HO (by have:=(Hc.1 O).1;omega)⟩;exact ih e.on U i I G E (fun e' M J=>X e.on I G (W e K m) e' M J)
theorem M3{ops:Array Oper}{o:Oper}{a b:Act}(h:∀t∈o.looksAt ops,a.tmps[t]?=b.tmps[t]?):∀x∈o.op.operands,a.eval x=b.eval x:=by
 intro x hx;cases x with
 |tmp t=>
  have m:t∈o.looksAt ops:=E3 _ (Z2.2 ⟨.tmp t,by simpa using hx,rfl⟩);have:=h t m
  simp only [Act.eval,JT,this]
 |_=>rfl
def bit(m i:Nat):Bool:=Nat.testBit m i
def FL(m n:Nat):Bool:=Nat.beq (Nat.land m n) m
theorem Rs{m n i:Nat}(h:FL m n=true)(E:m.testBit i=true):n.testBit i=true:=by
 have G:m&&&n=m:=ir h;rw [<-G,fk]at E;simp only [Fo]at E;exact E.2
def zF(P:Program)(ops:Array Oper)(o:Oper)(env:Env)(C:List AU)(v:A4):Prop:=((∀a,wantedE ops a env o.guard=true)/\OpP P o env C v)\/((∀a,wantedE ops a env o.guard=false)/\v=undef/\C=[])
theorem Hm{ops:Array Oper}{o:Oper}{a b:Act}(h:∀t∈o.looksAt ops,a.tmps[t]?=b.tmps[t]?):Region.wanted o (yielded ops a.tmps)=Region.wanted o (yielded ops b.tmps):=by
 unfold Region.wanted;cases hg:o.guard with
 |none=>rfl
 |some gw=>
  obtain ⟨g,m⟩:=gw;simp only [yielded];cases ht:(ops[g]?).bind (·.dst)with
  |none=>rfl
  |some t=>
   have:=h t (by unfold Oper.looksAt;rw [hg];simp only [DM];right;rw [ht];simp);simp only [IF,this]
section
variable(P:Program)(ops:Array Oper)(A:List Nat)(F:Nat)(cx:Cx)(Q:Exit->Act->A6->Prop)
def Lt(D:Nat):List Nat:=(List.range ops.size).filter fun f=>bit F f&&!bit D f&&FL (A.getD f 0) D
def ko(D:Nat):Bool:=(List.range ops.size).all fun i=>bit F i||bit D i||!FL (Nat.land (A.getD i 0) F) D
def Lin:Nat->Nat->List (Nat×AU)->Env->Hp->Prop
 |0,_,_,env,H=>Nx cx (Q .normal) env H
 |n+1,D,T,env,H=>
  (∃i o v C,ops[i]?=some o/\bit D i=false/\FL (A.getD i 0) D=true/\(∀c∈C,c∈H.flatten)/\zF P ops o env C v/\Lin n (D|||(1<<<i)) (C.map (fun c=>(i,c))++T) (putE o.dst v env) H)\/
  (ko ops A F D=true/\∀f∈Lt ops A F D,∃o T',ops[f]?=some o/\(∀a,wantedE ops a env o.guard=true)/\(∀p∈T,bit (A.getD f 0) p.1=true\/p∈T')/\
    OpW P cx.u o env H (fun v H'=>(∀p∈T',p.2∈H'.flatten)/\Lin n (D|||(1<<<f)) T' (putE o.dst v env) H') (fun ch H'=>∀env,Nx cx (Q (.panic ch)) env H'))
end
section
variable{P:Program}{ops:Array Oper}{A:List Nat}{F:Nat}{N:Nat}{cx:Cx}{Q:Exit->Act->A6->Prop}{a0:Act}{env0:Env}
def G8(env0:Env):List F5->Env
 |[]=>env0
 |e::x=>G8 (putE e.o.dst e.v env0) x
theorem M5:∀(x y:List F5) (env0:Env),G8 env0 (x++y)=G8 (G8 env0 x) y
 |[],_,_=>rfl
 |e::x,y,env0=>by simp only [TX,G8];exact M5 x y _
theorem IR(a0:Act):∀(x:List F5) (env0:Env),CS (G8 env0 x) a0=lay (fun _=>true) x (CS env0 a0)
 |[],_=>rfl
 |e::x,env0=>by simp only [G8,lay,Ks];rw [IR a0 x,NK]
structure KS(P:Program)(ops:Array Oper)(A:List Nat)(F:Nat)(cx:Cx)(Q:Exit->Act->A6->Prop)(a0:Act)(env0:Env)(L:Array Bool)(a:Act)(w:A6)(x:List F5)(D:Nat)(T:List (Nat×AU))(H:Hp):Prop where
 size:L.size=ops.size
 shut:fO ops L
 act:a=lay (fun e=>L.getD e.i false) x (CS env0 a0)
 sat:Sat cx.u H w
 mask:∀i,bit D i=true↔∃e∈x,e.i=i
 nodup:(x.map (·.i)).Nodup
 isop:∀e∈x,ops[e.i]?=some e.o
 listed:∀i,L.getD i false=true->bit D i=true
 effs:∀e∈x,e.k=true->L.getD e.i false=true
 order:∀x1 e x2,x=x1++e::x2->∀i,(A.getD e.i 0).testBit i=true->∃e'∈x1,e'.i=i
 pend:∀x1 e x2,x=x1++e::x2->e.k=false->zF P ops e.o (G8 env0 x1) e.C e.v
 reads:∀e∈x,L.getD e.i false=false->∀c∈e.C,(e.i,c)∈T/\c∈H.flatten
 fit:Fit cx.N (G8 env0 x)
 walk:Lin P ops A F cx Q (ops.size -x.length) D T (G8 env0 x) H
theorem U3(D i j:Nat):bit (D|||(1<<<i)) j=true↔bit D j=true\/i=j:=by
 unfold bit;rw [kB,SP,Nat.one_shiftLeft,Nat.testBit_two_pow];simp
theorem fq(W:JJ ops A N){L:Array Bool}{a:Act}{w:A6}{x:List F5}{D:Nat}{T:List (Nat×AU)}{H:Hp}(h:KS P ops A F cx Q a0 env0 L a w x D T H)
 {O U:List F5}{e:F5}(hx:x=O++e::U)(bf:L.getD e.i false=false)(K:∀g∈e.o.after,Region.binds .any g=true->L.getD g.on false=true)
 {t:Nat}(E:t∈e.o.looksAt ops\/e.o.dst=some t):(∀k∈O,k.o.dst=some t->L.getD k.i false=true)/\(∀k∈U,k.o.dst=some t->L.getD k.i false=false):=by
 have he:ops[e.i]?=some e.o:=h.isop e (by rw [hx];simp);have J:∀k,k∈O\/k∈U->k.i≠e.i:=fun k hk hh=>by
  have hn:=h.nodup;rw [hx,Dg,HJ,PB]at hn;obtain ⟨Z,h2,X⟩:=hn;rcases hk with hk|hk
  · exact X k.i (O2 hk) e.i (K0 ..) hh
  · rw [ZD]at h2
    exact h2.1 (hh▸O2 hk)
 have ord:∀k:F5,ops[k.i]?=some k.o->k.i≠e.i->k.o.dst=some t->(A.getD e.i 0).testBit k.i=true\/(A.getD k.i 0).testBit e.i=true:=by
  intro k hk ax G;rcases Nat.lt_or_gt_of_ne ax with hlt|hlt
  · rcases W.apart k.i e.i k.o e.o hk he hlt with hap|hb
    · exfalso
      obtain ⟨Z,h2,X⟩:=Oper.apart_spec hap;rcases E with E|E
      · exact Z t G E
      · exact h2 t G E
    · exact .inl hb
  · rcases W.apart e.i k.i e.o k.o he hk hlt with hap|hb
    · exfalso
      obtain ⟨Z,h2,X⟩:=Oper.apart_spec hap;rcases E with E|E
      · exact X t G E
      · exact h2 t E G
    · exact .inr hb
 refine ⟨fun k hk G=>?_,fun k hk G=>?_⟩
 · have m:=h.isop k (by rw [hx];simp [hk])
   rcases ord k m (J k (.inl hk)) G with hb|hb
   · exact GN W h.shut e.i k.i e.o he hb K
   · exfalso
     obtain ⟨y1,y2,hy⟩:=fR hk;obtain ⟨e',I,hi⟩:=h.order y1 k (y2++e::U) (by rw [hx,hy];simp) e.i hb;have M:e'∈O:=by rw [hy];simp [I]
     exact J e' (.inl M) hi
 · have m:=h.isop k (by rw [hx];simp [hk])
   rcases ord k m (J k (.inr hk)) G with hb|hb
   · exfalso
     obtain ⟨e',I,hi⟩:=h.order O e U hx k.i hb;have hn:=h.nodup
     rw [hx,Dg,HJ,PB]at hn;exact hn.2.2 e'.i (O2 I) k.i (HQ _ (O2 hk)) hi
   · cases hl:L.getD k.i false with
     |false=>rfl
     |true=>
      have:=GN W h.shut k.i e.i k.o m hb (fun g hg af=>h.shut k.i k.o m hl g hg af);rw [bf]at this;cases this
theorem dS(O:JJ ops A N){L:Array Bool}{a:Act}{w:A6}{x:List F5}{D:Nat}{T:List (Nat×AU)}{H:Hp}(h:KS P ops A F cx Q a0 env0 L a w x D T H)
 {J M:List F5}{e:F5}(hx:x=J++e::M)(G:L.getD e.i false=false)(E:∀g∈e.o.after,Region.binds .any g=true->L.getD g.on false=true):
 ∀t∈e.o.looksAt ops,a.tmps[t]?=(CS (G8 env0 J) a0).tmps[t]?:=by
 intro t W;have K:=fq O h hx G E (.inl W)
 have U:a.tmps.size=(CS env0 a0).tmps.size:=by rw [h.act,DJ]
 by_cases m:t<(CS env0 a0).tmps.size
 · rw [h.act,IR,EP _ _ _ _ m,EP _ _ _ _ m,hx,Px]
   rw [WY _ t (e::M) _ (fun k hk I=>by
    rcases E4.1 hk with rfl|hk
    · exact G
    · exact K.2 k hk I)]
   exact FN _ _ t J _ fun k hk I=>by rw [K.1 k hk I]
 · rw [I3 (by rw [U];exact cN m),I3 (by rw [IR,DJ];exact cN m)]
theorem F4(L:Array Bool)(j i:Nat)(m:j<L.size):(L.setIfInBounds j true).getD i false=if i=j then true else L.getD i false:=by
 by_cases e:i=j
 · subst e;simp [m]
 · rw [getD_set_ne false (Ne.symm e),As e]
theorem uh(X:JJ ops A N){L:Array Bool}{a:Act}{w:A6}{x:List F5}{D:Nat}{T:List (Nat×AU)}{H:Hp}(h:KS P ops A F cx Q a0 env0 L a w x D T H)
 {x1 x2:List F5}{e:F5}(hx:x=x1++e::x2)(U:L.getD e.i false=false)(I:∀g∈e.o.after,Region.binds .any g=true->L.getD g.on false=true):
 a.put e.o.dst e.v=lay (fun k=>(L.setIfInBounds e.i true).getD k.i false) x (CS env0 a0):=by
 have W:ops[e.i]?=some e.o:=h.isop e (by rw [hx];simp);have O:e.i<L.size:=by rw [h.size];exact (Hc.1 W).1
 refine JW (by rw [ER,DJ,h.act,DJ]) (by rw [KE,FZ,h.act,FZ]) fun t K=>?_;rw [ER]at K;have J:t<(CS env0 a0).tmps.size:=by rw [h.act,DJ]at K;exact K
 rw [JQ _ _ _ _ K,EP _ _ _ _ J];by_cases G:e.o.dst=some t
 · rw [B0 G]
   have Z:=fq X h hx U I (.inr G);rw [hx,Px];simp only [tv];rw [B0 ⟨by rw [F4 _ _ _ O,B0 rfl],G⟩];rw [WY];intro k hk E;have m:k.i≠e.i:=fun M=>by
    have hn:=h.nodup;rw [hx,Dg,HJ,PB,ZD]at hn;exact hn.2.1.1 (M▸O2 hk)
   rw [F4 _ _ _ O,As m];exact Z.2 k hk E
 · rw [As G,h.act,EP _ _ _ _ J]
   refine FN _ _ t x _ fun k hk E=>?_;rw [F4 _ _ _ O];by_cases m:k.i=e.i
   · exfalso
     have:=h.isop k hk;rw [m,W]at this;obtain M:=PC this;rw [M]at G;exact G E
   · rw [As m]
theorem Y6{L:Array Bool}(O:fO ops L){j:Nat}(M:j<L.size){oj:Oper}(G:ops[j]?=some oj)(m:∀g∈oj.after,Region.binds .any g=true->L.getD g.on false=true):fO ops (L.setIfInBounds j true):=by
 intro k ok hk E g K J;rw [F4 _ _ _ M]at E⊢;by_cases I:k=j
 · subst I
   rw [G]at hk;obtain rfl:=PC hk;rw [m g K J];simp
 · rw [As I]at E
   rw [O k ok hk E g K J];simp
theorem pO(FT:JJ ops A cx.N){L:Array Bool}{a:Act}{w:A6}{j:Nat}{oj:Oper}(Z:ops[j]?=some oj)(l8:L.getD j false=false)(ax:∀g∈oj.after,Region.binds .any g=true->L.getD g.on false=true):
 ∀(n:Nat) (x:List F5) (D:Nat) (T:List (Nat×AU)) (H:Hp),ops.size -x.length=n->KS P ops A F cx Q a0 env0 L a w x D T H->
  (∃x' D' T',KS P ops A F cx Q a0 env0 L a w x' D' T' H/\bit D' j=true)\/
  (∃x' D' T',KS P ops A F cx Q a0 env0 L a w x' D' T' H/\j∈Lt ops A F D'/\ko ops A F D'=true/\∃m,ops.size -x'.length=m+1/\∃o X,ops[j]?=some o/\(∀a,wantedE ops a (G8 env0 x') o.guard=true)/\(∀p∈T',bit (A.getD j 0) p.1=true\/p∈X)/\
    OpW P cx.u o (G8 env0 x') H (fun v H'=>(∀p∈X,p.2∈H'.flatten)/\Lin P ops A F cx Q m (D'|||(1<<<j)) X (putE o.dst v (G8 env0 x')) H') (fun ch H'=>∀env,Nx cx (Q (.panic ch)) env H')):=by
 intro n;induction n with
 |zero=>
  intro x D T H hn h;left;refine ⟨x,D,T,h,?_⟩;have J:j<ops.size:=(Hc.1 Z).1
  have W:ops.size<=(x.map (·.i)).length:=by rw [zu];omega
  have cO:∀i∈x.map (·.i),i<ops.size:=fun i hi=>by
   obtain ⟨e,E,rfl⟩:=GB.1 hi;exact (Hc.1 (h.isop e E)).1
  have:j∈x.map (·.i):=by
   apply Xs;intro gm;have ek:=ka (l₁:=j::x.map (·.i)) (l₂:=List.range ops.size) (ZD.2 ⟨gm,h.nodup⟩) (fun i hi=>by
    rcases E4.1 hi with rfl|hi
    · exact L0.2 J
    · exact L0.2 (cO i hi))
   simp only [D3,zu,eJ]at ek;omega
  obtain ⟨e,E,hi⟩:=GB.1 this;exact (h.mask j).2 ⟨e,E,hi⟩
 |succ n ih=>
  intro x D T H hn h;by_cases hD:bit D j=true;· exact .inl ⟨x,D,T,h,hD⟩
  · have hw:=h.walk
    rw [hn]at hw;simp only [Lin]at hw;rcases hw with⟨i,o,v,C,ho,bn,kv,hC,gq,hk⟩|⟨hfull,hk⟩
    ·
     have cu:∀e∈x,e.i≠i:=fun e E hh=>by
      have:=(h.mask i).2 ⟨e,E,hh⟩;rw [bn]at this;cases this
     have d9:L.getD i false=false:=by
      cases hl:L.getD i false with
      |false=>rfl
      |true=>have:=h.listed i hl;rw [bn]at this;cases this
     have bf:lay (fun e=>L.getD e.i false) (x++[⟨i,o,v,C,false⟩]) (CS env0 a0)=a:=by
      rw [OI,<-h.act];simp only [lay,d9];rfl
     have I:∀(s1:List F5) (e:F5) (s2:List F5),x++[⟨i,o,v,C,false⟩]=s1++e::s2->(∃K,s2=K++[⟨i,o,v,C,false⟩]/\x=s1++e::K)\/(s2=[]/\e=⟨i,o,v,C,false⟩/\s1=x):=by
      intro s1 e s2 hs;rcases cD s2 with rfl|⟨K,z,rfl⟩
      · right
        have:=eK hs rfl;exact ⟨V,(by simpa using this.2.symm),this.1.symm⟩
      · left
        have gy:x++[⟨i,o,v,C,false⟩]=(s1++e::K)++[z]:=by rw [hs];simp
        have:=eK gy rfl;have hz:z=⟨i,o,v,C,false⟩:=by simpa using this.2.symm
        exact ⟨K,by rw [hz];simp,this.1⟩
     have U:G8 env0 (x++[⟨i,o,v,C,false⟩])=putE o.dst v (G8 env0 x):=by rw [M5];rfl
     refine ih (x++[⟨i,o,v,C,false⟩]) (D|||(1<<<i)) (C.map (fun c=>(i,c))++T) H Lo ⟨h.size,h.shut,bf.symm,h.sat,fun k=>?_,?_,fun e E=>?_,fun k hk=>?_,fun k hk hf=>?_,fun s1 e s2 hs k O=>?_,fun s1 e s2 hs hf=>?_,fun e E hl c hc=>?_,?_,?_⟩
     · rw [U3,h.mask k]
       constructor
       · rintro (⟨e,E,hi⟩|rfl)
         · exact ⟨e,by simp [E],hi⟩
         · exact ⟨⟨i,o,v,C,false⟩,by simp,rfl⟩
       · rintro ⟨e,E,hi⟩
         rcases DM.1 E with E|E
         · exact .inl ⟨e,E,hi⟩
         · simp only [D0]at E;subst E;exact .inr hi
     · rw [Dg,PB]
       refine ⟨h.nodup,by simp,fun p hp q hq=>?_⟩;simp only [HJ,LR,D0]at hq;subst hq;obtain ⟨e,E,rfl⟩:=GB.1 hp;exact cu e E
     · rcases DM.1 E with E|E
       · exact h.isop e E
       · simp only [D0]at E;subst E;exact ho
     · exact (U3 _ _ _).2 (.inl (h.listed k hk))
     · rcases DM.1 hk with hk|hk
       · exact h.effs k hk hf
       · rw [D0.1 hk]at hf;cases hf
     · rcases I s1 e s2 hs with⟨K,_,af⟩|⟨_,rfl,rfl⟩
       · exact h.order s1 e K af k O
       · exact (h.mask k).1 (Rs kv O)
     · rcases I s1 e s2 hs with⟨K,_,af⟩|⟨_,rfl,rfl⟩
       · exact h.pend s1 e K af hf
       · exact gq
     · rcases DM.1 E with E|E
       · have:=h.reads e E hl c hc
         exact ⟨DA _ this.1,this.2⟩
       · simp only [D0]at E;subst E
         exact ⟨E3 _ (GB.2 ⟨c,hc,V⟩),hC c hc⟩
     · rw [U];exact h.fit.putE (fun t ht=>FT.room i o t ho ht) v
     · have W:ops.size -(x++[(⟨i,o,v,C,false⟩:F5)]).length=n:=by simp;omega
       rw [U,W];exact hk
    ·
     right;have J:j<ops.size:=(Hc.1 Z).1
     have M:∀i,(A.getD j 0).testBit i=true->bit D i=true:=fun i O=>h.listed i (GN FT h.shut j i oj Z O ax);have kz:FL (A.getD j 0) D=true:=by
      unfold FL;have:Nat.land (A.getD j 0) D=A.getD j 0:=by
       apply Nat.eq_of_testBit_eq;intro i;show(A.getD j 0&&&D).testBit i=_
       rw [fk];cases O:(A.getD j 0).testBit i with
       |false=>rfl
       |true=>rw [show D.testBit i=true from M i O];rfl
      rw [this];exact Nat.beq_refl _
     have hF:bit F j=true:=by
      have:=Mp.1 hfull j (L0.2 J);simp only [SP,N5]at this;rcases this with(h1|h1)|h1
      · exact h1
      · exact absurd h1 hD
      · exfalso
        have:FL (Nat.land (A.getD j 0) F) D=true:=by
         unfold FL;have:Nat.land (Nat.land (A.getD j 0) F) D=Nat.land (A.getD j 0) F:=by
          apply Nat.eq_of_testBit_eq;intro i;show((A.getD j 0&&&F)&&&D).testBit i=(A.getD j 0&&&F).testBit i
          rw [fk (A.getD j 0&&&F),fk];cases O:(A.getD j 0).testBit i with
          |false=>rfl
          |true=>rw [show D.testBit i=true from M i O];simp
         rw [this];exact Nat.beq_refl _
        rw [this]at h1;cases h1
     have G:j∈Lt ops A F D:=MD.2 ⟨L0.2 J,by rw [hF,kz];simp only [Bool.not_eq_true]at hD;rw [hD];rfl⟩;exact ⟨x,D,T,h,G,hfull,n,hn,hk j G⟩
theorem Ug{r:Option Nat}{i:Nat}{o:Oper}{a:Act}{w:A6}{K:Act->A6->Prop}(hi:ops[i]?=some o)(m:Region.wanted o (yielded ops a.tmps)=true)(h:o.wpIn (Fx r) 0 P a w K Q):wpOpIn (Fx r) 0 P ops Q i K a w:=by
 unfold wpOpIn;simp only [hi];rw [B0 m];exact h
theorem iq{r:Option Nat}{i:Nat}{o:Oper}{a:Act}{w:A6}{K:Act->A6->Prop}(hi:ops[i]?=some o)(m:Region.wanted o (yielded ops a.tmps)=false)(h:K (a.put o.dst undef) w):wpOpIn (Fx r) 0 P ops Q i K a w:=by
 unfold wpOpIn;simp only [hi];rw [As (by rw [m];simp)];exact ⟨fun _ _=>trivial,h⟩
theorem XD(hN:a0.tmps.size=cx.N)(hD:a0.defers=cx.D)(pq:Fit cx.N env0)(FT:JJ ops A cx.N):∀(U:Nat) (L:Array Bool) (a:Act) (w:A6) (x:List F5) (D:Nat) (T:List (Nat×AU)) (H:Hp),
 ((List.range ops.size).countP fun i=>!L.getD i false)<=U->KS P ops A F cx Q a0 env0 L a w x D T H->wpAnyIn (Fx cx.r) 0 P .any ops Q U L a w:=by
 have kv:∀(L:Array Bool),L.size=ops.size->Region.ready .any ops L=[]->∀j,j<ops.size->L.getD j false=true:=by
  intro L qd hr j;induction j using Nat.strongRecOn with
  |ind j ih=>
   intro hj;cases Z:L.getD j false with
   |true=>rfl
   |false=>
    obtain ⟨oj,G⟩:∃oj,ops[j]?=some oj:=⟨_,HO hj⟩;have:j∈Region.ready .any ops L:=mem_ready.2 ⟨by
     rw [JT,HO (by rw [qd];exact hj)]at Z⊢;simpa using Z,oj,G,fun e J X=>by
      have:=FT.edge j oj e G J X;exact ih e.on this A0⟩
    rw [hr]at this;cases this
 have gy:∀(L:Array Bool) (a:Act) (w:A6) (x:List F5) (D:Nat) (T:List (Nat×AU)) (H:Hp),KS P ops A F cx Q a0 env0 L a w x D T H->Region.ready .any ops L=[]->Q .normal a w:=by
  intro L a w x D T H h hr;have K:=kv L h.size hr
  have qo:ops.size<=x.length:=by
   have q9:=ka (l₁:=List.range ops.size) (l₂:=x.map (·.i)) ju (fun i hi=>by
    obtain ⟨e,J,q8⟩:=(h.mask i).1 (h.listed i (K i (L0.1 hi)));exact GB.2 ⟨e,J,q8⟩)
   simpa using q9
  have hw:=h.walk;rw [show ops.size -x.length=0 by omega]at hw;simp only [Lin]at hw;have ha:a=CS (G8 env0 x) a0:=by
   rw [h.act,IR];refine JW (by rw [DJ,DJ]) (by rw [FZ,FZ]) fun t ht=>?_;rw [DJ]at ht;rw [EP _ _ _ _ ht,EP _ _ _ _ ht];exact FN _ _ t x _ fun e J _=>K e.i (Hc.1 (h.isop e J)).1
  rw [ha];exact hw a0 w ⟨hN,hD,h.fit,h.sat⟩
 intro U;induction U with
 |zero=>
  intro L a w x D T H hc h;have hr:Region.ready .any ops L=[]:=by
   cases hr:Region.ready .any ops L with
   |nil=>rfl
   |cons j js=>
    have hj:j∈Region.ready .any ops L:=by rw [hr];exact K0 ..
    obtain ⟨ax,oj,G,_⟩:=mem_ready.1 hj;have bn:j<ops.size:=(Hc.1 G).1
    have W:L.getD j false=false:=by
     rw [JT]at ax⊢;rw [HO (by rw [h.size];exact bn)]at ax⊢;simpa using ax
    have:0<(List.range ops.size).countP fun i=>!L.getD i false:=List.countP_pos_iff.2 ⟨j,L0.2 bn,by rw [W];rfl⟩;omega
  exact ⟨hr,gy L a w x D T H h hr⟩
 |succ U ih=>
  intro L a w x D T H hc h;refine ⟨fun hr=>gy L a w x D T H h hr,fun j hj=>?_⟩;obtain ⟨ax,oj,G,K⟩:=mem_ready.1 hj;have bn:j<ops.size:=(Hc.1 G).1
  have M:j<L.size:=by rw [h.size];exact bn
  have W:L.getD j false=false:=by
   rw [JT]at ax⊢;rw [HO M]at ax⊢;simpa using ax
  have gm:((List.range ops.size).countP fun i=>!(L.setIfInBounds j true).getD i false)<=U:=by
   have cu:((List.range ops.size).countP fun i=>!(L.setIfInBounds j true).getD i false)<(List.range ops.size).countP fun i=>!L.getD i false:=by
    obtain ⟨r1,r2,hr⟩:=fR (L0.2 bn);rw [hr,fS,fS,List.countP_cons,List.countP_cons];have cO:∀l:List Nat,(l.countP fun i=>!(L.setIfInBounds j true).getD i false)<=l.countP fun i=>!L.getD i false:=fun l=>List.countP_mono_left fun i _ hi=>by
     rw [F4 _ _ _ M]at hi;split at hi;· simp at hi
     · exact hi
    have h1:=cO r1;have h2:=cO r2
    have e1:(!(L.setIfInBounds j true).getD j false)=false:=by rw [F4 _ _ _ M];simp
    have e2:(!L.getD j false)=true:=by rw [W];rfl
    rw [e1,e2];simp only [Mn,Hb,Ks];omega
   omega
  rcases pO FT G W K _ x D T H rfl h with⟨x',D',T',I,l9⟩|⟨x',D',T',I,hnext,hfull,m,hm,o,T'',ho,hwt,hT,hW⟩
  ·
   obtain ⟨e,J,p9⟩:=(I.mask j).1 l9;obtain ⟨x1,x2,hx⟩:=fR J;subst p9;have pg:e.o=oj:=by have:=I.isop e J;rw [G]at this;exact (PC this).symm
   subst pg;have qa:e.k=false:=by
    cases X:e.k with
    |false=>rfl
    |true=>have:=I.effs e (by rw [hx];simp) X;rw [W]at this;cases this
   have hP:=I.pend x1 e x2 hx qa;have O:=dS FT I hx W K
   have af:Fit a0.tmps.size (G8 env0 x1):=by
    have:∀(l:List F5) (E:Env),(∀k∈l,ops[k.i]?=some k.o)->Fit cx.N E->Fit cx.N (G8 E l):=by
     intro l;induction l with
     |nil=>intro E _ h;exact h
     |cons k l ihl=>intro E hk h;exact ihl _ (fun q hq=>hk q (HQ _ hq)) (h.putE (fun t ht=>FT.room k.i k.o t (hk k (K0 ..)) ht) _)
    rw [hN];exact this x1 env0 (fun k hk=>I.isop k (by rw [hx];simp [hk])) pq
   have pz:wpAnyIn (Fx cx.r) 0 P .any ops Q U (L.setIfInBounds e.i true) (a.put e.o.dst e.v) w->wpOpIn (Fx cx.r) 0 P ops Q e.i (wpAnyIn (Fx cx.r) 0 P .any ops Q U (L.setIfInBounds e.i true)) a w:=fun hz=>by
    rcases hP with⟨hy,hP⟩|⟨hno,hv,_⟩
    · refine Ug G (by rw [Hm O,FM ops e.o a0 _ af];exact hy a0) ⟨fun _ _=>trivial,Rf ?_⟩
      rw [Om (KL (FT.nod e.i e.o G))];rw [execOp_congr e.o (FT.sel e.i e.o · · G) (M3 O),FP a0 _ af];rw [hP a0 w fun c hc=>I.sat.get c (I.reads e J W c hc).2];exact hz
    · refine iq G (by rw [Hm O,FM ops e.o a0 _ af];exact hno a0) ?_
      rw [<-hv];exact hz
   refine pz ?_;refine ih (L.setIfInBounds e.i true) _ w x' D' T' H gm ⟨by simp [I.size],Y6 I.shut M G K,uh FT I hx W K,I.sat,I.mask,I.nodup,I.isop,fun k hk=>?_,fun k hk hf=>?_,I.order,I.pend,fun k hk Z c hc=>?_,I.fit,I.walk⟩
   · rw [F4 _ _ _ M]at hk
     split at hk
     · rename_i e1;subst e1;exact l9
     · exact I.listed k hk
   · rw [F4 _ _ _ M];split
     · rfl
     · exact I.effs k hk hf
   · rw [F4 _ _ _ M]at Z
     split at Z
     · cases Z
     · exact I.reads k hk Z c hc
  ·
   have qb:o=oj:=by rw [G]at ho;exact (PC ho).symm
   subst qb;obtain ⟨qh,o8,qg⟩:bit F j=true/\bit D' j=false/\FL (A.getD j 0) D'=true:=by
    have:=(MD.1 hnext).2;simp only [Fo,N5]at this;exact ⟨this.1.1,this.1.2,this.2⟩
   have bf:∀e∈x',e.i≠j:=fun e J hh=>by
    have:=(I.mask j).2 ⟨e,J,hh⟩;rw [o8]at this;cases this
   have O:∀t∈o.looksAt ops,a.tmps[t]?=(CS (G8 env0 x') a0).tmps[t]?:=by
    intro t ht;by_cases cu:t<(CS env0 a0).tmps.size
    · rw [I.act,IR,EP _ _ _ _ cu,EP _ _ _ _ cu]
      refine FN _ _ t x' _ fun k hk hd=>?_;have lv:=I.isop k hk
      have:(A.getD j 0).testBit k.i=true\/(A.getD k.i 0).testBit j=true:=by
       rcases Nat.lt_or_gt_of_ne (bf k hk)with Z|Z
       · rcases FT.apart k.i j k.o o lv G Z with hap|X
         · exact absurd ht ((Oper.apart_spec hap).1 t hd)
         · exact .inl X
       · rcases FT.apart j k.i o k.o G lv Z with hap|X
         · exact absurd ht ((Oper.apart_spec hap).2.2 t hd)
         · exact .inr X
      rcases this with X|X
      · exact GN FT I.shut j k.i o G X K
      · exfalso
        obtain ⟨y1,y2,hy⟩:=fR hk;obtain ⟨e',p8,hi⟩:=I.order y1 k y2 hy j X;exact bf e' (by rw [hy];simp [p8]) hi
    · have hs:a.tmps.size=(CS env0 a0).tmps.size:=by rw [I.act,DJ]
      rw [I3 (by rw [hs];exact cN cu),I3 (by rw [IR,DJ];exact cN cu)]
   refine Ug G (by rw [Hm O,FM ops o a0 _ (by rw [hN];exact I.fit)];exact hwt a0) ⟨fun _ _=>trivial,Rf ?_⟩;rw [Om (KL (FT.nod j o G))];rw [execOp_congr o (FT.sel j o · · G) (M3 O),FP a0 _ (by rw [hN];exact I.fit)];refine hW a0 w I.sat _ _ (fun v H' w' hv d9=>?_) (fun ch H' w' hv d9=>?_)
   · obtain ⟨o9,hk⟩:=hv
     have gq:G8 env0 (x'++[⟨j,o,v,[],true⟩])=putE o.dst v (G8 env0 x'):=by rw [M5];rfl
     have ek:∀(s1:List F5) (e:F5) (s2:List F5),x'++[⟨j,o,v,[],true⟩]=s1++e::s2->(∃s3,s2=s3++[⟨j,o,v,[],true⟩]/\x'=s1++e::s3)\/(s2=[]/\e=⟨j,o,v,[],true⟩/\s1=x'):=by
      intro s1 e s2 hs;rcases cD s2 with rfl|⟨s3,z,rfl⟩
      · right
        have:=eK hs rfl;exact ⟨V,(by simpa using this.2.symm),this.1.symm⟩
      · left
        have qc:x'++[⟨j,o,v,[],true⟩]=(s1++e::s3)++[z]:=by rw [hs];simp
        have:=eK qc rfl;have hz:z=⟨j,o,v,[],true⟩:=by simpa using this.2.symm
        exact ⟨s3,by rw [hz];simp,this.1⟩
     refine ih (L.setIfInBounds j true) _ w' (x'++[⟨j,o,v,[],true⟩]) (D'|||(1<<<j)) T'' H' gm ⟨by simp [I.size],Y6 I.shut M G K,?_,d9,fun k=>?_,?_,fun e J=>?_,fun k hk=>?_,fun k hk hf=>?_,fun s1 e s2 hs k X=>?_,fun s1 e s2 hs hf=>?_,fun e J Z c hc=>?_,?_,?_⟩;·
      rw [OI];have kz:lay (fun e=>(L.setIfInBounds j true).getD e.i false) x' (CS env0 a0)=a:=by
       rw [I.act];refine JW (by rw [DJ,DJ]) (by rw [FZ,FZ]) fun t ht=>?_;rw [DJ]at ht;rw [EP _ _ _ _ ht,EP _ _ _ _ ht];exact FN _ _ t x' _ fun k hk _=>by rw [F4 _ _ _ M,As (bf k hk)]
      rw [kz];simp only [lay];rw [B0 (by rw [F4 _ _ _ M];simp)]
     · rw [U3,I.mask k]
       constructor
       · rintro (⟨e,J,hi⟩|rfl)
         · exact ⟨e,by simp [J],hi⟩
         · exact ⟨⟨j,o,v,[],true⟩,by simp,rfl⟩
       · rintro ⟨e,J,hi⟩
         rcases DM.1 J with J|J
         · exact .inl ⟨e,J,hi⟩
         · simp only [D0]at J;subst J;exact .inr hi
     · rw [Dg,PB]
       refine ⟨I.nodup,by simp,fun p hp q hq=>?_⟩;simp only [HJ,LR,D0]at hq;subst hq;obtain ⟨e,J,rfl⟩:=GB.1 hp;exact bf e J
     · rcases DM.1 J with J|J
       · exact I.isop e J
       · simp only [D0]at J;subst J;exact G
     · rw [F4 _ _ _ M]at hk
       split at hk
       · rename_i e1;exact (U3 _ _ _).2 (.inr e1.symm)
       · exact (U3 _ _ _).2 (.inl (I.listed k hk))
     · rw [F4 _ _ _ M]
       split;· rfl
       · rename_i hne
         rcases DM.1 hk with hk|hk
         · exact I.effs k hk hf
         · rw [D0.1 hk]at hne;exact absurd rfl hne
     · rcases ek s1 e s2 hs with⟨s3,_,l8⟩|⟨_,rfl,rfl⟩
       · exact I.order s1 e s3 l8 k X
       · exact (I.mask k).1 (Rs qg X)
     · rcases ek s1 e s2 hs with⟨s3,_,l8⟩|⟨_,rfl,rfl⟩
       · exact I.pend s1 e s3 l8 hf
       · cases hf
     · rw [F4 _ _ _ M]at Z
       split at Z
       · cases Z
       · rename_i hne
         rcases DM.1 J with J|J
         · have hr:=I.reads e J Z c hc
           rcases hT (e.i,c) hr.1 with X|X
           · exfalso
             have:=GN FT I.shut j e.i o G X K;rw [Z]at this;cases this
           · exact ⟨X,o9 _ X⟩
         · simp only [D0]at J;subst J;cases hc
     · rw [gq];exact I.fit.putE (fun t ht=>FT.room j o t G ht) v
     · have mR:ops.size -(x'++[(⟨j,o,v,[],true⟩:F5)]).length=m:=by simp;omega
       rw [gq,mR];exact hk
   · have hp:=hv (G8 env0 x')
     have ha:∃a1,a=CS (G8 env0 x') a1/\a1.tmps.size=cx.N/\a1.defers=cx.D\/True:=⟨a,.inr trivial⟩;clear ha;have:=hv [] a w' ⟨by rw [I.act,DJ,Ja];exact hN,by rw [I.act,FZ,Ff];exact hD,(by intro q hq;cases hq),d9⟩
     exact this
section
variable{n D:Nat}{T:List (Nat×AU)}{env:Env}{H:Hp}
theorem Ao(h:Nx cx (Q .normal) env H):Lin P ops A F cx Q 0 D T env H:=h
theorem wE{d:Nat}{G:Op}{ty:AM}{pos:String}{af:Array Edge}{v:A4}{D':Nat}(i:Nat)(J:ops[i]?=some ⟨some d,G,ty,pos,af,none⟩)(m:(!bit F i&&!bit D i&&FL (A.getD i 0) D)=true)(I:D|||(1<<<i)=D')(E:OpP P ⟨some d,G,ty,pos,af,none⟩ env [] v)
 (k:Lin P ops A F cx Q n D' T ((d,v)::env) H):Lin P ops A F cx Q (n+1) D T env H:=by
 simp only [Fo,N5]at m;subst I;exact .inl ⟨i,_,v,[],J,m.1.2,m.2,by simp,.inl ⟨fun _=>rfl,E⟩,k⟩
theorem Bq{d:Nat}{E:Op}{ty:AM}{pos:String}{af:Array Edge}{v:A4}{D':Nat}(i:Nat)(m:OpP P ⟨some d,E,ty,pos,af,none⟩ env [] v)
 (k:Lin P ops A F cx Q n D' T ((d,v)::env) H)(J:ops[i]?=some ⟨some d,E,ty,pos,af,none⟩:=by exact rfl)(G:(!bit F i&&!bit D i&&FL (A.getD i 0) D)=true:=by exact rfl)(I:D|||(1<<<i)=D':=by exact rfl):Lin P ops A F cx Q (n+1) D T env H:=wE i J G I m k
theorem Am{d:Nat}{G:Op}{ty:AM}{pos:String}{af:Array Edge}{g:Nat×Bool}{v:A4}{D':Nat}(i:Nat)(J:∀a,wantedE ops a env (some g)=true)(K:ops[i]?=some ⟨some d,G,ty,pos,af,some g⟩)(m:(!bit F i&&!bit D i&&FL (A.getD i 0) D)=true)(I:D|||(1<<<i)=D')(E:OpP P ⟨some d,G,ty,pos,af,some g⟩ env [] v)
 (k:Lin P ops A F cx Q n D' T ((d,v)::env) H):Lin P ops A F cx Q (n+1) D T env H:=by
 simp only [Fo,N5]at m;subst I;exact .inl ⟨i,_,v,[],K,m.1.2,m.2,by simp,.inl ⟨J,E⟩,k⟩
theorem pM{o:Oper}{D':Nat}(i:Nat)(I:ops[i]?=some o)(G:∀a,wantedE ops a env o.guard=false)(m:(!bit D i&&FL (A.getD i 0) D)=true)(E:D|||(1<<<i)=D')
 (k:Lin P ops A F cx Q n D' T (putE o.dst undef env) H):Lin P ops A F cx Q (n+1) D T env H:=by
 simp only [Fo,N5]at m;subst E;exact .inl ⟨i,_,undef,[],I,m.1,m.2,by simp,.inr ⟨G,V,V⟩,k⟩
theorem Cc{t:Nat}{p:Prop} [I:Decidable p](hv:∀a,FU a env t= .bool (decide p))(G:p->Lin P ops A F cx Q n D T env H)(E:¬p->Lin P ops A F cx Q n D T env H):Lin P ops A F cx Q n D T env H:=by
 by_cases m:p
 · exact G m
 · exact E m
theorem Ck{t:Nat}{b:Bool}(hv:∀a,FU a env t= .bool b)(E:b=true->Lin P ops A F cx Q n D T env H)(m:b=false->Lin P ops A F cx Q n D T env H):Lin P ops A F cx Q n D T env H:=by
 cases hb:b;· exact m hb
 · exact E hb
theorem DW{d:Nat}{G:Op}{ty:AM}{pos:String}{af:Array Edge}{v:A4}{b:Nat}{x:Obj}{D':Nat}(i:Nat)(K:ops[i]?=some ⟨some d,G,ty,pos,af,none⟩)(m:(!bit F i&&!bit D i&&FL (A.getD i 0) D)=true)(I:D|||(1<<<i)=D')(J:Has b x H)(E:OpP P ⟨some d,G,ty,pos,af,none⟩ env [(b,x)] v)
 (k:Lin P ops A F cx Q n D' ((i,(b,x))::T) ((d,v)::env) H):Lin P ops A F cx Q (n+1) D T env H:=by
 simp only [Fo,N5]at m;subst I;exact .inl ⟨i,_,v,[(b,x)],K,m.1.2,m.2,by simpa using J.mem,.inl ⟨fun _=>rfl,E⟩,k⟩
theorem Bv{d:Nat}{G:Op}{ty:AM}{pos:String}{af:Array Edge}{g:Nat×Bool}{v:A4}{b:Nat}{x:Obj}{D':Nat}(i:Nat)(K:∀a,wantedE ops a env (some g)=true)(M:ops[i]?=some ⟨some d,G,ty,pos,af,some g⟩)(m:(!bit F i&&!bit D i&&FL (A.getD i 0) D)=true)(I:D|||(1<<<i)=D')(J:Has b x H)(E:OpP P ⟨some d,G,ty,pos,af,some g⟩ env [(b,x)] v)
 (k:Lin P ops A F cx Q n D' ((i,(b,x))::T) ((d,v)::env) H):Lin P ops A F cx Q (n+1) D T env H:=by
 simp only [Fo,N5]at m;subst I;exact .inl ⟨i,_,v,[(b,x)],M,m.1.2,m.2,by simpa using J.mem,.inl ⟨K,E⟩,k⟩
def Xl(P:Program)(ops:Array Oper)(A:List Nat)(F:Nat)(cx:Cx)(Q:Exit->Act->A6->Prop)(n D:Nat)(T:List (Nat×AU))(env:Env)(H:Hp):List Nat->Prop
 |[]=>True
 |f::l=>(∃o T',ops[f]?=some o/\(∀a,wantedE ops a env o.guard=true)/\(∀p∈T,bit (A.getD f 0) p.1=true\/p∈T')/\
   OpW P cx.u o env H (fun v H'=>(∀p∈T',p.2∈H'.flatten)/\Lin P ops A F cx Q n (D|||(1<<<f)) T' (putE o.dst v env) H') (fun ch H'=>∀env,Nx cx (Q (.panic ch)) env H'))/\Xl P ops A F cx Q n D T env H l
theorem aL:∀(l:List Nat),Xl P ops A F cx Q n D T env H l->∀f∈l,∃o m,ops[f]?=some o/\(∀a,wantedE ops a env o.guard=true)/\(∀p∈T,bit (A.getD f 0) p.1=true\/p∈m)/\
 OpW P cx.u o env H (fun v H'=>(∀p∈m,p.2∈H'.flatten)/\Lin P ops A F cx Q n (D|||(1<<<f)) m (putE o.dst v env) H') (fun ch H'=>∀env,Nx cx (Q (.panic ch)) env H')
 |[],_,_,h=>by cases h
 |g::l,h,f,hf=>by
  rcases E4.1 hf with rfl|hf
  · exact h.1
  · exact aL l h.2 f hf
theorem XC{l:List Nat}(m:ko ops A F D=true)(h2:Lt ops A F D=l)(h:Xl P ops A F cx Q n D T env H l):Lin P ops A F cx Q (n+1) D T env H:= .inr ⟨m,by rw [h2];exact aL l h⟩
def sel{α:Type}:List Bool->List α->List α
 |true::bs,x::l=>x::sel bs l
 |false::bs,_::l=>sel bs l
 |_,_=>[]
def Oo(m:Nat):List Bool->List Nat->Bool
 |true::bs,_::l=>Oo m bs l
 |false::bs,x::l=>bit m x&&Oo m bs l
 |[],[]=>true
 |_,_=>false
theorem Q0{m:Nat}:∀(bs:List Bool) (T:List (Nat×AU)),Oo m bs (T.map (·.1))=true->∀p∈T,bit m p.1=true\/p∈sel bs T
 |[],[],_,p,hp=>by cases hp
 |[],_::_,h,_,_=>by simp [Oo]at h
 |_::_,[],_,p,hp=>by cases hp
 |true::bs,x::T,h,p,hp=>by
  simp only [HJ,Oo]at h;rcases E4.1 hp with rfl|hp
  · exact .inr (by simp [sel])
  · exact (Q0 bs T h p hp).imp id fun E=>by simp only [sel];exact HQ _ E
 |false::bs,x::T,h,p,hp=>by
  simp only [HJ,Oo,Fo]at h;rcases E4.1 hp with rfl|hp
  · exact .inl h.1
  · exact (Q0 bs T h.2 p hp).imp id fun E=>by simp only [sel];exact E
theorem W9{f m:Nat}{l is:List Nat}{o:Oper}{D':Nat}{bs:List Bool}{E:List (Nat×AU)}{X:A4->Hp->Prop}{W:List PanicEntry->Hp->Prop}(ho:ops[f]?=some o)(hg:∀a,wantedE ops a env o.guard=true)(hD:D|||(1<<<f)=D')(hm:A[f]?=some m)(J:T.map (·.1)=is)(O:Oo m bs is=true)(hT:sel bs T=E)(hw:OpW P cx.u o env H X W)
 (k:∀v H',X v H'->(∀p∈E,p.2∈H'.flatten)/\Lin P ops A F cx Q n D' E (putE o.dst v env) H')(kp:∀ch H',W ch H'->∀env,Nx cx (Q (.panic ch)) env H')(hl:Xl P ops A F cx Q n D T env H l):Xl P ops A F cx Q n D T env H (f::l):=by
 subst hD;subst hT;subst J;have M:A.getD f 0=m:=by rw [Lw,hm];rfl
 exact ⟨⟨o,_,ho,hg,fun p hp=>by rw [M];exact Q0 bs T O p hp,fun a w hs K Z hK I=>hw a w hs K Z (fun v H' U G h2=>hK v H' U (k v H' G) h2) (fun ch H' U G h2=>I ch H' U (kp ch H' G) h2)⟩,hl⟩
theorem Ay:Xl P ops A F cx Q n D T env H []:=trivial
end
theorem Ae{H:Hp}:∀p∈([]:List (Nat×AU)),p.2∈H.flatten:=by intro p m;cases m
theorem kL{H:Hp}{i b:Nat}{x:Obj}{T:List (Nat×AU)}(h:Has b x H)(E:∀p∈T,p.2∈H.flatten):∀p∈((i,(b,x))::T),p.2∈H.flatten:=by
 intro p m;rcases E4.1 m with rfl|m
 · exact h.mem
 · exact E p m
theorem BJ{id n:Nat}{env:Env}{H:Hp}(A:List Nat)(F:Nat)(O:P.follows .mixedOrders=true)(G:TQ ops A cx.N=true)(hn:ops.size=n)(h:Lin P ops A F cx Q n 0 [] env H):At P cx (.region id ops true) Q env H:=fun a w E=>by
 subst hn;have K:=dU G
 refine wpIn_region_any O (XD (a0:=a) (env0:=env) E.size E.defers E.fit K ops.size _ _ _ [] 0 [] H ?_ ⟨by simp,fun j oj W J=>?_,V,E.sat.drew,fun i=>?_,by simp,(by intro e m;cases m),fun i hi=>?_,fun i hi=>?_,fun I e U hx=>?_,fun I e U hx=>?_,(by intro e m;cases m),E.fit,h⟩)
 · refine SZ List.countP_le_length ?_
   simp
 · simp [du]at J
   split at J<;>simp_all
 · constructor
   · intro M;simp [bit]at M
   · rintro ⟨e,m,_⟩;cases m
 · exfalso
   simp [du]at hi;split at hi<;>simp_all
 · simp [bit]at hi
 · cases I<;>cases hx
 · cases I<;>cases hx
end
end Gw
