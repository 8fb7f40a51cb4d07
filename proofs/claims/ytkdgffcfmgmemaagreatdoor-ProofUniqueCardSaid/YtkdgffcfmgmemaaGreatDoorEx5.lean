/- Walking by chunks: copy, append, slices of arrays, bytes out of a string. No function of the program is named. -/
/- Walking by chunks: an own slice whose elements are of several cells: append, clear. No function of the program is named. -/
/- Walking by chunks: an empty slice literal; append of a row that may be nil or empty. No function of the program is named. -/
/- Walking by chunks: a cut (what comes behind is proved once), a segment cut in two. No function of the program is named. -/
/- Walking by chunks: clear of a part of a row; rows behind a sort. No function of the program is named. -/
/- Walking by chunks: lists of three numbers compared. No function of the program is named. -/
/- Walking by chunks: regions that draw their order. The operations without effect are taken as soon as what they hang on has come up; those with an effect are met in every order that their edges leave. No function of the program is named. -/
import Derived.Test.YtkdgffcfmgmemaaGreatDoorEx4
import Derived.LaidEqlPtr
import Derived.Sort.OwnSortedInts
import Derived.Lib.SlicesCompact
import Derived.Laws.StructEq
import Derived.Test.YtkdgffcfmgmemaaGreatDoorEx3
set_option linter.unusedVariables false
set_option linter.unusedSimpArgs false
namespace Gw
open Go Go.RowKit
section
variable{P:Program}{env:Env}{d:Option Nat}{ty:TypeId}{pos:String}{af:Array Edge}{g:Option (Nat×Bool)}
section
variable{t e:TypeId}{n:Nat}{x lo hi:Operand}{b o l h s:Nat}{lk hk:IntKind}
theorem F4(hu:P.underlying t=some (.array n e))(hs:∀w:World,(Go.sizeOf e).run P w= .ok s w)(hx:∀a,ev a env x= .pointer (some ⟨b,o,none⟩)):
 OpP P ⟨d,.slice t x none none none,ty,pos,af,g⟩ env [] (.slice (some ⟨b,o,none⟩) n n):=fun a w _=>by
 simp [Gu,hx a,Instr.sliceAt,run_underlying hu,Instr.sureAddr,Instr.sliceBounds,hs,Addr.add]
theorem OB(hu:P.underlying t=some (.array n e))(hs:∀w:World,(Go.sizeOf e).run P w= .ok s w)(hx:∀a,ev a env x= .pointer (some ⟨b,o,none⟩))(hl:∀a,ev a env lo= .int lk (l:Int))(h1:l<n):
 OpP P ⟨d,.slice t x (some lo) none none,ty,pos,af,g⟩ env [] (.slice (some ⟨b,o+l*s,none⟩) (n -l) (n -l)):=fun a w _=>by
 have h2:l≤n:=by omega
 have h3:¬n=l:=by omega
 simp [Gu,hx a,hl a,Instr.sliceAt,run_underlying hu,Instr.sureAddr,Instr.sliceBounds,Instr.sliceBound,asIntOf,hs,h2,h3,CJ]
theorem QV(hu:P.underlying t=some (.array n e))(hs:∀w:World,(Go.sizeOf e).run P w= .ok s w)(hx:∀a,ev a env x= .pointer (some ⟨b,o,none⟩))(hh:∀a,ev a env hi= .int hk (h:Int))(h1:h≤n):
 OpP P ⟨d,.slice t x none (some hi) none,ty,pos,af,g⟩ env [] (.slice (some ⟨b,o,none⟩) h n):=fun a w _=>by
 simp [Gu,hx a,hh a,Instr.sliceAt,run_underlying hu,Instr.sureAddr,Instr.sliceBounds,Instr.sliceBound,asIntOf,hs,h1,Addr.add]
end
theorem QU{t e:TypeId}{x lo hi mx:Operand}{b o n cap l h s:Nat}{lk hk mk:IntKind}(hu:P.underlying t=some (.slice e))(hs:∀w:World,(Go.sizeOf e).run P w= .ok s w)(hx:∀a,ev a env x= .slice (some ⟨b,o,none⟩) n cap)(hl:∀a,ev a env lo= .int lk (l:Int))(hh:∀a,ev a env hi= .int hk (h:Int))(hm:∀a,ev a env mx= .int mk (h:Int))(h1:l<h)(h2:h≤cap):
 OpP P ⟨d,.slice t x (some lo) (some hi) (some mx),ty,pos,af,g⟩ env [] (.slice (some ⟨b,o+l*s,none⟩) (h -l) (h -l)):=fun a w _=>by
 have h3:l≤h:=by omega
 have h4:¬h=l:=by omega
 simp [Gu,hx a,hl a,hh a,hm a,Instr.sliceAt,Instr.slice,run_underlying hu,Instr.sliceBounds,Instr.sliceBound,asIntOf,h2,h3,h4,hs,CJ]
variable{u:World}{H H' R:Hp}
def Bw(c:Array Value)(o:Nat)(cs:List Value):Prop:=(c.toList.drop o).take cs.length=cs
theorem Bw.get{c:Array Value}{o:Nat}{cs:List Value}(h:Bw c o cs)(j:Nat)(v:Value)(hj:cs[j]?=some v):c[o+j]?=some v:=by
 have hlt:j<cs.length:=(tH.1 hj).1;have h1:((c.toList.drop o).take cs.length)[j]?=cs[j]?:=by rw [h]
 rw [uX,if_pos hlt,uw,uO,hj]at h1;exact h1
theorem I7{w:World}{b o:Nat}{c:Array Value}{T:TypeId}{z:Nat×Nat}{cs:List Value}(hb:w.heap[b]?=some (.cells c T z))(h:Bw c o cs):∀j v,cs[j]?=some v→w.cell? ((⟨b,o,none⟩:Addr).add j)=some v:=fun j v hj=>by
 rw [CJ];exact Cg hb (h.get j v hj)
theorem oP{x y:Operand}{dT sT e:TypeId}{b o n cap b' o' n' cap':Nat}{c c' c1:Array Value}{T T1:TypeId}{z z1:Nat×Nat}{cs:List Value}
 (hu:P.underlying dT=some (.slice e))(hs:∀w:World,(Go.sizeOf e).run P w= .ok 1 w)(hx:∀a,ev a env x= .slice (some ⟨b,o,none⟩) n cap)(hy:∀a,ev a env y= .slice (some ⟨b',o',none⟩) n' cap')
 (hsrc:Has b' (.cells c1 T1 z1) H)(hup:Upd b (.cells c T z) (.cells c' T z) H H')(hcs:Bw c1 o' cs)(hn:cs.length=min n' n)(hc:Ed c o cs=c')(hfit:o+cs.length≤c.size)(hz:KY z c.size)(h1:∀v∈cs,v.oneCell'=true):
 OpW P u ⟨d,.call ⟨.builtin .copy,#[x,y],#[dT,sT]⟩,ty,pos,af,g⟩ env H (fun v H1=>v=I4 ((min n' n:Nat):Int)∧H1=H') (fun _ _=>False):=fun a w hsat K Kp hK _=>by
 have hb:=hsat.get _ hup.has.mem;have hb':=hsat.get _ hsrc.mem
 have hl:=run_loadCells_list (P:=P) w ⟨b',o',none⟩ cs (I7 hb' hcs);rw [hn]at hl;have hst:=D8 (P:=P) b o T z cs 0 c w hb hz (by simpa using hfit) h1
 simp only [wU]at hst;have hmin:Nat.min n' n=min n' n:=rfl
 have:(execOp (ev a env) ⟨d,.call ⟨.builtin .copy,#[x,y],#[dT,sT]⟩,ty,pos,af,g⟩).run P w= .ok (.value (I4 ((min n' n:Nat):Int))) (w.setRow b (Ed c o cs)):=by
  simp [EJ,resolve,invoke,builtin,hx a,hy a,Builtin.copy_,run_underlying hu,Builtin.lenOf,Builtin.firstCells,hs,hmin,hl,hst,Ed,goInt]
 rw [this];exact hK _ _ _ ⟨rfl,rfl⟩ (hsat.upd hup rfl rfl rfl (by rw [setRow_heap w b c _ T z hb,hc]) fun k hk=>setRow_other w b k _ hk)
def Row(e:TypeId)(v:Value)(xs:List Value)(s:List AR):Prop:=
 (v= .slice none 0 0∧xs=[]∧s=[])∨
 ∃g cap cur z,v=I6 g xs.length cap∧s=[(g,.cells cur e z)]∧xs.length≤cap∧cap≤maxLen∧cur.size=cap∧cur.toList.take xs.length=xs∧KY z cur.size
theorem IR(e:TypeId):Row e (.slice none 0 0) [] []:= .inl ⟨rfl,rfl,rfl⟩
theorem ZL(e:TypeId)(g:Nat)(xs:List Value)(n:Nat)(hn:xs.length=n)(h:n≤maxLen):Row e (I6 g n n) xs [(g,.cells xs.toArray e (0,0))]:=by
 subst hn;exact .inr ⟨g,xs.length,xs.toArray,(0,0),rfl,rfl,tQ _,h,by simp,by simp,BQ _⟩
theorem Row.form{e:TypeId}{v:Value}{xs:List Value}{s:List AR}(h:Row e v xs s):∃b cap,v= .slice b xs.length cap:=by
 rcases h with⟨rfl,rfl,rfl⟩|⟨g,cap,cur,z,rfl,_⟩
 · exact ⟨none,0,rfl⟩
 · exact ⟨some ⟨g,0,none⟩,cap,rfl⟩
theorem Row.some{e:TypeId}{v:Value}{xs:List Value}{s:List AR}(h:Row e v xs s)(hn:0<xs.length):∃g cap cur z,v=I6 g xs.length cap∧s=[(g,.cells cur e z)]∧xs.length≤cap∧cap≤maxLen∧cur.size=cap∧cur.toList.take xs.length=xs∧KY z cur.size:=by
 rcases h with⟨_,rfl,_⟩|h
 · cases hn
 · exact h
theorem Dq{x y:Operand}{t e:TypeId}{i:TypeInfo}{z:Value}{by_:Nat}{v:Value}{xs:List Value}{s:List AR}{b o m c:Nat}{c1:Array Value}{T1:TypeId}{z1:Nat×Nat}{news:List Value}
 (ht:P.underlying t=some (.slice e))(hi:P.info? e=some i)(hsz:i.size=1)(hby:i.bytes=by_)(hzi:i.zero=some z)(hz1:z.oneCell'=true)
 (hx:∀a,ev a env x=v)(hrow:Row e v xs s)(hy:∀a,ev a env y= .slice (some ⟨b,o,none⟩) m c)(hone:One s H R)(hsrc:Has b (.cells c1 T1 z1) R)(hnews:Bw c1 o news)(hl:news.length=m)(h1:∀u∈news,u.oneCell'=true)
 (hm:0<m)(h63:xs.length+m≤maxLen)(hb:(xs.length+m)*by_≤140737488355328):
 OpW P u ⟨d,.call ⟨.builtin .append,#[x,y],#[t,t]⟩,ty,pos,af,g⟩ env H (fun v' H1=>∃s',Row e v' (xs++news) s'∧H1=s'::R) (fun _ _=>False):=fun a w hsat K Kp hK _=>by
 have hs1:Sat u (s::R) w:=hsat.perm (by simpa using hone.perm);have hsR:Sat u R w:=hs1.sub ⟨s,by simp only [uG];exact uj⟩
 have hsrcw:=hsR.get _ hsrc.mem;have hnw:=I7 hsrcw hnews
 have hzc:z.cells=#[z]:=by cases z<;>first|rfl|simp [Value.oneCell']at hz1
 have hl':news.length=m*i.size:=by rw [hsz];omega
 have hml:maxLen=9223372036854775807:=rfl;have run_of:∀{v':Value} {w':World},(Builtin.append_ #[t,t] ty #[v,.slice (some ⟨b,o,none⟩) m c]).run P w= .ok v' w'→(execOp (ev a env) ⟨d,.call ⟨.builtin .append,#[x,y],#[t,t]⟩,ty,pos,af,g⟩).run P w= .ok (.value v') w':=fun h=>by
  simp only [EJ,resolve,invoke,builtin,wV,uo,wM,hx a,hy a,Sem.run_bind,Sem.run_pure,Result.andThen_ok,h]
 have fresh:∀(n cap:Nat) (cells:Array Value) (w1:World),w1={w with drawn:=n,heap:=w.heap.push (.cells cells e)}→Sat u ([(w.heap.size,.cells cells e (0,0))]::R) w1:=fun n cap cells w1 h=>by
  subst h;exact (hsR.drawn n).alloc _
 rcases hrow with⟨rfl,rfl,rfl⟩|⟨gb,cap,cur,zz,rfl,rfl,hle,hcm,hcs,htk,hfr⟩
 · have hr:=run_append_nil (P:=P) w t ty e i z ht hi hzi ⟨b,o,none⟩ m c news hl' hnw hm (by simp only [vG,uL]at h63;omega) (by rw [hby];simp only [vG,uL]at hb;omega)
   rw [run_of hr];have hge:=grownCap_ge w m 0 e
   have hcap:grownCap w m 0 e≤maxLen:=grownCap_le_maxLen w m 0 e (by simpa using h63);refine hK _ _ _ ⟨[(w.heap.size,.cells (news.toArray++Builtin.zeroCells z.cells (grownCap w m 0 e -m)) e (0,0))],.inr ⟨w.heap.size,grownCap w m 0 e,_,(0,0),?_,rfl,?_,hcap,?_,?_,BQ _⟩,rfl⟩ (fresh _ 0 _ _ rfl)
   · simp [hl]
   · simpa [hl]using hge
   · simp [size_zeroCells,hzc,hl];omega
   · simp [hl]
 · have hg:=hs1.get (gb,.cells cur e zz) (by simp)
   by_cases hroom:xs.length+m≤cap
   · have hf:=run_firstCells_some (P:=P) w i.size m ⟨b,o,none⟩ m c news hl' hnw
     rw [hsz]at hf;have hst:=D8 (P:=P) gb xs.length e zz news 0 cur w hg hfr (by rw [hl,hcs];omega) h1
     simp only [wU]at hst;have hr:(Builtin.append_ #[t,t] ty #[I6 gb xs.length cap,.slice (some ⟨b,o,none⟩) m c]).run P w= .ok (I6 gb (xs.length+m) cap) (w.setRow gb (Ed cur xs.length news)):=by
      simp [Builtin.append_,run_underlying ht,Go.sizeOf,typeInfo,hi,hsz,Builtin.lenOf,hroom,hf,CJ,hst,Ed]
     rw [run_of hr];have hov:(Ed cur xs.length news).size=cap:=by
      unfold Ed;simp;omega
     refine hK _ _ _ ⟨[(gb,.cells (Ed cur xs.length news) e zz)],.inr ⟨gb,cap,_,zz,by simp [hl],rfl,by simpa [hl]using hroom,hcm,hov,?_,by rw [hov,←hcs];exact hfr⟩,rfl⟩
      (hs1.upd (.here _) rfl rfl rfl (setRow_heap w gb cur _ e zz hg) fun k hk=>setRow_other w gb k _ hk)
     unfold Ed;rw [htk];simp only [tO];rw [←tO];exact ul (by simp)
   · have holds:∀j v,xs[j]?=some v→w.cell? ((⟨gb,0,none⟩:Addr).add j)=some v:=fun j v hj=>by
      rw [CJ];refine Cg hg ?_;have hlt:j<xs.length:=(tH.1 hj).1
      have:(cur.toList.take xs.length)[j]?=some v:=by rw [htk];exact hj
      rw [uX,if_pos hlt]at this;simpa using this
     have hr:=run_append_grow (P:=P) w t ty e i z ht hi hzi ⟨gb,0,none⟩ xs.length cap xs (by rw [hsz];omega) holds ⟨b,o,none⟩ m c news hl' hnw (by omega) (by omega) (growslice_fits (by omega) (by rw [hby];exact hb));rw [run_of hr];have hge:=grownCap_ge w (xs.length+m) cap e
     have hcap:grownCap w (xs.length+m) cap e≤maxLen:=grownCap_le_maxLen w (xs.length+m) cap e h63;refine hK _ _ _ ⟨[(w.heap.size,.cells (xs.toArray++news.toArray++Builtin.zeroCells z.cells (grownCap w (xs.length+m) cap e -(xs.length+m))) e (0,0))],.inr ⟨w.heap.size,grownCap w (xs.length+m) cap e,_,(0,0),?_,rfl,?_,hcap,?_,?_,BQ _⟩,rfl⟩ (fresh _ 0 _ _ rfl)
     · simp [hl]
     · simpa [hl]using hge
     · simp [size_zeroCells,hzc,hl];omega
     · simp only [xO]
       exact ul (by simp)
theorem lM{s t e:TypeId}{x:Operand}{str:ByteArray}(hs:P.underlying s=some .string)(ht:P.underlying t=some (.slice e))(he:P.underlying e=some (.int .u8))(hx:∀a,ev a env x= .string str)(hm:str.size≤maxLen):
 OpW P u ⟨d,.convert s t x,ty,pos,af,g⟩ env H (fun v' H1=>∃s',Row e v' (str.data.toList.map u8v) s'∧H1=s'::H) (fun _ _=>False):=fun a w hsat K Kp hK _=>by
 have hge:str.size≤grownCap w str.size 0 e:=grownCap_ge w str.size 0 e;have hcap:grownCap w str.size 0 e≤maxLen:=grownCap_le_maxLen w str.size 0 e hm
 have hlen:(str.data.toList.map u8v).length=str.size:=by rw [tJ];rfl
 obtain ⟨cells,hcells⟩:∃cells:Array Value,cells=str.data.map (fun b=>Value.int .u8 b.toNat)++Array.replicate (grownCap w str.size 0 e -str.size) (.int .u8 0):=⟨_,rfl⟩;have hsize:cells.size=grownCap w str.size 0 e:=by
  have:str.data.size=str.size:=rfl;rw [hcells];simp [this];omega
 have hrun:(execOp (ev a env) ⟨d,.convert s t x,ty,pos,af,g⟩).run P w= .ok (.value (.slice (some ⟨w.heap.size,0,none⟩) str.size (grownCap w str.size 0 e))) (World.freeze {w with drawn:=w.drawn+1,heap:=w.heap.push (.cells cells e)} ⟨w.heap.size,cells.size,none⟩ 1):=by
  have hsh:(({w with drawn:=w.drawn+1,heap:=w.heap.push (.cells cells e)}:World).shape? w.heap.size)=some (e,cells.size):=by
   simp [World.shape?]
  simp only [Nl,hx a,convert,Sem.run_bind,run_underlying hs,run_underlying ht,run_underlying he,Result.andThen_ok,Conv.stringToBytes,choose,Sem.run,Question.forced,newRow,newObj,Sem.run_pure,vH,if_false];rw [show Question.cut (.appendCap str.size 0 e) (w.tape w.drawn (.appendCap str.size 0 e))=grownCap w str.size 0 e from rfl,←hcells];simp [markStringish,hsh]
 rw [hrun];refine hK _ _ _ ⟨[(w.heap.size,.cells cells e (cells.size,cells.size+1))],.inr ⟨w.heap.size,grownCap w str.size 0 e,cells,(cells.size,cells.size+1),by rw [hlen],rfl,by rw [hlen];exact hge,hcap,hsize,?_,WV _ _ (tQ _) _⟩,rfl⟩ ?_
 · rw [hlen,hcells]
   have:str.data.size=str.size:=rfl;simp [u8v,yg,List.take_append,this]
 · have h1:Sat u ([(w.heap.size,.cells cells e (0,0))]::H) {w with drawn:=w.drawn+1,heap:=w.heap.push (.cells cells e)}:=(hsat.drawn (w.drawn+1)).alloc _
   refine h1.upd (.here _) ?_ ?_ ?_ ?_ fun k hk=>?_
   · simp [World.freeze]
   · simp [World.freeze]
   · simp [World.freeze]
   · simp only [World.freeze,Nat.one_ne_zero,if_false]
     rw [vU,if_pos rfl];simp
   · simp [World.freeze,vU,Ne.symm hk]
end
theorem Bd{P:Program}{cx:Cx}{c:Code}{Q:Exit→Act→World→Prop}{env:Env}{H:Hp}(h:At P cx c Q env ([]::H)):At P cx c Q env H:=aS (H':=[]::H) rfl h
def BX(sz:Nat)(e:TypeId)(v:Value)(k:Nat)(xs:List Value)(s:List AR):Prop:=
 xs.length=k*sz∧((v= .slice none 0 0∧k=0∧s=[])∨
 ∃g cap cur z,v=I6 g k cap∧s=[(g,.cells cur e z)]∧k≤cap∧cap≤maxLen∧cur.size=cap*sz∧cur.toList.take (k*sz)=xs∧KY z cur.size)
theorem BV(sz:Nat)(e:TypeId):BX sz e (.slice none 0 0) 0 [] []:=⟨by simp,.inl ⟨rfl,rfl,rfl⟩⟩
theorem BX.form{sz:Nat}{e:TypeId}{v:Value}{k:Nat}{xs:List Value}{s:List AR}(h:BX sz e v k xs s):∃b cap,v= .slice b k cap:=by
 rcases h with⟨_,⟨rfl,rfl,rfl⟩|⟨g,cap,cur,z,rfl,_⟩⟩
 · exact ⟨none,0,rfl⟩
 · exact ⟨some ⟨g,0,none⟩,cap,rfl⟩
theorem BX.cut{sz:Nat}{e:TypeId}{b:Option Addr}{n cap k:Nat}{xs:List Value}{s:List AR}(h:BX sz e (.slice b n cap) k xs s):BX sz e (.slice b 0 cap) 0 [] s:=by
 rcases h with⟨_,⟨h1,rfl,rfl⟩|⟨g,cap',cur,z,h1,rfl,hle,hcm,hcs,htk,hfr⟩⟩
 · simp only [Value.slice.injEq]at h1
   obtain ⟨rfl,rfl,rfl⟩:=h1;exact BV sz e
 · simp only [Value.slice.injEq]at h1
   obtain ⟨rfl,rfl,rfl⟩:=h1;exact ⟨by simp,.inr ⟨g,cap,cur,z,rfl,rfl,tX _,hcm,hcs,by simp,hfr⟩⟩
theorem RS{P:Program}{e:TypeId}{i:TypeInfo}{z:Value}(hi:P.info? e=some i)(hzi:i.zero=some z)(w:World):(zeroValue e).run P w= .ok z w:=by
 simp [zeroValue,typeInfo,hi,hzi]
section
variable{P:Program}{u:World}{env:Env}{H R:Hp}{d:Option Nat}{ty:TypeId}{pos:String}{af:Array Edge}{g:Option (Nat×Bool)}
theorem SA{x y:Operand}{t e:TypeId}{i:TypeInfo}{z:Value}{by_ sz k:Nat}{v:Value}{xs:List Value}{s:List AR}{b o m c:Nat}{news:List Value}
 (ht:P.underlying t=some (.slice e))(hi:P.info? e=some i)(hsz:i.size=sz)(hby:i.bytes=by_)(hzi:i.zero=some z)(hz1:z.cells.size=sz)
 (hx:∀a,ev a env x=v)(hrow:BX sz e v k xs s)(hy:∀a,ev a env y= .slice (some ⟨b,o,none⟩) m c)(hone:One s H R)(hnw0:∀w,Sat u R w→∀j v,news[j]?=some v→w.cell? ((⟨b,o,none⟩:Addr).add j)=some v)(hl:news.length=m*sz)(h1:∀u∈news,u.oneCell'=true)
 (hm:0<m)(h63:k+m≤maxLen)(hb:(k+m)*by_≤140737488355328):
 OpW P u ⟨d,.call ⟨.builtin .append,#[x,y],#[t,t]⟩,ty,pos,af,g⟩ env H (fun v' H1=>∃s',BX sz e v' (k+m) (xs++news) s'∧H1=s'::R) (fun _ _=>False):=fun a w hsat K Kp hK _=>by
 have hs1:Sat u (s::R) w:=hsat.perm (by simpa using hone.perm);have hsR:Sat u R w:=hs1.sub ⟨s,by simp only [uG];exact uj⟩
 have hnw:=hnw0 w hsR;have hl':news.length=m*i.size:=by rw [hsz];omega
 have hml:maxLen=9223372036854775807:=rfl;have run_of:∀{v':Value} {w':World},(Builtin.append_ #[t,t] ty #[v,.slice (some ⟨b,o,none⟩) m c]).run P w= .ok v' w'→(execOp (ev a env) ⟨d,.call ⟨.builtin .append,#[x,y],#[t,t]⟩,ty,pos,af,g⟩).run P w= .ok (.value v') w':=fun h=>by
  simp only [EJ,resolve,invoke,builtin,wV,uo,wM,hx a,hy a,Sem.run_bind,Sem.run_pure,Result.andThen_ok,h]
 have fresh:∀(n cap:Nat) (cells:Array Value) (w1:World),w1={w with drawn:=n,heap:=w.heap.push (.cells cells e)}→Sat u ([(w.heap.size,.cells cells e (0,0))]::R) w1:=fun n cap cells w1 h=>by
  subst h;exact (hsR.drawn n).alloc _
 obtain ⟨hxl,hrow⟩:=hrow;have hall:(xs++news).length=(k+m)*sz:=by rw [tK,hxl,hl,wC]
 have split:∀n p:Nat,p≤n→p*sz+(n -p)*sz=n*sz:=fun n p h=>by rw [←wC];congr 1;omega
 rcases hrow with⟨rfl,rfl,rfl⟩|⟨gb,cap,cur,zz,rfl,rfl,hle,hcm,hcs,htk,hfr⟩
 · have hx0:xs=[]:=uf (by omega)
   subst hx0;have hr:=run_append_nil (P:=P) w t ty e i z ht hi hzi ⟨b,o,none⟩ m c news hl' hnw hm (by omega) (by rw [hby];exact xk (by simpa using hb) (by decide:140737488355328≤281474976710656))
   rw [run_of hr];have hge:=grownCap_ge w m 0 e
   have hcap:grownCap w m 0 e≤maxLen:=grownCap_le_maxLen w m 0 e (by omega);refine hK _ _ _ ⟨[(w.heap.size,.cells (news.toArray++Builtin.zeroCells z.cells (grownCap w m 0 e -m)) e (0,0))],⟨hall,.inr ⟨w.heap.size,grownCap w m 0 e,_,(0,0),by simp,rfl,by omega,hcap,?_,?_,BQ _⟩⟩,rfl⟩ (fresh _ 0 _ _ rfl)
   · simp only [yD,size_zeroCells,hz1,uP,hl]
     exact split _ _ hge
   · simp only [xO,vN,uL]
     exact ul hl
 · have hg:=hs1.get (gb,.cells cur e zz) (by simp)
   by_cases hroom:k+m≤cap
   · have hf:=run_firstCells_some (P:=P) w i.size m ⟨b,o,none⟩ m c news hl' hnw
     rw [hsz]at hf;have hfit:k*sz+m*sz≤cap*sz:=by rw [←wC];exact vY sz hroom
     have hst:=D8 (P:=P) gb (k*sz) e zz news 0 cur w hg hfr (by rw [hl,hcs];omega) h1;simp only [wU]at hst;have hr:(Builtin.append_ #[t,t] ty #[I6 gb k cap,.slice (some ⟨b,o,none⟩) m c]).run P w= .ok (I6 gb (k+m) cap) (w.setRow gb (Ed cur (k*sz) news)):=by
      simp [Builtin.append_,run_underlying ht,Go.sizeOf,typeInfo,hi,hsz,Builtin.lenOf,hroom,hf,CJ,hst,Ed]
     rw [run_of hr];have hov:(Ed cur (k*sz) news).size=cap*sz:=by
      unfold Ed;simp;omega
     refine hK _ _ _ ⟨[(gb,.cells (Ed cur (k*sz) news) e zz)],⟨hall,.inr ⟨gb,cap,_,zz,rfl,rfl,hroom,hcm,hov,?_,by rw [hov,←hcs];exact hfr⟩⟩,rfl⟩
      (hs1.upd (.here _) rfl rfl rfl (setRow_heap w gb cur _ e zz hg) fun k hk=>setRow_other w gb k _ hk)
     unfold Ed;rw [htk];simp only [tO];rw [←tO];exact ul hall
   · have holds:∀j v,xs[j]?=some v→w.cell? ((⟨gb,0,none⟩:Addr).add j)=some v:=fun j v hj=>by
      rw [CJ];refine Cg hg ?_;have hlt:j<xs.length:=(tH.1 hj).1
      have:(cur.toList.take (k*sz))[j]?=some v:=by rw [htk];exact hj
      rw [uX,if_pos (by omega)]at this;simpa using this
     have hr:=run_append_grow (P:=P) w t ty e i z ht hi hzi ⟨gb,0,none⟩ k cap xs (by rw [hsz];exact hxl) holds ⟨b,o,none⟩ m c news hl' hnw (by omega) (by omega) (growslice_fits (by omega) (by rw [hby];exact hb));rw [run_of hr];have hge:=grownCap_ge w (k+m) cap e
     have hcap:grownCap w (k+m) cap e≤maxLen:=grownCap_le_maxLen w (k+m) cap e h63;refine hK _ _ _ ⟨[(w.heap.size,.cells (xs.toArray++news.toArray++Builtin.zeroCells z.cells (grownCap w (k+m) cap e -(k+m))) e (0,0))],⟨hall,.inr ⟨w.heap.size,grownCap w (k+m) cap e,_,(0,0),rfl,rfl,hge,hcap,?_,?_,BQ _⟩⟩,rfl⟩ (fresh _ 0 _ _ rfl)
     · simp only [yD,size_zeroCells,hz1,uP,hl,hxl]
       have:=split _ _ hge;rw [wC]at this;exact this
     · simp only [xO]
       exact ul (by simpa using hall)
theorem DF{x y:Operand}{t e:TypeId}{i:TypeInfo}{z:Value}{by_ sz k:Nat}{v:Value}{xs:List Value}{s:List AR}{b o m c:Nat}{c1:Array Value}{T1:TypeId}{z1:Nat×Nat}{news:List Value}
 (ht:P.underlying t=some (.slice e))(hi:P.info? e=some i)(hsz:i.size=sz)(hby:i.bytes=by_)(hzi:i.zero=some z)(hz1:z.cells.size=sz)
 (hx:∀a,ev a env x=v)(hrow:BX sz e v k xs s)(hy:∀a,ev a env y= .slice (some ⟨b,o,none⟩) m c)(hone:One s H R)(hsrc:Has b (.cells c1 T1 z1) R)(hnews:Bw c1 o news)(hl:news.length=m*sz)(h1:∀u∈news,u.oneCell'=true)
 (hm:0<m)(h63:k+m≤maxLen)(hb:(k+m)*by_≤140737488355328):
 OpW P u ⟨d,.call ⟨.builtin .append,#[x,y],#[t,t]⟩,ty,pos,af,g⟩ env H (fun v' H1=>∃s',BX sz e v' (k+m) (xs++news) s'∧H1=s'::R) (fun _ _=>False):=
 SA ht hi hsz hby hzi hz1 hx hrow hy hone (fun w hs=>I7 (hs.get _ hsrc.mem) hnews) hl h1 hm h63 hb
theorem IK{t e:TypeId}{x lo:Operand}{b o n cap l:Nat}{lk:IntKind}(hu:P.underlying t=some (.slice e))(hs:∀w:World,(Go.sizeOf e).run P w= .ok 1 w)(hx:∀a,ev a env x= .slice (some ⟨b,o,none⟩) n cap)(hl:∀a,ev a env lo= .int lk (l:Int))(h1:l≤n)(h2:l<cap):
 OpP P ⟨d,.slice t x (some lo) none none,ty,pos,af,g⟩ env [] (.slice (some ⟨b,o+l,none⟩) (n -l) (cap -l)):=by
 have h:=Bz (d:=d) (ty:=ty) (pos:=pos) (af:=af) (g:=g) hu hs hx hl h1;have e1:ER (some ⟨b,o,none⟩) l cap 1=some ⟨b,o+l,none⟩:=by
  unfold ER;rw [if_neg (by omega),vV,CJ,wP]
 rw [e1]at h;exact h
end
section
variable{P:Program}{u:World}{env:Env}{H R R2:Hp}{d:Option Nat}{ty:TypeId}{pos:String}{af:Array Edge}{g:Option (Nat×Bool)}
theorem Gv{t e s:Nat}(hu:P.underlying t=some (.slice e))(hs:∀w:World,(Go.sizeOf e).run P w= .ok s w):
 OpW P u ⟨d,.buildSlice t 0 #[],ty,pos,af,g⟩ env H (fun v' H1=>∃b,v'=I6 b 0 0∧H1=[(b,.cells ([]:List Value).toArray e (0,0))]::H) (fun _ _=>False):=fun a w hsat K Kp hK _=>by
 have hbs:(Instr.buildSlice t 0 (#[]:Array (Nat×Value))).run P w= .ok (.slice (some ⟨w.heap.size,0,none⟩) 0 0) {w with heap:=w.heap.push (.cells #[] e)}:=by
  unfold Instr.buildSlice;simp [Sem.run_bind,run_underlying hu,hs,Instr.fill,newRow];congr 2;apply Array.ext<;>simp
 have:(execOp (ev a env) ⟨d,.buildSlice t 0 #[],ty,pos,af,g⟩).run P w= .ok (.value (.slice (some ⟨w.heap.size,0,none⟩) 0 0)) {w with heap:=w.heap.push (.cells #[] e)}:=by
  rw [Mh,Sem.run_bind];have e0:(#[]:Array (Nat×Operand)).map (fun(i,x)=>(i,ev a env x))=#[]:=by simp
  rw [e0,hbs];rfl
 rw [this];exact hK _ _ _ ⟨_,rfl,rfl⟩ (hsat.alloc _)
theorem One.has{b:Nat}{o:Obj}(h:One [(b,o)] H R):Has b o H:=by
 induction h with
 |here H=>exact .here _
 |there t h ih=>exact .there _ ih
theorem Row.le{e:TypeId}{v:Value}{xs:List Value}{s:List AR}(h:Row e v xs s):∃b cap,v= .slice b xs.length cap∧xs.length≤cap:=by
 rcases h with⟨rfl,rfl,rfl⟩|⟨g,cap,cur,z,rfl,_,hle,_⟩
 · exact ⟨none,0,rfl,tQ _⟩
 · exact ⟨_,cap,rfl,hle⟩
theorem Xd{t ty b j s:Nat}{fn:Func}{v x:Value}(hr:fn.results=#[.cell t ty,.tmp s]){w:World}{tmps:Array Value}(hx:tmps.getD t undef= .pointer (some ⟨b,j,none⟩))(hl:(loadVar ty ⟨b,j,none⟩).run P w= .ok v w)(hy:tmps.getD s undef=x):(results fn tmps).run P w= .ok (.tuple #[v,x]) w:=by
 rw [uM]at hx hy;simp [results,hr,hx,hy,asAddr,hl]
theorem Bb{e:Exit}{N:Nat}{r:Option Nat}{fn:Func}{Q:Value→Hp→Prop}{Pn:List PanicEntry→Hp→Prop}{H':Hp}{t ty b j s:Nat}{v x:Value}{o:Obj}(he:FC e=true)(hr:fn.results=#[.cell t ty,.tmp s])(hv:∀a,Ep a env t= .pointer (some ⟨b,j,none⟩))(hb:Has b o H)(hl:∀w:World,w.heap[b]?=some o→(loadVar ty ⟨b,j,none⟩).run P w= .ok v w)(hx:∀a,Ep a env s=x)(hq:Q (.tuple #[v,x]) H')(hp:Sub (H'++R) H:=by repeat(first|exact Sub.refl _|exact Sub.nil _|(apply Sub.cons;(focus (repeat(first|exact One.here _ _|apply One.there))))|refine Sub.drop _ ?_)):Nx ⟨N,[],u,r⟩ (bodyPost P fn (Ff u R Q Pn) e) env H:=
 JY he (fun a w hs=>Xd hr (by rw [Bu a env (by rw [hs.size];exact hs.fit),hv a]) (hl w (hs.sat.get _ hb.mem)) (by rw [Bu a env (by rw [hs.size];exact hs.fit),hx a])) hq hp
theorem Cf{ops:Array Oper}{l:List Oper}{cx:Cx}{Q:Exit→Act→World→Prop}{d:Nat}{op:Op}{v:Value}{cs:List AR}(hb:∀c∈cs,c∈H.flatten)(h:OpP P ⟨some d,op,ty,pos,af,none⟩ env cs v)(hn:Dk op=true)(hd:Nat.blt d cx.N=true)
 (k:Ops P ops l cx Q ((d,v)::env) H):Ops P ops (⟨some d,op,ty,pos,af,none⟩::l) cx Q env H:=
 JK (fun _=>rfl) (fun t ht=>by cases ht;simpa using hd) hn (h.eff (u:=cx.u) (H:=H) hb) (by rintro _ _ ⟨rfl,rfl⟩;exact k) (fun _ _ h=>h.elim)
theorem dH{w:World}{s1 s2:List AR}{a b:Nat}{x y:Obj}(hs:Sat u H w)(h1:One s1 H R)(h2:One s2 R R2)(ha:(a,x)∈s1)(hb:(b,y)∈s2):a≠b:=by
 have hn:=hs.nodup;have hp:H.flatten.Perm (s1++(s2++R2.flatten)):=h1.perm.trans (wQ s1 h2.perm)
 rw [(hp.map (·.1)).nodup_iff,uK,uK,wD]at hn;exact hn.2.2 a (uh.2 ⟨_,ha,rfl⟩) b (u6 _ (uh.2 ⟨_,hb,rfl⟩))
theorem oJ{cx:Cx}{c:Code}{Q:Exit→Act→World→Prop}{s1 s2:List AR}{a b:Nat}{x y:Obj}(h1:One s1 H R)(h2:One s2 R R2)(ha:(a,x)∈s1)(hb:(b,y)∈s2)(k:a≠b→At P cx c Q env H):At P cx c Q env H:=
 fun act w hs=>k (dH hs.sat h1 h2 ha hb) act w hs
theorem Qa{ops:Array Oper}{l:List Oper}{cx:Cx}{Q:Exit→Act→World→Prop}{d:Nat}{op:Op}{g:Nat×Bool}{v:Value}{cs:List AR}(hg:∀a,wantedE ops a env (some g)=true)(hb:∀c∈cs,c∈H.flatten)(h:OpP P ⟨some d,op,ty,pos,af,some g⟩ env cs v)(hn:Dk op=true)(hd:Nat.blt d cx.N=true)
 (k:Ops P ops l cx Q ((d,v)::env) H):Ops P ops (⟨some d,op,ty,pos,af,some g⟩::l) cx Q env H:=
 JK hg (fun t ht=>by cases ht;simpa using hd) hn (h.eff (u:=cx.u) (H:=H) hb) (by rintro _ _ ⟨rfl,rfl⟩;exact k) (fun _ _ h=>h.elim)
def ru(v:Value)(ys:List Value)(s:List AR):Prop:=
 (∃p c,v= .slice p 0 c∧ys=[])∨(0<ys.length∧∃b o c cur T z,v= .slice (Option.some ⟨b,o,none⟩) ys.length c∧s=[(b,.cells cur T z)]∧Bw cur o ys)
theorem Ml{x y:Operand}{t e:TypeId}{i:TypeInfo}{z:Value}{by_:Nat}{v v2:Value}{xs ys:List Value}{s s2:List AR}
 (ht:P.underlying t=some (.slice e))(hi:P.info? e=some i)(hsz:i.size=1)(hby:i.bytes=by_)(hzi:i.zero=some z)(hz1:z.oneCell'=true)
 (hx:∀a,ev a env x=v)(hrow:Row e v xs s)(hy:∀a,ev a env y=v2)(hsub:ru v2 ys s2)(hone:One s H R)(htwo:One s2 R R2)(h1:∀u∈ys,u.oneCell'=true)
 (h63:xs.length+ys.length≤maxLen)(hb:(xs.length+ys.length)*by_≤140737488355328):
 OpW P u ⟨d,.call ⟨.builtin .append,#[x,y],#[t,t]⟩,ty,pos,af,g⟩ env H (fun v' H1=>∃s',Row e v' (xs++ys) s'∧H1=s'::R) (fun _ _=>False):=by
 rcases hsub with⟨p,c2,rfl,rfl⟩|⟨hp,b,o,c,cur,T,z2,rfl,rfl,hin⟩
 · obtain ⟨b,c,rfl,hle⟩:=hrow.le
   intro a w hsat K Kp hK _;have hs1:Sat u (s::R) w:=hsat.perm (by simpa using hone.perm)
   have hl0:(Builtin.firstCells i.size 0 (.slice p 0 c2)).run P w= .ok #[] w:=by
    cases p with
    |none=>simp [Builtin.firstCells]
    |some ad=>simp [Builtin.firstCells,loadCells,loadCellsFrom]
   have hr:(Builtin.append_ #[t,t] ty #[.slice b xs.length c,.slice p 0 c2]).run P w= .ok (.slice b xs.length c) w:=by
    rw [hsz]at hl0;cases b with
    |none=>simp [Builtin.append_,run_underlying ht,Go.sizeOf,typeInfo,hi,hsz,Builtin.lenOf,hle,hl0]
    |some ad=>simp [Builtin.append_,run_underlying ht,Go.sizeOf,typeInfo,hi,hsz,Builtin.lenOf,hle,hl0,storeCells]
   have hx':(execOp (ev a env) ⟨d,.call ⟨.builtin .append,#[x,y],#[t,t]⟩,ty,pos,af,g⟩).run P w= .ok (.value (.slice b xs.length c)) w:=by
    simp only [EJ,resolve,invoke,builtin,wV,uo,wM,hx a,hy a,Sem.run_bind,Sem.run_pure,Result.andThen_ok,hr]
   rw [hx'];exact hK _ _ _ ⟨s,by rw [uR];exact hrow,rfl⟩ hs1
 · exact Dq ht hi hsz hby hzi hz1 hx hrow hy hone htwo.has hin rfl h1 hp h63 hb
end
section
variable{P:Program}{cx:Cx}{x y:Code}{Q:Exit→Act→World→Prop}{env:Env}{H:Hp}
theorem CW{e0 B:Env}{H0 R:Hp}(I:Env→Hp→Prop)(hp:FB H0 H R)(hx:At P cx x (Exit.then (fun a w=>∃e H1 a0,I e H1∧St cx (e++B) (H1++R) a0 w∧a=Bv (e++B) a0) Q) (e0++B) (H0++R))(hy:∀e H1,I e H1→At P cx y Q (e++B) (H1++R)):At P cx (.seq x y) Q (e0++B) H:=fun a w hs=>by
 have hs':St cx (e0++B) (H0++R) a w:=⟨hs.size,hs.defers,hs.fit,hs.sat.perm hp.perm⟩;refine wpIn_seq (wpIn_mono (hx a w hs') fun e a' w' he=>?_);cases e<;>first|exact he|(obtain ⟨e',H',a0,hm,hs2,rfl⟩:=he;exact hy e' H' hm a0 w' hs2)
theorem BB{I:Env→Hp→Prop}{B e':Env}{R H':Hp}(h:I e' H')(hp:Sub (H'++R) H:=by repeat(first|exact Sub.refl _|exact Sub.nil _|(apply Sub.cons;(focus (repeat(first|exact One.here _ _|apply One.there))))|refine Sub.drop _ ?_)):Nx cx ((Exit.then (fun a w=>∃e H1 a0,I e H1∧St cx (e++B) (H1++R) a0 w∧a=Bv (e++B) a0) Q) .normal) (e'++B) H:=fun a _ hs=>⟨e',H',a,h,⟨hs.size,hs.defers,hs.fit,hs.sat.sub hp.amid⟩,rfl⟩
end
end Gw
namespace Gw
open Go Go.RowKit Go.Sort
section
variable{P:Program}{u:World}{env:Env}{H R:Hp}{d:Option Nat}{ty:TypeId}{pos:String}{af:Array Edge}{g:Option (Nat×Bool)}
theorem iq(c:Array Value)(k:Nat):Ed c k []=c:=by
 unfold Ed;apply vS.1;simp
end
theorem Sat.sorted{u w:World}{g n:Nat}{cur:Array Value}{e:TypeId}{z:Nat×Nat}{R:Hp}(d:Array Int)(os:Array Obj)(h:Sat u ([(g,.cells cur e z)]::R) w):Sat u ([(g,.cells (putCells (Value.int .i64) 0 d cur) e z)]::R) (grow (putRow (Value.int .i64) (Sort.ahead w n) g 0 d) os):=by
 have hb:=h.get (g,.cells cur e z) (by simp);have hg:g<w.heap.size:=(u7.1 hb).1
 have h1:Sat u ([(g,.cells (putCells (Value.int .i64) 0 d cur) e z)]::R) (putRow (Value.int .i64) (Sort.ahead w n) g 0 d):=by
  refine h.upd (.here _) rfl rfl rfl ?_ fun k hk=>?_
  · simp [putRow,mapBlock,Sort.ahead,vU,hb,onCells]
  · have:g≠k:=fun e=>hk e.symm
    simp [putRow,mapBlock,Sort.ahead,vU,this]
 exact h1.below ⟨rfl,rfl,rfl,by simp [grow],fun k hk=>heap_grow_old _ _ hk⟩
theorem KT{P:Program}{cx:Cx}{cd:Code}{Q:Exit→Act→World→Prop}{env:Env}{s1 s2:List AR}{H R1 R2:Hp}(h1:One s1 H R1)(h2:One s2 R1 R2)(k:At P cx cd Q env ((s1++s2)::R2)):At P cx cd Q env H:=fun a w hs=>
 k a w ⟨hs.size,hs.defers,hs.fit,hs.sat.perm (by
   simp only [uG,tO];exact h1.perm.trans (wQ s1 h2.perm))⟩
end Gw
namespace Gw
open Go Go.RowKit
structure V3 where
 a:Int
 b:Int
 c:Int
deriving DecidableEq
def V3.zero:V3:=⟨0,0,0⟩
theorem V3.eq_iff(x y:V3):x=y↔(x.a=y.a∧x.b=y.b∧x.c=y.c):=by
 constructor
 · rintro rfl;exact ⟨rfl,rfl,rfl⟩
 · cases x;cases y;rintro ⟨h1,h2,h3⟩;simp only at h1 h2 h3;rw [h1,h2,h3]
section
variable{P:Program}{u:World}{env:Env}{H R:Hp}{d:Option Nat}{ty:TypeId}{pos:String}{af:Array Edge}{g:Option (Nat×Bool)}
theorem NY{e:TypeId}(n:Nat)(w:World)(he:P.underlying e=some (.int .i64))(m k:Int):(Op.equalIn (n+1) e (I4 m) (I4 k)).run P w= .ok (decide (m=k)) w:=by
 simp [Op.equalIn,run_underlying he];by_cases h:m=k<;>simp [h]
theorem Em{e:TypeId}(w:World)(ha:(isAgg e).run P w= .ok false w)(xs:Array Value)(j:Nat){v:Value}(h:xs[j]?=some v):(part e xs j).run P w= .ok v w:=by
 simp [part,ha,h]
theorem PU{t e:TypeId}(w:World)(n:Nat)(x y:V3)(hu:P.underlying t=some (.array 3 e))(he:P.underlying e=some (.int .i64))(ha:∀w:World,(isAgg e).run P w= .ok false w)(hs:∀w:World,(Go.sizeOf e).run P w= .ok 1 w):
 (Op.equalIn (n+2) t (.agg #[I4 x.a,I4 x.b,I4 x.c]) (.agg #[I4 y.a,I4 y.b,I4 y.c])).run P w= .ok (decide (x=y)) w:=by
 have ei:∀(m k:Int) (w:World),(Op.equalIn (n+1) e (I4 m) (I4 k)).run P w= .ok (decide (m=k)) w:=fun m k w=>NY n w he m k;have p0:∀(v0 v1 v2:Value) (w:World),(part e #[v0,v1,v2] 0).run P w= .ok v0 w:=fun _ _ _ w=>Em w (ha w) _ _ rfl
 have p1:∀(v0 v1 v2:Value) (w:World),(part e #[v0,v1,v2] 1).run P w= .ok v1 w:=fun _ _ _ w=>Em w (ha w) _ _ rfl;have p2:∀(v0 v1 v2:Value) (w:World),(part e #[v0,v1,v2] 2).run P w= .ok v2 w:=fun _ _ _ w=>Em w (ha w) _ _ rfl
 rw [show n+2=(n+1)+1 from rfl,Op.equalIn];generalize n+1=m at*;simp only [Sem.run_bind,run_underlying hu,Result.andThen_ok,hs];simp only [yG,Std.Legacy.Range.size,xA,vk,Nat.div_one,yw,List.range'_zero,yT,zQ];simp only [Sem.run_bind,p0,p1,p2,ei,Result.andThen_ok,uL,wP,AA7,yA,V3.eq_iff];by_cases h1:x.a=y.a<;>by_cases h2:x.b=y.b<;>by_cases h3:x.c=y.c<;>simp [h1,h2,h3,p0,p1,p2,ei]
theorem JP{t:TypeId}(p q:Array Value):binOp .eql t (.agg p) (.agg q)=(do pure (.bool (←Op.equal t (.agg p) (.agg q)))):=rfl
theorem LC{t:TypeId}(p q:Array Value):binOp .neq t (.agg p) (.agg q)=(do pure (.bool (!(←Op.equal t (.agg p) (.agg q))))):=rfl
section
variable{t yt e:TypeId}{x y:Operand}{p q:V3}
theorem K8(hg:P.eqGuardType P.depth t=false)(hu:P.underlying t=some (.array 3 e))(he:P.underlying e=some (.int .i64))(ha:∀w:World,(isAgg e).run P w= .ok false w)(hs:∀w:World,(Go.sizeOf e).run P w= .ok 1 w)
 (hx:∀a,ev a env x= .agg #[I4 p.a,I4 p.b,I4 p.c])(hy:∀a,ev a env y= .agg #[I4 q.a,I4 q.b,I4 q.c]):OpP P ⟨d,.binOp .eql t x y yt,ty,pos,af,g⟩ env [] (.bool (decide (p=q))):=fun a w _=>by
 simp [Cb,hx a,hy a,go_sem,run_eqGuard_agg w _ t _ _ _ _ hg,JP,Op.equal,Op.maxDepth,PU w 9998 p q hu he ha hs]
theorem K7(hg:P.eqGuardType P.depth t=false)(hu:P.underlying t=some (.array 3 e))(he:P.underlying e=some (.int .i64))(ha:∀w:World,(isAgg e).run P w= .ok false w)(hs:∀w:World,(Go.sizeOf e).run P w= .ok 1 w)
 (hx:∀a,ev a env x= .agg #[I4 p.a,I4 p.b,I4 p.c])(hy:∀a,ev a env y= .agg #[I4 q.a,I4 q.b,I4 q.c]):OpP P ⟨d,.binOp .neq t x y yt,ty,pos,af,g⟩ env [] (.bool (decide (p≠q))):=fun a w _=>by
 simp [Cb,hx a,hy a,go_sem,run_eqGuard_agg w _ t _ _ _ _ hg,LC,Op.equal,Op.maxDepth,PU w 9998 p q hu he ha hs]
theorem Hm(hg:P.eqGuardType P.depth t=false)(hu:P.underlying t=some (.array 3 e))(he:P.underlying e=some (.int .i64))(ha:∀w:World,(isAgg e).run P w= .ok false w)(hs:∀w:World,(Go.sizeOf e).run P w= .ok 1 w)
 (hx:∀a,ev a env x= .agg #[I4 p.a,I4 p.b,I4 p.c])(hy:∀a,ev a env y= .agg #[I4 0,I4 0,I4 0]):OpP P ⟨d,.binOp .eql t x y yt,ty,pos,af,g⟩ env [] (.bool (decide (p=V3.zero))):=K8 (q:=V3.zero) hg hu he ha hs hx hy
theorem o5(hg:P.eqGuardType P.depth t=false)(hu:P.underlying t=some (.array 3 e))(he:P.underlying e=some (.int .i64))(ha:∀w:World,(isAgg e).run P w= .ok false w)(hs:∀w:World,(Go.sizeOf e).run P w= .ok 1 w)
 (hx:∀a,ev a env x= .agg #[I4 p.a,I4 p.b,I4 p.c])(hy:∀a,ev a env y= .agg #[I4 0,I4 0,I4 0]):OpP P ⟨d,.binOp .neq t x y yt,ty,pos,af,g⟩ env [] (.bool (decide (p≠V3.zero))):=K7 (q:=V3.zero) hg hu he ha hs hx hy
end
end
def V3.get(v:V3)(i:Nat):Int:=if i=0 then v.a else if i=1 then v.b else v.c
theorem qO(x y:Value)(v:V3)(i:Nat)(h:i<3):(#[x,y,Value.int .i64 v.a,I4 v.b,I4 v.c]:Array Value)[2+i]?=some (I4 (v.get i)):=by
 rcases i with _|_|_|i
 · rfl
 · rfl
 · rfl
 · omega
def inV(n:Int):Prop:=-1000000000≤n∧n≤1000000000
instance(n:Int):Decidable (inV n):=inferInstanceAs(Decidable (_∧_))
def V3.ok(v:V3):Prop:=inV v.a∧inV v.b∧inV v.c
instance(v:V3):Decidable v.ok:=inferInstanceAs(Decidable (_∧_∧_))
theorem fw{v:V3}:v.ok↔∀i,i<3→inV (v.get i):=by
 constructor
 · rintro ⟨h1,h2,h3⟩ i hi
   rcases i with _|_|_|i
   · exact h1
   · exact h2
   · exact h3
   · omega
 · intro h;exact ⟨h 0 (by omega),h 1 (by omega),h 2 (by omega)⟩
theorem lT{v:V3}{i:Nat}(h:∀j,j<i→inV (v.get j))(hi:inV (v.get i)):∀j,j<i+1→inV (v.get j):=by
 intro j hj;rcases uJ j i with h9|h9
 · exact h j h9
 · have e:j=i:=by omega
   rw [e];exact hi
structure ET where
 i:Nat
 o:Oper
 v:Value
 C:List AR
 k:Bool
def lay(p:ET→Bool):List ET→Act→Act
 |[],a=>a
 |e::l,a=>lay p l (if p e then a.put e.o.dst e.v else a)
def tv(p:ET→Bool)(t:Nat):List ET→Option Value→Option Value
 |[],d=>d
 |e::l,d=>tv p t l (if p e=true∧e.o.dst=some t then some e.v else d)
theorem Cr(p:ET→Bool):∀(l:List ET) (a:Act),(lay p l a).tmps.size=a.tmps.size
 |[],_=>rfl
 |e::l,a=>by simp only [lay];rw [Cr p l];split<;>simp [Dt]
theorem Eu(p:ET→Bool):∀(l:List ET) (a:Act),(lay p l a).defers=a.defers
 |[],_=>rfl
 |e::l,a=>by simp only [lay];rw [Eu p l];split<;>simp [JE]
theorem Dp(p:ET→Bool)(t:Nat):∀(l:List ET) (a:Act),t<a.tmps.size→(lay p l a).tmps[t]?=tv p t l a.tmps[t]?
 |[],_,_=>rfl
 |e::l,a,ht=>by
  simp only [lay,tv];rw [Dp p t l _ (by split<;>simpa [Dt]using ht)];congr 1;by_cases hp:p e=true
  · simp only [hp,if_true,true_and];rw [IV _ _ _ _ ht]
  · simp [hp]
theorem Eg(p q:ET→Bool)(t:Nat):∀(l:List ET) (d:Option Value),(∀e∈l,e.o.dst=some t→p e=q e)→tv p t l d=tv q t l d
 |[],_,_=>rfl
 |e::l,d,h=>by
  simp only [tv];have h0:(if p e=true∧e.o.dst=some t then some e.v else d)=(if q e=true∧e.o.dst=some t then some e.v else d):=by
   by_cases hd:e.o.dst=some t
   · rw [h e (uz ..) hd]
   · simp [hd]
  rw [h0];exact Eg p q t l _ fun e' he=>h e' (ug _ he)
theorem U3(p:ET→Bool)(t:Nat):∀(l:List ET) (d:Option Value),(∀e∈l,e.o.dst=some t→p e=false)→tv p t l d=d
 |[],_,_=>rfl
 |e::l,d,h=>by
  simp only [tv];rw [if_neg (fun hh=>by rw [h e (uz ..) hh.2]at hh;cases hh.1)];exact U3 p t l d fun e' he=>h e' (ug _ he)
theorem Ns(p:ET→Bool)(t:Nat):∀(l m:List ET) (d:Option Value),tv p t (l++m) d=tv p t m (tv p t l d)
 |[],_,_=>rfl
 |e::l,m,d=>by simp only [wH,tv];exact Ns p t l m _
theorem MU(p:ET→Bool):∀(l m:List ET) (a:Act),lay p (l++m) a=lay p m (lay p l a)
 |[],_,_=>rfl
 |e::l,m,a=>by simp only [wH,lay];exact MU p l m _
def rq(A:List Nat)(o:Oper):Nat:=o.after.toList.foldl (fun m e=>if Region.binds .any e then m|||(1<<<e.on)|||A.getD e.on 0 else m) 0
def Qm(ops:Array Oper)(A:List Nat)(N:Nat):Bool:=
 decide (A.length=ops.size)&&
 (List.range ops.size).all fun j=>match ops[j]?with
   |none=>false
   |some oj=>
    (rq A oj==A.getD j 0)&&
    (oj.after.toList.all fun e=>!Region.binds .any e||decide (e.on<j))&&
    ((List.range j).all fun i=>match ops[i]?with
      |none=>false
      |some oi=>oi.apart ops oj||(A.getD j 0).testBit i)&&
    Dk oj.op&&(match oj.op with| .select ..=>false|_=>true)&&Rm N oj.dst
structure IG(ops:Array Oper)(A:List Nat)(N:Nat):Prop where
 len:A.length=ops.size
 edge:∀j oj e,ops[j]?=some oj→e∈oj.after→Region.binds .any e=true→e.on<j
 anc:∀j oj i,ops[j]?=some oj→(A.getD j 0).testBit i=true→∃e∈oj.after,Region.binds .any e=true∧(e.on=i∨(A.getD e.on 0).testBit i=true)
 apart:∀i j oi oj,ops[i]?=some oi→ops[j]?=some oj→i<j→oi.apart ops oj=true∨(A.getD j 0).testBit i=true
 nod:∀(j:Nat) (oj:Oper),ops[j]?=some oj→Dk oj.op=true
 sel:∀(j:Nat) (oj:Oper) (cs:Array SelectCase) (b:Bool),ops[j]?=some oj→oj.op≠ .select cs b
 room:∀(j:Nat) (oj:Oper) (d:Nat),ops[j]?=some oj→oj.dst=some d→d<N
theorem Tp{A:List Nat}{i:Nat}:∀(l:List Edge) (m:Nat),(l.foldl (fun m e=>if Region.binds .any e then m|||(1<<<e.on)|||A.getD e.on 0 else m) m).testBit i=true→m.testBit i=true∨∃e∈l,Region.binds .any e=true∧(e.on=i∨(A.getD e.on 0).testBit i=true)
 |[],m,h=> .inl h
 |e::l,m,h=>by
  simp only [xD]at h;rcases Tp l _ h with h1|⟨e',he,h2⟩
  · by_cases hb:Region.binds .any e=true
    · rw [if_pos hb,AA8,AA8]at h1
      simp only [wh]at h1;rcases h1 with(h1|h1)|h1
      · exact .inl h1
      · refine .inr ⟨e,uz ..,hb,.inl ?_⟩
        rw [Nat.one_shiftLeft,Nat.testBit_two_pow]at h1;simpa using h1
      · exact .inr ⟨e,uz ..,hb,.inr h1⟩
    · rw [if_neg hb]at h1;exact .inl h1
  · exact .inr ⟨e',ug _ he,h2⟩
theorem YA{ops:Array Oper}{A:List Nat}{N:Nat}(h:Qm ops A N=true):IG ops A N:=by
 simp only [Qm,uE,decide_eq_true_eq,vL,vO]at h;obtain ⟨h0,h⟩:=h;have hlt:∀{j:Nat} {o:Oper},ops[j]?=some o→j<ops.size:=fun hj=>(u7.1 hj).1
 refine ⟨h0,fun j oj e hj he hb=>?_,fun j oj i hj hb=>?_,fun i j oi oj hi hj hij=>?_,fun j oj hj=>?_,fun j oj cs b hj hs=>?_,fun j oj d hj hd=>?_⟩
 · have:=h j (hlt hj)
   simp only [hj,uE,vL]at this;have:=this.1.1.1.1.2 e (by simpa using he)
   simpa [hb]using this
 · have:=h j (hlt hj)
   simp only [hj,uE]at this;have:=this.1.1.1.1.1
   simp only [beq_iff_eq]at this;rw [←this]at hb;rcases Tp _ _ hb with h1|⟨e,he,h1⟩
   · simp at h1
   · exact ⟨e,by simpa using he,h1⟩
 · have:=h j (hlt hj)
   simp only [hj,uE,vL,vO]at this;have:=this.1.1.1.2 i hij
   simp only [hi,wh]at this;exact this
 · have:=h j (hlt hj)
   simp only [hj,uE]at this;exact this.1.1.2
 · have:=h j (hlt hj)
   simp only [hj,uE]at this;rw [hs]at this;simp at this
 · have:=h j (hlt hj)
   simp only [hj,uE]at this;exact PT this.2 d hd
def Yr(ops:Array Oper)(L:Array Bool):Prop:=∀j oj,ops[j]?=some oj→L.getD j false=true→∀e∈oj.after,Region.binds .any e=true→L.getD e.on false=true
theorem FM{ops:Array Oper}{A:List Nat}{N:Nat}(F:IG ops A N){L:Array Bool}(hL:Yr ops L):∀(j i:Nat) (oj:Oper),ops[j]?=some oj→(A.getD j 0).testBit i=true→
 (∀e∈oj.after,Region.binds .any e=true→L.getD e.on false=true)→L.getD i false=true:=by
 intro j;induction j using Nat.strongRecOn with
 |ind j ih=>
  intro i oj hj hb hw;obtain ⟨e,he,hbe,hor⟩:=F.anc j oj i hj hb;rcases hor with rfl|hor
  · exact hw e he hbe
  · have hlt:=F.edge j oj e hj he hbe
    obtain ⟨oe,hoe⟩:∃oe,ops[e.on]?=some oe:=⟨_,tu (by have:=(u7.1 hj).1;omega)⟩;exact ih e.on hlt i oe hoe hor (fun e' he' hb'=>hL e.on oe hoe (hw e he hbe) e' he' hb')
theorem KJ{ops:Array Oper}{o:Oper}{a b:Act}(h:∀t∈o.looksAt ops,a.tmps[t]?=b.tmps[t]?):∀x∈o.op.operands,a.eval x=b.eval x:=by
 intro x hx;cases x with
 |tmp t=>
  have ht:t∈o.looksAt ops:=u6 _ (xI.2 ⟨.tmp t,by simpa using hx,rfl⟩);have:=h t ht
  simp only [Act.eval,uM,this]
 |_=>rfl
def bit(m i:Nat):Bool:=Nat.testBit m i
def Ef(m n:Nat):Bool:=Nat.beq (Nat.land m n) m
theorem Pd{m n i:Nat}(h:Ef m n=true)(hb:m.testBit i=true):n.testBit i=true:=by
 have h1:m&&&n=m:=yo h;rw [←h1,zJ]at hb;simp only [uE]at hb;exact hb.2
def ry(P:Program)(ops:Array Oper)(o:Oper)(env:Env)(C:List AR)(v:Value):Prop:=((∀a,wantedE ops a env o.guard=true)∧OpP P o env C v)∨((∀a,wantedE ops a env o.guard=false)∧v=undef∧C=[])
theorem GI{ops:Array Oper}{o:Oper}{a b:Act}(h:∀t∈o.looksAt ops,a.tmps[t]?=b.tmps[t]?):Region.wanted o (yielded ops a.tmps)=Region.wanted o (yielded ops b.tmps):=by
 unfold Region.wanted;cases hg:o.guard with
 |none=>rfl
 |some gw=>
  obtain ⟨g,want⟩:=gw;simp only [yielded];cases ht:(ops[g]?).bind (·.dst)with
  |none=>rfl
  |some t=>
   have:=h t (by unfold Oper.looksAt;rw [hg];simp only [uF];right;rw [ht];simp);simp only [uy,this]
section
variable(P:Program)(ops:Array Oper)(A:List Nat)(F:Nat)(cx:Cx)(Q:Exit→Act→World→Prop)
def KA(D:Nat):List Nat:=(List.range ops.size).filter fun f=>bit F f&&!bit D f&&Ef (A.getD f 0) D
def eB(D:Nat):Bool:=(List.range ops.size).all fun i=>bit F i||bit D i||!Ef (Nat.land (A.getD i 0) F) D
def Lin:Nat→Nat→List (Nat×AR)→Env→Hp→Prop
 |0,_,_,env,H=>Nx cx (Q .normal) env H
 |n+1,D,T,env,H=>
  (∃i o v C,ops[i]?=some o∧bit D i=false∧Ef (A.getD i 0) D=true∧(∀c∈C,c∈H.flatten)∧ry P ops o env C v∧Lin n (D|||(1<<<i)) (C.map (fun c=>(i,c))++T) (putE o.dst v env) H)∨
  (eB ops A F D=true∧∀f∈KA ops A F D,∃o T',ops[f]?=some o∧(∀a,wantedE ops a env o.guard=true)∧(∀p∈T,bit (A.getD f 0) p.1=true∨p∈T')∧
    OpW P cx.u o env H (fun v H'=>(∀p∈T',p.2∈H'.flatten)∧Lin n (D|||(1<<<f)) T' (putE o.dst v env) H') (fun ch H'=>∀env,Nx cx (Q (.panic ch)) env H'))
end
section
variable{P:Program}{ops:Array Oper}{A:List Nat}{F:Nat}{N:Nat}{cx:Cx}{Q:Exit→Act→World→Prop}{a0:Act}{env0:Env}
def FH(env0:Env):List ET→Env
 |[]=>env0
 |e::x=>FH (putE e.o.dst e.v env0) x
theorem KM:∀(x y:List ET) (env0:Env),FH env0 (x++y)=FH (FH env0 x) y
 |[],_,_=>rfl
 |e::x,y,env0=>by simp only [wH,FH];exact KM x y _
theorem Gi(a0:Act):∀(x:List ET) (env0:Env),Bv (FH env0 x) a0=lay (fun _=>true) x (Bv env0 a0)
 |[],_=>rfl
 |e::x,env0=>by simp only [FH,lay,if_true];rw [Gi a0 x,O5]
structure JR(P:Program)(ops:Array Oper)(A:List Nat)(F:Nat)(cx:Cx)(Q:Exit→Act→World→Prop)(a0:Act)(env0:Env)(L:Array Bool)(a:Act)(w:World)(x:List ET)(D:Nat)(T:List (Nat×AR))(H:Hp):Prop where
 size:L.size=ops.size
 shut:Yr ops L
 act:a=lay (fun e=>L.getD e.i false) x (Bv env0 a0)
 sat:Sat cx.u H w
 mask:∀i,bit D i=true↔∃e∈x,e.i=i
 nodup:(x.map (·.i)).Nodup
 isop:∀e∈x,ops[e.i]?=some e.o
 listed:∀i,L.getD i false=true→bit D i=true
 effs:∀e∈x,e.k=true→L.getD e.i false=true
 order:∀x1 e x2,x=x1++e::x2→∀i,(A.getD e.i 0).testBit i=true→∃e'∈x1,e'.i=i
 pend:∀x1 e x2,x=x1++e::x2→e.k=false→ry P ops e.o (FH env0 x1) e.C e.v
 reads:∀e∈x,L.getD e.i false=false→∀c∈e.C,(e.i,c)∈T∧c∈H.flatten
 fit:Fit cx.N (FH env0 x)
 walk:Lin P ops A F cx Q (ops.size -x.length) D T (FH env0 x) H
theorem RB(D i j:Nat):bit (D|||(1<<<i)) j=true↔bit D j=true∨i=j:=by
 unfold bit;rw [AA8,wh,Nat.one_shiftLeft,Nat.testBit_two_pow];simp
theorem Z6(FT:IG ops A N){L:Array Bool}{a:Act}{w:World}{x:List ET}{D:Nat}{T:List (Nat×AR)}{H:Hp}(h:JR P ops A F cx Q a0 env0 L a w x D T H)
 {x1 x2:List ET}{e:ET}(hx:x=x1++e::x2)(hun:L.getD e.i false=false)(hall:∀g∈e.o.after,Region.binds .any g=true→L.getD g.on false=true)
 {t:Nat}(ht:t∈e.o.looksAt ops∨e.o.dst=some t):(∀k∈x1,k.o.dst=some t→L.getD k.i false=true)∧(∀k∈x2,k.o.dst=some t→L.getD k.i false=false):=by
 have he:ops[e.i]?=some e.o:=h.isop e (by rw [hx];simp);have hne:∀k,k∈x1∨k∈x2→k.i≠e.i:=fun k hk hh=>by
  have hn:=h.nodup;rw [hx,uK,uo,wD]at hn;obtain ⟨h1,h2,h3⟩:=hn;rcases hk with hk|hk
  · exact h3 k.i (xP hk) e.i (uz ..) hh
  · rw [xg]at h2
    exact h2.1 (hh▸xP hk)
 have ord:∀k:ET,ops[k.i]?=some k.o→k.i≠e.i→k.o.dst=some t→(A.getD e.i 0).testBit k.i=true∨(A.getD k.i 0).testBit e.i=true:=by
  intro k hk hki hd;rcases Nat.lt_or_gt_of_ne hki with hlt|hlt
  · rcases FT.apart k.i e.i k.o e.o hk he hlt with hap|hb
    · exfalso
      obtain ⟨h1,h2,h3⟩:=Oper.apart_spec hap;rcases ht with ht|ht
      · exact h1 t hd ht
      · exact h2 t hd ht
    · exact .inl hb
  · rcases FT.apart e.i k.i e.o k.o he hk hlt with hap|hb
    · exfalso
      obtain ⟨h1,h2,h3⟩:=Oper.apart_spec hap;rcases ht with ht|ht
      · exact h3 t hd ht
      · exact h2 t ht hd
    · exact .inr hb
 refine ⟨fun k hk hd=>?_,fun k hk hd=>?_⟩
 · have hko:=h.isop k (by rw [hx];simp [hk])
   rcases ord k hko (hne k (.inl hk)) hd with hb|hb
   · exact FM FT h.shut e.i k.i e.o he hb hall
   · exfalso
     obtain ⟨y1,y2,hy⟩:=yV hk;obtain ⟨e',he',hi⟩:=h.order y1 k (y2++e::x2) (by rw [hx,hy];simp) e.i hb;have hmem:e'∈x1:=by rw [hy];simp [he']
     exact hne e' (.inl hmem) hi
 · have hko:=h.isop k (by rw [hx];simp [hk])
   rcases ord k hko (hne k (.inr hk)) hd with hb|hb
   · exfalso
     obtain ⟨e',he',hi⟩:=h.order x1 e x2 hx k.i hb;have hn:=h.nodup
     rw [hx,uK,uo,wD]at hn;exact hn.2.2 e'.i (xP he') k.i (ug _ (xP hk)) hi
   · cases hl:L.getD k.i false with
     |false=>rfl
     |true=>
      have:=FM FT h.shut k.i e.i k.o hko hb (fun g hg hbg=>h.shut k.i k.o hko hl g hg hbg);rw [hun]at this;cases this
theorem Y8(FT:IG ops A N){L:Array Bool}{a:Act}{w:World}{x:List ET}{D:Nat}{T:List (Nat×AR)}{H:Hp}(h:JR P ops A F cx Q a0 env0 L a w x D T H)
 {x1 x2:List ET}{e:ET}(hx:x=x1++e::x2)(hun:L.getD e.i false=false)(hall:∀g∈e.o.after,Region.binds .any g=true→L.getD g.on false=true):
 ∀t∈e.o.looksAt ops,a.tmps[t]?=(Bv (FH env0 x1) a0).tmps[t]?:=by
 intro t ht;have hw:=Z6 FT h hx hun hall (.inl ht)
 have hs:a.tmps.size=(Bv env0 a0).tmps.size:=by rw [h.act,Cr]
 by_cases hlt:t<(Bv env0 a0).tmps.size
 · rw [h.act,Gi,Dp _ _ _ _ hlt,Dp _ _ _ _ hlt,hx,Ns]
   rw [U3 _ t (e::x2) _ (fun k hk hd=>by
    rcases uI.1 hk with rfl|hk
    · exact hun
    · exact hw.2 k hk hd)]
   exact Eg _ _ t x1 _ fun k hk hd=>by rw [hw.1 k hk hd]
 · rw [uT (by rw [hs];exact xw hlt),uT (by rw [Gi,Cr];exact xw hlt)]
theorem EP(L:Array Bool)(j i:Nat)(hj:j<L.size):(L.setIfInBounds j true).getD i false=if i=j then true else L.getD i false:=by
 by_cases e:i=j
 · subst e;simp [hj]
 · rw [getD_set_ne false (Ne.symm e),if_neg e]
theorem mh(FT:IG ops A N){L:Array Bool}{a:Act}{w:World}{x:List ET}{D:Nat}{T:List (Nat×AR)}{H:Hp}(h:JR P ops A F cx Q a0 env0 L a w x D T H)
 {x1 x2:List ET}{e:ET}(hx:x=x1++e::x2)(hun:L.getD e.i false=false)(hall:∀g∈e.o.after,Region.binds .any g=true→L.getD g.on false=true):
 a.put e.o.dst e.v=lay (fun k=>(L.setIfInBounds e.i true).getD k.i false) x (Bv env0 a0):=by
 have he:ops[e.i]?=some e.o:=h.isop e (by rw [hx];simp);have hj:e.i<L.size:=by rw [h.size];exact (u7.1 he).1
 refine Ib (by rw [Dt,Cr,h.act,Cr]) (by rw [JE,Eu,h.act,Eu]) fun t ht=>?_;rw [Dt]at ht;have ht':t<(Bv env0 a0).tmps.size:=by rw [h.act,Cr]at ht;exact ht
 rw [IV _ _ _ _ ht,Dp _ _ _ _ ht'];by_cases hd:e.o.dst=some t
 · rw [if_pos hd]
   have hw:=Z6 FT h hx hun hall (.inr hd);rw [hx,Ns];simp only [tv];rw [if_pos ⟨by rw [EP _ _ _ hj,if_pos rfl],hd⟩];rw [U3];intro k hk hkd;have hki:k.i≠e.i:=fun hh=>by
    have hn:=h.nodup;rw [hx,uK,uo,wD,xg]at hn;exact hn.2.1.1 (hh▸xP hk)
   rw [EP _ _ _ hj,if_neg hki];exact hw.2 k hk hkd
 · rw [if_neg hd,h.act,Dp _ _ _ _ ht']
   refine Eg _ _ t x _ fun k hk hkd=>?_;rw [EP _ _ _ hj];by_cases hki:k.i=e.i
   · exfalso
     have:=h.isop k hk;rw [hki,he]at this;obtain hh:=wN this;rw [hh]at hd;exact hd hkd
   · rw [if_neg hki]
theorem VG{L:Array Bool}(hs:Yr ops L){j:Nat}(hj:j<L.size){oj:Oper}(hoj:ops[j]?=some oj)(hall:∀g∈oj.after,Region.binds .any g=true→L.getD g.on false=true):Yr ops (L.setIfInBounds j true):=by
 intro k ok hk hl g hg hb;rw [EP _ _ _ hj]at hl⊢;by_cases e1:k=j
 · subst e1
   rw [hoj]at hk;obtain rfl:=wN hk;rw [hall g hg hb];simp
 · rw [if_neg e1]at hl
   rw [hs k ok hk hl g hg hb];simp
theorem jP(FT:IG ops A cx.N){L:Array Bool}{a:Act}{w:World}{j:Nat}{oj:Oper}(hoj:ops[j]?=some oj)(hun:L.getD j false=false)(hall:∀g∈oj.after,Region.binds .any g=true→L.getD g.on false=true):
 ∀(n:Nat) (x:List ET) (D:Nat) (T:List (Nat×AR)) (H:Hp),ops.size -x.length=n→JR P ops A F cx Q a0 env0 L a w x D T H→
  (∃x' D' T',JR P ops A F cx Q a0 env0 L a w x' D' T' H∧bit D' j=true)∨
  (∃x' D' T',JR P ops A F cx Q a0 env0 L a w x' D' T' H∧j∈KA ops A F D'∧eB ops A F D'=true∧∃m,ops.size -x'.length=m+1∧∃o T'',ops[j]?=some o∧(∀a,wantedE ops a (FH env0 x') o.guard=true)∧(∀p∈T',bit (A.getD j 0) p.1=true∨p∈T'')∧
    OpW P cx.u o (FH env0 x') H (fun v H'=>(∀p∈T'',p.2∈H'.flatten)∧Lin P ops A F cx Q m (D'|||(1<<<j)) T'' (putE o.dst v (FH env0 x')) H') (fun ch H'=>∀env,Nx cx (Q (.panic ch)) env H')):=by
 intro n;induction n with
 |zero=>
  intro x D T H hn h;left;refine ⟨x,D,T,h,?_⟩;have hjs:j<ops.size:=(u7.1 hoj).1
  have hlen:ops.size≤(x.map (·.i)).length:=by rw [tJ];omega
  have hsub:∀i∈x.map (·.i),i<ops.size:=fun i hi=>by
   obtain ⟨e,he,rfl⟩:=uh.1 hi;exact (u7.1 (h.isop e he)).1
  have:j∈x.map (·.i):=by
   apply wK;intro hno;have hle:=yx (l₁:=j::x.map (·.i)) (l₂:=List.range ops.size) (xg.2 ⟨hno,h.nodup⟩) (fun i hi=>by
    rcases uI.1 hi with rfl|hi
    · exact vO.2 hjs
    · exact vO.2 (hsub i hi))
   simp only [tY,tJ,yE]at hle;omega
  obtain ⟨e,he,hi⟩:=uh.1 this;exact (h.mask j).2 ⟨e,he,hi⟩
 |succ n ih=>
  intro x D T H hn h;by_cases hD:bit D j=true
  · exact .inl ⟨x,D,T,h,hD⟩
  · have hw:=h.walk
    rw [hn]at hw;simp only [Lin]at hw;rcases hw with⟨i,o,v,C,ho,hnd,hwi,hC,hop,hk⟩|⟨hfull,hk⟩
    ·
     have hnew:∀e∈x,e.i≠i:=fun e he hh=>by
      have:=(h.mask i).2 ⟨e,he,hh⟩;rw [hnd]at this;cases this
     have hLi:L.getD i false=false:=by
      cases hl:L.getD i false with
      |false=>rfl
      |true=>have:=h.listed i hl;rw [hnd]at this;cases this
     have hlay:lay (fun e=>L.getD e.i false) (x++[⟨i,o,v,C,false⟩]) (Bv env0 a0)=a:=by
      rw [MU,←h.act];simp only [lay,hLi];rfl
     have hstep:∀(s1:List ET) (e:ET) (s2:List ET),x++[⟨i,o,v,C,false⟩]=s1++e::s2→(∃s3,s2=s3++[⟨i,o,v,C,false⟩]∧x=s1++e::s3)∨(s2=[]∧e=⟨i,o,v,C,false⟩∧s1=x):=by
      intro s1 e s2 hs;rcases xG s2 with rfl|⟨s3,z,rfl⟩
      · right
        have:=yK hs rfl;exact ⟨rfl,(by simpa using this.2.symm),this.1.symm⟩
      · left
        have hs':x++[⟨i,o,v,C,false⟩]=(s1++e::s3)++[z]:=by rw [hs];simp
        have:=yK hs' rfl;have hz:z=⟨i,o,v,C,false⟩:=by simpa using this.2.symm
        exact ⟨s3,by rw [hz];simp,this.1⟩
     have henv:FH env0 (x++[⟨i,o,v,C,false⟩])=putE o.dst v (FH env0 x):=by rw [KM];rfl
     refine ih (x++[⟨i,o,v,C,false⟩]) (D|||(1<<<i)) (C.map (fun c=>(i,c))++T) H (by simp;omega) ⟨h.size,h.shut,hlay.symm,h.sat,fun k=>?_,?_,fun e he=>?_,fun k hk=>?_,fun k hk hf=>?_,fun s1 e s2 hs k hb=>?_,fun s1 e s2 hs hf=>?_,fun e he hl c hc=>?_,?_,?_⟩
     · rw [RB,h.mask k]
       constructor
       · rintro (⟨e,he,hi⟩|rfl)
         · exact ⟨e,by simp [he],hi⟩
         · exact ⟨⟨i,o,v,C,false⟩,by simp,rfl⟩
       · rintro ⟨e,he,hi⟩
         rcases uF.1 he with he|he
         · exact .inl ⟨e,he,hi⟩
         · simp only [tq]at he;subst he;exact .inr hi
     · rw [uK,wD]
       refine ⟨h.nodup,by simp,fun p hp q hq=>?_⟩;simp only [uo,wM,tq]at hq;subst hq;obtain ⟨e,he,rfl⟩:=uh.1 hp;exact hnew e he
     · rcases uF.1 he with he|he
       · exact h.isop e he
       · simp only [tq]at he;subst he;exact ho
     · exact (RB _ _ _).2 (.inl (h.listed k hk))
     · rcases uF.1 hk with hk|hk
       · exact h.effs k hk hf
       · rw [tq.1 hk]at hf;cases hf
     · rcases hstep s1 e s2 hs with⟨s3,_,hx3⟩|⟨_,rfl,rfl⟩
       · exact h.order s1 e s3 hx3 k hb
       · exact (h.mask k).1 (Pd hwi hb)
     · rcases hstep s1 e s2 hs with⟨s3,_,hx3⟩|⟨_,rfl,rfl⟩
       · exact h.pend s1 e s3 hx3 hf
       · exact hop
     · rcases uF.1 he with he|he
       · have:=h.reads e he hl c hc
         exact ⟨tZ _ this.1,this.2⟩
       · simp only [tq]at he;subst he
         exact ⟨u6 _ (uh.2 ⟨c,hc,rfl⟩),hC c hc⟩
     · rw [henv];exact h.fit.putE (fun t ht=>FT.room i o t ho ht) v
     · have hlen:ops.size -(x++[(⟨i,o,v,C,false⟩:ET)]).length=n:=by simp;omega
       rw [henv,hlen];exact hk
    ·
     right;have hjs:j<ops.size:=(u7.1 hoj).1
     have hanc:∀i,(A.getD j 0).testBit i=true→bit D i=true:=fun i hb=>h.listed i (FM FT h.shut j i oj hoj hb hall);have hwj:Ef (A.getD j 0) D=true:=by
      unfold Ef;have:Nat.land (A.getD j 0) D=A.getD j 0:=by
       apply Nat.eq_of_testBit_eq;intro i;show(A.getD j 0&&&D).testBit i=_
       rw [zJ];cases hb:(A.getD j 0).testBit i with
       |false=>rfl
       |true=>rw [show D.testBit i=true from hanc i hb];rfl
      rw [this];exact Nat.beq_refl _
     have hF:bit F j=true:=by
      have:=vL.1 hfull j (vO.2 hjs);simp only [wh,wE]at this;rcases this with(h1|h1)|h1
      · exact h1
      · exact absurd h1 hD
      · exfalso
        have:Ef (Nat.land (A.getD j 0) F) D=true:=by
         unfold Ef;have:Nat.land (Nat.land (A.getD j 0) F) D=Nat.land (A.getD j 0) F:=by
          apply Nat.eq_of_testBit_eq;intro i;show((A.getD j 0&&&F)&&&D).testBit i=(A.getD j 0&&&F).testBit i
          rw [zJ (A.getD j 0&&&F),zJ];cases hb:(A.getD j 0).testBit i with
          |false=>rfl
          |true=>rw [show D.testBit i=true from hanc i hb];simp
         rw [this];exact Nat.beq_refl _
        rw [this]at h1;cases h1
     have hnext:j∈KA ops A F D:=vW.2 ⟨vO.2 hjs,by rw [hF,hwj];simp only [Bool.not_eq_true]at hD;rw [hD];rfl⟩;exact ⟨x,D,T,h,hnext,hfull,n,hn,hk j hnext⟩
theorem Rz{r:Option Nat}{i:Nat}{o:Oper}{a:Act}{w:World}{K:Act→World→Prop}(hi:ops[i]?=some o)(hg:Region.wanted o (yielded ops a.tmps)=true)(h:o.wpIn (Fx r) 0 P a w K Q):wpOpIn (Fx r) 0 P ops Q i K a w:=by
 unfold wpOpIn;simp only [hi];rw [if_pos hg];exact h
theorem aV{r:Option Nat}{i:Nat}{o:Oper}{a:Act}{w:World}{K:Act→World→Prop}(hi:ops[i]?=some o)(hg:Region.wanted o (yielded ops a.tmps)=false)(h:K (a.put o.dst undef) w):wpOpIn (Fx r) 0 P ops Q i K a w:=by
 unfold wpOpIn;simp only [hi];rw [if_neg (by rw [hg];simp)];exact ⟨fun _ _=>trivial,h⟩
theorem UU(hN:a0.tmps.size=cx.N)(hD:a0.defers=cx.D)(hf0:Fit cx.N env0)(FT:IG ops A cx.N):∀(fuel:Nat) (L:Array Bool) (a:Act) (w:World) (x:List ET) (D:Nat) (T:List (Nat×AR)) (H:Hp),
 ((List.range ops.size).countP fun i=>!L.getD i false)≤fuel→JR P ops A F cx Q a0 env0 L a w x D T H→wpAnyIn (Fx cx.r) 0 P .any ops Q fuel L a w:=by
 have hall0:∀(L:Array Bool),L.size=ops.size→Region.ready .any ops L=[]→∀j,j<ops.size→L.getD j false=true:=by
  intro L hsz hr j;induction j using Nat.strongRecOn with
  |ind j ih=>
   intro hj;cases hl:L.getD j false with
   |true=>rfl
   |false=>
    obtain ⟨oj,hoj⟩:∃oj,ops[j]?=some oj:=⟨_,tu hj⟩;have:j∈Region.ready .any ops L:=mem_ready.2 ⟨by
     rw [uM,tu (by rw [hsz];exact hj)]at hl⊢;simpa using hl,oj,hoj,fun e he hb=>by
      have:=FT.edge j oj e hoj he hb;exact ih e.on this (by omega)⟩
    rw [hr]at this;cases this
 have hfin:∀(L:Array Bool) (a:Act) (w:World) (x:List ET) (D:Nat) (T:List (Nat×AR)) (H:Hp),JR P ops A F cx Q a0 env0 L a w x D T H→Region.ready .any ops L=[]→Q .normal a w:=by
  intro L a w x D T H h hr;have hall:=hall0 L h.size hr
  have hge:ops.size≤x.length:=by
   have hle:=yx (l₁:=List.range ops.size) (l₂:=x.map (·.i)) zi (fun i hi=>by
    obtain ⟨e,he,hi'⟩:=(h.mask i).1 (h.listed i (hall i (vO.1 hi)));exact uh.2 ⟨e,he,hi'⟩)
   simpa using hle
  have hw:=h.walk;rw [show ops.size -x.length=0 by omega]at hw;simp only [Lin]at hw;have ha:a=Bv (FH env0 x) a0:=by
   rw [h.act,Gi];refine Ib (by rw [Cr,Cr]) (by rw [Eu,Eu]) fun t ht=>?_;rw [Cr]at ht;rw [Dp _ _ _ _ ht,Dp _ _ _ _ ht];exact Eg _ _ t x _ fun e he _=>hall e.i (u7.1 (h.isop e he)).1
  rw [ha];exact hw a0 w ⟨hN,hD,h.fit,h.sat⟩
 intro fuel;induction fuel with
 |zero=>
  intro L a w x D T H hc h;have hr:Region.ready .any ops L=[]:=by
   cases hr:Region.ready .any ops L with
   |nil=>rfl
   |cons j js=>
    have hj:j∈Region.ready .any ops L:=by rw [hr];exact uz ..
    obtain ⟨hun,oj,hoj,_⟩:=mem_ready.1 hj;have hjs:j<ops.size:=(u7.1 hoj).1
    have hunF:L.getD j false=false:=by
     rw [uM]at hun⊢;rw [tu (by rw [h.size];exact hjs)]at hun⊢;simpa using hun
    have:0<(List.range ops.size).countP fun i=>!L.getD i false:=List.countP_pos_iff.2 ⟨j,vO.2 hjs,by rw [hunF];rfl⟩;omega
  exact ⟨hr,hfin L a w x D T H h hr⟩
 |succ fuel ih=>
  intro L a w x D T H hc h;refine ⟨fun hr=>hfin L a w x D T H h hr,fun j hj=>?_⟩;obtain ⟨hun,oj,hoj,hall⟩:=mem_ready.1 hj;have hjs:j<ops.size:=(u7.1 hoj).1
  have hjL:j<L.size:=by rw [h.size];exact hjs
  have hunF:L.getD j false=false:=by
   rw [uM]at hun⊢;rw [tu hjL]at hun⊢;simpa using hun
  have hcnt:((List.range ops.size).countP fun i=>!(L.setIfInBounds j true).getD i false)≤fuel:=by
   have hlt:((List.range ops.size).countP fun i=>!(L.setIfInBounds j true).getD i false)<(List.range ops.size).countP fun i=>!L.getD i false:=by
    obtain ⟨r1,r2,hr⟩:=yV (vO.2 hjs);rw [hr,yX,yX,List.countP_cons,List.countP_cons];have hmono:∀l:List Nat,(l.countP fun i=>!(L.setIfInBounds j true).getD i false)≤l.countP fun i=>!L.getD i false:=fun l=>List.countP_mono_left fun i _ hi=>by
     rw [EP _ _ _ hjL]at hi;split at hi
     · simp at hi
     · exact hi
    have h1:=hmono r1;have h2:=hmono r2
    have e1:(!(L.setIfInBounds j true).getD j false)=false:=by rw [EP _ _ _ hjL];simp
    have e2:(!L.getD j false)=true:=by rw [hunF];rfl
    rw [e1,e2];simp only [vH,if_false,if_true];omega
   omega
  rcases jP FT hoj hunF hall _ x D T H rfl h with⟨x',D',T',h',hD'⟩|⟨x',D',T',h',hnext,hfull,m,hm,o,T'',ho,hwt,hT,hW⟩
  ·
   obtain ⟨e,he,hei⟩:=(h'.mask j).1 hD';obtain ⟨x1,x2,hx⟩:=yV he;subst hei;have heo:e.o=oj:=by have:=h'.isop e he;rw [hoj]at this;exact (wN this).symm
   subst heo;have hnf:e.k=false:=by
    cases hb:e.k with
    |false=>rfl
    |true=>have:=h'.effs e (by rw [hx];simp) hb;rw [hunF]at this;cases this
   have hP:=h'.pend x1 e x2 hx hnf;have hlook:=Y8 FT h' hx hunF hall
   have hfit1:Fit a0.tmps.size (FH env0 x1):=by
    have:∀(l:List ET) (E:Env),(∀k∈l,ops[k.i]?=some k.o)→Fit cx.N E→Fit cx.N (FH E l):=by
     intro l;induction l with
     |nil=>intro E _ h;exact h
     |cons k l ihl=>intro E hk h;exact ihl _ (fun q hq=>hk q (ug _ hq)) (h.putE (fun t ht=>FT.room k.i k.o t (hk k (uz ..)) ht) _)
    rw [hN];exact this x1 env0 (fun k hk=>h'.isop k (by rw [hx];simp [hk])) hf0
   have hgo:wpAnyIn (Fx cx.r) 0 P .any ops Q fuel (L.setIfInBounds e.i true) (a.put e.o.dst e.v) w→wpOpIn (Fx cx.r) 0 P ops Q e.i (wpAnyIn (Fx cx.r) 0 P .any ops Q fuel (L.setIfInBounds e.i true)) a w:=fun hz=>by
    rcases hP with⟨hy,hP⟩|⟨hno,hv,_⟩
    · refine Rz hoj (by rw [GI hlook,FP ops e.o a0 _ hfit1];exact hy a0) ⟨fun _ _=>trivial,U1 ?_⟩
      rw [Pp (Kq (FT.nod e.i e.o hoj))];rw [execOp_congr e.o (FT.sel e.i e.o · · hoj) (KJ hlook),El a0 _ hfit1];rw [hP a0 w fun c hc=>h'.sat.get c (h'.reads e he hunF c hc).2];exact hz
    · refine aV hoj (by rw [GI hlook,FP ops e.o a0 _ hfit1];exact hno a0) ?_
      rw [←hv];exact hz
   refine hgo ?_;refine ih (L.setIfInBounds e.i true) _ w x' D' T' H hcnt ⟨by simp [h'.size],VG h'.shut hjL hoj hall,mh FT h' hx hunF hall,h'.sat,h'.mask,h'.nodup,h'.isop,fun k hk=>?_,fun k hk hf=>?_,h'.order,h'.pend,fun k hk hl c hc=>?_,h'.fit,h'.walk⟩
   · rw [EP _ _ _ hjL]at hk
     split at hk
     · rename_i e1;subst e1;exact hD'
     · exact h'.listed k hk
   · rw [EP _ _ _ hjL];split
     · rfl
     · exact h'.effs k hk hf
   · rw [EP _ _ _ hjL]at hl
     split at hl
     · cases hl
     · exact h'.reads k hk hl c hc
  ·
   have hoe:o=oj:=by rw [hoj]at ho;exact (wN ho).symm
   subst hoe;obtain ⟨hFj,hnDj,hwj⟩:bit F j=true∧bit D' j=false∧Ef (A.getD j 0) D'=true:=by
    have:=(vW.1 hnext).2;simp only [uE,wE]at this;exact ⟨this.1.1,this.1.2,this.2⟩
   have hnew:∀e∈x',e.i≠j:=fun e he hh=>by
    have:=(h'.mask j).2 ⟨e,he,hh⟩;rw [hnDj]at this;cases this
   have hlook:∀t∈o.looksAt ops,a.tmps[t]?=(Bv (FH env0 x') a0).tmps[t]?:=by
    intro t ht;by_cases hlt:t<(Bv env0 a0).tmps.size
    · rw [h'.act,Gi,Dp _ _ _ _ hlt,Dp _ _ _ _ hlt]
      refine Eg _ _ t x' _ fun k hk hd=>?_;have hko:=h'.isop k hk
      have:(A.getD j 0).testBit k.i=true∨(A.getD k.i 0).testBit j=true:=by
       rcases Nat.lt_or_gt_of_ne (hnew k hk)with hl|hl
       · rcases FT.apart k.i j k.o o hko hoj hl with hap|hb
         · exact absurd ht ((Oper.apart_spec hap).1 t hd)
         · exact .inl hb
       · rcases FT.apart j k.i o k.o hoj hko hl with hap|hb
         · exact absurd ht ((Oper.apart_spec hap).2.2 t hd)
         · exact .inr hb
      rcases this with hb|hb
      · exact FM FT h'.shut j k.i o hoj hb hall
      · exfalso
        obtain ⟨y1,y2,hy⟩:=yV hk;obtain ⟨e',he',hi⟩:=h'.order y1 k y2 hy j hb;exact hnew e' (by rw [hy];simp [he']) hi
    · have hs:a.tmps.size=(Bv env0 a0).tmps.size:=by rw [h'.act,Cr]
      rw [uT (by rw [hs];exact xw hlt),uT (by rw [Gi,Cr];exact xw hlt)]
   refine Rz hoj (by rw [GI hlook,FP ops o a0 _ (by rw [hN];exact h'.fit)];exact hwt a0) ⟨fun _ _=>trivial,U1 ?_⟩;rw [Pp (Kq (FT.nod j o hoj))];rw [execOp_congr o (FT.sel j o · · hoj) (KJ hlook),El a0 _ (by rw [hN];exact h'.fit)];refine hW a0 w h'.sat _ _ (fun v H' w' hv hsat=>?_) (fun ch H' w' hv hsat=>?_)
   · obtain ⟨hT2,hk⟩:=hv
     have henv:FH env0 (x'++[⟨j,o,v,[],true⟩])=putE o.dst v (FH env0 x'):=by rw [KM];rfl
     have hstep:∀(s1:List ET) (e:ET) (s2:List ET),x'++[⟨j,o,v,[],true⟩]=s1++e::s2→(∃s3,s2=s3++[⟨j,o,v,[],true⟩]∧x'=s1++e::s3)∨(s2=[]∧e=⟨j,o,v,[],true⟩∧s1=x'):=by
      intro s1 e s2 hs;rcases xG s2 with rfl|⟨s3,z,rfl⟩
      · right
        have:=yK hs rfl;exact ⟨rfl,(by simpa using this.2.symm),this.1.symm⟩
      · left
        have hs':x'++[⟨j,o,v,[],true⟩]=(s1++e::s3)++[z]:=by rw [hs];simp
        have:=yK hs' rfl;have hz:z=⟨j,o,v,[],true⟩:=by simpa using this.2.symm
        exact ⟨s3,by rw [hz];simp,this.1⟩
     refine ih (L.setIfInBounds j true) _ w' (x'++[⟨j,o,v,[],true⟩]) (D'|||(1<<<j)) T'' H' hcnt ⟨by simp [h'.size],VG h'.shut hjL hoj hall,?_,hsat,fun k=>?_,?_,fun e he=>?_,fun k hk=>?_,fun k hk hf=>?_,fun s1 e s2 hs k hb=>?_,fun s1 e s2 hs hf=>?_,fun e he hl c hc=>?_,?_,?_⟩
     ·
      rw [MU];have hsame:lay (fun e=>(L.setIfInBounds j true).getD e.i false) x' (Bv env0 a0)=a:=by
       rw [h'.act];refine Ib (by rw [Cr,Cr]) (by rw [Eu,Eu]) fun t ht=>?_;rw [Cr]at ht;rw [Dp _ _ _ _ ht,Dp _ _ _ _ ht];exact Eg _ _ t x' _ fun k hk _=>by rw [EP _ _ _ hjL,if_neg (hnew k hk)]
      rw [hsame];simp only [lay];rw [if_pos (by rw [EP _ _ _ hjL];simp)]
     · rw [RB,h'.mask k]
       constructor
       · rintro (⟨e,he,hi⟩|rfl)
         · exact ⟨e,by simp [he],hi⟩
         · exact ⟨⟨j,o,v,[],true⟩,by simp,rfl⟩
       · rintro ⟨e,he,hi⟩
         rcases uF.1 he with he|he
         · exact .inl ⟨e,he,hi⟩
         · simp only [tq]at he;subst he;exact .inr hi
     · rw [uK,wD]
       refine ⟨h'.nodup,by simp,fun p hp q hq=>?_⟩;simp only [uo,wM,tq]at hq;subst hq;obtain ⟨e,he,rfl⟩:=uh.1 hp;exact hnew e he
     · rcases uF.1 he with he|he
       · exact h'.isop e he
       · simp only [tq]at he;subst he;exact hoj
     · rw [EP _ _ _ hjL]at hk
       split at hk
       · rename_i e1;exact (RB _ _ _).2 (.inr e1.symm)
       · exact (RB _ _ _).2 (.inl (h'.listed k hk))
     · rw [EP _ _ _ hjL]
       split
       · rfl
       · rename_i hne
         rcases uF.1 hk with hk|hk
         · exact h'.effs k hk hf
         · rw [tq.1 hk]at hne;exact absurd rfl hne
     · rcases hstep s1 e s2 hs with⟨s3,_,hx3⟩|⟨_,rfl,rfl⟩
       · exact h'.order s1 e s3 hx3 k hb
       · exact (h'.mask k).1 (Pd hwj hb)
     · rcases hstep s1 e s2 hs with⟨s3,_,hx3⟩|⟨_,rfl,rfl⟩
       · exact h'.pend s1 e s3 hx3 hf
       · cases hf
     · rw [EP _ _ _ hjL]at hl
       split at hl
       · cases hl
       · rename_i hne
         rcases uF.1 he with he|he
         · have hr:=h'.reads e he hl c hc
           rcases hT (e.i,c) hr.1 with hb|hb
           · exfalso
             have:=FM FT h'.shut j e.i o hoj hb hall;rw [hl]at this;cases this
           · exact ⟨hb,hT2 _ hb⟩
         · simp only [tq]at he;subst he;cases hc
     · rw [henv];exact h'.fit.putE (fun t ht=>FT.room j o t hoj ht) v
     · have hlen:ops.size -(x'++[(⟨j,o,v,[],true⟩:ET)]).length=m:=by simp;omega
       rw [henv,hlen];exact hk
   · have hp:=hv (FH env0 x')
     have ha:∃a1,a=Bv (FH env0 x') a1∧a1.tmps.size=cx.N∧a1.defers=cx.D∨True:=⟨a,.inr trivial⟩;clear ha;have:=hv [] a w' ⟨by rw [h'.act,Cr,Ij];exact hN,by rw [h'.act,Eu,Ey];exact hD,(by intro q hq;cases hq),hsat⟩
     exact this
section
variable{n D:Nat}{T:List (Nat×AR)}{env:Env}{H:Hp}
theorem Am(h:Nx cx (Q .normal) env H):Lin P ops A F cx Q 0 D T env H:=h
theorem o7{d:Nat}{op:Op}{ty:TypeId}{pos:String}{af:Array Edge}{v:Value}{D':Nat}(i:Nat)(ho:ops[i]?=some ⟨some d,op,ty,pos,af,none⟩)(h1:(!bit F i&&!bit D i&&Ef (A.getD i 0) D)=true)(hD:D|||(1<<<i)=D')(hop:OpP P ⟨some d,op,ty,pos,af,none⟩ env [] v)
 (k:Lin P ops A F cx Q n D' T ((d,v)::env) H):Lin P ops A F cx Q (n+1) D T env H:=by
 simp only [uE,wE]at h1;subst hD;exact .inl ⟨i,_,v,[],ho,h1.1.2,h1.2,by simp,.inl ⟨fun _=>rfl,hop⟩,k⟩
theorem EF{d:Nat}{op:Op}{ty:TypeId}{pos:String}{af:Array Edge}{v:Value}{D':Nat}(i:Nat)(hop:OpP P ⟨some d,op,ty,pos,af,none⟩ env [] v)
 (k:Lin P ops A F cx Q n D' T ((d,v)::env) H)(ho:ops[i]?=some ⟨some d,op,ty,pos,af,none⟩:=by exact rfl)(h1:(!bit F i&&!bit D i&&Ef (A.getD i 0) D)=true:=by exact rfl)(hD:D|||(1<<<i)=D':=by exact rfl):Lin P ops A F cx Q (n+1) D T env H:=o7 i ho h1 hD hop k
theorem Ag{d:Nat}{op:Op}{ty:TypeId}{pos:String}{af:Array Edge}{g:Nat×Bool}{v:Value}{D':Nat}(i:Nat)(hg:∀a,wantedE ops a env (some g)=true)(ho:ops[i]?=some ⟨some d,op,ty,pos,af,some g⟩)(h1:(!bit F i&&!bit D i&&Ef (A.getD i 0) D)=true)(hD:D|||(1<<<i)=D')(hop:OpP P ⟨some d,op,ty,pos,af,some g⟩ env [] v)
 (k:Lin P ops A F cx Q n D' T ((d,v)::env) H):Lin P ops A F cx Q (n+1) D T env H:=by
 simp only [uE,wE]at h1;subst hD;exact .inl ⟨i,_,v,[],ho,h1.1.2,h1.2,by simp,.inl ⟨hg,hop⟩,k⟩
theorem jO{o:Oper}{D':Nat}(i:Nat)(ho:ops[i]?=some o)(hg:∀a,wantedE ops a env o.guard=false)(h1:(!bit D i&&Ef (A.getD i 0) D)=true)(hD:D|||(1<<<i)=D')
 (k:Lin P ops A F cx Q n D' T (putE o.dst undef env) H):Lin P ops A F cx Q (n+1) D T env H:=by
 simp only [uE,wE]at h1;subst hD;exact .inl ⟨i,_,undef,[],ho,h1.1,h1.2,by simp,.inr ⟨hg,rfl,rfl⟩,k⟩
theorem CS{t:Nat}{p:Prop} [hd:Decidable p](hv:∀a,Ep a env t= .bool (decide p))(ht:p→Lin P ops A F cx Q n D T env H)(hf:¬p→Lin P ops A F cx Q n D T env H):Lin P ops A F cx Q n D T env H:=by
 by_cases hp:p
 · exact ht hp
 · exact hf hp
theorem CP{t:Nat}{b:Bool}(hv:∀a,Ep a env t= .bool b)(ht:b=true→Lin P ops A F cx Q n D T env H)(hf:b=false→Lin P ops A F cx Q n D T env H):Lin P ops A F cx Q n D T env H:=by
 cases hb:b
 · exact hf hb
 · exact ht hb
theorem Cj{d:Nat}{op:Op}{ty:TypeId}{pos:String}{af:Array Edge}{v:Value}{b:Nat}{x:Obj}{D':Nat}(i:Nat)(ho:ops[i]?=some ⟨some d,op,ty,pos,af,none⟩)(h1:(!bit F i&&!bit D i&&Ef (A.getD i 0) D)=true)(hD:D|||(1<<<i)=D')(hb:Has b x H)(hop:OpP P ⟨some d,op,ty,pos,af,none⟩ env [(b,x)] v)
 (k:Lin P ops A F cx Q n D' ((i,(b,x))::T) ((d,v)::env) H):Lin P ops A F cx Q (n+1) D T env H:=by
 simp only [uE,wE]at h1;subst hD;exact .inl ⟨i,_,v,[(b,x)],ho,h1.1.2,h1.2,by simpa using hb.mem,.inl ⟨fun _=>rfl,hop⟩,k⟩
theorem Bl{d:Nat}{op:Op}{ty:TypeId}{pos:String}{af:Array Edge}{g:Nat×Bool}{v:Value}{b:Nat}{x:Obj}{D':Nat}(i:Nat)(hg:∀a,wantedE ops a env (some g)=true)(ho:ops[i]?=some ⟨some d,op,ty,pos,af,some g⟩)(h1:(!bit F i&&!bit D i&&Ef (A.getD i 0) D)=true)(hD:D|||(1<<<i)=D')(hb:Has b x H)(hop:OpP P ⟨some d,op,ty,pos,af,some g⟩ env [(b,x)] v)
 (k:Lin P ops A F cx Q n D' ((i,(b,x))::T) ((d,v)::env) H):Lin P ops A F cx Q (n+1) D T env H:=by
 simp only [uE,wE]at h1;subst hD;exact .inl ⟨i,_,v,[(b,x)],ho,h1.1.2,h1.2,by simpa using hb.mem,.inl ⟨hg,hop⟩,k⟩
def Uw(P:Program)(ops:Array Oper)(A:List Nat)(F:Nat)(cx:Cx)(Q:Exit→Act→World→Prop)(n D:Nat)(T:List (Nat×AR))(env:Env)(H:Hp):List Nat→Prop
 |[]=>True
 |f::l=>(∃o T',ops[f]?=some o∧(∀a,wantedE ops a env o.guard=true)∧(∀p∈T,bit (A.getD f 0) p.1=true∨p∈T')∧
   OpW P cx.u o env H (fun v H'=>(∀p∈T',p.2∈H'.flatten)∧Lin P ops A F cx Q n (D|||(1<<<f)) T' (putE o.dst v env) H') (fun ch H'=>∀env,Nx cx (Q (.panic ch)) env H'))∧Uw P ops A F cx Q n D T env H l
theorem Wy:∀(l:List Nat),Uw P ops A F cx Q n D T env H l→∀f∈l,∃o T',ops[f]?=some o∧(∀a,wantedE ops a env o.guard=true)∧(∀p∈T,bit (A.getD f 0) p.1=true∨p∈T')∧
 OpW P cx.u o env H (fun v H'=>(∀p∈T',p.2∈H'.flatten)∧Lin P ops A F cx Q n (D|||(1<<<f)) T' (putE o.dst v env) H') (fun ch H'=>∀env,Nx cx (Q (.panic ch)) env H')
 |[],_,_,h=>by cases h
 |g::l,h,f,hf=>by
  rcases uI.1 hf with rfl|hf
  · exact h.1
  · exact Wy l h.2 f hf
theorem UT{l:List Nat}(h1:eB ops A F D=true)(h2:KA ops A F D=l)(h:Uw P ops A F cx Q n D T env H l):Lin P ops A F cx Q (n+1) D T env H:= .inr ⟨h1,by rw [h2];exact Wy l h⟩
def sel{α:Type}:List Bool→List α→List α
 |true::bs,x::l=>x::sel bs l
 |false::bs,_::l=>sel bs l
 |_,_=>[]
def Mw(m:Nat):List Bool→List Nat→Bool
 |true::bs,_::l=>Mw m bs l
 |false::bs,x::l=>bit m x&&Mw m bs l
 |[],[]=>true
 |_,_=>false
theorem Nw{m:Nat}:∀(bs:List Bool) (T:List (Nat×AR)),Mw m bs (T.map (·.1))=true→∀p∈T,bit m p.1=true∨p∈sel bs T
 |[],[],_,p,hp=>by cases hp
 |[],_::_,h,_,_=>by simp [Mw]at h
 |_::_,[],_,p,hp=>by cases hp
 |true::bs,x::T,h,p,hp=>by
  simp only [uo,Mw]at h;rcases uI.1 hp with rfl|hp
  · exact .inr (by simp [sel])
  · exact (Nw bs T h p hp).imp id fun hm=>by simp only [sel];exact ug _ hm
 |false::bs,x::T,h,p,hp=>by
  simp only [uo,Mw,uE]at h;rcases uI.1 hp with rfl|hp
  · exact .inl h.1
  · exact (Nw bs T h.2 p hp).imp id fun hm=>by simp only [sel];exact hm
theorem Tf{f m:Nat}{l is:List Nat}{o:Oper}{D':Nat}{bs:List Bool}{T':List (Nat×AR)}{Ps:Value→Hp→Prop}{Pn:List PanicEntry→Hp→Prop}(ho:ops[f]?=some o)(hg:∀a,wantedE ops a env o.guard=true)(hD:D|||(1<<<f)=D')(hm:A[f]?=some m)(his:T.map (·.1)=is)(hok:Mw m bs is=true)(hT:sel bs T=T')(hw:OpW P cx.u o env H Ps Pn)
 (k:∀v H',Ps v H'→(∀p∈T',p.2∈H'.flatten)∧Lin P ops A F cx Q n D' T' (putE o.dst v env) H')(kp:∀ch H',Pn ch H'→∀env,Nx cx (Q (.panic ch)) env H')(hl:Uw P ops A F cx Q n D T env H l):Uw P ops A F cx Q n D T env H (f::l):=by
 subst hD;subst hT;subst his;have hmf:A.getD f 0=m:=by rw [uZ,hm];rfl
 exact ⟨⟨o,_,ho,hg,fun p hp=>by rw [hmf];exact Nw bs T hok p hp,fun a w hs K Kp hK hKp=>hw a w hs K Kp (fun v H' w' h1 h2=>hK v H' w' (k v H' h1) h2) (fun ch H' w' h1 h2=>hKp ch H' w' (kp ch H' h1) h2)⟩,hl⟩
theorem Aw:Uw P ops A F cx Q n D T env H []:=trivial
end
theorem Ad{H:Hp}:∀p∈([]:List (Nat×AR)),p.2∈H.flatten:=by intro p hp;cases hp
theorem dR{H:Hp}{i b:Nat}{x:Obj}{T:List (Nat×AR)}(h:Has b x H)(ht:∀p∈T,p.2∈H.flatten):∀p∈((i,(b,x))::T),p.2∈H.flatten:=by
 intro p hp;rcases uI.1 hp with rfl|hp
 · exact h.mem
 · exact ht p hp
theorem BI{id n:Nat}{env:Env}{H:Hp}(A:List Nat)(F:Nat)(hm:P.follows .mixedOrders=true)(hok:Qm ops A cx.N=true)(hn:ops.size=n)(h:Lin P ops A F cx Q n 0 [] env H):At P cx (.region id ops true) Q env H:=fun a w hs=>by
 subst hn;have FT:=YA hok
 refine wpIn_region_any hm (UU (a0:=a) (env0:=env) hs.size hs.defers hs.fit FT ops.size _ _ _ [] 0 [] H ?_ ⟨by simp,fun j oj hj hl=>?_,rfl,hs.sat.drew,fun i=>?_,by simp,(by intro e he;cases he),fun i hi=>?_,fun i hi=>?_,fun x1 e x2 hx=>?_,fun x1 e x2 hx=>?_,(by intro e he;cases he),hs.fit,h⟩)
 · refine xk List.countP_le_length ?_
   simp
 · simp [xL]at hl
   split at hl<;>simp_all
 · constructor
   · intro hb;simp [bit]at hb
   · rintro ⟨e,he,_⟩;cases he
 · exfalso
   simp [xL]at hi;split at hi<;>simp_all
 · simp [bit]at hi
 · cases x1<;>cases hx
 · cases x1<;>cases hx
end
end Gw
