/- Walking by chunks: writes, new memory, calls, a function's entry and end. No function of the program is named. -/
import Derived.Test.YteaiajghbkenoaaGreatDoorEx2
import Derived.Laws.Append
import Derived.Laws.BytesArg
import Derived.Laws.AppendOwn
set_option linter.unusedVariables false
set_option linter.unusedSimpArgs false
namespace Gw
open Go Go.RowKit
def FD:Nat->List Value->Env
 |_,[]=>[]
 |i,v::l=>(i,v)::FD (i+1) l
def IA(z:Nat×Nat)(n:Nat):Prop:=∀i,i<n->¬(z.1<=i/\i<z.2)
theorem BF(n:Nat):IA (0,0) n:=fun i _ h=>by simp only at h;omega
theorem YJ(n m:Nat)(h:n<=m)(k:Nat):IA (m,k) n:=fun i hi hh=>by simp only at hh;omega
theorem OU{w:World}{b i:Nat}{c:Array Value}{T:TypeId}{z:Nat×Nat}(v:Value)(h:w.heap[b]?=some (.cells c T z)):
 (w.setCell ⟨b,i,none⟩ v).heap[b]?=some (.cells (c.setIfInBounds i v) T z):=by
 simp [World.setCell,AD9,h]
theorem Kh{w:World}{k:Nat}{a:Addr}(v:Value)(hn:k≠a.block):(w.setCell a v).heap[k]?=w.heap[k]?:=by
 simp [World.setCell,AD9,AT8 hn]
theorem JY{P:Program}{w:World}{b i:Nat}{c:Array Value}{T:TypeId}{z:Nat×Nat}{v:Value}(h:w.heap[b]?=some (.cells c T z))(hi:i<c.size)(hz:IA z c.size)(h1:v.oneCell'=true):
 (store ⟨b,i,none⟩ v).run P w= .ok () (w.setCell ⟨b,i,none⟩ v):=by
 have hc:w.cell? ⟨b,i,none⟩=some c[i]:=Cb h (zn hi);have hf:w.frozen? ⟨b,i,none⟩=false:=by
  simp only [World.frozen?,h];have:=hz i hi
  obtain ⟨lo,hi'⟩:=z;simp only at this⊢;simpa using this
 rw [run_store P w _ v _ h1,hc];simp [hf]
theorem CX{P:Program}(g o:Nat)(t:TypeId)(z:Nat×Nat):∀(vs:List Value) (i:Nat) (cur:Array Value) (w:World),w.heap[g]?=some (.cells cur t z)->IA z cur.size->o+i+vs.length<=cur.size->(∀v∈vs,v.oneCell'=true)->
 (storeCells ⟨g,o,none⟩ vs i).run P w= .ok () (w.setRow g (cur.toList.take (o+i)++vs++cur.toList.drop (o+i+vs.length)).toArray)
 |[],i,cur,w,hg,_,_,_=>by
  simp only [storeCells,zV,AF4,AH6,AB4,Array.toArray_toList];rw [setRow_self w g cur t z hg];rfl
 |v::rest,i,cur,w,hg,hz,hl,h1=>by
  have hi:o+i<cur.size:=by simp at hl;omega
  have hst:(store ((⟨g,o,none⟩:Addr).add i) v).run P w= .ok () (w.setRow g (cur.setIfInBounds (o+i) v)):=by
   rw [Cn,JY hg hi hz (h1 v Ap0),setCell_eq_setRow w g (o+i) cur t z v hg]
  have ih:=CX (P:=P) g o t z rest (i+1) (cur.setIfInBounds (o+i) v) (w.setRow g (cur.setIfInBounds (o+i) v)) (setRow_heap w g cur _ t _ hg) (by simpa using hz) (by simp at hl⊢;omega) (fun x hx=>h1 x (by simp [hx]));simp only [storeCells,Sem.run_bind,hst,Result.andThen_ok,ih,setRow_setRow];congr 3;have e:=list_seg_step cur.toList (o+i) v rest (by simp at hl⊢;omega)
  simpa [AJ2,AQ1]using e
theorem Iy{α β:Type}(f:α->β)(ps:Array α):ps.map f=(ps.toList.map f).toArray:=by
 apply Array.ext';simp only [Array.toList_map]
def Dp(c:Array Value)(i:Nat)(vs:List Value):Array Value:=(c.toList.take i++vs++c.toList.drop (i+vs.length)).toArray
section
variable{P:Program}{u:World}{env:Env}{H H' R:Hp}{d:Option Nat}{ty:TypeId}{pos:String}{af:Array Edge}{g:Option (Nat×Bool)}
theorem rU{t:TypeId}{x y:Operand}{b i:Nat}{c c':Array Value}{T:TypeId}{z:Nat×Nat}{v:Value}(hs:∀w:World,(Go.sizeOf t).run P w= .ok 1 w)(hx:∀a,ev a env x= .pointer (some ⟨b,i,none⟩))(hy:∀a,ev a env y=v)(h1:v.oneCell'=true)
 (hu:Upd b (.cells c T z) (.cells c' T z) H H')(hc:c.setIfInBounds i v=c')(hi:i<c.size)(hz:IA z c.size):
 OpW P u ⟨d,.store t x y,ty,pos,af,g⟩ env H (fun v' H1=>v'=undef/\H1=H') (fun _ _=>False):=fun a w hs' K Kp hK _=>by
 have hb:=hs'.get _ hu.has.mem;have hcells:v.cells=#[v]:=by cases v<;>first|rfl|simp [Value.oneCell']at h1
 have hst:=JY (P:=P) hb hi hz h1;have:(execOp (ev a env) ⟨d,.store t x y,ty,pos,af,g⟩).run P w= .ok .skip (w.setCell ⟨b,i,none⟩ v):=by
  simp [Qc,hx a,hy a,Instr.storeAt,Instr.sureAddr,storeVar,hs,hcells,storeCells,Addr.add_zero',hst]
 rw [this];exact hK _ _ _ ⟨rfl,rfl⟩ (hs'.upd hu rfl rfl rfl (by rw [OU v hb,hc]) fun k hk=>Kh v hk)
theorem BK{t:TypeId}{x y:Operand}{b i n:Nat}{c cs:Array Value}{T:TypeId}{z:Nat×Nat}{c':Array Value}(hs:∀w:World,(Go.sizeOf t).run P w= .ok n w)(hx:∀a,ev a env x= .pointer (some ⟨b,i,none⟩))(hy:∀a,ev a env y= .agg cs)(h1:∀v∈cs.toList,v.oneCell'=true)
 (hu:Upd b (.cells c T z) (.cells c' T z) H H')(hc:Dp c i cs.toList=c')(hn:cs.size=n)(hi:i+n<=c.size)(hz:IA z c.size):
 OpW P u ⟨d,.store t x y,ty,pos,af,g⟩ env H (fun v' H1=>v'=undef/\H1=H') (fun _ _=>False):=fun a w hs' K Kp hK _=>by
 have hb:=hs'.get _ hu.has.mem;have hst:=CX (P:=P) b i T z cs.toList 0 c w hb hz (by simp;omega) h1
 simp only [AH6]at hst;have:(execOp (ev a env) ⟨d,.store t x y,ty,pos,af,g⟩).run P w= .ok .skip (w.setRow b (Dp c i cs.toList)):=by
  simp [Qc,hx a,hy a,Instr.storeAt,Instr.sureAddr,storeVar,hs,Value.cells,hn,hst,Dp]
 rw [this];exact hK _ _ _ ⟨rfl,rfl⟩ (hs'.upd hu rfl rfl rfl (by rw [setRow_heap w b c _ T z hb,hc]) fun k hk=>setRow_other w b k _ hk)
theorem EB{t:TypeId}{zv:Value}(hz:∀w:World,(zeroValue t).run P w= .ok zv w){cs:Array Value}(hc:zv.cells=cs):
 OpW P u ⟨d,.alloc t,ty,pos,af,g⟩ env H (fun v' H1=>∃b,v'=I5 b/\H1=[(b,.cells cs t (0,0))]::H) (fun _ _=>False):=fun a w hs K Kp hK _=>by
 have:(execOp (ev a env) ⟨d,.alloc t,ty,pos,af,g⟩).run P w= .ok (.value (.pointer (some ⟨w.heap.size,0,none⟩))) {w with heap:=w.heap.push (.cells cs t)}:=by
  simp [rP,Instr.alloc,hz,newVar,newRow,hc]
 rw [this];exact hK _ _ _ ⟨_,V,V⟩ (hs.alloc _)
theorem EX{t:TypeId}{x:Operand}{v:Value}(hx:∀a,ev a env x=v){cs:Array Value}(hc:v.cells=cs):
 OpW P u ⟨d,.box t x,ty,pos,af,g⟩ env H (fun v' H1=>∃b,v'=I5 b/\H1=[(b,.cells cs t (0,0))]::H) (fun _ _=>False):=fun a w hs K Kp hK _=>by
 have:(execOp (ev a env) ⟨d,.box t x,ty,pos,af,g⟩).run P w= .ok (.value (.pointer (some ⟨w.heap.size,0,none⟩))) {w with heap:=w.heap.push (.cells cs t)}:=by
  simp [xB,Instr.box,hx a,newVar,newRow,hc]
 rw [this];exact hK _ _ _ ⟨_,V,V⟩ (hs.alloc _)
theorem I8(c:Array Value)(n:Nat)(h:c.size=n):c.extract 0 (0+n)=c:=by subst h;simp
theorem nM(c:Array Value):Dp c 0 c.toList=c:=by
 unfold Dp;rw [AF1 Ap0];simp
theorem Xc(c:Array Value)(cs:List Value)(h:cs.length=c.toList.length):Dp c 0 cs=cs.toArray:=by
 unfold Dp;rw [AF1 Ao7];simp
theorem rH(cs:List Value):∀(l:List Value) (k off:Nat) (c:Array Value),c.toList=cs->off+k+l.length<=cs.length->
 ((l.zipIdx k).foldl (fun(a:Array Value) (p:Value×Nat)=>a.setIfInBounds (off+p.2) p.1) c).toList=cs.take (off+k)++l++cs.drop (off+k+l.length):=by
 intro l;induction l generalizing cs with
 |nil=>intro k off c hc hl;simp [hc]
 |cons v l ih=>
  intro k off c hc hl;simp only [List.zipIdx_cons,AI6];have hl':off+k+(l.length+1)<=cs.length:=by simpa using hl
  rw [ih (cs.set (off+k) v) (k+1) off (c.setIfInBounds (off+k) v) (by rw [AJ2,hc]) Ap8];have:=list_seg_step cs (off+k) v l Ao7
  simpa [AQ1]using this
theorem YS(s:Nat):∀(vs:List Value) (k:Nat) (c:Array Value),(∀v∈vs,v.cells.size=s)->c.size=(k+vs.length)*s->
 Instr.fill (fun i=>some (i*s,s)) c (FD k vs)=some (c.toList.take (k*s)++vs.flatMap fun v=>v.cells.toList).toArray
 |[],k,c,_,hc=>by
  simp only [FD,Instr.fill,List.flatMap_nil,zV];rw [AB6 (by simp at hc⊢;omega)]
 |v::vs,k,c,hv,hc=>by
  have h1:=hv v (zX ..);have hle:k*s+s<=c.size:=by rw [hc];simp only [ze];rw [show(k+(vs.length+1))*s=k*s+s+vs.length*s by rw [AH9,AH9];omega];omega
  simp only [FD,Instr.fill];rw [Am6 (by simp [h1];omega)];have hz:=rH c.toList v.cells.toList 0 (k*s) c rfl (by simp [h1];omega)
  have hfold:(v.cells.zipIdx.foldl (fun cs (x:Value×Nat)=>cs.setIfInBounds (k*s+x.2) x.1) c)=(c.toList.take (k*s)++v.cells.toList++c.toList.drop (k*s+s)).toArray:=by
   apply Array.ext';rw [<-AR8,Array.toList_zipIdx];simpa [h1]using hz
  have e:(v.cells.zipIdx.foldl (fun cs x=>match x with|(c,j)=>cs.setIfInBounds (k*s+j) c) c)=(c.toList.take (k*s)++v.cells.toList++c.toList.drop (k*s+s)).toArray:=hfold;rw [e,YS s vs (k+1) _ (fun x hx=>hv x (zW _ hx)) (by
   simp only [AA6,zG,zN,zO,AE7,h1];simp only [ze]at hc;rw [show k+1+vs.length=k+(vs.length+1) by omega,<-hc];omega)]
  congr 2;simp only [AB2];rw [<-zM];congr 1;rw [AH9,Nat.one_mul];rw [AE3 (by simp [h1];omega)];rw [AB6 (by simp [h1];omega)]
theorem Af{t e n s:Nat}{ps:Array (Nat×Operand)}{vs:List Value}{z:Value}{cs:List Value}(hu:P.underlying t=some (.slice e))(hs:∀w:World,(Go.sizeOf e).run P w= .ok s w)(hz:∀w:World,(zeroValue e).run P w= .ok z w)
 (hv:∀a,ps.toList.map (fun p=>(p.1,ev a env p.2))=FD 0 vs)(hb:Nat.ble (n*s) 16777216=true)(hn:Nat.blt 0 (n*s)=true)(hl:vs.length=n)(ha:(vs.all fun v=>Nat.beq v.cells.size s)=true)(hf:(vs.flatMap fun v=>v.cells.toList)=cs):
 OpW P u ⟨d,.buildSlice t n ps,ty,pos,af,g⟩ env H (fun v' H1=>∃b,v'=I6 b n n/\H1=[(b,.cells cs.toArray e (0,0))]::H) (fun _ _=>False):=fun a w hsat K Kp hK _=>by
 have hvs:(ps.map fun(i,x)=>(i,ev a env x)).toList=FD 0 vs:=by rw [<-hv a];simp
 have h1:¬(16777216<n*s):=by have:=AI4 hb;omega
 have h2:¬(n*s=0):=by have:0<n*s:=by simpa using hn
                      omega
 have hfill:Instr.fill (fun i=>some (i*s,s)) ((Array.range (n*s)).map (z.cells[·%z.cells.size]!)) (FD 0 vs)=some cs.toArray:=by
  rw [YS s vs 0 _ (fun v hv=>AP7 (AE0.1 ha v hv)) (by simp [hl])];simp [hf]
 have hbs:(Instr.buildSlice t n (ps.map fun(i,x)=>(i,ev a env x))).run P w= .ok (.slice (some ⟨w.heap.size,0,none⟩) n n) {w with heap:=w.heap.push (.cells cs.toArray e)}:=by
  unfold Instr.buildSlice;simp only [Sem.run_bind,run_underlying hu,Result.andThen_ok,hs,hvs,Nat.reducePow,gt_iff_lt,h1,h2,An2,pure_bind,hz,Sem.run_pure,hfill];simp [newRow]
 have:(execOp (ev a env) ⟨d,.buildSlice t n ps,ty,pos,af,g⟩).run P w= .ok (.value (.slice (some ⟨w.heap.size,0,none⟩) n n)) {w with heap:=w.heap.push (.cells cs.toArray e)}:=by
  rw [Nc,Sem.run_bind,hbs];rfl
 rw [this];exact hK _ _ _ ⟨_,V,V⟩ (hsat.alloc _)
theorem BL{t:TypeId}{ps:Array (Nat×Operand)}{vs:List (Nat×Value)}{cs:Array Value}(hv:∀a,ps.toList.map (fun p=>(p.1,ev a env p.2))=vs)(hb:∀w:World,(Instr.build t vs.toArray).run P w= .ok (.agg cs) w):
 OpP P ⟨d,.build t ps,ty,pos,af,g⟩ env [] (.agg cs):=fun a w _=>by
 have hvs:(ps.map fun(i,x)=>(i,ev a env x))=vs.toArray:=by rw [<-hv a];exact Iy _ ps
 rw [rO,Sem.run_bind,hvs,hb];rfl
theorem AY{t:TypeId}{fs:Array Field}{z cs:Array Value}{pl:Array (Nat×Nat)}{vs:List (Nat×Value)}(hz:∀w:World,(zeroValue t).run P w= .ok (.agg z) w)(hu:P.underlying t=some (.struct fs))
 (hp:∀w:World,(fs.mapM (m:=Sem) fun f=>do pure (f.offset,<-Go.sizeOf f.type)).run P w= .ok pl w)(hf:Instr.fill (pl[·]?) z vs=some cs)(w:World):(Instr.build t vs.toArray).run P w= .ok (.agg cs) w:=by
 unfold Instr.build;simp only [Sem.run_bind,hz,Result.andThen_ok,run_underlying hu,Value.cells,hp,hf];rfl
theorem Dn{t e n s:Nat}{z cs:Array Value}{vs:List (Nat×Value)}(hz:∀w:World,(zeroValue t).run P w= .ok (.agg z) w)(hu:P.underlying t=some (.array n e))
 (hs:∀w:World,(Go.sizeOf e).run P w= .ok s w)(hf:Instr.fill (fun i=>some (i*s,s)) z vs=some cs)(w:World):(Instr.build t vs.toArray).run P w= .ok (.agg cs) w:=by
 unfold Instr.build;simp only [Sem.run_bind,hz,Result.andThen_ok,run_underlying hu,Value.cells,hs,hf];rfl
theorem Bb{fn:Fn}{ps qs:Array Operand}{vs us:List Value}(hp:∀a,ps.toList.map (ev a env)=vs)(hq:∀a,qs.toList.map (ev a env)=us):OpP P ⟨d,.makeFunc fn ps qs,ty,pos,af,g⟩ env [] (.func fn vs.toArray us.toArray):=fun a w _=>by
 have h1:ps.map (ev a env)=vs.toArray:=by rw [<-hp a];exact Iy _ ps
 have h2:qs.map (ev a env)=us.toArray:=by rw [<-hq a];exact Iy _ qs
 simp [ZF,Instr.makeFunc,h1,h2]
theorem PM(z:Value)(n:Nat):((Array.range n).map ((#[z]:Array Value)[·%(#[z]:Array Value).size]!))=(List.replicate n z).toArray:=by
 apply AT9
 · simp
 · intro i h1 h2
   simp [Nat.mod_one]
theorem GA{t e l c by_:Nat}{x y:Operand}{z:Value}{i:TypeInfo}{k k':IntKind}(hu:P.underlying t=some (.slice e))(hi:P.info? e=some i)(hs:i.size=1)(hby:i.bytes=by_)(hzi:i.zero=some z)(h1:z.oneCell'=true)
 (hx:∀a,ev a env x= .int k (l:Int))(hy:∀a,ev a env y= .int k' (c:Int))(hlc:l<=c)(hc:c<=9223372036854775807)(hb:by_*c<=281474976710656):
 OpW P u ⟨d,.makeSlice t x y,ty,pos,af,g⟩ env H (fun v' H1=>∃b,v'=I6 b l c/\H1=[(b,.cells (List.replicate c z).toArray e (0,0))]::H) (fun _ _=>False):=fun a w hsat K Kp hK _=>by
 have hcells:z.cells=#[z]:=by cases z<;>first|rfl|simp [Value.oneCell']at h1
 have w1:IntKind.i64.wrap (l:Int)=(l:Int):=Du _ (by omega);have w2:IntKind.i64.wrap (c:Int)=(c:Int):=Du _ hc
 have hbc:¬((281474976710656:Int)<(by_:Int)*(c:Int)):=by
  rw [<-AR0];omega
 have h3:¬((c:Int)<0):=by omega
 have h4:¬((l:Int)<0):=by omega
 have h5:¬((c:Int)<(l:Int)):=by omega
 have hzero:(if c=0 then(pure #[]:Sem (Array Value))else do pure (<-zeroValue e).cells).run P w= .ok (if c=0 then#[]else#[z]) w:=by
  by_cases h0:c=0
  · simp [h0]
  · simp [h0,zeroValue,typeInfo,hi,hzi,hcells]
 have hms:(Instr.makeSlice t (ev a env x) (ev a env y)).run P w= .ok (.slice (some ⟨w.heap.size,0,none⟩) l c) {w with heap:=w.heap.push (.cells (List.replicate c z).toArray e)}:=by
  rw [hx a,hy a];unfold Instr.makeSlice;simp only [Sem.run_bind,run_underlying hu,Result.andThen_ok,asInt,asIntOf,Sem.run_pure,typeInfo,run_program,hi,hby,w1,w2];simp only [h3,h4,h5,hbc,gt_iff_lt,Nat.reducePow,An5,AO1,AD4,An2,Int.reducePow,Int.cast_ofNat_Int];simp only [Sem.run_bind,run_askRoom,Result.andThen_ok,Go.sizeOf,typeInfo,run_program,hi,Sem.run_pure,hs,AH7,AK7,hzero];by_cases h0:c=0
  · subst h0;simp [newRow,Array.range_zero']
  · have hzv:(zeroValue e).run P w= .ok z w:=by simp [zeroValue,typeInfo,hi,hzi]
    have hrep:(Array.range c).map (fun x=>(#[z]:Array Value)[x%(#[z]:Array Value).size]!)=(List.replicate c z).toArray:=PM z c;simp only [h0,An2,Sem.run_bind,hzv,Result.andThen_ok,hcells,Sem.run_pure,newRow,run_newObj,hrep]
 have:(execOp (ev a env) ⟨d,.makeSlice t x y,ty,pos,af,g⟩).run P w= .ok (.value (.slice (some ⟨w.heap.size,0,none⟩) l c)) {w with heap:=w.heap.push (.cells (List.replicate c z).toArray e)}:=by
  rw [Pp,Sem.run_bind,hms];rfl
 rw [this];exact hK _ _ _ ⟨_,V,V⟩ (hsat.alloc _)
end
/- calls -/
def Ki(P:Program)(f:FuncId)(args:Array Value)(H:Hp)(Q:Value->Hp->Prop)(Pn:List PanicEntry->Hp->Prop):Prop:=
 ∀(u:World) (R:Hp) (w:World),Sat u (H++R) w->Calls P f args w fun e w'=>(∃v H',e= .returned v/\Q v H'/\Sat u (H'++R) w')\/(∃ch H',e= .panicked ch/\Pn ch H'/\Sat u (H'++R) w')
def BR(P:Program)(f:FuncId)(args:Array Value)(H:Hp)(Q:Value->Hp->Prop):Prop:=Ki P f args H Q (fun _ _=>False)
def BJ(P:Program)(f:FuncId)(args:Array Value)(H:Hp)(v:Value):Prop:=BR P f args H (fun v' H'=>v'=v/\H'=H)
theorem Ki.mono{P:Program}{f:FuncId}{args:Array Value}{H:Hp}{Q Q':Value->Hp->Prop}{Pn Pn':List PanicEntry->Hp->Prop}(h:Ki P f args H Q Pn)(hq:∀v H',Q v H'->Q' v H')(hp:∀ch H',Pn ch H'->Pn' ch H'):Ki P f args H Q' Pn':=fun u R w hs=>
 Calls.mono (h u R w hs) fun e w' he=>by
  rcases he with⟨v,H',h1,h2,h3⟩|⟨ch,H',h1,h2,h3⟩
  · exact .inl ⟨v,H',h1,hq _ _ h2,h3⟩
  · exact .inr ⟨ch,H',h1,hp _ _ h2,h3⟩
theorem BR.mono{P:Program}{f:FuncId}{args:Array Value}{H:Hp}{Q Q':Value->Hp->Prop}(h:BR P f args H Q)(hq:∀v H',Q v H'->Q' v H'):BR P f args H Q':=Ki.mono h hq (fun _ _ h=>h)
theorem R8{P:Program}{f:FuncId}{args:Array Value}{H:Hp}{Q:Value->Hp->Prop}{Rl:Value->Prop}(h:∀w:World,(∀p∈H.flatten,w.heap[p.1]?=some p.2)->Calls P f args w fun e w'=>∃v,e= .returned v/\Rl v/\Below w.heap.size w w')(hq:∀v,Rl v->Q v H):BR P f args H Q:=fun u R w hs=>
 Calls.mono (h w fun p hp=>hs.get p (by simp only [AA0,zJ];exact .inl hp)) fun e w' he=>by
  obtain ⟨v,h1,h2,h3⟩:=he;exact .inl ⟨v,H,h1,hq v h2,hs.below h3⟩
section
variable{P:Program}{u:World}{env:Env}{H R:Hp}{d:Option Nat}{ty:TypeId}{pos:String}{af:Array Edge}{g:Option (Nat×Bool)}
theorem dR{f:FuncId}{args:Array Value}{Hf:Hp}{Q:Value->Hp->Prop}{Pn:List PanicEntry->Hp->Prop}(hsp:Ki P f args Hf Q Pn)(hp:EY Hf H R){w:World}(hs:Sat u H w){K:Value->World->Prop}{Kp:List PanicEntry->World->Prop}
 (hK:∀v H' w',(∃H1,Q v H1/\H'=H1++R)->Sat u H' w'->K v w')(hKp:∀ch H' w',(∃H1,Pn ch H1/\H'=H1++R)->Sat u H' w'->Kp ch w'):Ww P K Kp (.ok (.enter f args) w):=
 Calls.mono (hsp u R w (hs.perm hp.perm)) fun e w' he=>by
  rcases he with⟨v,H',rfl,h2,h3⟩|⟨ch,H',rfl,h2,h3⟩
  · exact hK v _ w' ⟨H',h2,rfl⟩ h3
  · exact hKp ch _ w' ⟨H',h2,rfl⟩ h3
theorem ZL{fx:Operand}{aq:Array Operand}{ats:Array TypeId}{f:FuncId}{first caps args:Array Value}{vs:List Value}{Hf:Hp}{Q:Value->Hp->Prop}{Pn:List PanicEntry->Hp->Prop}
 (hf:∀a,ev a env fx= .func (.func f) first caps)(hc:∀(args:Array Value) (w:World),(callFunc f args).run P w= .ok (.enter f args) w)(ha:∀a,aq.toList.map (ev a env)=vs)(hA:(first.toList++vs++caps.toList).toArray=args)
 (hsp:Ki P f args Hf Q Pn)(hp:EY Hf H R):
 OpW P u ⟨d,.call ⟨.value fx,aq,ats⟩,ty,pos,af,g⟩ env H (fun v H'=>∃H1,Q v H1/\H'=H1++R) (fun ch H'=>∃H1,Pn ch H1/\H'=H1++R):=fun a w hs K Kp hK hKp=>by
 have h1:aq.map (ev a env)=vs.toArray:=by rw [<-ha a];exact Iy _ aq
 have:(execOp (ev a env) ⟨d,.call ⟨.value fx,aq,ats⟩,ty,pos,af,g⟩).run P w= .ok (.enter f args) w:=by
  simp [Dj,resolve,hf a,Deferred.ofValue,invoke,h1,hc,<-hA]
 rw [this];exact dR hsp hp hs hK hKp
end
section
variable{P:Program}{ops:Array Oper}{l:List Oper}{cx:Cx}{Qe:Exit->Act->World->Prop}{env:Env}{H R:Hp}{d:Option Nat}{ty:TypeId}{pos:String}{af:Array Edge}{g:Option (Nat×Bool)}
theorem tC{op:Op}{Ps:Value->Hp->Prop}(h:OpW P cx.u ⟨d,op,ty,pos,af,g⟩ env H Ps (fun _ _=>False))(hg:∀a,wantedE ops a env g=true)(hn:Da op=true)(hd:fits cx.N d=true)
 (k:∀v H',Ps v H'->Ops P ops l cx Qe (putE d v env) H'):Ops P ops (⟨d,op,ty,pos,af,g⟩::l) cx Qe env H:=
 JO hg (Qk hd) hn h k (fun _ _ h=>h.elim)
theorem VL{u:World}{fx:Operand}{aq:Array Operand}{ats:Array TypeId}{f:FuncId}{first caps args:Array Value}{vs:List Value}{Hf:Hp}{v:Value}
 (hf:∀a,ev a env fx= .func (.func f) first caps)(hc:∀(args:Array Value) (w:World),(callFunc f args).run P w= .ok (.enter f args) w)(ha:∀a,aq.toList.map (ev a env)=vs)(hA:(first.toList++vs++caps.toList).toArray=args)
 (hsp:BJ P f args Hf v)(hp:EY Hf H R):
 OpW P u ⟨d,.call ⟨.value fx,aq,ats⟩,ty,pos,af,g⟩ env H (fun v' H'=>v'=v/\H'=H) (fun _ _=>False):=fun a w hs K Kp hK hKp=>
 ZL hf hc ha hA hsp hp a w hs K Kp (by rintro v' _ w' ⟨H1,⟨rfl,rfl⟩,rfl⟩ h;exact hK _ _ w' ⟨rfl,rfl⟩ (h.perm hp.perm.symm)) (by rintro _ _ _ ⟨_,h,_⟩;exact h.elim)
end
theorem Bp{R:Hp}{A:List PanicEntry->Hp->Prop}:∀ch H',(∃H1,(fun(_:List PanicEntry) (_:Hp)=>False) ch H1/\H'=H1++R)->A ch H':=by rintro _ _ ⟨_,h,_⟩;exact h.elim
def Fw(u:World)(R:Hp)(Q:Value->Hp->Prop)(Pn:List PanicEntry->Hp->Prop)(e:Ending)(w':World):Prop:=
 (∃v H',e= .returned v/\Q v H'/\Sat u (H'++R) w')\/(∃ch H',e= .panicked ch/\Pn ch H'/\Sat u (H'++R) w')
theorem F4:∀(l:List Value) (i:Nat) (p:Nat×Value),p∈FD i l->i<=p.1/\l[p.1 -i]?=some p.2
 |[],_,_,h=>by cases h
 |v::l,i,p,h=>by
  simp only [FD,za]at h;rcases h with rfl|h
  · simp
  · obtain ⟨h1,h2⟩:=F4 l (i+1) p h
    refine ⟨by omega,?_⟩;rw [show p.1 -i=(p.1 -(i+1))+1 by omega,AH0];exact h2
theorem Jk{a:Act}:∀(sl:Env),(∀p∈sl,a.tmps[p.1]?=some p.2)->Bz sl a=a
 |[],_=>rfl
 |(d,v)::sl,h=>by
  simp only [Bz];rw [Jk sl fun p hp=>h p (zW _ hp)];have h1:=h (d,v) (zX ..)
  refine Ib (by rw [Dl]) (by rw [JL]) fun t ht=>?_;rw [Dl]at ht;rw [IX _ _ _ _ ht];split
  · rename_i e;cases e;exact h1.symm
  · rfl
theorem K9{P:Program}{f:FuncId}{fn:Func}{c:Code}{args:Array Value}{N:Nat}{H:Hp}{Q:Value->Hp->Prop}{Pn:List PanicEntry->Hp->Prop}(hf:P.funcs[f]?=some fn)(hb:fn.body=some c)(hN:fn.ntmps=N)(hs:Nat.ble args.size N=true)
 (h:∀u R,At P ⟨N,[],u,none⟩ c (bodyPost P fn (Fw u R Q Pn)) (FD 0 args.toList) (H++R)):Ki P f args H Q Pn:=fun u R w hsat=>by
 have hle:args.size<=N:=AI4 hs;refine calls_of_wp hf hb ?_;refine (wpIn_wide (n:=0)).1 ?_;have hput:Bz (FD 0 args.toList) {tmps:=args++Array.replicate (fn.ntmps -args.size) undef,defers:=[]}={tmps:=args++Array.replicate (fn.ntmps -args.size) undef,defers:=[]}:=by
  refine Jk _ fun p hp=>?_;obtain ⟨_,h2⟩:=F4 _ _ _ hp;simp only [AJ3,AA3]at h2;have hlt:p.1<args.size:=by
   rcases AB1 p.1 args.size with h|h
   · exact h
   · simp [AA9 h]at h2
  rw [AI1 hlt];exact h2
 rw [<-hput];refine h u R _ w ⟨by simp [hN];omega,V,fun p hp=>?_,hsat⟩;obtain ⟨_,h2⟩:=F4 _ _ _ hp;simp only [AJ3,AA3]at h2;rcases AB1 p.1 args.size with h|h
 · exact AO8 h hle
 · simp [AA9 h]at h2
section
variable{P:Program}{N:Nat}{u:World}{r:Option Nat}{fn:Func}{R H H':Hp}{Q:Value->Hp->Prop}{Pn:List PanicEntry->Hp->Prop}{env:Env}{e:Exit}
theorem Px{t:Nat}(hr:fn.results=#[.tmp t])(w:World)(tmps:Array Value):(results fn tmps).run P w= .ok (tmps.getD t undef) w:=by simp [results,hr]
theorem O8(hr:fn.results=#[])(w:World)(tmps:Array Value):(results fn tmps).run P w= .ok (.tuple #[]) w:=by simp [results,hr]
theorem Pw{t s:Nat}(hr:fn.results=#[.tmp t,.tmp s])(w:World)(tmps:Array Value):(results fn tmps).run P w= .ok (.tuple #[tmps.getD t undef,tmps.getD s undef]) w:=by simp [results,hr]
theorem TV{t s q:Nat}(hr:fn.results=#[.tmp t,.tmp s,.tmp q])(w:World)(tmps:Array Value):(results fn tmps).run P w= .ok (.tuple #[tmps.getD t undef,tmps.getD s undef,tmps.getD q undef]) w:=by simp [results,hr]
def FE:Exit->Bool
 | .normal| .ret=>true
 |_=>false
theorem LU{v:Value}(he:FE e=true)(hr:∀a w,St ⟨N,[],u,r⟩ env H a w->(results fn (Bz env a).tmps).run P w= .ok v w)(hq:Q v H')(hp:Sub (H'++R) H:=by repeat(first|exact Sub.refl _|exact Sub.nil _|(apply Sub.cons;(focus (repeat(first|exact One.here _ _|apply One.there))))|refine Sub.drop _ ?_)):Nx ⟨N,[],u,r⟩ (bodyPost P fn (Fw u R Q Pn) e) env H:=fun a w hs=>by
 have h1:(Bz env a).defers=[]:=by rw [FO];exact hs.defers
 have h2:=hr a w hs;have h3:Fw u R Q Pn (.returned v) w:= .inl ⟨v,H',rfl,hq,hs.sat.sub hp.amid⟩
 cases e<;>first|exact ⟨h1,v,h2,h3⟩|simp [FE]at he
theorem AL{t:Nat}{v:Value}(he:FE e=true)(hr:fn.results=#[.tmp t])(hv:∀a,Fb a env t=v)(hq:Q v H')(hp:Sub (H'++R) H:=by repeat(first|exact Sub.refl _|exact Sub.nil _|(apply Sub.cons;(focus (repeat(first|exact One.here _ _|apply One.there))))|refine Sub.drop _ ?_)):Nx ⟨N,[],u,r⟩ (bodyPost P fn (Fw u R Q Pn) e) env H:=
 LU he (fun a w hs=>by rw [Px hr,CJ a env (by rw [hs.size];exact hs.fit),hv a]) hq hp
theorem Cj(he:FE e=true)(hr:fn.results=#[])(hq:Q (.tuple #[]) H')(hp:Sub (H'++R) H:=by repeat(first|exact Sub.refl _|exact Sub.nil _|(apply Sub.cons;(focus (repeat(first|exact One.here _ _|apply One.there))))|refine Sub.drop _ ?_)):Nx ⟨N,[],u,r⟩ (bodyPost P fn (Fw u R Q Pn) e) env H:=
 LU he (fun a w hs=>O8 hr w _) hq hp
theorem Ci{t s:Nat}{v x:Value}(he:FE e=true)(hr:fn.results=#[.tmp t,.tmp s])(hv:∀a,Fb a env t=v)(hx:∀a,Fb a env s=x)(hq:Q (.tuple #[v,x]) H')(hp:Sub (H'++R) H:=by repeat(first|exact Sub.refl _|exact Sub.nil _|(apply Sub.cons;(focus (repeat(first|exact One.here _ _|apply One.there))))|refine Sub.drop _ ?_)):Nx ⟨N,[],u,r⟩ (bodyPost P fn (Fw u R Q Pn) e) env H:=
 LU he (fun a w hs=>by rw [Pw hr,CJ a env (by rw [hs.size];exact hs.fit),CJ a env (by rw [hs.size];exact hs.fit),hv a,hx a]) hq hp
theorem eZ{t s q:Nat}{v x y:Value}(he:FE e=true)(hr:fn.results=#[.tmp t,.tmp s,.tmp q])(hv:∀a,Fb a env t=v)(hx:∀a,Fb a env s=x)(hy:∀a,Fb a env q=y)(hq:Q (.tuple #[v,x,y]) H')(hp:Sub (H'++R) H:=by repeat(first|exact Sub.refl _|exact Sub.nil _|(apply Sub.cons;(focus (repeat(first|exact One.here _ _|apply One.there))))|refine Sub.drop _ ?_)):Nx ⟨N,[],u,r⟩ (bodyPost P fn (Fw u R Q Pn) e) env H:=
 LU he (fun a w hs=>by rw [TV hr,CJ a env (by rw [hs.size];exact hs.fit),CJ a env (by rw [hs.size];exact hs.fit),CJ a env (by rw [hs.size];exact hs.fit),hv a,hx a,hy a]) hq hp
theorem Vb{t ty b i:Nat}{v:Value}(hr:fn.results=#[.cell t ty]){w:World}{tmps:Array Value}(hx:tmps.getD t undef= .pointer (some ⟨b,i,none⟩))(hl:(loadVar ty ⟨b,i,none⟩).run P w= .ok v w):(results fn tmps).run P w= .ok v w:=by
 rw [AA8]at hx;simp [results,hr,hx,asAddr,hl]
theorem TW{t ty b i s sy c j:Nat}{v x:Value}(hr:fn.results=#[.cell t ty,.cell s sy]){w:World}{tmps:Array Value}(hx:tmps.getD t undef= .pointer (some ⟨b,i,none⟩))(hl:(loadVar ty ⟨b,i,none⟩).run P w= .ok v w)
 (hy:tmps.getD s undef= .pointer (some ⟨c,j,none⟩))(hm:(loadVar sy ⟨c,j,none⟩).run P w= .ok x w):(results fn tmps).run P w= .ok (.tuple #[v,x]) w:=by
 rw [AA8]at hx hy;simp [results,hr,hx,hy,asAddr,hl,hm]
theorem Ap{t b i n:Nat}{c:Array Value}{T:TypeId}{z:Nat×Nat}{cs:Array Value}(ha:∀w:World,(isAgg t).run P w= .ok true w)(hs:∀w:World,(Go.sizeOf t).run P w= .ok n w)(hn:i+n<=c.size)(hv:c.extract i (i+n)=cs)(w:World)(hb:w.heap[b]?=some (.cells c T z)):(loadVar t ⟨b,i,none⟩).run P w= .ok (.agg cs) w:=by
 have:=AA (P:=P) (env:=[]) (d:=none) (ty:=0) (pos:= "") (af:=#[]) (g:=none) (x:= .const (.pointer (some ⟨b,i,none⟩))) (T:=T) (z:=z) ha hs (fun _=>rfl) hn hv ⟨#[],[]⟩ w (by simpa using hb);rw [ZG]at this;simp only [Sem.run_bind,ev,Instr.loadAt,Instr.sureAddr,Sem.run_pure,Result.andThen_ok]at this;cases hr:(loadVar t ⟨b,i,none⟩).run P w with
 |ok v w'=>rw [hr]at this;simp only [Result.andThen_ok]at this;cases this;rfl
 |halt h w'=>rw [hr]at this;simp only [Result.andThen_halt]at this;cases this
theorem Xn{t b i:Nat}{c:Array Value}{T:TypeId}{z:Nat×Nat}{v:Value}(ha:∀w:World,(isAgg t).run P w= .ok false w)(hv:c[i]?=some v)(w:World)(hb:w.heap[b]?=some (.cells c T z)):(loadVar t ⟨b,i,none⟩).run P w= .ok v w:=by
 simp [loadVar,ha,Cb hb hv]
theorem Cy{t ty b i:Nat}{v:Value}{o:Obj}(he:FE e=true)(hr:fn.results=#[.cell t ty])(hv:∀a,Fb a env t= .pointer (some ⟨b,i,none⟩))(hb:Has b o H)(hl:∀w:World,w.heap[b]?=some o->(loadVar ty ⟨b,i,none⟩).run P w= .ok v w)(hq:Q v H')(hp:Sub (H'++R) H:=by repeat(first|exact Sub.refl _|exact Sub.nil _|(apply Sub.cons;(focus (repeat(first|exact One.here _ _|apply One.there))))|refine Sub.drop _ ?_)):Nx ⟨N,[],u,r⟩ (bodyPost P fn (Fw u R Q Pn) e) env H:=
 LU he (fun a w hs=>Vb hr (by rw [CJ a env (by rw [hs.size];exact hs.fit),hv a]) (hl w (hs.sat.get _ hb.mem))) hq hp
end
end Gw
