/- Walking by chunks: writes, new memory, calls, a function's entry and end. No function of the program is named. -/
import Derived.Test.YtlkdhannldcfbaaGreatDoorEx2
set_option linter.unusedVariables false
set_option linter.unusedSimpArgs false
namespace Gw
open Go Go.RowKit
def Fz:Nat->List A4->Env
 |_,[]=>[]
 |i,v::l=>(i,v)::Fz (i+1) l
def MH(z:Nat×Nat)(n:Nat):Prop:=∀i,i<n->¬(z.1<=i/\i<z.2)
theorem BU(n:Nat):MH (0,0) n:=fun i _ h=>by simp only at h;omega
theorem ZQ(n m:Nat)(h:n<=m)(k:Nat):MH (m,k) n:=fun i hi y=>by simp only at y;omega
theorem XL{w:A6}{b i:Nat}{c:AN}{T:AM}{z:Nat×Nat}(v:A4)(h:w.heap[b]?=some (.cells c T z)):
 (w.setCell ⟨b,i,none⟩ v).heap[b]?=some (.cells (c.setIfInBounds i v) T z):=by
 simp [World.setCell,RK,h]
theorem Rb{w:A6}{k:Nat}{a:Addr}(v:A4)(hn:k≠a.block):(w.setCell a v).heap[k]?=w.heap[k]?:=by
 simp [World.setCell,RK,Ne.symm hn]
theorem Nf{P:Program}{w:A6}{b i:Nat}{c:AN}{T:AM}{z:Nat×Nat}{v:A4}(h:w.heap[b]?=some (.cells c T z))(hi:i<c.size)(hz:MH z c.size)(m:v.oneCell'=true):
 (store ⟨b,i,none⟩ v).run P w= .ok () (w.setCell ⟨b,i,none⟩ v):=by
 have hc:w.cell? ⟨b,i,none⟩=some c[i]:=D8 h (HO hi);have y:w.frozen? ⟨b,i,none⟩=false:=by
  simp only [World.frozen?,h];have:=hz i hi
  obtain ⟨lo,E⟩:=z;simp only at this⊢;simpa using this
 rw [run_store P w _ v _ m,hc];simp [y]
theorem Dn{P:Program}(g o:Nat)(t:AM)(z:Nat×Nat):∀(vs:List A4) (i:Nat) (cur:AN) (w:A6),w.heap[g]?=some (.cells cur t z)->MH z cur.size->o+i+vs.length<=cur.size->(∀v∈vs,v.oneCell'=true)->
 (storeCells ⟨g,o,none⟩ vs i).run P w= .ok () (w.setRow g (cur.toList.take (o+i)++vs++cur.toList.drop (o+i+vs.length)).toArray)
 |[],i,cur,w,hg,_,_,_=>by
  simp only [storeCells,H3,KK,OR,HW,Array.toArray_toList];rw [setRow_self w g cur t z hg];rfl
 |v::rest,i,cur,w,hg,hz,hl,h1=>by
  have hi:o+i<cur.size:=by simp at hl;omega
  have m:(store ((⟨g,o,none⟩:Addr).add i) v).run P w= .ok () (w.setRow g (cur.setIfInBounds (o+i) v)):=by
   rw [Cb,Nf hg hi hz (h1 v B3),setCell_eq_setRow w g (o+i) cur t z v hg]
  have y:=Dn (P:=P) g o t z rest (i+1) (cur.setIfInBounds (o+i) v) (w.setRow g (cur.setIfInBounds (o+i) v)) (setRow_heap w g cur _ t _ hg) (by simpa using hz) (by simp at hl⊢;omega) (fun x hx=>h1 x (by simp [hx]));simp only [storeCells,Sem.run_bind,m,Result.andThen_ok,y,setRow_setRow];congr 3;have e:=list_seg_step cur.toList (o+i) v rest (by simp at hl⊢;omega)
  simpa [i7,SU]using e
theorem LD{α β:Type}(f:α->β)(ps:Array α):ps.map f=(ps.toList.map f).toArray:=by
 apply Array.ext';simp only [Array.toList_map]
def FD(c:AN)(i:Nat)(vs:List A4):AN:=(c.toList.take i++vs++c.toList.drop (i+vs.length)).toArray
section
variable{P:Program}{u:A6}{env:Env}{H H' R:Hp}{d:Option Nat}{ty:AM}{pos:String}{af:Array Edge}{g:Option (Nat×Bool)}
theorem sZ{t:AM}{x y:Operand}{b i:Nat}{c c':AN}{T:AM}{z:Nat×Nat}{v:A4}(W:∀w:A6,(Go.sizeOf t).run P w= .ok 1 w)(hx:∀a,ev a env x= .pointer (some ⟨b,i,none⟩))(hy:∀a,ev a env y=v)(I:v.oneCell'=true)
 (M:Upd b (.cells c T z) (.cells c' T z) H H')(hc:c.setIfInBounds i v=c')(hi:i<c.size)(hz:MH z c.size):
 OpW P u ⟨d,.store t x y,ty,pos,af,g⟩ env H (fun X H1=>X=undef/\H1=H') (fun _ _=>False):=fun a w E K Z O _=>by
 have J:=E.get _ M.has.mem;have m:v.cells=#[v]:=by cases v<;>first|rfl|simp [Value.oneCell']at I
 have G:=Nf (P:=P) J hi hz I;have:(execOp (ev a env) ⟨d,.store t x y,ty,pos,af,g⟩).run P w= .ok .skip (w.setCell ⟨b,i,none⟩ v):=by
  simp [fZ,hx a,hy a,Instr.storeAt,Instr.sureAddr,storeVar,W,m,storeCells,Addr.add_zero',G]
 rw [this];exact O _ _ _ ⟨rfl,rfl⟩ (E.upd M rfl rfl rfl (by rw [XL v J,hc]) fun k U=>Rb v U)
theorem BN{t:AM}{x y:Operand}{b i n:Nat}{c cs:AN}{T:AM}{z:Nat×Nat}{c':AN}(U:∀w:A6,(Go.sizeOf t).run P w= .ok n w)(hx:∀a,ev a env x= .pointer (some ⟨b,i,none⟩))(hy:∀a,ev a env y= .agg cs)(J:∀v∈cs.toList,v.oneCell'=true)
 (I:Upd b (.cells c T z) (.cells c' T z) H H')(hc:FD c i cs.toList=c')(hn:cs.size=n)(hi:i+n<=c.size)(hz:MH z c.size):
 OpW P u ⟨d,.store t x y,ty,pos,af,g⟩ env H (fun W H1=>W=undef/\H1=H') (fun _ _=>False):=fun a w m K X M _=>by
 have G:=m.get _ I.has.mem;have E:=Dn (P:=P) b i T z cs.toList 0 c w G hz (by simp;omega) J
 simp only [OR]at E;have:(execOp (ev a env) ⟨d,.store t x y,ty,pos,af,g⟩).run P w= .ok .skip (w.setRow b (FD c i cs.toList)):=by
  simp [fZ,hx a,hy a,Instr.storeAt,Instr.sureAddr,storeVar,U,Value.cells,hn,E,FD]
 rw [this];exact M _ _ _ ⟨rfl,rfl⟩ (m.upd I rfl rfl rfl (by rw [setRow_heap w b c _ T z G,hc]) fun k O=>setRow_other w b k _ O)
theorem ND{t:AM}{m:A4}(hz:∀w:A6,(zeroValue t).run P w= .ok m w){cs:AN}(hc:m.cells=cs):
 OpW P u ⟨d,.alloc t,ty,pos,af,g⟩ env H (fun G H1=>∃b,G=I5 b/\H1=[(b,.cells cs t (0,0))]::H) (fun _ _=>False):=fun a w E K I y _=>by
 have:(execOp (ev a env) ⟨d,.alloc t,ty,pos,af,g⟩).run P w= .ok (.value (.pointer (some ⟨w.heap.size,0,none⟩))) {w with heap:=w.heap.push (.cells cs t)}:=by
  simp [sV,Instr.alloc,hz,newVar,newRow,hc]
 rw [this];exact y _ _ _ ⟨_,V,V⟩ (E.alloc _)
theorem Ik{t:AM}{x:Operand}{v:A4}(hx:∀a,ev a env x=v){cs:AN}(hc:v.cells=cs):
 OpW P u ⟨d,.box t x,ty,pos,af,g⟩ env H (fun E H1=>∃b,E=I5 b/\H1=[(b,.cells cs t (0,0))]::H) (fun _ _=>False):=fun a w y K G m _=>by
 have:(execOp (ev a env) ⟨d,.box t x,ty,pos,af,g⟩).run P w= .ok (.value (.pointer (some ⟨w.heap.size,0,none⟩))) {w with heap:=w.heap.push (.cells cs t)}:=by
  simp [xq,Instr.box,hx a,newVar,newRow,hc]
 rw [this];exact m _ _ _ ⟨_,V,V⟩ (y.alloc _)
theorem J9(c:AN)(n:Nat)(h:c.size=n):c.extract 0 (0+n)=c:=by subst h;simp
theorem oO(c:AN):FD c 0 c.toList=c:=by
 unfold FD;rw [P2 B3];simp
theorem Yq(c:AN)(cs:List A4)(h:cs.length=c.toList.length):FD c 0 cs=cs.toArray:=by
 unfold FD;rw [P2 A0];simp
theorem sP(cs:List A4):∀(l:List A4) (k off:Nat) (c:AN),c.toList=cs->off+k+l.length<=cs.length->
 ((l.zipIdx k).foldl (fun(a:AN) (p:A4×Nat)=>a.setIfInBounds (off+p.2) p.1) c).toList=cs.take (off+k)++l++cs.drop (off+k+l.length):=by
 intro l;induction l generalizing cs with
 |nil=>intro k off c hc m;simp [hc]
 |cons v l ih=>
  intro k off c hc m;simp only [List.zipIdx_cons,Tl];have y:off+k+(l.length+1)<=cs.length:=by simpa using m
  rw [ih (cs.set (off+k) v) (k+1) off (c.setIfInBounds (off+k) v) (by rw [i7,hc]) Lo];have:=list_seg_step cs (off+k) v l A0
  simpa [SU]using this
theorem ZW(s:Nat):∀(vs:List A4) (k:Nat) (c:AN),(∀v∈vs,v.cells.size=s)->c.size=(k+vs.length)*s->
 Instr.fill (fun i=>some (i*s,s)) c (Fz k vs)=some (c.toList.take (k*s)++vs.flatMap fun v=>v.cells.toList).toArray
 |[],k,c,_,hc=>by
  simp only [Fz,Instr.fill,fh,H3];rw [HK (by simp at hc⊢;omega)]
 |v::vs,k,c,hv,hc=>by
  have y:=hv v (K0 ..);have E:k*s+s<=c.size:=by rw [hc];simp only [D3];rw [show(k+(vs.length+1))*s=k*s+s+vs.length*s by rw [It,It];omega];omega
  simp only [Fz,Instr.fill];rw [As (by simp [y];omega)];have hz:=sP c.toList v.cells.toList 0 (k*s) c rfl (by simp [y];omega)
  have m:(v.cells.zipIdx.foldl (fun cs (x:A4×Nat)=>cs.setIfInBounds (k*s+x.2) x.1) c)=(c.toList.take (k*s)++v.cells.toList++c.toList.drop (k*s+s)).toArray:=by
   apply Array.ext';rw [<-Array.foldl_toList,Array.toList_zipIdx];simpa [y]using hz
  have e:(v.cells.zipIdx.foldl (fun cs x=>match x with|(c,j)=>cs.setIfInBounds (k*s+j) c) c)=(c.toList.take (k*s)++v.cells.toList++c.toList.drop (k*s+s)).toArray:=m;rw [e,ZW s vs (k+1) _ (fun x hx=>hv x (HQ _ hx)) (by
   simp only [HA,zq,zy,C0,RR,y];simp only [D3]at hc;rw [show k+1+vs.length=k+(vs.length+1) by omega,<-hc];omega)]
  congr 2;simp only [HF];rw [<-D2];congr 1;rw [It,cS];rw [W3 (by simp [y];omega)];rw [HK (by simp [y];omega)]
theorem Af{t e n s:Nat}{ps:Array (Nat×Operand)}{vs:List A4}{z:A4}{cs:List A4}(Z:P.underlying t=some (.slice e))(X:∀w:A6,(Go.sizeOf e).run P w= .ok s w)(hz:∀w:A6,(zeroValue e).run P w= .ok z w)
 (hv:∀a,ps.toList.map (fun p=>(p.1,ev a env p.2))=Fz 0 vs)(O:Nat.ble (n*s) 16777216=true)(hn:Nat.blt 0 (n*s)=true)(W:vs.length=n)(M:(vs.all fun v=>Nat.beq v.cells.size s)=true)(U:(vs.flatMap fun v=>v.cells.toList)=cs):
 OpW P u ⟨d,.buildSlice t n ps,ty,pos,af,g⟩ env H (fun v' H1=>∃b,v'=I6 b n n/\H1=[(b,.cells cs.toArray e (0,0))]::H) (fun _ _=>False):=fun a w y K Kp J _=>by
 have G:(ps.map fun(i,x)=>(i,ev a env x)).toList=Fz 0 vs:=by rw [<-hv a];simp
 have I:¬(16777216<n*s):=by have:=W7 O;omega
 have h2:¬(n*s=0):=by have:0<n*s:=by simpa using hn
                      omega
 have m:Instr.fill (fun i=>some (i*s,s)) ((Array.range (n*s)).map (z.cells[·%z.cells.size]!)) (Fz 0 vs)=some cs.toArray:=by
  rw [ZW s vs 0 _ (fun v hv=>ir (Mp.1 M v hv)) (by simp [W])];simp [U]
 have E:(Instr.buildSlice t n (ps.map fun(i,x)=>(i,ev a env x))).run P w= .ok (.slice (some ⟨w.heap.size,0,none⟩) n n) {w with heap:=w.heap.push (.cells cs.toArray e)}:=by
  unfold Instr.buildSlice;simp only [Sem.run_bind,run_underlying Z,Result.andThen_ok,X,G,Nat.reducePow,gt_iff_lt,I,h2,Hb,pure_bind,hz,Sem.run_pure,m];simp [newRow]
 have:(execOp (ev a env) ⟨d,.buildSlice t n ps,ty,pos,af,g⟩).run P w= .ok (.value (.slice (some ⟨w.heap.size,0,none⟩) n n)) {w with heap:=w.heap.push (.cells cs.toArray e)}:=by
  rw [OY,Sem.run_bind,E];rfl
 rw [this];exact J _ _ _ ⟨_,V,V⟩ (y.alloc _)
theorem BQ{t:AM}{ps:Array (Nat×Operand)}{vs:List (Nat×A4)}{cs:AN}(hv:∀a,ps.toList.map (fun p=>(p.1,ev a env p.2))=vs)(y:∀w:A6,(Instr.build t vs.toArray).run P w= .ok (.agg cs) w):
 OpP P ⟨d,.build t ps,ty,pos,af,g⟩ env [] (.agg cs):=fun a w _=>by
 have m:(ps.map fun(i,x)=>(i,ev a env x))=vs.toArray:=by rw [<-hv a];exact LD _ ps
 rw [sU,Sem.run_bind,m,y];rfl
theorem Aa{t:AM}{fs:Array Field}{z cs:AN}{pl:Array (Nat×Nat)}{vs:List (Nat×A4)}(hz:∀w:A6,(zeroValue t).run P w= .ok (.agg z) w)(G:P.underlying t=some (.struct fs))
 (E:∀w:A6,(fs.mapM (m:=Sem) fun f=>do pure (f.offset,<-Go.sizeOf f.type)).run P w= .ok pl w)(y:Instr.fill (pl[·]?) z vs=some cs)(w:A6):(Instr.build t vs.toArray).run P w= .ok (.agg cs) w:=by
 unfold Instr.build;simp only [Sem.run_bind,hz,Result.andThen_ok,run_underlying G,Value.cells,E,y];rfl
theorem Cv{t e n s:Nat}{z cs:AN}{vs:List (Nat×A4)}(hz:∀w:A6,(zeroValue t).run P w= .ok (.agg z) w)(E:P.underlying t=some (.array n e))
 (y:∀w:A6,(Go.sizeOf e).run P w= .ok s w)(m:Instr.fill (fun i=>some (i*s,s)) z vs=some cs)(w:A6):(Instr.build t vs.toArray).run P w= .ok (.agg cs) w:=by
 unfold Instr.build;simp only [Sem.run_bind,hz,Result.andThen_ok,run_underlying E,Value.cells,y,m];rfl
theorem Bt{fn:Fn}{ps m:Array Operand}{vs us:List A4}(E:∀a,ps.toList.map (ev a env)=vs)(G:∀a,m.toList.map (ev a env)=us):OpP P ⟨d,.makeFunc fn ps m,ty,pos,af,g⟩ env [] (.func fn vs.toArray us.toArray):=fun a w _=>by
 have y:ps.map (ev a env)=vs.toArray:=by rw [<-E a];exact LD _ ps
 have h2:m.map (ev a env)=us.toArray:=by rw [<-G a];exact LD _ m
 simp [aj,Instr.makeFunc,y,h2]
theorem QC(z:A4)(n:Nat):((Array.range n).map ((#[z]:AN)[·%(#[z]:AN).size]!))=(List.replicate n z).toArray:=by
 apply Array.ext;· simp
 · intro i m h2
   simp [Nat.mod_one]
theorem Gy{t e l c by_:Nat}{x y:Operand}{z:A4}{i:TypeInfo}{k k':IntKind}(hu:P.underlying t=some (.slice e))(hi:P.info? e=some i)(hs:i.size=1)(O:i.bytes=by_)(J:i.zero=some z)(X:z.oneCell'=true)
 (hx:∀a,ev a env x= .int k (l:Int))(hy:∀a,ev a env y= .int k' (c:Int))(ax:l<=c)(hc:c<=9223372036854775807)(hb:by_*c<=281474976710656):
 OpW P u ⟨d,.makeSlice t x y,ty,pos,af,g⟩ env H (fun v' H1=>∃b,v'=I6 b l c/\H1=[(b,.cells (List.replicate c z).toArray e (0,0))]::H) (fun _ _=>False):=fun a w I K Kp hK _=>by
 have m:z.cells=#[z]:=by cases z<;>first|rfl|simp [Value.oneCell']at X
 have w1:IntKind.i64.wrap (l:Int)=(l:Int):=FX _ (by omega);have w2:IntKind.i64.wrap (c:Int)=(c:Int):=FX _ hc
 have M:¬((281474976710656:Int)<(by_:Int)*(c:Int)):=by
  rw [<-fm];omega
 have Z:¬((c:Int)<0):=by omega
 have h4:¬((l:Int)<0):=by omega
 have h5:¬((c:Int)<(l:Int)):=by omega
 have E:(if c=0 then(pure #[]:Sem (AN))else do pure (<-zeroValue e).cells).run P w= .ok (if c=0 then#[]else#[z]) w:=by
  by_cases h0:c=0
  · simp [h0]
  · simp [h0,zeroValue,typeInfo,hi,J,m]
 have U:(Instr.makeSlice t (ev a env x) (ev a env y)).run P w= .ok (.slice (some ⟨w.heap.size,0,none⟩) l c) {w with heap:=w.heap.push (.cells (List.replicate c z).toArray e)}:=by
  rw [hx a,hy a];unfold Instr.makeSlice;simp only [Sem.run_bind,run_underlying hu,Result.andThen_ok,asInt,asIntOf,Sem.run_pure,typeInfo,run_program,hi,O,w1,w2];simp only [Z,h4,h5,M,gt_iff_lt,Nat.reducePow,X2,eR,Mn,Hb,Int.reducePow,Int.cast_ofNat_Int];simp only [Sem.run_bind,run_askRoom,Result.andThen_ok,Go.sizeOf,typeInfo,run_program,hi,Sem.run_pure,hs,M1,Iv,E];by_cases h0:c=0;· subst h0;simp [newRow,Array.range_zero']
  · have W:(zeroValue e).run P w= .ok z w:=by simp [zeroValue,typeInfo,hi,J]
    have G:(Array.range c).map (fun x=>(#[z]:AN)[x%(#[z]:AN).size]!)=(List.replicate c z).toArray:=QC z c;simp only [h0,Hb,Sem.run_bind,W,Result.andThen_ok,m,Sem.run_pure,newRow,run_newObj,G]
 have:(execOp (ev a env) ⟨d,.makeSlice t x y,ty,pos,af,g⟩).run P w= .ok (.value (.slice (some ⟨w.heap.size,0,none⟩) l c)) {w with heap:=w.heap.push (.cells (List.replicate c z).toArray e)}:=by
  rw [Xm,Sem.run_bind,U];rfl
 rw [this];exact hK _ _ _ ⟨_,V,V⟩ (I.alloc _)
end
def Jv(P:Program)(f:FuncId)(args:AN)(H:Hp)(Q:A4->Hp->Prop)(Pn:List PanicEntry->Hp->Prop):Prop:=
 ∀(u:A6) (R:Hp) (w:A6),Sat u (H++R) w->Calls P f args w fun e w'=>(∃v H',e= .returned v/\Q v H'/\Sat u (H'++R) w')\/(∃ch H',e= .panicked ch/\Pn ch H'/\Sat u (H'++R) w')
def Bz(P:Program)(f:FuncId)(args:AN)(H:Hp)(Q:A4->Hp->Prop):Prop:=Jv P f args H Q (fun _ _=>False)
def BC(P:Program)(f:FuncId)(args:AN)(H:Hp)(v:A4):Prop:=Bz P f args H (fun v' H'=>v'=v/\H'=H)
theorem Jv.mono{P:Program}{f:FuncId}{args:AN}{H:Hp}{Q G:A4->Hp->Prop}{Pn m:List PanicEntry->Hp->Prop}(h:Jv P f args H Q Pn)(K:∀v H',Q v H'->G v H')(J:∀ch H',Pn ch H'->m ch H'):Jv P f args H G m:=fun u R w M=>
 Calls.mono (h u R w M) fun e O I=>by
  rcases I with⟨v,H',y,h2,E⟩|⟨ch,H',y,h2,E⟩
  · exact .inl ⟨v,H',y,K _ _ h2,E⟩
  · exact .inr ⟨ch,H',y,J _ _ h2,E⟩
theorem Bz.mono{P:Program}{f:FuncId}{args:AN}{H:Hp}{Q m:A4->Hp->Prop}(h:Bz P f args H Q)(y:∀v H',Q v H'->m v H'):Bz P f args H m:=Jv.mono h y (fun _ _ h=>h)
theorem Ny{P:Program}{f:FuncId}{args:AN}{H:Hp}{Q:A4->Hp->Prop}{Rl:A4->Prop}(h:∀w:A6,(∀p∈H.flatten,w.heap[p.1]?=some p.2)->Calls P f args w fun e y=>∃v,e= .returned v/\Rl v/\Below w.heap.size w y)(K:∀v,Rl v->Q v H):Bz P f args H Q:=fun u R w m=>
 Calls.mono (h w fun p J=>m.get p (by simp only [HT,DM];exact .inl J)) fun e y I=>by
  obtain ⟨v,E,h2,G⟩:=I;exact .inl ⟨v,H,E,K v h2,m.below G⟩
section
variable{P:Program}{u:A6}{env:Env}{H R:Hp}{d:Option Nat}{ty:AM}{pos:String}{af:Array Edge}{g:Option (Nat×Bool)}
theorem fB{f:FuncId}{args:AN}{I:Hp}{Q:A4->Hp->Prop}{Pn:List PanicEntry->Hp->Prop}(G:Jv P f args I Q Pn)(U:FW I H R){w:A6}(W:Sat u H w){K:A4->A6->Prop}{J:List PanicEntry->A6->Prop}
 (M:∀v H' m,(∃H1,Q v H1/\H'=H1++R)->Sat u H' m->K v m)(E:∀ch H' m,(∃H1,Pn ch H1/\H'=H1++R)->Sat u H' m->J ch m):Ur P K J (.ok (.enter f args) w):=
 Calls.mono (G u R w (W.perm U.perm)) fun e m O=>by
  rcases O with⟨v,H',rfl,h2,y⟩|⟨ch,H',rfl,h2,y⟩
  · exact M v _ m ⟨H',h2,rfl⟩ y
  · exact E ch _ m ⟨H',h2,rfl⟩ y
theorem Jd{G:Operand}{y:Array Operand}{E:Array AM}{f:FuncId}{first m args:AN}{vs:List A4}{M:Hp}{Q:A4->Hp->Prop}{Pn:List PanicEntry->Hp->Prop}
 (Z:∀a,ev a env G= .func (.func f) first m)(hc:∀(args:AN) (w:A6),(callFunc f args).run P w= .ok (.enter f args) w)(X:∀a,y.toList.map (ev a env)=vs)(U:(first.toList++vs++m.toList).toArray=args)
 (J:Jv P f args M Q Pn)(hp:FW M H R):
 OpW P u ⟨d,.call ⟨.value G,y,E⟩,ty,pos,af,g⟩ env H (fun v H'=>∃H1,Q v H1/\H'=H1++R) (fun ch H'=>∃H1,Pn ch H1/\H'=H1++R):=fun a w hs K Kp W I=>by
 have O:y.map (ev a env)=vs.toArray:=by rw [<-X a];exact LD _ y
 have:(execOp (ev a env) ⟨d,.call ⟨.value G,y,E⟩,ty,pos,af,g⟩).run P w= .ok (.enter f args) w:=by
  simp [EW,resolve,Z a,Deferred.ofValue,invoke,O,hc,<-U]
 rw [this];exact fB J hp hs W I
end
section
variable{P:Program}{ops:Array Oper}{l:List Oper}{cx:Cx}{Qe:Exit->Act->A6->Prop}{env:Env}{H R:Hp}{d:Option Nat}{ty:AM}{pos:String}{af:Array Edge}{g:Option (Nat×Bool)}
theorem uQ{m:Op}{y:A4->Hp->Prop}(h:OpW P cx.u ⟨d,m,ty,pos,af,g⟩ env H y (fun _ _=>False))(G:∀a,wantedE ops a env g=true)(hn:ED m=true)(E:UT cx.N d=true)
 (k:∀v H',y v H'->Ops P ops l cx Qe (putE d v env) H'):Ops P ops (⟨d,m,ty,pos,af,g⟩::l) cx Qe env H:=
 Gn G (Ga E) hn h k (fun _ _ h=>h.elim)
theorem WU{u:A6}{J:Operand}{I:Array Operand}{y:Array AM}{f:FuncId}{first m args:AN}{vs:List A4}{G:Hp}{v:A4}
 (hf:∀a,ev a env J= .func (.func f) first m)(hc:∀(args:AN) (w:A6),(callFunc f args).run P w= .ok (.enter f args) w)(ha:∀a,I.toList.map (ev a env)=vs)(W:(first.toList++vs++m.toList).toArray=args)
 (E:BC P f args G v)(M:FW G H R):
 OpW P u ⟨d,.call ⟨.value J,I,y⟩,ty,pos,af,g⟩ env H (fun O H'=>O=v/\H'=H) (fun _ _=>False):=fun a w hs K U X Z=>
 Jd hf hc ha W E M a w hs K U (by rintro O _ w' ⟨H1,⟨rfl,rfl⟩,rfl⟩ h;exact X _ _ w' ⟨rfl,rfl⟩ (h.perm M.perm.symm)) (by rintro _ _ _ ⟨_,h,_⟩;exact h.elim)
end
theorem Co{R:Hp}{A:List PanicEntry->Hp->Prop}:∀ch H',(∃H1,(fun(_:List PanicEntry) (_:Hp)=>False) ch H1/\H'=H1++R)->A ch H':=by rintro _ _ ⟨_,h,_⟩;exact h.elim
def Fe(u:A6)(R:Hp)(Q:A4->Hp->Prop)(Pn:List PanicEntry->Hp->Prop)(e:Ending)(w':A6):Prop:=
 (∃v H',e= .returned v/\Q v H'/\Sat u (H'++R) w')\/(∃ch H',e= .panicked ch/\Pn ch H'/\Sat u (H'++R) w')
theorem Fb:∀(l:List A4) (i:Nat) (p:Nat×A4),p∈Fz i l->i<=p.1/\l[p.1 -i]?=some p.2
 |[],_,_,h=>by cases h
 |v::l,i,p,h=>by
  simp only [Fz,E4]at h;rcases h with rfl|h
  · simp
  · obtain ⟨m,h2⟩:=Fb l (i+1) p h
    refine ⟨by omega,?_⟩;rw [show p.1 -i=(p.1 -(i+1))+1 by omega,W5];exact h2
theorem Ko{a:Act}:∀(sl:Env),(∀p∈sl,a.tmps[p.1]?=some p.2)->CS sl a=a
 |[],_=>rfl
 |(d,v)::sl,h=>by
  simp only [CS];rw [Ko sl fun p E=>h p (HQ _ E)];have y:=h (d,v) (K0 ..)
  refine JW (by rw [ER]) (by rw [KE]) fun t m=>?_;rw [ER]at m;rw [JQ _ _ _ _ m];split;· rename_i e;cases e;exact y.symm
  · rfl
theorem Jf{P:Program}{f:FuncId}{fn:Func}{c:Code}{args:AN}{N:Nat}{H:Hp}{Q:A4->Hp->Prop}{Pn:List PanicEntry->Hp->Prop}(M:P.funcs[f]?=some fn)(K:fn.body=some c)(J:fn.ntmps=N)(O:Nat.ble args.size N=true)
 (h:∀u R,At P ⟨N,[],u,none⟩ c (bodyPost P fn (Fe u R Q Pn)) (Fz 0 args.toList) (H++R)):Jv P f args H Q Pn:=fun u R w y=>by
 have E:args.size<=N:=W7 O;refine calls_of_wp M K ?_;refine (wpIn_wide (n:=0)).1 ?_;have m:CS (Fz 0 args.toList) {tmps:=args++Array.replicate (fn.ntmps -args.size) undef,defers:=[]}={tmps:=args++Array.replicate (fn.ntmps -args.size) undef,defers:=[]}:=by
  refine Ko _ fun p I=>?_;obtain ⟨_,h2⟩:=Fb _ _ _ I;simp only [PF,HS]at h2;have G:p.1<args.size:=by
   rcases DP p.1 args.size with h|h
   · exact h
   · simp [I3 h]at h2
  rw [cC G];exact h2
 rw [<-m];refine h u R _ w ⟨by simp [J];omega,V,fun p I=>?_,y⟩;obtain ⟨_,h2⟩:=Fb _ _ _ I;simp only [PF,HS]at h2;rcases DP p.1 args.size with h|h
 · exact fW h E
 · simp [I3 h]at h2
section
variable{P:Program}{N:Nat}{u:A6}{r:Option Nat}{fn:Func}{R H H':Hp}{Q:A4->Hp->Prop}{Pn:List PanicEntry->Hp->Prop}{env:Env}{e:Exit}
theorem Qt{t:Nat}(m:fn.results=#[.tmp t])(w:A6)(tmps:AN):(results fn tmps).run P w= .ok (tmps.getD t undef) w:=by simp [results,m]
theorem Wt(m:fn.results=#[])(w:A6)(tmps:AN):(results fn tmps).run P w= .ok (.tuple #[]) w:=by simp [results,m]
theorem Qs{t s:Nat}(m:fn.results=#[.tmp t,.tmp s])(w:A6)(tmps:AN):(results fn tmps).run P w= .ok (.tuple #[tmps.getD t undef,tmps.getD s undef]) w:=by simp [results,m]
theorem UF{t s q:Nat}(m:fn.results=#[.tmp t,.tmp s,.tmp q])(w:A6)(tmps:AN):(results fn tmps).run P w= .ok (.tuple #[tmps.getD t undef,tmps.getD s undef,tmps.getD q undef]) w:=by simp [results,m]
def G7:Exit->Bool
 | .normal| .ret=>true
 |_=>false
theorem KZ{v:A4}(G:G7 e=true)(K:∀a w,St ⟨N,[],u,r⟩ env H a w->(results fn (CS env a).tmps).run P w= .ok v w)(J:Q v H')(I:Sub (H'++R) H:=by repeat(first|exact Sub.refl _|exact Sub.nil _|(apply Sub.cons;(focus (repeat(first|exact One.here _ _|apply One.there))))|refine Sub.drop _ ?_)):Nx ⟨N,[],u,r⟩ (bodyPost P fn (Fe u R Q Pn) e) env H:=fun a w m=>by
 have y:(CS env a).defers=[]:=by rw [Ff];exact m.defers
 have h2:=K a w m;have E:Fe u R Q Pn (.returned v) w:= .inl ⟨v,H',rfl,J,m.sat.sub I.amid⟩
 cases e<;>first|exact ⟨y,v,h2,E⟩|simp [G7]at G
theorem AC{t:Nat}{v:A4}(y:G7 e=true)(I:fn.results=#[.tmp t])(hv:∀a,FU a env t=v)(G:Q v H')(E:Sub (H'++R) H:=by repeat(first|exact Sub.refl _|exact Sub.nil _|(apply Sub.cons;(focus (repeat(first|exact One.here _ _|apply One.there))))|refine Sub.drop _ ?_)):Nx ⟨N,[],u,r⟩ (bodyPost P fn (Fe u R Q Pn) e) env H:=
 KZ y (fun a w m=>by rw [Qt I,Bi a env (by rw [m.size];exact m.fit),hv a]) G E
theorem GX(m:G7 e=true)(G:fn.results=#[])(E:Q (.tuple #[]) H')(y:Sub (H'++R) H:=by repeat(first|exact Sub.refl _|exact Sub.nil _|(apply Sub.cons;(focus (repeat(first|exact One.here _ _|apply One.there))))|refine Sub.drop _ ?_)):Nx ⟨N,[],u,r⟩ (bodyPost P fn (Fe u R Q Pn) e) env H:=
 KZ m (fun a w I=>Wt G w _) E y
theorem Dv{t s:Nat}{v x:A4}(y:G7 e=true)(I:fn.results=#[.tmp t,.tmp s])(hv:∀a,FU a env t=v)(hx:∀a,FU a env s=x)(G:Q (.tuple #[v,x]) H')(E:Sub (H'++R) H:=by repeat(first|exact Sub.refl _|exact Sub.nil _|(apply Sub.cons;(focus (repeat(first|exact One.here _ _|apply One.there))))|refine Sub.drop _ ?_)):Nx ⟨N,[],u,r⟩ (bodyPost P fn (Fe u R Q Pn) e) env H:=
 KZ y (fun a w m=>by rw [Qs I,Bi a env (by rw [m.size];exact m.fit),Bi a env (by rw [m.size];exact m.fit),hv a,hx a]) G E
theorem gZ{t s q:Nat}{v x y:A4}(E:G7 e=true)(J:fn.results=#[.tmp t,.tmp s,.tmp q])(hv:∀a,FU a env t=v)(hx:∀a,FU a env s=x)(hy:∀a,FU a env q=y)(I:Q (.tuple #[v,x,y]) H')(G:Sub (H'++R) H:=by repeat(first|exact Sub.refl _|exact Sub.nil _|(apply Sub.cons;(focus (repeat(first|exact One.here _ _|apply One.there))))|refine Sub.drop _ ?_)):Nx ⟨N,[],u,r⟩ (bodyPost P fn (Fe u R Q Pn) e) env H:=
 KZ E (fun a w m=>by rw [UF J,Bi a env (by rw [m.size];exact m.fit),Bi a env (by rw [m.size];exact m.fit),Bi a env (by rw [m.size];exact m.fit),hv a,hx a,hy a]) I G
theorem Ww{t ty b i:Nat}{v:A4}(y:fn.results=#[.cell t ty]){w:A6}{tmps:AN}(hx:tmps.getD t undef= .pointer (some ⟨b,i,none⟩))(m:(loadVar ty ⟨b,i,none⟩).run P w= .ok v w):(results fn tmps).run P w= .ok v w:=by
 rw [JT]at hx;simp [results,y,hx,asAddr,m]
theorem F8{t ty b i s m c j:Nat}{v x:A4}(G:fn.results=#[.cell t ty,.cell s m]){w:A6}{tmps:AN}(hx:tmps.getD t undef= .pointer (some ⟨b,i,none⟩))(y:(loadVar ty ⟨b,i,none⟩).run P w= .ok v w)
 (hy:tmps.getD s undef= .pointer (some ⟨c,j,none⟩))(E:(loadVar m ⟨c,j,none⟩).run P w= .ok x w):(results fn tmps).run P w= .ok (.tuple #[v,x]) w:=by
 rw [JT]at hx hy;simp [results,G,hx,hy,asAddr,y,E]
theorem Ar{t b i n:Nat}{c:AN}{T:AM}{z:Nat×Nat}{cs:AN}(ha:∀w:A6,(isAgg t).run P w= .ok true w)(hs:∀w:A6,(Go.sizeOf t).run P w= .ok n w)(hn:i+n<=c.size)(hv:c.extract i (i+n)=cs)(w:A6)(hb:w.heap[b]?=some (.cells c T z)):(loadVar t ⟨b,i,none⟩).run P w= .ok (.agg cs) w:=by
 have:=A9 (P:=P) (env:=[]) (d:=none) (ty:=0) (pos:= "") (af:=#[]) (g:=none) (x:= .const (.pointer (some ⟨b,i,none⟩))) (T:=T) (z:=z) ha hs (fun _=>rfl) hn hv ⟨#[],[]⟩ w (by simpa using hb);rw [ak]at this;simp only [Sem.run_bind,ev,Instr.loadAt,Instr.sureAddr,Sem.run_pure,Result.andThen_ok]at this;cases hr:(loadVar t ⟨b,i,none⟩).run P w with
 |ok v w'=>rw [hr]at this;simp only [Result.andThen_ok]at this;cases this;rfl
 |halt h w'=>rw [hr]at this;simp only [Result.andThen_halt]at this;cases this
theorem GJ{t b i:Nat}{c:AN}{T:AM}{z:Nat×Nat}{v:A4}(m:∀w:A6,(isAgg t).run P w= .ok false w)(hv:c[i]?=some v)(w:A6)(y:w.heap[b]?=some (.cells c T z)):(loadVar t ⟨b,i,none⟩).run P w= .ok v w:=by
 simp [loadVar,m,D8 y hv]
theorem DI{t ty b i:Nat}{v:A4}{o:Obj}(E:G7 e=true)(K:fn.results=#[.cell t ty])(hv:∀a,FU a env t= .pointer (some ⟨b,i,none⟩))(y:Has b o H)(G:∀w:A6,w.heap[b]?=some o->(loadVar ty ⟨b,i,none⟩).run P w= .ok v w)(J:Q v H')(I:Sub (H'++R) H:=by repeat(first|exact Sub.refl _|exact Sub.nil _|(apply Sub.cons;(focus (repeat(first|exact One.here _ _|apply One.there))))|refine Sub.drop _ ?_)):Nx ⟨N,[],u,r⟩ (bodyPost P fn (Fe u R Q Pn) e) env H:=
 KZ E (fun a w m=>Ww K (by rw [Bi a env (by rw [m.size];exact m.fit),hv a]) (G w (m.sat.get _ y.mem))) J I
theorem PM{ch:List PanicEntry}(E:Pn ch H')(y:Sub (H'++R) H:=by repeat(first|exact Sub.refl _|exact Sub.nil _|(apply Sub.cons;(focus (repeat(first|exact One.here _ _|apply One.there))))|refine Sub.drop _ ?_)):Nx ⟨N,[],u,r⟩ (bodyPost P fn (Fe u R Q Pn) (.panic ch)) env H:=fun a w m=>
 ⟨by rw [Ff];exact m.defers,.inr ⟨ch,H',rfl,E,m.sat.sub y.amid⟩⟩
end
end Gw
