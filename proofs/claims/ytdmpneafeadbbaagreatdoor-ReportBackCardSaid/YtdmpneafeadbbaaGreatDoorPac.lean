/- What the card of ReportBack leans on, part 3: written with few blanks and short names by a program out of longer texts. Conditions: those of each lemma. -/
import Derived.Test.YtdmpneafeadbbaaGreatDoorPab
import Derived.Laws.Append
import Derived.Laws.BytesString
import Derived.Laws.BytesArg
set_option maxRecDepth 100000
set_option linter.unusedVariables false
set_option linter.unusedSimpArgs false
noncomputable section
namespace Go.az
section
variable {P:Program} {T:ew} {σ σ':aD} {π:aK} {δ D:Nat→Prop} {H:Nat→Option aN} {w:World}
theorem jw(o:Obj):(newObj o).run P w= .ok w.heap.size (w.alloc o):=rfl
theorem wrap64{n:Int}(h:0≤n)(h2:n≤1000000000):IntKind.i64.wrap n=n:=by
 have h1:n % (bJ .i64:Int)=n:=Int.emod_eq_of_lt h (by show n<(18446744073709551616:Int);omega)
 rw [jq,h1,if_pos (by show n≤(9223372036854775807:Int);omega)]
theorem wV(hT:bw P T){t:TypeId}{l c l' c' v:Value}(h:tW T t l c σ=some (v,σ'))(hl:VR π D l l')(hc:VR π D c c')(hp:cC σ σ' π δ D H w):gU P σ σ' π δ D H w v (Instr.makeSlice t l' c'):=by
 obtain⟨d,hd,e1⟩:=aa h
 obtain⟨e,he,e2⟩:=aa e1
 obtain⟨i,hi,e3⟩:=aa e2
 obtain⟨z,hz,e4⟩:=aa e3
 obtain⟨ck,m,hm,e5⟩:=ae e4
 obtain⟨m1,hm1,e6⟩:=aa e5
 obtain⟨lk,n,hn,e7⟩:=ae e6
 obtain⟨n1,hn1,e8⟩:=aa e7
 obtain⟨hb,e9⟩:=aj e8
 obtain⟨rfl,rfl⟩:=l6 e9
 obtain rfl:=du he
 obtain rfl:=cY hm
 obtain rfl:=cY hn
 obtain rfl:=hl.aZ
 obtain rfl:=hc.aZ
 obtain⟨g1,g2,rfl⟩:=tj hm1
 obtain⟨g3,g4,rfl⟩:=tj hn1
 rw [bk]at hb
 have hb':m.toNat*(i.info.bytes+1)≤1000000000:=hb
 rw [Nat.mul_succ]at hb'
 obtain⟨zv,z1,_,z3,z4,z5⟩:=gv hT hi hz
 have hzs:zv.cells.toList.length=zv.cells.size:=rfl
 have hzl:=(z5 π D).1
 have hrow:aR π D (fD z m.toNat) ((Array.range (m.toNat*i.size)).map fun j=>(if m.toNat*i.size=0 then(#[]:Array Value)else zv.cells)[j % (if m.toNat*i.size=0 then(#[]:Array Value)else zv.cells).size]!).toList:=by
  by_cases h0:m.toNat*i.size=0
  ·rw [fS,h0]
   have:(List.replicate m.toNat z).flatten=[]:=by
    apply List.eq_nil_of_length_eq_zero
    rw [List.length_flatten,List.map_replicate,List.sum_replicate_nat,z3,h0]
   rw [this]
   simpa using aR.nil
  ·rw [if_neg h0,fS]
   have:=ke zv.cells m.toNat
   rw [show zv.cells.size=i.size from by omega]at this ⊢
   rw [this]
   exact(z5 π D).dn m.toNat
 obtain⟨v',π',D',w',h1,h2,h3⟩:=pg (P:=P) (elem:=e) hp hrow (kg z4) (show n.toNat≤m.toNat by omega)
 refine⟨v',π',D',w',?_,h2,h3⟩
 have hw1:IntKind.i64.wrap n=n:=wrap64 g3 (by omega)
 have hw2:IntKind.i64.wrap m=m:=wrap64 g1 (by omega)
 have hbm:(i.info.bytes:Int)*m≤1000000000:=by
  have:((m.toNat*i.info.bytes:Nat):Int)≤1000000000:=by omega
  rw [Int.natCast_mul,Int.toNat_of_nonneg g1,Int.mul_comm]at this
  exact this
 have h48:¬((i.info.bytes:Int)*m>2^48):=by
  have:(2:Int)^48=281474976710656:=by decide
  omega
 have hcond:¬((decide (m<0)||decide ((i.info.bytes:Int)*m>2^48)||decide (n<0)||decide (n>m))=true):=by
  simp only [Bool.or_eq_true,decide_eq_true_eq]
  omega
 simp only [Instr.makeSlice,Sem.run_bind,av hT hd,Result.andThen_ok,asInt,asIntOf,Sem.run_pure,fh hT hi,hw1,hw2]
 rw [if_neg hcond]
 simp only [Sem.run_bind,run_askRoom,Result.andThen_ok,eL hT hi]
 by_cases h0:m.toNat*i.size=0
 ·simp only [if_pos h0]at h1 ⊢
  simp only [Sem.run_bind,Sem.run_pure,Result.andThen_ok]at h1 ⊢
  exact h1
 ·simp only [if_neg h0]at h1 ⊢
  simp only [Sem.run_bind,Sem.run_pure,Result.andThen_ok,dM hT hi z1]at h1 ⊢
  exact h1
theorem xC{d:TypeDesc}{k e:TypeId}(h:yR d=some (k,e)):d= .map k e:=by
 cases d<;>simp [yR]at h;obtain⟨rfl,rfl⟩:=h;rfl
theorem Hb{r:Option Value}{u:Unit}(h:Dp r=some u):r=none∨∃k n,r=some (.int k n):=by
 cases r with
 |none=>exact .inl rfl
 |some v=>
  obtain⟨k,n,h1,_⟩:=ae (show ak (mK v) (fun _ _=>some ())=some u from h)
  exact .inr ⟨k,n,by rw [cY h1]⟩
theorem uw{o:aN}{O:Obj}(hp:cC σ (σ.new o) π δ D H w)(ho:fK π D ⟨w.heap.size,0,0,none,σ.next,false,0⟩ (w.alloc O) o):
  ∃π',Post σ (σ.new o) π δ D H w π' D (w.alloc O)∧π' σ.next=some ⟨w.heap.size,0,0,none,σ.next,false,0⟩:=
 ⟨_,ui (i:=⟨w.heap.size,0,0,none,σ.next,false,0⟩) hp rfl ho ⟨Nat.le_refl _,fun _=>rfl⟩ (.inl rfl),if_pos rfl⟩
theorem Bt(hT:bw P T){t:TypeId}{r r':Option Value}{v:Value}(h:oT T t r σ=some (v,σ'))(hr:zo π D r r')(hp:cC σ σ' π δ D H w):gU P σ σ' π δ D H w v (Instr.makeMap t r'):=by
 obtain⟨d,hd,e1⟩:=aa h
 obtain⟨k,e,hk,e2⟩:=ae e1
 obtain⟨u,hu,e3⟩:=aa e2
 simp only [Option.some.injEq,Prod.mk.injEq]at e3
 obtain⟨rfl,rfl⟩:=e3
 obtain rfl:=xC hk
 obtain⟨π',h1,h2⟩:=uw (O:= .map #[] 0) hp ⟨#[],by rw [heap_alloc,if_pos rfl],⟨rfl,fun i e e' h _=>by simp at h⟩,rfl,rfl⟩
 refine⟨.map (some w.heap.size),π',D,_,?_,.map (.inl ⟨_,h2,rfl⟩),h1⟩
 rcases Hb hu with rfl|⟨kk,n,rfl⟩
 ·rw [zo.none hr]
  simp only [Instr.makeMap,Sem.run_bind,jw,Result.andThen_ok,Sem.run_pure]
 ·rw [zo.int hr]
  simp only [Instr.makeMap,Sem.run_bind,jw,Result.andThen_ok,Sem.run_pure,av hT hd,asInt,asIntOf]
theorem Hc(hT:bw P T){t:TypeId}{x:Operand}{ρ:Operand→Value}{x' v:Value}(h:Fo T t x ρ σ=some (v,σ'))(hx:VR π D (ρ x) x')(hp:cC σ σ' π δ D H w):gU P σ σ' π δ D H w v (Instr.range t x'):=by
 obtain⟨d,hd,e1⟩:=aa h
 cases d<;>simp only [reduceCtorEq]at e1
 obtain⟨s,hs,e2⟩:=aa e1
 simp only [Option.some.injEq,Prod.mk.injEq]at e2
 obtain⟨rfl,rfl⟩:=e2
 obtain⟨b,hb,rfl⟩:=fe hs
 rw [hb]at hx
 obtain rfl:=hx.bn
 obtain⟨π',h1,h2⟩:=uw (O:= .stringIter b 0) hp ⟨by rw [heap_alloc,if_pos rfl],rfl,rfl,rfl⟩
 refine⟨.pointer (some ⟨w.heap.size,0,none⟩),π',D,_,?_,.ptr rfl ⟨rfl,.inl ⟨_,h2,rfl,rfl⟩⟩,h1⟩
 simp only [Instr.range,Sem.run_bind,av hT hd,Result.andThen_ok,Sem.run_pure,jw]
theorem xD{o:aN}{s:List UInt8}{p:Nat}(h:Dk o=some (s,p)):o= .iter s p:=by
 cases o<;>simp [Dk]at h;obtain⟨rfl,rfl⟩:=h;rfl
theorem kK{o:aN}{es:List MapEntry}{c:Nat}(h:entriesOf o=some (es,c)):o= .map es c:=by
 cases o<;>simp [entriesOf]at h;obtain⟨rfl,rfl⟩:=h;rfl
theorem run_getObj_map{r:Nat}{es:Array MapEntry}{c:Nat}(h:w.heap[r]? =some (.map es c)):(getObj r).run P w= .ok (.map es c) w:=by
 simp only [getObj,Sem.run,h]
theorem lz{r:Nat}{s:ByteArray}{c:Nat}(h:w.heap[r]? =some (.stringIter s c)):(getObj r).run P w= .ok (.stringIter s c) w:=by
 simp only [getObj,Sem.run,h]
theorem run_setObj_map{r:Nat}{es:Array MapEntry}{c:Nat}(h:w.heap[r]? =some (.map es c))(q:Obj):(setObj r q).run P w= .ok () (putObj w r q):=by
 simp only [setObj,Sem.run,h];rfl
theorem s7{r:Nat}{s:ByteArray}{c:Nat}(h:w.heap[r]? =some (.stringIter s c))(q:Obj):(setObj r q).run P w= .ok () (putObj w r q):=by
 simp only [setObj,Sem.run,h];rfl
theorem JA{x:Operand}{isStr:Bool}{ρ:Operand→Value}{x' v:Value}(ty:TypeId)(h:Dq x isStr ρ σ=some (v,σ'))(hx:VR π D (ρ x) x')(hp:cC σ σ' π δ D H w):gU P σ σ' π δ D H w v (Instr.next x' isStr ty):=by
 obtain⟨r,off,h1,e1⟩:=ae h
 obtain⟨s,pos,h2,e2⟩:=ae e1
 obtain⟨o,h3,h4⟩:=aa h2
 obtain rfl:=xD h4
 obtain⟨hst,e3⟩:=aj e2
 rw [Bool.and_eq_true,Tr.bz]at hst
 obtain⟨rfl,rfl⟩:=hst
 rw [iN h1]at hx
 obtain⟨a',rfl,ha⟩:=hx.js
 obtain⟨i,hi,hB,hro,hes,hsh⟩:=hp.here h3 rfl ha.known
 obtain rfl:=ha.at hi
 rw [iff_eq]at e3
 by_cases hlt:pos<s.length
 ·rw [if_pos (by rw [aC];exact(bK _ _).2 hlt)]at e3
  simp only [Option.some.injEq,Prod.mk.injEq]at e3
  obtain⟨rfl,rfl⟩:=e3
  have hlow:(σ.lower r)=min r σ.low:=eO _ _
  have horg:=(hp.rel.lF r i hi).2 hes
  refine⟨.tuple #[.bool true,.int .i64 (Int.ofNat pos),.int .i32 (Utf8.decode ⟨⟨s⟩⟩ pos).1],forget π r i.bm,iy π r i.bm D,putObj w i.bm (.stringIter ⟨⟨s⟩⟩ (pos+(Utf8.decode ⟨⟨s⟩⟩ pos).2)),?_,?_,?_⟩
  rotate_left
  ·exact aR.tuple rfl (.cons (.bool _) (.cons (.int _ _) (.cons (.int _ _) .nil)))
  ·refine nV (q:= .iter s (pos+(Utf8.decode ⟨⟨s⟩⟩ pos).2)) hp (fG σ r _ _) h3 hi hro rfl rfl (by show σ.lower r≤σ.low;omega) (by show σ.lower r≤i.aA;omega)
    (.other rfl (by simp [kindOf]) (.inl (by show σ.lower r≤r;omega))) rfl ⟨eK (aB hB),hro,hes,hsh⟩
  ·simp only [Instr.next,hsh,Sem.run_bind,lz hB,Result.andThen_ok]
   rw [if_pos (show pos<(ByteArray.mk ⟨s⟩).size from hlt)]
   simp only [Sem.run_bind,s7 hB,Result.andThen_ok,Sem.run_pure]
   rfl
 ·rw [if_neg (by rw [aC];exact fun h=>hlt ((bK _ _).1 h))]at e3
  simp only [Option.some.injEq,Prod.mk.injEq]at e3
  obtain⟨rfl,rfl⟩:=e3
  refine⟨_,π,D,w,?_,aR.tuple rfl (.one (.bool _)),.refl hp⟩
  simp only [Instr.next,hsh,Sem.run_bind,lz hB,Result.andThen_ok]
  rw [if_neg (show¬pos<(ByteArray.mk ⟨s⟩).size from hlt)]
  rfl
theorem oZ.at{es es':List MapEntry}(h:oZ π D es es'){i:Nat}{e:MapEntry}(he:es[i]? =some e):∃e',es'[i]? =some e'∧VR π D e.key e'.key∧VR π D e.val e'.val∧e.born=e'.born:=by
 have hi:i<es.length:=(List.getElem?_eq_some_iff.1 he).1
 have hi':i<es'.length:=h.1▸hi
 exact⟨es'[i],List.getElem?_eq_getElem hi',h.2 i e _ he (List.getElem?_eq_getElem hi')⟩
theorem oZ.mono{π':aK}{D':Nat→Prop}(hs:eV π D π' D'){es es':List MapEntry}(h:oZ π D es es'):oZ π' D' es es':=
 ⟨h.1,fun i e e' a b=>by obtain⟨x,y,z⟩:=h.2 i e e' a b;exact⟨x.mono hs,y.mono hs,z⟩⟩
theorem nY{t k e:TypeId}(h:mapType T t=some (k,e)):desc T t=some (.map k e)∧∃d,desc T k=some d∧NC T d=true:=by
 obtain⟨d,hd,e1⟩:=aa h
 obtain⟨k',e',h2,e2⟩:=ae e1
 obtain⟨h3,e3⟩:=aj e2
 simp only [Option.some.injEq,Prod.mk.injEq]at e3
 obtain⟨rfl,rfl⟩:=e3
 obtain rfl:=xC h2
 refine⟨hd,?_⟩
 unfold QA at h3
 split at h3
 ·rename_i d' hd';exact⟨d',hd',h3⟩
 ·cases h3
theorem dw{d:TypeDesc}{t:TypeId}(hd:P.underlying t=some d)(h:∀ms,d≠ .interface ms)(h2:∀n e,d≠ .array n e)(h3:∀fs,d≠ .struct fs)(em:Bool)(n:Nat)(v:Value)(w:World):(Instr.checkKey em (n+1) t v).run P w= .ok () w:=by
 simp only [Instr.checkKey,Sem.run_bind,run_underlying hd,Result.andThen_ok]
 cases d<;>first|exact absurd rfl (h _)|exact absurd rfl (h2 _ _)|exact absurd rfl (h3 _)|rfl
theorem qR{t e:TypeId}{k:IntKind}{l:List Value}(ht:P.underlying t=some (.array l.length e))(he:P.underlying e=some (.int k))(hs:∀w:World,(sizeOf e).run P w= .ok 1 w)(ha:∀w:World,(isAgg e).run P w= .ok false w)
  (em:Bool) (n:Nat) (w:World):(Instr.checkKey em (n+2) t (.agg ⟨l⟩)).run P w= .ok () w:=by
 rw [show n+2=(n+1)+1 from rfl,Instr.checkKey]
 simp only [Sem.run_bind,run_underlying ht,Result.andThen_ok]
 rw [Std.Legacy.Range.forIn_eq_forIn_range']
 simp only [Std.Legacy.Range.size,Nat.sub_zero,Nat.add_sub_cancel,Nat.div_one]
 have key:∀(m s:Nat),s+m=l.length→(forIn (List.range' s m) () fun(i:Nat)(_:PUnit)=>(do
   let x←sizeOf e
   let y←Go.part e ⟨l⟩ (i*x)
   Instr.checkKey em (n+1) e y
   pure (ForInStep.yield ()):Sem (ForInStep PUnit))).run P w= .ok () w:=by
  intro m
  induction m with
  |zero=>intro s _;rfl
  |succ m ih=>
   intro s hsm
   have hlt:s<l.length:=by omega
   have hp:(Go.part e ⟨l⟩ (s*1)).run P w= .ok l[s] w:=by
    simp only [Go.part,Sem.run_bind,ha,Result.andThen_ok,Bool.false_eq_true,if_false,Nat.mul_one]
    have:(⟨l⟩:Array Value)[s]? =some l[s]:=by simp [hlt]
    rw [this];rfl
   have hc:(Instr.checkKey em (n+1) e l[s]).run P w= .ok () w:=dw he (fun _ h=>by cases h) (fun _ _ h=>by cases h) (fun _ h=>by cases h) em n _ w
   simp only [List.range'_succ,List.forIn_cons,Sem.run_bind,hs,Result.andThen_ok,hp,hc,Sem.run_pure]
   exact ih (s+1) (by omega)
 rw [key l.length 0 (by omega)]
 rfl
theorem iP{α:Type}{f:α→PUnit→Sem (ForInStep PUnit)}:∀(m:List α)(w:World),(∀a∈m,(f a ()).run P w= .ok (ForInStep.yield ()) w)→(forIn m () f).run P w= .ok () w
 | [],_,_=>rfl
 |a::m,w,h=>by
  simp only [List.forIn_cons,Sem.run_bind,h a (List.mem_cons_self ..),Result.andThen_ok]
  exact iP m w fun b hb=>h b (List.mem_cons_of_mem _ hb)
theorem qS{t:TypeId}{fs:Array Field}{l:List Value}(ht:P.underlying t=some (.struct fs))(hf:∀f∈fs.toList,(∃k,P.underlying f.type=some (.int k))∧(∀w:World,(isAgg f.type).run P w= .ok false w)∧f.offset<l.length)
  (em:Bool) (n:Nat) (w:World):(Instr.checkKey em (n+2) t (.agg ⟨l⟩)).run P w= .ok () w:=by
 rw [show n+2=(n+1)+1 from rfl,Instr.checkKey]
 simp only [Sem.run_bind,run_underlying ht,Result.andThen_ok]
 rw [←Array.forIn_toList]
 refine(congrArg (fun r=>Result.andThen r _) (iP fs.toList w fun f hm=>?_)).trans rfl
 obtain⟨⟨k,h1⟩,h2,h3⟩:=hf f hm
 have hp:(Go.part f.type ⟨l⟩ f.offset).run P w= .ok l[f.offset] w:=by
  simp only [Go.part,Sem.run_bind,h2,Result.andThen_ok,Bool.false_eq_true,if_false]
  have:(⟨l⟩:Array Value)[f.offset]? =some l[f.offset]:=by simp [h3]
  rw [this];rfl
 have hc:(Instr.checkKey em (n+1) f.type l[f.offset]).run P w= .ok () w:=dw h1 (fun _ h=>by cases h) (fun _ _ h=>by cases h) (fun _ h=>by cases h) em n _ w
 split
 ·simp only [Sem.run_bind,hp,Result.andThen_ok,hc,Sem.run_pure]
 ·rfl
theorem ph{t:TypeId}{fs:Array Field}{l:List Value}(ht:P.underlying t=some (.struct fs))(em:Bool)(n:Nat)(w:World)(hf:∀f∈fs.toList,∃v,(Go.part f.type ⟨l⟩ f.offset).run P w= .ok v w∧(Instr.checkKey em n f.type v).run P w= .ok () w):
  (Instr.checkKey em (n+1) t (.agg ⟨l⟩)).run P w= .ok () w:=by
 rw [Instr.checkKey]
 simp only [Sem.run_bind,run_underlying ht,Result.andThen_ok]
 rw [←Array.forIn_toList]
 refine(congrArg (fun r=>Result.andThen r _) (iP fs.toList w fun f hm=>?_)).trans rfl
 obtain⟨v,hp,hc⟩:=hf f hm
 split
 ·simp only [Sem.run_bind,hp,Result.andThen_ok,hc,Sem.run_pure]
 ·rfl
theorem Bv{e:TypeId}(h:jn T e=true):∃k ie,desc T e=some (.int k)∧T.Y.get e=some ie∧ie.desc= .int k:=by
 unfold jn at h
 split at h
 ·rename_i kk hkk
  obtain⟨de,h3,h4⟩:=aa hkk
  obtain⟨ie,h5,h6⟩:=pa h3
  have hde:de= .int kk:=by
   cases de<;>simp [intKind]at h4
   subst h4;rfl
  subst hde
  exact⟨kk,ie,h3,h5,h6⟩
 ·cases h
theorem uz(hT:bw P T){t e:TypeId}{n:Nat}{v v':Value}(hu:P.underlying t=some (.array n e))(he:jn T e=true)(hf:tT T v n e=true)(hi:VR π D v v')(em:Bool)(m:Nat)(w:World):(Instr.checkKey em (m+2) t v').run P w= .ok () w:=by
 unfold tT at hf
 split at hf
 ·rename_i cs z h1 h2
  obtain rfl:=iM h1
  rw [Bool.and_eq_true,beq_iff,beq_iff,aC]at hf
  obtain⟨rfl,rfl⟩:=hf
  obtain⟨c',rfl,hc,_⟩:=aR.iK hi
  obtain⟨kk,ie,h3,h5,h6⟩:=Bv he
  have hagg:∀w:World,(isAgg e).run P w= .ok false w:=fun w=>by
   rw [ed hT h5,(hT e ie h5).agg,h6]
  rw [hc.1]at hu
  exact qR hu (dp hT h3) (bV hT h2) hagg em m w
 ·cases hf
theorem eP(hT:bw P T){t:TypeId}{d:TypeDesc}{ix ix':Value}(hd:desc T t=some d)(hk:NC T d=true)(hf:nS T t ix=true)(hi:VR π D ix ix')(em:Bool)(w:World):(Instr.checkKey em 10000 t ix').run P w= .ok () w:=by
 have hu:=dp hT hd
 unfold nS at hf
 rw [hd]at hf
 simp only at hf
 cases d
 case array n e=>
  exact uz hT hu (show jn T e=true from hk) (show tT T ix n e=true from hf) hi em 9998 w
 case struct fs=>
  simp only [zc]at hf
  split at hf
  ·rename_i cs h1
   obtain rfl:=iM h1
   obtain⟨c',rfl,hc,h1c⟩:=aR.iK hi
   rw [Bool.or_eq_true,Bool.and_eq_true,List.all_eq_true,List.all_eq_true,List.all_eq_true]at hf
   rcases hf with⟨hk,hf⟩|hf
   ·refine qS hu (fun f hm=>?_) em 9998 w
    obtain⟨kk,ie,h3,h5,h6⟩:=Bv (hk f hm)
    have g2:=hf f hm
    rw [bK,aC,hc.1]at g2
    exact⟨⟨kk,dp hT h3⟩,fun w=>by rw [ed hT h5,(hT f.type ie h5).agg,h6],g2⟩
   ·refine ph hu em 9999 w fun f hm=>?_
    have g:=hf f hm
    unfold tf at g
    split at g
    ·rename_i v d h2 h3
     obtain⟨v',h4,h5⟩:=iL hT h2 hc h1c w
     refine⟨v',h4,?_⟩
     have hu2:=dp hT h3
     cases d<;>simp only [A7,Bool.false_eq_true]at g
     case int k=>exact dw hu2 (fun _ h=>by cases h) (fun _ _ h=>by cases h) (fun _ h=>by cases h) em 9998 _ w
     case string=>exact dw hu2 (fun _ h=>by cases h) (fun _ _ h=>by cases h) (fun _ h=>by cases h) em 9998 _ w
     case array n e=>
      rw [Bool.and_eq_true]at g
      exact uz hT hu2 g.1 g.2 h5 em 9997 w
    ·cases g
  ·cases hf
 all_goals first
  |(simp only [NC]at hk;cases hk;done)
  |exact dw hu (fun _ h=>by cases h) (fun _ _ h=>by cases h) (fun _ h=>by cases h) em 9999 _ w
theorem l7(hT:bw P T){t:TypeId}{k k':Value}(hk:VR π D k k')(w:World):∀(es es':List MapEntry)(i:Nat)(r:Option (Nat×MapEntry)),oZ π D es es'→lr T t k es i=some r→
  (r=none∧(Instr.findAsking t k' es' i).run P w= .ok none w)∨∃j e e',r=some (i+j,e)∧es[j]? =some e∧es'[j]? =some e'∧(Instr.findAsking t k' es' i).run P w= .ok (some (i+j,e'.val)) w
 | [],es',i,r,hm,h=>by
  have:es'=[]:=List.eq_nil_of_length_eq_zero hm.1.symm
  subst this
  simp only [lr,Option.some.injEq]at h
  exact .inl ⟨h.symm,rfl⟩
 |e::es,es',i,r,hm,h=>by
  cases es' with
  |nil=>have:=hm.1;simp at this
  |cons e' es'=>
   obtain⟨b,hb,h2⟩:=aa (show andThen (wR T 3 t k e.key) (fun b=>iff b (some (some (i,e))) (lr T t k es (Nat.succ i)))=some r from h)
   have h0:=(hm.2 0 e e' rfl rfl).1
   have hq:=zm hT 3 (Op.maxDepth-4) t k e.key b hb k' e'.key hk h0 w
   have hq':(Op.equal t k' e'.key).run P w= .ok b w:=hq
   have htl:oZ π D es es':=⟨by have:=hm.1;simpa using this,fun i a b h1 h2=>hm.2 (i+1) a b h1 h2⟩
   simp only [Instr.findAsking,Sem.run_bind,hq',Result.andThen_ok]
   cases b with
   |true=>
    simp only [iff_true,Option.some.injEq]at h2
    exact .inr ⟨0,e,e',h2.symm,rfl,rfl,rfl⟩
   |false=>
    rcases l7 hT hk w es es' (i+1) r htl h2 with⟨h3,h4⟩|⟨j,a,a',h3,h4,h5,h6⟩
    ·exact .inl ⟨h3,h4⟩
    ·refine .inr ⟨j+1,a,a',?_,h4,h5,?_⟩
     ·rw [h3];congr 2;omega
     ·rw [if_neg (by simp),h6];congr 3;omega
theorem Dz{t:TypeId}{d:TypeDesc}(hd:desc T t=some d){x y x' y':Value}{b b':Bool}(h:wR T 3 t x y=some b)(hx:VR π D x x')(hy:VR π D y y')(h':Instr.sameNow d x' y'=some b'):b'=b:=by
 obtain⟨i,hi,h1⟩:=aa h
 obtain⟨i',hi',rfl⟩:=pa hd
 have hii:T.Y.get t=some i:=hi
 rw [hi']at hii;cases hii
 cases hdd:i.desc<;>rw [hdd]at h1 h'<;>simp only [Instr.sameNow,reduceCtorEq]at h'
 case int kk=>
  obtain⟨k,a,h2,h3⟩:=ae (show ak (mK x) (fun k a=>ak (mK y) fun k' b=>iff (sameKind k k') (some (cB a b)) none)=some b from h1)
  obtain⟨k2,a2,h4,h5⟩:=ae h3
  obtain⟨h6,h7⟩:=aj h5
  obtain rfl:=cY h2
  obtain rfl:=cY h4
  obtain rfl:=(bG _ _).1 h6
  obtain rfl:=hx.aZ
  obtain rfl:=hy.aZ
  simp only [if_true,Option.some.injEq]at h' h7
  rw [iG]at h7
  exact h'.symm.trans h7
 case bool=>
  obtain⟨a,h2,h3⟩:=aa (show andThen (sd x) (fun a=>andThen (sd y) fun b=>some (a==b))=some b from h1)
  obtain⟨a2,h4,h5⟩:=aa h3
  obtain rfl:=gq h2
  obtain rfl:=gq h4
  obtain rfl:=hx.dq
  obtain rfl:=hy.dq
  simp only [Option.some.injEq]at h' h5
  exact h'.symm.trans h5
 case string=>
  obtain⟨a,h2,h3⟩:=aa (show andThen (qD x) (fun a=>andThen (qD y) fun b=>some (aQ a b))=some b from h1)
  obtain⟨a2,h4,h5⟩:=aa h3
  obtain⟨s,rfl,rfl⟩:=fe h2
  obtain⟨s2,rfl,rfl⟩:=fe h4
  obtain rfl:=hx.bn
  obtain rfl:=hy.bn
  simp only [Option.some.injEq,aQ]at h' h5
  subst h';subst h5
  rw [beq_toListBytes,ByteArray.toList_eq,ByteArray.toList_eq]
theorem si{t:TypeId}{d:TypeDesc}(hd:desc T t=some d){k k':Value}(hk:VR π D k k'):∀(es es':List MapEntry)(i:Nat)(r:Option (Nat×MapEntry))(q:Option (Nat×Value)),oZ π D es es'→lr T t k es i=some r→Instr.findNow d k' es' i=some q→
  (r=none∧q=none)∨∃j e e',r=some (i+j,e)∧es[j]? =some e∧es'[j]? =some e'∧q=some (i+j,e'.val)
 | [],es',i,r,q,hm,h,h'=>by
  have:es'=[]:=List.eq_nil_of_length_eq_zero hm.1.symm
  subst this
  simp only [lr,Option.some.injEq]at h
  simp only [Instr.findNow,Option.some.injEq]at h'
  exact .inl ⟨h.symm,h'.symm⟩
 |e::es,es',i,r,q,hm,h,h'=>by
  cases es' with
  |nil=>have:=hm.1;simp at this
  |cons e' es'=>
   obtain⟨b,hb,h2⟩:=aa (show andThen (wR T 3 t k e.key) (fun b=>iff b (some (some (i,e))) (lr T t k es (Nat.succ i)))=some r from h)
   have h0:=(hm.2 0 e e' rfl rfl).1
   have htl:oZ π D es es':=⟨by have:=hm.1;simpa using this,fun i a b h1 h2=>hm.2 (i+1) a b h1 h2⟩
   simp only [Instr.findNow]at h'
   cases hs:Instr.sameNow d k' e'.key with
   |none=>rw [hs]at h';cases h'
   |some b'=>
    obtain rfl:=Dz hd hb hk h0 hs
    rw [hs]at h'
    cases b' with
    |true=>
     simp only [iff_true,Option.some.injEq]at h2 h'
     exact .inr ⟨0,e,e',h2.symm,rfl,rfl,h'.symm⟩
    |false=>
     rcases si hd hk es es' (i+1) r q htl h2 h' with⟨h3,h4⟩|⟨j,a,a',h3,h4,h5,h6⟩
     ·exact .inl ⟨h3,h4⟩
     ·refine .inr ⟨j+1,a,a',?_,h4,h5,?_⟩
      ·rw [h3];congr 2;omega
      ·rw [h6];congr 2;omega
theorem l8(hT:bw P T){t:TypeId}{d:TypeDesc}(hd:desc T t=some d){k k':Value}(hk:VR π D k k'){es es':List MapEntry}{r:Option (Nat×MapEntry)}(hm:oZ π D es es')(h:gg T t k es=some r)(w:World):
  (r=none∧(Instr.findKey t k' es').run P w= .ok none w)∨∃j e e',r=some (j,e)∧es[j]? =some e∧es'[j]? =some e'∧(Instr.findKey t k' es').run P w= .ok (some (j,e'.val)) w:=by
 obtain⟨_,h1⟩:=aj h
 simp only [Instr.findKey,Sem.run_bind,av hT hd,Result.andThen_ok]
 cases hf:Instr.findNow d k' es' 0 with
 |none=>
  rcases l7 hT hk w es es' 0 r hm h1 with h2|⟨j,e,e',h2,h3,h4,h5⟩
  ·exact .inl h2
  ·rw [Nat.zero_add]at h2 h5;exact .inr ⟨j,e,e',h2,h3,h4,h5⟩
 |some q=>
  rcases si hd hk es es' 0 r q hm h1 hf with⟨h2,rfl⟩|⟨j,e,e',h2,h3,h4,rfl⟩
  ·exact .inl ⟨h2,rfl⟩
  ·rw [Nat.zero_add]at h2;exact .inr ⟨j,e,e',h2,h3,h4,by rw [Nat.zero_add];rfl⟩
theorem cC.entries(hp:cC σ σ' π δ D H w){r:Nat}{es:List MapEntry}{m':Value}{c:Nat}(h:andThen (σ.obj r) entriesOf=some (es,c))(hm:VR π D (.map (some r)) m'):
  ∃i es',π r=some i∧m'= .map (some i.bm)∧σ.obj r=some (.map es c)∧w.heap[i.bm]? =some (.map es' c)∧oZ π D es es'.toList∧i.ro=false∧i.aA=r:=by
 obtain⟨o,h1,h2⟩:=aa h
 obtain rfl:=kK h2
 cases hm with
 |map hr=>
  have hex:(∃i,π r=some i)∨(π r=none∧D r):=by
   rcases hr with⟨i,h3,_⟩|h3
   ·exact .inl ⟨i,h3⟩
   ·exact .inr h3
  obtain⟨i,hi,es',hB,hmr,hro,hes⟩:=hp.here h1 rfl hex
  rcases hr with⟨j,h3,rfl⟩|⟨h3,_⟩
  ·rw [hi]at h3;cases h3
   exact⟨i,es',hi,rfl,h1,hB,hmr,hro,(hp.rel.lF r i hi).2 hes⟩
  ·rw [hi]at h3;cases h3
theorem pj{ok b:Bool}{v v':Value}(h:VR π D v v'):VR π D (oS ok v b) (if ok then .tuple #[v',.bool b]else v'):=by
 unfold oS
 rw [iff_eq]
 cases ok
 ·exact h
 ·exact aR.tuple rfl (.cons h (.one (.bool _)))
theorem iz{t:TypeId}{k:Value}{es:List MapEntry}{r:Option (Nat×MapEntry)}(h:gg T t k es=some r):nS T t k=true:=(aj h).1
theorem DA(hT:bw P T){t:TypeId}{x ix x' ix' v:Value}{ok:Bool}(h:jo T σ t x ix ok=some v)(hx:VR π D x x')(hi:VR π D ix ix')(hp:cC σ σ' π δ D H w):∃v',(Instr.lookup t x' ix' ok).run P w= .ok v' w∧VR π D v v':=by
 obtain⟨key,elem,h1,e1⟩:=ae h
 obtain⟨r,h2,e2⟩:=aa e1
 obtain⟨es,h3,e3⟩:=aa e2
 obtain⟨hit,h4,e4⟩:=aa e3
 obtain⟨hd,d,hdk,hkd⟩:=nY h1
 obtain rfl:=qM h2
 have fin:∀(es':Array MapEntry),oZ π D es es'.toList→∃v',(do
   Instr.checkKey es'.isEmpty 10000 key ix'
   let(v,b)←match←Instr.findKey key ix' es'.toList with
    |some (_,v)=>pure (v,true)
    |none=>pure (←zeroValue elem,false)
   pure (if ok then .tuple #[v,.bool b]else v):Sem Value).run P w= .ok v' w∧VR π D v v':=by
  intro es' hmr
  rcases l8 hT hdk hi hmr h4 w with⟨rfl,h5⟩|⟨j,e,e',rfl,h6,h7,h5⟩
  ·obtain⟨z,hz,e5⟩:=aa (show andThen (zero T elem) (fun z=>some (oS ok z false))=some v from e4)
   cases e5
   obtain⟨i,hi2,hz2⟩:=zero_eq hz
   refine⟨_,?_,pj (iJ hT hi2 hz2 π D)⟩
   simp only [Sem.run_bind,eP hT hdk hkd (iz h4) hi,Result.andThen_ok,h5,dM hT hi2 hz2,Sem.run_pure]
  ·have e5:oS ok e.val true=v:=Option.some.inj e4
   subst e5
   refine⟨_,?_,pj (hmr.2 j e e' h6 h7).2.1⟩
   simp only [Sem.run_bind,eP hT hdk hkd (iz h4) hi,Result.andThen_ok,h5,Sem.run_pure]
 cases r with
 |none=>
  obtain rfl:=hx.map_none
  simp only [tU,Option.some.injEq]at h3
  subst h3
  obtain⟨v',h5,h6⟩:=fin #[] ⟨rfl,fun i _ _ h _=>by simp at h⟩
  refine⟨v',?_,h6⟩
  rw [←h5]
  simp only [Instr.lookup,Sem.run_bind,av hT hd,Result.andThen_ok,Sem.run_pure]
  rfl
 |some r=>
  obtain⟨es0,c,h5,h6⟩:=ae (show ak (andThen (σ.obj r) entriesOf) (fun es _=>some es)=some es from h3)
  cases h6
  obtain⟨i,es',_,rfl,_,hB,hmr,_,_⟩:=hp.entries h5 hx
  obtain⟨v',h7,h8⟩:=fin es' hmr
  refine⟨v',?_,h8⟩
  rw [←h7]
  simp only [Instr.lookup,Sem.run_bind,av hT hd,Result.andThen_ok,Sem.run_pure,run_getObj_map hB]
  rfl
theorem po{r:Nat}{es es2:List MapEntry}{c c2:Nat}{i:PI}{es2':Array MapEntry}(hp:cC σ (σ.dG r es2 c2) π δ D H w)(ho:σ.obj r=some (.map es c))(hi:π r=some i)(hro:i.ro=false)(horg:i.aA=r)(hB:i.bm<w.heap.size)
  (hm:oZ π D es2 es2'.toList) (hes:i.s4=none):Post σ (σ.dG r es2 c2) π δ D H w (forget π r i.bm) (iy π r i.bm D) (putObj w i.bm (.map es2' c2)):=by
 have hlow:(σ.lower r)=min r σ.low:=eO _ _
 exact nV (q:= .map es2 c2) hp (fG σ r _ _) ho hi hro rfl rfl (by show σ.lower r≤σ.low;omega) (by show σ.lower r≤i.aA;omega)
  (.other rfl (by simp [kindOf]) (.inl (by show σ.lower r≤r;omega))) rfl ⟨es2',eK hB,hm.mono (kG π r i.bm D),hro,hes⟩
theorem l9:∀(a b:List Value),iE a b=true→a=b∧∀v∈a,∃k n,v= .int k n
 | [],[],_=>⟨rfl,by simp⟩
 | [],_::_,h=>by cases h
 |_::_,[],h=>by cases h
 |x::a,y::b,h=>by
  simp only [iE]at h
  split at h
  ·rename_i p q h1 h2
   rw [Bool.and_eq_true,Bool.and_eq_true,bG,iG,beq_iff_eq]at h
   obtain⟨⟨h3,h4⟩,h5⟩:=h
   obtain⟨h6,h7⟩:=l9 a b h5
   obtain⟨pk,pn⟩:=p
   obtain⟨qk,qn⟩:=q
   simp only at h3 h4
   subst h3;subst h4
   rw [cY h1,cY h2,h6]
   exact⟨rfl,fun v hv=>by
    rcases List.mem_cons.1 hv with rfl|hv
    ·exact⟨_,_,rfl⟩
    ·exact h7 v (h6▸hv)⟩
  ·cases h
theorem aR.ints{l l':List Value}(h:aR π D l l')(hi:∀v∈l,∃k n,v= .int k n):l'=l:=by
 apply List.ext_getElem?
 intro j
 cases hj:l[j]? with
 |none=>rw [List.getElem?_eq_none_iff]at hj ⊢;rw [←h.1];exact hj
 |some v=>
  obtain⟨v',h1,h2⟩:=h.get hj
  obtain⟨k,n,rfl⟩:=hi v (List.mem_of_getElem? hj)
  rw [h1,h2.aZ]
theorem Bw{a b a' b':Value}(h:sameKey a b=true)(ha:VR π D a a')(hb:VR π D b b'):a'=b'∧Instr.sameBits 10000 a' b'=true:=by
 cases a<;>simp only [sameKey,Bool.false_eq_true]at h
 case int k n=>
  split at h
  ·rename_i q h1
   obtain⟨qk,qn⟩:=q
   rw [Bool.and_eq_true,bG,iG,beq_iff_eq]at h
   simp only at h
   obtain⟨rfl,rfl⟩:=h
   obtain rfl:=cY h1
   rw [ha.aZ,hb.aZ]
   exact⟨rfl,by simp [Instr.sameBits]⟩
  ·cases h
 case string s=>
  split at h
  ·rename_i q h1
   obtain⟨s2,rfl,rfl⟩:=fe h1
   rw [ha.bn,hb.bn]
   simp only [aQ,beq_iff_eq]at h
   have:s=s2:=by obtain⟨⟨l⟩⟩:=s;obtain⟨⟨l2⟩⟩:=s2;simp at h;subst h;rfl
   subst this
   exact⟨rfl,by simp only [Instr.sameBits];rw [beq_toListBytes];simp⟩
  ·cases h
 case bool b0=>
  split at h
  ·rename_i q h1
   obtain rfl:=gq h1
   rw [ha.dq,hb.dq]
   simp only [beq_iff_eq]at h
   subst h
   exact⟨rfl,by simp [Instr.sameBits]⟩
  ·cases h
 case agg cs=>
  split at h
  ·rename_i q h1
   obtain rfl:=iM h1
   obtain⟨h2,h3⟩:=l9 _ _ h
   obtain⟨l⟩:=cs
   simp only at h2 h3
   subst h2
   obtain⟨l1,rfl,h4,_⟩:=aR.iK ha
   obtain⟨l2,rfl,h5,_⟩:=aR.iK hb
   rw [h4.ints h3,h5.ints h3]
   refine⟨rfl,?_⟩
   simp only [Instr.sameBits,BEq.rfl,Bool.true_and,List.all_eq_true]
   intro p hp
   obtain⟨x,y⟩:=p
   have hxy:x=y∧x∈l:=by
    obtain⟨j,hj,he⟩:=List.getElem_of_mem hp
    rw [List.getElem_zip]at he
    simp only [Prod.mk.injEq]at he
    rw [←he.1,←he.2]
    exact⟨rfl,List.getElem_mem _⟩
   obtain⟨rfl,hm⟩:=hxy
   obtain⟨k,n,rfl⟩:=h3 x hm
   simp [Instr.sameBits]
  ·cases h
theorem pq(x:Value):∀(es:List MapEntry)(i j:Nat),(cN x es i)[j]? =if j=i then es[j]?.map fun e=> {e with val:=x}else es[j]?
 | [],i,j=>by simp [cN]
 |e::es,0,j=>by cases j<;>simp [cN]
 |e::es,i+1,j=>by
  cases j with
  |zero=>simp [cN]
  |succ j=>simp only [cN,List.getElem?_cons_succ,pq x es i j,Nat.add_right_cancel_iff]
theorem pt(x:Value):∀(es:List MapEntry)(i:Nat),(cN x es i).length=es.length
 | [],_=>rfl
 |_::_,0=>rfl
 |_::es,i+1=>by simp only [cN,List.length_cons,pt x es i]
theorem uA(hT:bw P T){t:TypeId}{m k x m' k' x':Value}(h:gE T σ t m k x=some σ')(hm:VR π D m m')(hk:VR π D k k')(hx:VR π D x x')(hp:cC σ σ' π δ D H w):FC P σ σ' π δ D H w (Instr.mapUpdate t m' k' x'):=by
 obtain⟨key,elem,h1,e1⟩:=ae h
 obtain⟨ro,h2,e2⟩:=aa e1
 obtain⟨r,h3,e3⟩:=aa e2
 obtain⟨es,c,h4,e4⟩:=ae e3
 obtain⟨hit,h5,e5⟩:=aa e4
 obtain⟨hd,d,hdk,hkd⟩:=nY h1
 obtain rfl:=qM h2
 subst h3
 obtain⟨i,es',hi,rfl,ho,hB,hmr,hro,horg⟩:=hp.entries h4 hm
 have hes:i.s4=none:=by
  obtain⟨q,hq1,hq2⟩:=hp.rel.obj r i hi
  have hlt:r<σ.next:=by
   rcases Nat.lt_or_ge r σ.next with h|h
   ·exact h
   ·rw [hp.wf r h]at ho;cases ho
  rw [show ext σ H r=σ.obj r from if_pos hlt,ho]at hq1
  cases hq1
  exact hq2.choose_spec.2.2.2
 rcases l8 hT hdk hk hmr h5 w with⟨rfl,h6⟩|⟨j,e,e',rfl,h6,h7,h8⟩
 ·simp only [Option.some.injEq]at e5
  subst e5
  have hpost:=po (es2':=es'.push {key:=k',val:=x',born:=c}) hp ho hi hro horg (aB hB) ⟨by simp [hmr.1],fun j a b ha hb=>by
   rw [Array.toList_push]at hb
   by_cases hj:j<es.length
   ·rw [List.getElem?_append_left hj]at ha
    rw [List.getElem?_append_left (by rw [←hmr.1];exact hj)]at hb
    exact hmr.2 j a b ha hb
   ·have hl:=hmr.1
    rw [List.getElem?_append_right (by omega)]at ha hb
    rw [←hl]at hb
    have hj0:j-es.length=0:=by
     rcases Nat.eq_zero_or_pos (j-es.length)with h|h
     ·exact h
     ·rw [List.getElem?_eq_none (by simp;omega)]at ha;cases ha
    rw [hj0]at ha hb
    simp only [List.getElem?_cons_zero,Option.some.injEq]at ha hb
    subst ha;subst hb
    exact⟨hk,hx,rfl⟩⟩ hes
  refine⟨_,_,_,?_,hpost⟩
  simp only [Instr.mapUpdate,Sem.run_bind,av hT hd,Result.andThen_ok,run_getObj_map hB,eP hT hdk hkd (iz h5) hk,h6,run_setObj_map hB]
 ·obtain⟨hsame,e6⟩:=aj (show iff (sameKey e.key k) (some (σ.dG r (cN x es j) c)) none=some σ' from e5)
  simp only [Option.some.injEq]at e6
  subst e6
  have hent:=hmr.2 j e e' h6 h7
  obtain⟨hkk,hbits⟩:=Bw hsame hent.1 hk
  have hpost:=po (es2':=es'.modify j fun e=> {e with key:=k',val:=x'}) hp ho hi hro horg (aB hB) ⟨by simp [pt,hmr.1],fun q a b ha hb=>by
   rw [pq]at ha
   rw [Array.toList_modify,List.getElem?_modify]at hb
   by_cases hq:q=j
   ·subst hq
    rw [if_pos rfl,h6]at ha
    rw [h7]at hb
    simp only [Option.map_some,if_true,Option.some.injEq,Option.map_eq_map]at ha hb
    subst ha;subst hb
    exact⟨hkk▸hent.1,hx,hent.2.2⟩
   ·rw [if_neg hq]at ha
    simp only [if_neg (Ne.symm hq),Option.map_eq_map,Option.map_id_fun',id]at hb
    exact hmr.2 q a b ha hb⟩ hes
  refine⟨_,_,_,?_,hpost⟩
  have h7':es'[j]? =some e':=by rw [←Array.getElem?_toList];exact h7
  simp only [Instr.mapUpdate,Sem.run_bind,av hT hd,Result.andThen_ok,run_getObj_map hB,eP hT hdk hkd (iz h5) hk,h8,Instr.keyThatStays,h7',Option.map_some,Option.getD_some,hbits,if_true,Sem.run_pure,run_setObj_map hB]
theorem DB(hT:bw P T){t ty:TypeId}{m k m' k':Value}{bT:Array TypeId}{args:Array Value}(h:fP T σ t m k=some σ')(hm:VR π D m m')(hk:VR π D k k')(ht:bT[0]? =some t)(ha0:args[0]? =some m')(ha1:args[1]? =some k')(hp:cC σ σ' π δ D H w):
  gU P σ σ' π δ D H w (.tuple #[]) (Builtin.delete_ bT ty args):=by
 obtain⟨key,elem,h1,e1⟩:=ae h
 obtain⟨ro,h2,e2⟩:=aa e1
 obtain⟨r,h3,e3⟩:=aa e2
 obtain⟨es,c,h4,e4⟩:=ae e3
 obtain⟨hit,h5,e5⟩:=aa e4
 obtain⟨hd,d,hdk,hkd⟩:=nY h1
 obtain rfl:=qM h2
 subst h3
 obtain⟨i,es',hi,rfl,ho,hB,hmr,hro,horg⟩:=hp.entries h4 hm
 have hes:i.s4=none:=by
  obtain⟨q,hq1,hq2⟩:=hp.rel.obj r i hi
  have hlt:r<σ.next:=by
   rcases Nat.lt_or_ge r σ.next with h|h
   ·exact h
   ·rw [hp.wf r h]at ho;cases ho
  rw [show ext σ H r=σ.obj r from if_pos hlt,ho]at hq1
  cases hq1
  exact hq2.choose_spec.2.2.2
 rcases l8 hT hdk hk hmr h5 w with⟨rfl,h6⟩|⟨j,e,e',rfl,h6,h7,h8⟩
 ·simp only [Option.some.injEq]at e5
  subst e5
  have hpost:=po (es2':=es') hp ho hi hro horg (aB hB) hmr hes
  refine⟨_,_,_,_,?_,aR.tuple rfl .nil,hpost⟩
  simp only [Builtin.delete_,ht,ha0,ha1,Sem.run_bind,av hT hd,Result.andThen_ok,run_getObj_map hB,eP hT hdk hkd (iz h5) hk,h6,run_setObj_map hB,Sem.run_pure]
 ·simp only [Option.some.injEq]at e5
  subst e5
  have hj:j<es'.size:=(List.getElem?_eq_some_iff.1 h7).1
  have this:(es'.eraseIdxIfInBounds j).toList=es'.toList.eraseIdx j:=by
   simp [Array.eraseIdxIfInBounds,hj]
  have hpost:=po (es2':=es'.eraseIdxIfInBounds j) hp ho hi hro horg (aB hB) ⟨by
   have hl:=hmr.1
   rw [this,List.length_eraseIdx,List.length_eraseIdx,hl],fun q a b ha hb=>by
   rw [this,List.getElem?_eraseIdx]at hb
   rw [List.getElem?_eraseIdx]at ha
   by_cases hq:q<j
   ·rw [if_pos hq]at ha hb;exact hmr.2 q a b ha hb
   ·rw [if_neg hq]at ha hb;exact hmr.2 (q+1) a b ha hb⟩ hes
  refine⟨_,_,_,_,?_,aR.tuple rfl .nil,hpost⟩
  simp only [Builtin.delete_,ht,ha0,ha1,Sem.run_bind,av hT hd,Result.andThen_ok,run_getObj_map hB,eP hT hdk hkd (iz h5) hk,h8,run_setObj_map hB,Sem.run_pure]
end
end Go.az
namespace Go.az
section
variable {P:Program} {T:ew} {σ σ':aD} {π:aK} {δ D:Nat→Prop} {H:Nat→Option aN} {w:World}
theorem cC.drew(hp:cC σ σ' π δ D H w):cC σ σ' π δ D H w.drew:= {hp with rel:=hp.rel.drew}
theorem Post.drew{π':aK}{D':Nat→Prop}{w':World}(h:Post σ σ' π δ D H w.drew π' D' w'):Post σ σ' π δ D H w π' D' w':=
 {h with bm:=h.bm,fr:=⟨h.fr.os,h.fr.tape,h.fr.output,h.fr.size,h.fr.kF⟩}
theorem kL{a:Addr}{n c:Nat}{v':Value}(h:VR π D (.slice (some a) n c) v')(hc:0<c):∃a' c',v'= .slice (some a') n c'∧c≤c'∧AR π D ⟨a.block,a.off,none⟩ a':=by
 cases h with
 |sl n c hn hs ha=>
  obtain⟨b,o,s⟩:=a
  simp only at hs;subst hs
  exact⟨_,_,rfl,Nat.le_refl _,ha⟩
 |slz=>omega
 |slo n c c' hn hs ha=>
  obtain⟨h1,h2,h3⟩:=ha
  refine⟨_,_,rfl,h2,h1,?_⟩
  rcases h3 with⟨i,h4,h5,h6,h7⟩|h3
  ·rcases h7 with⟨h7,_⟩|⟨_,h7,_⟩
   ·exact .inl ⟨i,h4,h5,h7⟩
   ·omega
  ·exact .inr h3
theorem eQ(l:List UInt8):byteCells l=l.map fun b=>Value.int .u8 (b.toNat:Int):=hO _ _
theorem byteCells_one(l:List UInt8):∀v∈byteCells l,bH v=true:=by
 intro v hv
 rw [eQ]at hv
 obtain⟨b,_,rfl⟩:=List.mem_map.1 hv
 rfl
theorem nH(l:List UInt8):aR π D (byteCells l) (byteCells l):=by
 rw [eQ]
 exact aR.mapped l fun _ _=> .int _ _
theorem uB(hp:cC σ σ' π δ D H w){a:Option Addr}{len cap m:Nat}{x':Value}{r:List Value}(h:lS σ m a=some r)(hx:VR π D (.slice a len cap) x')(hm:0<m→0<cap):
  ∃a' cap',x'= .slice a' len cap'∧cap≤cap'∧(a=none↔a'=none)∧∃r',(match a' with|some a=>loadCells a m|none=>pure #[]:Sem (Array Value)).run P w= .ok ⟨r'⟩ w∧aR π D r r'∧(∀v∈r,bH v=true)∧r.length=m:=by
 cases a with
 |none=>
  obtain rfl:=hx.ju
  obtain⟨h0,h1⟩:=aj (show iff (dS m) (some []) none=some r from h)
  rw [Tr.bz]at h0
  subst h0
  cases h1
  exact⟨none,cap,rfl,Nat.le_refl _,by simp,[],rfl,.nil,by simp,rfl⟩
 |some a=>
  have h':σ.db a.block a.off m=some r:=h
  by_cases h0:m=0
  ·subst h0
   obtain⟨a',c',rfl⟩:=hx.tn
   have hr:r=[]:=by
    obtain⟨c,_,e1⟩:=aa h'
    obtain⟨_,rfl⟩:=sub_eq e1
    simp
   subst hr
   have hcc:cap≤c':=by
    cases hx with
    |sl=>exact Nat.le_refl _
    |slz=>exact Nat.le_refl _
    |slo n c c' hn hs ha=>exact ha.2.1
   exact⟨some a',c',rfl,hcc,by simp,[],by simp [loadCells,loadCellsFrom],.nil,by simp,rfl⟩
  ·obtain⟨a',c',rfl,hcc,ha⟩:=kL hx (hm (by omega))
   obtain⟨r',h1,h2,h3⟩:=qP (P:=P) hp h' ha
   exact⟨some a',c',rfl,hcc,by simp,r',h1,h2,h3⟩
theorem wW(l:List UInt8)(n:Nat):(((ByteArray.mk ⟨l⟩).extract 0 n).data.map fun b=>Value.int .u8 (b.toNat:Int))=⟨byteCells (l.take n)⟩:=by
 rw [ur]
 simp [eQ]
theorem xE(hp:cC σ σ' π δ D H w){z n len:Nat}{x x':Value}{r:List Value}(h:nT σ z n x=some r)(hx:VR π D x x')(hl:A8 x=some len)(hn:n≤len):
  (Builtin.lenOf x').run P w= .ok len w∧∃r',(Builtin.firstCells z n x').run P w= .ok ⟨r'⟩ w∧aR π D r r'∧(∀v∈r,bH v=true):=by
 cases x<;>simp only [A8,reduceCtorEq,Option.some.injEq]at hl
 case string s=>
  obtain rfl:=hx.bn
  cases (show some (byteCells (s.data.toList.take n))=some r from h)
  obtain⟨⟨l⟩⟩:=s
  rw [aC]at hl
  subst hl
  refine⟨rfl,byteCells (l.take n),?_,nH _,byteCells_one _⟩
  simp only [Builtin.firstCells,Sem.run_pure,wW]
 case slice a n0 c=>
  subst hl
  have hle:=hx.Bn
  obtain⟨a',c',rfl,_,hnone,r',h1,h2,h3,_⟩:=uB (P:=P) hp (m:=n*z) (show lS σ (n*z) a=some r from h) hx (fun h=>by
   rcases Nat.eq_zero_or_pos n with h0|h0
   ·rw [h0]at h;simp at h
   ·omega)
  refine⟨rfl,r',?_,h2,h3⟩
  cases a' with
  |none=>exact h1
  |some a'=>exact h1
 case tuple vs=>
  obtain⟨rows,h1,h2⟩:=aa hl
  obtain⟨rows2,h3,h4⟩:=aa (show andThen (nQ vs.toList) (fun rows=>andThen (lq n rows) fun r=>aW z r)=some r from h)
  rw [h1]at h3
  cases h3
  obtain⟨rs,h5,h6⟩:=aa h4
  obtain⟨h7,rfl⟩:=ug n h5
  rw [ig h1]at hx
  rw [aC]at h2
  cases h2
  rcases hx.cJ with⟨rfl,c,rfl⟩|⟨cs,cs',z2,c',a',rfl,hr,hc,hf,ho,hv,_⟩
  ·simp at h6
   cases (show some []=some r from h6)
   simp only [List.length_nil,Nat.le_zero_eq]at hn
   subst hn
   exact⟨rfl,[],by simp [Builtin.firstCells],.nil,by simp⟩
  ·refine⟨rfl,?_⟩
   by_cases hn0:n=0
   ·subst hn0
    cases (show some []=some r from h6)
    exact⟨[],by simp [Builtin.firstCells,loadCells,loadCellsFrom],.nil,by simp⟩
   ·rcases hf with rfl|⟨hs,cc,hf,hw⟩
    ·simp at h7;omega
    have hp2:=fR 0 n hr
    rw [Nat.zero_mul,List.drop_zero,List.drop_zero]at hp2
    have hz:z2=z:=by
     cases rows with
     |nil=>simp at h7;omega
     |cons r0 rows=>
      obtain⟨m,rfl⟩:∃m,n=m+1:=⟨n-1,by omega⟩
      obtain⟨c1,_,g1,g2,_⟩:=bO (show aW z (r0::rows.take m)=some r from h6)
      obtain⟨c2,_,g3,g4,_⟩:=bO hr
      rw [g1]at g3
      cases g3
      omega
    subst hz
    rw [h6]at hp2
    cases hp2
    obtain⟨b,x,sp⟩:=a'
    simp only at hs
    subst hs
    simp only at hf
    obtain⟨hw1,hw2⟩:=hw
    simp only at hw1 hw2
    obtain⟨elem,fz,hB⟩:=hp.rel.uh b cc hf
    have hlen:=ey hr
    have hl:=hv.1
    have hle:n*z2≤cs'.length:=by rw [←hl,hlen];exact Nat.mul_le_mul_right _ hn
    refine⟨cs'.take (n*z2),?_,hv.take _,fun u hu=>ho u (List.mem_of_mem_take hu)⟩
    simp only [Builtin.firstCells]
    rw [run_loadCells hB (by show x+n*z2≤cc.length;omega)]
    congr 2
    show(cc.drop x).take (n*z2)=_
    rw [←hw2,List.take_take]
    congr 1;omega
theorem nZ(hp:cC σ σ' π δ D H w){a:Option Addr}{len cap off:Nat}{x' v:Value}{cs cs':List Value}{v0:Value}(h:nU σ cs off v0 a=some (v,σ'))(hx:VR π D (.slice a len cap) x')(hc:aR π D cs cs')(h1:∀u∈cs,bH u=true)(hcap:cs≠[]→0<cap):
  v=v0∧∃a' c',x'= .slice a' len c'∧∃π' D' w',(match a' with|some a=>storeCells (a.add off) cs'|none=>pure ():Sem Unit).run P w= .ok () w'∧Post σ σ' π δ D H w π' D' w':=by
 cases a with
 |none=>
  obtain rfl:=hx.ju
  cases (show some (v0,σ)=some (v,σ')from h)
  exact⟨rfl,none,cap,rfl,π,D,w,rfl,.refl hp⟩
 |some a=>
  have h':iff (dS (aY cs)) (some (v0,σ)) (andThen (σ.setAt a.block (Nat.add a.off off) cs) fun σ'=>some (v0,σ'))=some (v,σ'):=h
  rw [iff_eq]at h'
  by_cases h0:cs=[]
  ·subst h0
   cases (show some (v0,σ)=some (v,σ')from h')
   have:cs'=[]:=List.eq_nil_of_length_eq_zero hc.1.symm
   subst this
   obtain⟨a',c',rfl⟩:=hx.tn
   exact⟨rfl,some a',c',rfl,π,D,w,rfl,.refl hp⟩
  ·have hz:¬(dS (aY cs)=true):=by
    rw [Tr.bz,aC]
    exact fun h=>h0 (List.eq_nil_of_length_eq_zero h)
   rw [if_neg hz]at h'
   obtain⟨σ1,h2,h3⟩:=aa h'
   cases h3
   obtain⟨a',c',rfl,_,ha⟩:=kL hx (hcap h0)
   obtain⟨π',D',w',h4,h5⟩:=Bj (P:=P) hp h2 (ha.shift off) hc h1 (j0 hc h1)
   exact⟨rfl,some a',c',rfl,π',D',w',h4,h5⟩
theorem JB(a b:Nat):jh a b=Nat.min a b:=eO a b
theorem JC(hT:bw P T){t ty:TypeId}{d src d' src' v:Value}{bT:Array TypeId}{args:Array Value}(h:copyV T t d src σ=some (v,σ'))(hd:VR π D d d')(hs:VR π D src src')(ht:bT[0]? =some t)(ha0:args[0]? =some d')(ha1:args[1]? =some src')(hp:cC σ σ' π δ D H w):
  gU P σ σ' π δ D H w v (Builtin.copy_ bT ty args):=by
 obtain⟨dd,h1,e1⟩:=aa h
 obtain⟨e,h2,e2⟩:=aa e1
 obtain⟨z,h3,e3⟩:=aa e2
 obtain⟨base,dLen,cap,h4,e4⟩:=aq e3
 obtain⟨A9,h5,e5⟩:=aa e4
 obtain⟨cs,h6,e6⟩:=aa e5
 obtain rfl:=du h2
 obtain rfl:=gF h4
 rw [JB]at h6 e6
 have hle:=hd.Bn
 obtain⟨hlen,r',h7,h8,h9⟩:=xE (P:=P) hp h6 hs h5 (Nat.min_le_left _ _)
 have hcap:cs≠[]→0<cap:=by
  intro hne
  rcases Nat.eq_zero_or_pos cap with h0|h0
  ·exfalso
   have hd0:dLen=0:=by omega
   apply hne
   subst hd0
   rw [show Nat.min A9 0=0 from Nat.min_zero _]at h6
   cases src<;>simp only [nT,reduceCtorEq]at h6
   case tuple vs=>
    obtain⟨rows,_,h7⟩:=aa h6
    cases (show some []=some cs from h7)
    rfl
   case string s=>simp [eQ]at h6;exact h6
   case slice a n c=>
    cases a with
    |none=>
     obtain⟨_,h7⟩:=aj (show iff (dS (Nat.mul 0 z)) (some []) none=some cs from h6)
     cases h7;rfl
    |some a=>
     obtain⟨c,_,e1⟩:=aa (show andThen (σ.row a.block) (fun c=>sub c a.off (Nat.mul 0 z))=some cs from h6)
     obtain⟨_,rfl⟩:=sub_eq e1
     rw [show Nat.mul 0 z=0 from Nat.zero_mul _]
     simp
  ·exact h0
 obtain⟨rfl,a',c',rfl,π',D',w',h10,h11⟩:=nZ (P:=P) hp e6 hd h8 h9 hcap
 refine⟨.int .i64 (Int.ofNat (Nat.min A9 dLen)),π',D',w',?_,.int _ _,h11⟩
 simp only [Builtin.copy_,ht,ha0,ha1,Sem.run_bind,av hT h1,Result.andThen_ok,hlen,bV hT h3,h7]
 cases a' with
 |none=>simp only [Sem.run_pure]at h10 ⊢;cases h10;rfl
 |some a'=>
  have hz:a'.add 0=a':=by simp [Addr.add]
  simp only [hz]at h10
  simp only [Sem.run_bind,h10,Result.andThen_ok,Sem.run_pure]
  rfl
theorem Hd(hT:bw P T){t ty:TypeId}{x x' v:Value}{bT:Array TypeId}{args:Array Value}(h:Dn T t x σ=some (v,σ'))(hx:VR π D x x')(ht:bT[0]? =some t)(ha0:args[0]? =some x')(hp:cC σ σ' π δ D H w):
  gU P σ σ' π δ D H w v (Builtin.clear_ bT ty args):=by
 obtain⟨d,h1,e1⟩:=aa h
 obtain⟨e,h2,e2⟩:=aa e1
 obtain⟨i,hi,e3⟩:=aa e2
 obtain⟨z,hz,e4⟩:=aa e3
 obtain⟨base,len,cap,h4,e5⟩:=aq e4
 obtain⟨hle,e6⟩:=aj e5
 obtain rfl:=du h2
 obtain rfl:=gF h4
 rw [bk]at hle
 obtain⟨zv,g1,_,g3,g4,g5⟩:=gv hT hi hz
 have hzl:=(g5 π D).1
 have hzs:zv.cells.toList.length=zv.cells.size:=rfl
 have hrow:aR π D (fD z len) (Builtin.zeroCells zv.cells len).toList:=by
  rw [fS]
  unfold Builtin.zeroCells
  rw [ke zv.cells len]
  exact(g5 π D).dn len
 have hcap:fD z len≠[]→0<cap:=fun hne=>by
  rcases Nat.eq_zero_or_pos cap with h0|h0
  ·exfalso
   apply hne
   have:len=0:=by omega
   subst this
   rfl
  ·exact h0
 obtain⟨rfl,a',c',rfl,π',D',w',h10,h11⟩:=nZ (P:=P) hp e6 hx hrow (kg g4) hcap
 refine⟨.tuple #[],π',D',w',?_,aR.tuple rfl .nil,h11⟩
 have hu:=dp hT h1
 simp only [Builtin.clear_,ht,ha0,Sem.run_bind,run_underlying hu,Result.andThen_ok]
 cases a' with
 |none=>simp only [Sem.run_pure]at h10 ⊢;cases h10;rfl
 |some a'=>
  have hz0:a'.add 0=a':=by simp [Addr.add]
  simp only [hz0]at h10
  cases len with
  |zero=>
   have hnil:(Builtin.zeroCells zv.cells 0).toList=[]:=by
    unfold Builtin.zeroCells
    rw [ke zv.cells 0];rfl
   rw [hnil]at h10
   have h10:(.ok () w:Result Unit)= .ok () w':=h10
   cases h10
   rfl
  |succ n=>
   simp only [Sem.run_bind,dM hT hi g1,h10,Result.andThen_ok,Sem.run_pure]
theorem FD{k n z aA:Nat}(h:σ.kill k n=some (z,aA,σ')):∃c,σ.obj k=some (.cells c (some z) aA false false)∧c.length=n∧σ'=⟨σ.heap.set k (.cells c (some z) aA false true),σ.next,σ.low,min k σ.bp⟩:=by
 obtain⟨c,e,org',h1,h2⟩:=aq h
 obtain⟨o,h3,h4⟩:=aa h1
 obtain⟨h5,h6⟩:=aj h2
 obtain⟨z',h7,h8⟩:=aa h6
 rw [beq_iff,aC]at h5
 rw [mM h4]at h3
 simp only [Option.some.injEq,Prod.mk.injEq]at h8
 obtain⟨rfl,rfl,rfl⟩:=h8
 subst h7
 exact⟨c,h3,h5,by rw [eO]⟩
theorem DC(hw:WF σ){k:Nat}{o:aN}(h:σ.obj k=some o):k<σ.next:=by
 rcases Nat.lt_or_ge k σ.next with h'|h'
 ·exact h'
 ·rw [hw k h']at h;cases h
theorem He{k z aA:Nat}{c:List Value}(hp:cC σ ⟨σ.heap.set k (.cells c (some z) aA false true),σ.next,σ.low,min k σ.bp⟩ π δ D H w)(ho:σ.obj k=some (.cells c (some z) aA false false))(hkn:(∃i,π k=some i)∨(π k=none∧D k)):
  Post σ ⟨σ.heap.set k (.cells c (some z) aA false true),σ.next,σ.low,min k σ.bp⟩ π δ D H w π D w:=by
 have hk:=DC hp.wf ho
 have hobj:∀j,(aD.mk (σ.heap.set k (.cells c (some z) aA false true)) σ.next σ.low (min k σ.bp)).obj j=if j=k then some (.cells c (some z) aA false true)else σ.obj j:=fun j=>by
  show(σ.heap.set k _).get j=_
  rw [Tr.dm];rfl
 refine⟨⟨Nat.le_refl _,Nat.le_refl _,Nat.min_le_right _ _,fun hw j hj=>?_,fun j _=>?_⟩,⟨fun j i hj=>?_,hp.rel.lF,hp.rel.uh,hp.rel.AS,(hp.rel.weaken fun _ h=> .inl h).sep⟩,fun _ _ h=> .inl h,fun _ _ h=> .inl h,fun _ h=>h,fun _ h=> .inl h,fun j hj h1 h2=>?_,
  fun j i h=> .inr ⟨j,i,h,rfl⟩,fun j i h hr=> .inl ⟨j,i,h,hr,rfl⟩,eZ.same rfl,.refl π w⟩
 ·rw [hobj,if_neg (by have:σ.next≤j:=hj;omega)];exact hw j hj
 ·rw [hobj]
  by_cases e:j=k
  ·subst e
   rw [if_pos rfl,ho]
   exact .cells rfl (fun h=>by cases h) (fun h=>by cases h) (.inr rfl) (.inl (Nat.min_le_left _ _))
  ·rw [if_neg e];exact .refl _ _ _ _
 ·obtain⟨o,h1,h2⟩:=hp.rel.obj j i hj
  unfold ext at h1 ⊢
  have hnx:(aD.mk (σ.heap.set k (.cells c (some z) aA false true)) σ.next σ.low (min k σ.bp)).next=σ.next:=rfl
  rw [hnx,hobj]
  by_cases e:j=k
  ·subst e
   rw [if_pos hk,ho]at h1
   rw [if_pos hk,if_pos rfl]
   cases h1
   exact⟨_,rfl,h2⟩
  ·rw [if_neg e]
   exact⟨o,h1,h2⟩
 ·by_cases e:j=k
  ·subst e
   obtain⟨i,hi,_⟩:=hp.here ho rfl hkn
   exact⟨i,hi⟩
  ·exfalso
   obtain⟨q,h3,h4⟩:=h1
   rw [hobj,if_neg e]at h3
   exact h2 ⟨q,h3,h4⟩
theorem Bx{cc:Array Value}{x a n:Nat}{vs:List Value}(h:a+n≤x)(hx:x+vs.length≤cc.size):((ia cc x vs).toList.drop a).take n=(cc.toList.drop a).take n:=by
 have hsz:cc.toList.length=cc.size:=rfl
 apply List.ext_getElem?
 intro j
 simp only [ia,List.getElem?_take,List.getElem?_drop,List.getElem?_append,List.length_append,List.length_take]
 by_cases hj:j<n
 ·rw [if_pos hj,if_pos hj,if_pos (by omega),if_pos (by omega),if_pos (by omega)]
 ·rw [if_neg hj,if_neg hj]
theorem Hf{k z x sh:Nat}{c:List Value}{i:PI}{cc:Array Value}{elem:TypeId}{fz:Nat×Nat}{vs':List Value}(hp:cC σ (σ.new (.cells c (some z) i.aA false false)) π δ D H w)(hi:π k=some i)(hk:k<σ.next)
  (hall:∀j i₂,π j=some i₂→i₂.bm=i.bm→i₂.ro=false∧i₂.aA=i.aA∧δ j∧i₂.sh+i₂.len≤x) (hB:w.heap[i.bm]? =some (.cells cc elem fz)) (hsz:cc.size=i.bsize) (hx:x+vs'.length≤cc.size)
  (hend:sh+c.length=x+vs'.length) (h1:∀v∈c,bH v=true) (hv:aR π D c (((ia cc x vs').toList.drop sh).take c.length)) (hfz:∀y,y<i.bsize→¬(fz.1≤y∧y<fz.2)) (hro:i.ro=false):
  Post σ (σ.new (.cells c (some z) i.aA false false)) π δ D H w ⟨fun j=>if j=σ.next then some ⟨i.bm,sh,i.bsize,some z,i.aA,false,c.length⟩else π j,π.fr⟩ D (putObj w i.bm (.cells (ia cc x vs') elem fz)):=by
 have hn:π σ.next=none:=hp.fresh _ (Nat.le_refl _) (Nat.lt_succ_self _)
 have hblt:=aB hB
 have hkin:=(hp.rel.lF k i hi).1
 have hs:eV π D ⟨fun j=>if j=σ.next then some ⟨i.bm,sh,i.bsize,some z,i.aA,false,c.length⟩else π j,π.fr⟩ D:=⟨fun j i₂ hj=> .inl (by
  show(if j=σ.next then _ else π j)=some i₂
  rw [if_neg (fun e=>by rw [e,hn]at hj;cases hj)];exact hj),fun j hj hd=>⟨by
  show(if j=σ.next then _ else π j)=none
  rw [if_neg (fun e=>by
   rcases hp.dead j hd with h|h
   ·have:=cI hp.wf h;omega
   ·rw [lW]at h;omega)];exact hj,hd⟩,fun _ _ h=>h⟩
 refine⟨gM σ _,⟨fun j i₂ hj=>?_,fun j i₂ hj=>?_,fun B cc2 hf=>?_,fun j i₂ hj hro2=>?_,fun k₁ k₂ i₁ i₂ hne h2 h3 hbb=>?_⟩,fun j i₂ hj=>?_,fun j i₂ hj=> .inl ?_,fun _ h=>h,fun _ h=> .inl h,fun j hj h1 h2=>absurd (Bf (by omega) h1) h2,fun j i₂ hj=>?_,fun j i₂ hj hro2=>?_,eZ.same rfl,
  ⟨rfl,rfl,rfl,by simp [putObj],fun B hB2 hu=>eb fun e=>hu k i hi hro e.symm⟩⟩
 ·rw [Fx]
  have hj':(if j=σ.next then some ⟨i.bm,sh,i.bsize,some z,i.aA,false,c.length⟩else π j)=some i₂:=hj
  by_cases he:j=σ.next
  ·rw [if_pos he]at hj' ⊢
   cases hj'
   refine⟨_,rfl,ia cc x vs',elem,fz,eK hblt,?_,?_,h1,hv.mono hs,fun _=>hfz,rfl,rfl,rfl,rfl⟩
   ·rw [qL hx];exact hsz
   ·show sh+c.length≤i.bsize
    omega
  ·rw [if_neg he]at hj' ⊢
   obtain⟨q,h2,h3⟩:=hp.rel.obj j i₂ hj'
   refine⟨q,h2,?_⟩
   by_cases hb:i₂.bm=i.bm
   ·obtain⟨h4,h5,h6,h7⟩:=hall j i₂ hj' hb
    cases q with
    |cells c2 e2 org2 ro2 d2=>
     obtain⟨cc2,elem2,fz2,g1,g2,g3,g4,g5,g6,g7,g8,g9,g10⟩:=h3
     rw [hb,hB]at g1
     cases g1
     refine⟨ia cc x vs',elem,fz,by rw [hb];exact eK hblt,?_,g3,g4,?_,g6,g7,g8,g9,g10⟩
     ·rw [qL hx];exact g2
     ·rw [Bx (by omega) hx]
      exact g5.mono hs
    |map es2 c2=>obtain⟨es',g1,_⟩:=h3;rw [hb,hB]at g1;cases g1
    |iter s2 p2=>have g1:=h3.1;rw [hb,hB]at g1;cases g1
   ·exact h3.mono hs (by rw [eb hb])
 ·have hj':(if j=σ.next then some ⟨i.bm,sh,i.bsize,some z,i.aA,false,c.length⟩else π j)=some i₂:=hj
  split at hj'
  ·rename_i he;cases hj';exact⟨by show i.aA≤j;omega,fun h=>by cases h⟩
  ·exact hp.rel.lF j i₂ hj'
 ·obtain⟨el,fz2,g1⟩:=hp.rel.uh B cc2 hf
  exact⟨el,fz2,by rw [eb (fun e=>by
   have h3:=hp.rel.AS k i hi hro
   subst e
   rw [show π.fr i.bm=some cc2 from hf]at h3;cases h3)];exact g1⟩
 ·have hj':(if j=σ.next then some ⟨i.bm,sh,i.bsize,some z,i.aA,false,c.length⟩else π j)=some i₂:=hj
  split at hj'
  ·cases hj';exact hp.rel.AS k i hi hro
  ·exact hp.rel.AS j i₂ hj' hro2
 ·have h2':(if k₁=σ.next then some ⟨i.bm,sh,i.bsize,some z,i.aA,false,c.length⟩else π k₁)=some i₁:=h2
  have h3':(if k₂=σ.next then some ⟨i.bm,sh,i.bsize,some z,i.aA,false,c.length⟩else π k₂)=some i₂:=h3
  by_cases e1:k₁=σ.next
  ·rw [if_pos e1]at h2'
   rw [if_neg (by omega)]at h3'
   cases h2'
   obtain⟨h4,h5,h6,h7⟩:=hall k₂ i₂ h3' hbb.symm
   exact .inr ⟨rfl,h4,h5.symm,.inr ⟨.inl h6,by show i₂.sh+i₂.len≤sh+c.length;omega⟩⟩
  ·rw [if_neg e1]at h2'
   by_cases e2:k₂=σ.next
   ·rw [if_pos e2]at h3'
    cases h3'
    obtain⟨h4,h5,h6,h7⟩:=hall k₁ i₁ h2' hbb
    exact .inr ⟨h4,rfl,h5,.inl ⟨.inl h6,by show i₁.sh+i₁.len≤sh+c.length;omega⟩⟩
   ·rw [if_neg e2]at h3'
    rcases hp.rel.sep k₁ k₂ i₁ i₂ hne h2' h3' hbb with h4|⟨h4,h5,h6,h7⟩
    ·exact .inl h4
    ·exact .inr ⟨h4,h5,h6,h7.imp (fun h=>⟨.inl h.1,h.2⟩) (fun h=>⟨.inl h.1,h.2⟩)⟩
 ·have hj':(if j=σ.next then some ⟨i.bm,sh,i.bsize,some z,i.aA,false,c.length⟩else π j)=some i₂:=hj
  split at hj'
  ·rename_i he;subst he;exact .inr ⟨hn,Nat.le_refl _,Nat.lt_succ_self _⟩
  ·exact .inl hj'
 ·show(if j=σ.next then _ else π j)=some i₂
  rw [if_neg (fun e=>by rw [e,hn]at hj;cases hj)];exact hj
 ·have hj':(if j=σ.next then some ⟨i.bm,sh,i.bsize,some z,i.aA,false,c.length⟩else π j)=some i₂:=hj
  split at hj'
  ·cases hj';exact .inr ⟨k,i,hi,rfl⟩
  ·exact .inr ⟨j,i₂,hj',rfl⟩
 ·have hj':(if j=σ.next then some ⟨i.bm,sh,i.bsize,some z,i.aA,false,c.length⟩else π j)=some i₂:=hj
  split at hj'
  ·cases hj';exact .inl ⟨k,i,hi,hro,rfl⟩
  ·exact .inl ⟨j,i₂,hj',hro2,rfl⟩
theorem ik{need z aA:Nat}{cs:List Value}{v:Value}(h:bM σ need cs z aA=some (v,σ')):v= .slice (some ⟨σ.next,0,some z⟩) need need∧σ'=σ.new (.cells cs (some z) aA false false):=by
 simp only [bM,Option.some.injEq,Prod.mk.injEq]at h
 exact⟨h.1.symm,h.2.symm⟩
theorem xF{need cap z aA:Nat}{cs cs' rest:List Value}{cc:Array Value}{elem:TypeId}(fz:Nat×Nat)(hfz:∀y,y<cc.size→¬(fz.1≤y∧y<fz.2))(hp:cC σ (σ.new (.cells cs (some z) aA false false)) π δ D H w)(hc:aR π D cs cs')(h1:∀v∈cs,bH v=true)(hcc:cc.toList=cs'++rest)
  (hsz:cc.size=cap*z) (hn:need≤cap) (horg:aA≤σ.next) (hkin:aA=σ.next∨∃k₀ i₀,π k₀=some i₀∧i₀.aA=aA):
  ∃π',Post σ (σ.new (.cells cs (some z) aA false false)) π δ D H w π' D (w.alloc (.cells cc elem fz))∧VR π' D (.slice (some ⟨σ.next,0,some z⟩) need need) (.slice (some ⟨w.heap.size,0,none⟩) need cap):=by
 have hl:cc.toList.length=cc.size:=rfl
 have hl2:=hc.1
 have hl3:cc.size=cs'.length+rest.length:=by rw [←hl,hcc,List.length_append]
 refine⟨_,ui (i:=⟨w.heap.size,0,cc.size,some z,aA,false,cs.length⟩) hp rfl ?_ ⟨horg,fun h=>by cases h⟩ hkin,.slo need need cap (Nat.le_refl _) rfl ⟨rfl,hn,.inl ⟨_,if_pos rfl,rfl,rfl,.inl ⟨rfl,by simp [hsz]⟩⟩⟩⟩
 refine⟨cc,elem,fz,by rw [heap_alloc,if_pos rfl],rfl,by show 0+cs.length≤cc.size;omega,h1,?_,fun _=>hfz,rfl,rfl,rfl,rfl⟩
 simp only [List.drop_zero]
 rw [hcc,hl2,List.take_left]
 exact hc
def JD:TypeDesc→Bool
 | .int _=>true
 |_=>false
inductive Hg(P:Program)(dx:TypeDesc)(e:TypeId)(i:TypeInfo)(size:Nat)(x':Value)(n:Nat)(w w₁:World)(ys':List Value):Prop
 |len (hd:JD dx=false) (hn:(Builtin.lenOf x').run P w= .ok n w) (hc:(Builtin.firstCells size n x').run P w₁= .ok ⟨ys'⟩ w₁)
 |fD (k j:IntKind) (m:Int) (hd:dx= .int k) (hx:x'= .int j m) (hw:IntKind.i64.wrap m=m) (h0:¬m<0) (h48:¬m*(i.bytes:Int)>2^48) (hn:n=m.toNat)
   (hc:(if n*size=0 then pure #[]else do pure (Builtin.zeroCells (←zeroValue e).cells n):Sem (Array Value)).run P w₁= .ok ⟨ys'⟩ w₁)
theorem By(hT:bw P T){e:TypeId}{ei:TI}(hi:T.Y.get e=some ei){x x':Value}{dx:TypeDesc}{n:Nat}{ys:List Value}(h:sg σ ei x dx=some (n,ys))(hx:VR π D x x'):
  ys.length=n*ei.size∧∀w₁:World,cC σ σ' π δ D H w₁→∃ys',Hg P dx e ei.info ei.size x' n w w₁ ys'∧aR π D ys ys'∧(∀v∈ys,bH v=true):=by
 by_cases hd:∃k,dx= .int k
 ·obtain⟨k0,rfl⟩:=hd
  obtain⟨k,m,h1,e1⟩:=ae (show ak (mK x) (fun k n=>andThen (oQ n 100000) fun m=>andThen (dY ei) fun z=>iff (and (sameKind k .i64) (Nat.ble (Nat.mul m ei.info.bytes) (nat_lit 1000000000))) (some (m,fD z m)) none)=some (n,ys)from h)
  obtain⟨m1,h2,e2⟩:=aa e1
  obtain⟨z,h3,e3⟩:=aa e2
  obtain⟨h4,e4⟩:=aj e3
  simp only [Option.some.injEq,Prod.mk.injEq]at e4
  obtain⟨rfl,rfl⟩:=e4
  obtain⟨g1,g2,rfl⟩:=tj h2
  obtain rfl:=cY h1
  obtain rfl:=hx.aZ
  rw [Bool.and_eq_true,bk]at h4
  have hb:m.toNat*ei.info.bytes≤1000000000:=h4.2
  obtain⟨zv,z1,_,z3,z4,z5⟩:=gv hT hi h3
  have hw:IntKind.i64.wrap m=m:=wrap64 g1 (by omega)
  have hbm:m*(ei.info.bytes:Int)≤1000000000:=by
   have:((m.toNat*ei.info.bytes:Nat):Int)≤1000000000:=by omega
   rw [Int.natCast_mul,Int.toNat_of_nonneg g1]at this
   exact this
  have h48:¬(m*(ei.info.bytes:Int)>2^48):=by
   have:(2:Int)^48=281474976710656:=by decide
   omega
  have hys:(fD z m.toNat).length=m.toNat*ei.size:=by
   rw [fS,List.length_flatten,List.map_replicate,List.sum_replicate_nat,z3]
  refine⟨hys,fun w₁ hp=>?_⟩
  have hzl:=(z5 π D).1
  have hzs:zv.cells.toList.length=zv.cells.size:=rfl
  by_cases h0:m.toNat*ei.size=0
  ·refine⟨[],.fD k0 k m rfl rfl hw (by omega) h48 rfl ?_,?_,kg z4⟩
   ·simp only [if_pos h0,Sem.run_pure]
   ·rw [h0]at hys
    rw [List.eq_nil_of_length_eq_zero hys];exact .nil
  ·refine⟨(Builtin.zeroCells zv.cells m.toNat).toList,.fD k0 k m rfl rfl hw (by omega) h48 rfl ?_,?_,kg z4⟩
   ·simp only [if_neg h0,Sem.run_bind,dM hT hi z1,Result.andThen_ok,Sem.run_pure]
   ·rw [fS]
    have:=ke zv.cells m.toNat
    unfold Builtin.zeroCells
    rw [this]
    exact(z5 π D).dn _
 ·have hm:JD dx=false:=by cases dx<;>first|rfl|exact absurd ⟨_,rfl⟩ hd
  have h':(andThen (A8 x) fun n=>andThen (nT σ ei.size n x) fun ys=>iff (Nat.beq (aY ys) (Nat.mul n ei.size)) (some (n,ys)) none)=some (n,ys):=by
   cases dx<;>first|exact h|exact absurd ⟨_,rfl⟩ hd
  obtain⟨n1,h1,e1⟩:=aa h'
  obtain⟨ys1,h2,e2⟩:=aa e1
  obtain⟨h3,e3⟩:=aj e2
  simp only [Option.some.injEq,Prod.mk.injEq]at e3
  obtain⟨rfl,rfl⟩:=e3
  rw [beq_iff,aC]at h3
  refine⟨h3,fun w₁ hp=>?_⟩
  obtain⟨_,r',h5,h6,h7⟩:=xE (P:=P) hp h2 hx h1 (Nat.le_refl _)
  refine⟨r',.len hm ?_ h5,h6,h7⟩
  cases x<;>simp only [A8,reduceCtorEq,Option.some.injEq]at h1
  case string s=>obtain rfl:=hx.bn;obtain⟨⟨l⟩⟩:=s;rw [aC]at h1;subst h1;rfl
  case slice a n0 c=>obtain⟨a',c',rfl⟩:=zn hx;subst h1;rfl
  case tuple vs=>
   obtain⟨rows,g1,g2⟩:=aa h1
   rw [ig g1]at hx
   rw [aC]at g2
   cases g2
   rcases hx.cJ with⟨rfl,c,rfl⟩|⟨_,_,_,_,_,rfl,_⟩<;>rfl
theorem gG(hT:bw P T){sT xT ty e:TypeId}{ei:TI}{dx:TypeDesc}{bT:Array TypeId}{args:Array Value}{x':Value}{a':Option Addr}{len cap' n:Nat}{ys':List Value}{w':World}
  (h1:desc T sT=some (.slice e)) (hi:T.Y.get e=some ei) (h2:desc T xT=some dx) (ht0:bT[0]? =some sT) (ht1:bT[1]? =some xT) (ha0:args[0]? =some (.slice a' len cap')) (ha1:args[1]? =some x')
  (hn:Hg P dx e ei.info ei.size x' n w w ys') (hfit:len+n≤cap')
  (hs:(match a' with|some a=>storeCells (a.add (len*ei.size)) ys'|none=>pure ():Sem Unit).run P w= .ok () w'):(Builtin.append_ bT ty args).run P w= .ok (.slice a' (len+n) cap') w':=by
 cases hn with
 |fD k j m hd hx hw h0 h48 hn hc=>
  subst hd;subst hx;subst hn
  simp only [Builtin.append_,ht0,ht1,ha0,ha1,Sem.run_bind,av hT h1,Result.andThen_ok,eL hT hi,av hT h2,Sem.run_pure,if_true,asInt,asIntOf,hw,if_neg h0,fh hT hi,if_neg h48,if_pos hfit,Bool.not_true,Bool.false_eq_true,if_false]
  rw [hc]
  simp only [Result.andThen_ok]
  cases a' with
  |none=>simp only [Sem.run_pure]at hs ⊢;cases hs;rfl
  |some a=>simp only [Sem.run_bind,hs,Result.andThen_ok,Sem.run_pure]
 |len hd hn hc=>
  cases dx<;>first|(cases hd;done)|skip
  all_goals
   simp only [Builtin.append_,ht0,ht1,ha0,ha1,Sem.run_bind,av hT h1,Result.andThen_ok,eL hT hi,av hT h2,Sem.run_pure,Bool.false_eq_true,if_false,hn,if_pos hfit,Bool.not_false,if_true,hc]
   cases a' with
   |none=>simp only [Sem.run_pure]at hs ⊢;cases hs;rfl
   |some a=>simp only [Sem.run_bind,hs,Result.andThen_ok,Sem.run_pure]
theorem uC(hT:bw P T){sT xT ty e:TypeId}{ei:TI}{dx:TypeDesc}{bT:Array TypeId}{args:Array Value}{x' zv:Value}{a':Option Addr}{len cap' n:Nat}{ys' old':List Value}
  (h1:desc T sT=some (.slice e)) (hi:T.Y.get e=some ei) (h2:desc T xT=some dx) (ht0:bT[0]? =some sT) (ht1:bT[1]? =some xT) (ha0:args[0]? =some (.slice a' len cap')) (ha1:args[1]? =some x')
  (hn:Hg P dx e ei.info ei.size x' n w w.drew ys') (hfit:cap'<len+n) (hb:(len+n)*(ei.info.bytes+1)≤1000000000) (_hb1:1≤ei.info.bytes) (hz:ei.info.zero=some zv)
  (ho:(Builtin.firstCells ei.size len (.slice a' len cap')).run P w.drew= .ok ⟨old'⟩ w.drew):
  (Builtin.append_ bT ty args).run P w= .ok (.slice (some ⟨w.heap.size,0,none⟩) (len+n) (grownCap w (len+n) cap' e)) (w.drew.alloc (.cells (⟨old'⟩++⟨ys'⟩++Builtin.zeroCells zv.cells (grownCap w (len+n) cap' e-(len+n))) e)):=by
 rw [Nat.mul_succ]at hb
 have hfit':¬(len+n≤cap'):=by omega
 have h63:¬(((len+n:Nat):Int)>IntKind.i64.max):=by
  show¬(((len+n:Nat):Int)>9223372036854775807)
  omega
 have h63':∀q:Prop,¬(((len+n:Nat):Int)>IntKind.i64.max∧q):=fun q h=>h63 h.1
 have h48:¬(Builtin.nextslicecap (len+n) cap'*ei.info.bytes>2^48):=by
  have:=growslice_fits (bytes:=ei.info.bytes) hfit (by omega)
  have h2:(2:Nat)^48=281474976710656:=by decide
  omega
 have hch:(choose (.appendCap (len+n) cap' e)).run P w= .ok (grownCap w (len+n) cap' e) w.drew:=by
  rw [run_choose];rfl
 cases hn with
 |fD k j m hd hx hw h0 h48' hn hc=>
  subst hd;subst hx;subst hn
  simp only [Builtin.append_,ht0,ht1,ha0,ha1,Sem.run_bind,av hT h1,Result.andThen_ok,eL hT hi,av hT h2,Sem.run_pure,if_true,asInt,asIntOf,hw,if_neg h0,fh hT hi,if_neg h48',if_neg hfit',if_neg (h63' _),if_neg h48,hch,run_askRoom,ho,Bool.not_true,Bool.false_eq_true,if_false]
  rw [hc]
  simp only [Result.andThen_ok,dM hT hi hz]
  rfl
 |len hd hn hc=>
  cases dx<;>first|(cases hd;done)|skip
  all_goals
   simp only [Builtin.append_,ht0,ht1,ha0,ha1,Sem.run_bind,av hT h1,Result.andThen_ok,eL hT hi,av hT h2,Sem.run_pure,Bool.false_eq_true,if_false,hn,fh hT hi,if_neg hfit',if_neg (h63' _),if_neg h48,hch,run_askRoom,ho,Bool.not_false,if_true,hc,dM hT hi hz]
   rfl
theorem grownCap_le(w:World)(need iw:Nat)(e:TypeId):need≤grownCap w need iw e:=by
 unfold grownCap
 simp only [Question.cut]
 omega
theorem uD(z:Array Value)(n:Nat):(Builtin.zeroCells z n).size=n*z.size:=by simp [Builtin.zeroCells]
theorem DD{a:Option Addr}{len cap n z:Nat}{x':Value}(_hx:VR π D (.slice a len cap) x'){ys:List Value}(hy:ys.length=n*z)(hf:len+n≤cap):ys≠[]→0<cap:=by
 intro hne
 rcases Nat.eq_zero_or_pos n with h0|h0
 ·subst h0
  rw [Nat.zero_mul]at hy
  exact absurd (List.eq_nil_of_length_eq_zero hy) hne
 ·omega
theorem xG(hT:bw P T){sT xT ty e:TypeId}{ei:TI}{dx:TypeDesc}{bT:Array TypeId}{args:Array Value}{x':Value}{a':Option Addr}{len cap' n aA:Nat}{ys iw ys' old' z:List Value}{v:Value}
  (h1:desc T sT=some (.slice e)) (hi:T.Y.get e=some ei) (h2:desc T xT=some dx) (ht0:bT[0]? =some sT) (ht1:bT[1]? =some xT) (ha0:args[0]? =some (.slice a' len cap')) (ha1:args[1]? =some x')
  (hn:Hg P dx e ei.info ei.size x' n w w.drew ys') (hfit:cap'<len+n) (hb:(len+n)*(ei.info.bytes+1)≤1000000000) (hb1:1≤ei.info.bytes) (hz:dY ei=some z)
  (ho:(Builtin.firstCells ei.size len (.slice a' len cap')).run P w.drew= .ok ⟨old'⟩ w.drew) (hys:aR π D ys ys') (hold:aR π D iw old') (hys1:∀v∈ys,bH v=true) (hold1:∀v∈iw,bH v=true)
  (hyl:ys.length=n*ei.size) (hol:iw.length=len*ei.size) (h:bM σ (len+n) (gL iw ys) ei.size aA=some (v,σ')) (horg:aA≤σ.next) (hkin:aA=σ.next∨∃k₀ i₀,π k₀=some i₀∧i₀.aA=aA)
  (hp:cC σ σ' π δ D H w):gU P σ σ' π δ D H w v (Builtin.append_ bT ty args):=by
 obtain⟨rfl,rfl⟩:=ik h
 rw [eH]at hp ⊢
 obtain⟨zv,z1,_,z3,z4,z5⟩:=gv hT hi hz
 have hzl:=(z5 π D).1
 have hzs:zv.cells.toList.length=zv.cells.size:=rfl
 have hrun:=uC (ty:=ty) hT h1 hi h2 ht0 ht1 ha0 ha1 hn hfit hb hb1 z1 ho
 have hle:=grownCap_le w (len+n) cap' e
 have h3:=hys.1
 have h4:=hold.1
 obtain⟨π',h5,h6⟩:=xF (0,0) (fun y _ h=>by simp only at h;omega) (elem:=e) (need:=len+n) (cap:=grownCap w (len+n) cap' e) (cc:=⟨old'⟩++⟨ys'⟩++Builtin.zeroCells zv.cells (grownCap w (len+n) cap' e-(len+n)))
  (rest:=(Builtin.zeroCells zv.cells (grownCap w (len+n) cap' e-(len+n))).toList) hp.drew (hold.append hys) (fun v hv=>by
   rcases List.mem_append.1 hv with h|h
   ·exact hold1 v h
   ·exact hys1 v h) (by simp) (by
   simp only [Array.size_append,uD,List.size_toArray]
   rw [show zv.cells.size=ei.size by omega,←h4,←h3,hol,hyl,←Nat.add_mul,←Nat.add_mul]
   congr 1
   omega) hle horg hkin
 exact⟨_,π',D,_,hrun,h6,h5.drew⟩
theorem VR.Hh{a a':Option Addr}{n m c c':Nat}(h:VR π D (.slice a n c) (.slice a' n c'))(hm:m≤c):VR π D (.slice a m c) (.slice a' m c'):=by
 cases h with
 |sl0 n c hn=>exact .sl0 _ _ hm
 |sl n c hn hs ha=>exact .sl _ _ hm hs ha
 |slz a a' hs=>
  have:m=0:=by omega
  subst this
  exact .slz a a' hs
 |slo n c c' hn hs ha=>
  refine .slo _ _ _ hm hs ⟨ha.1,ha.2.1,?_⟩
  rcases ha.2.2 with⟨i,h1,h2,h3,h4⟩|h1
  ·refine .inl ⟨i,h1,h2,h3,?_⟩
   rcases h4 with h4|⟨h4,h5,h6⟩
   ·exact .inl h4
   ·exact .inr ⟨by omega,h5,h6⟩
  ·exact .inr h1
theorem wX{size n cap:Nat}{a':Option Addr}:Builtin.firstCells size n (.slice a' n cap)=(match a' with|some a=>loadCells a (n*size)|none=>pure #[]:Sem (Array Value)):=by
 cases a'<;>rfl
theorem zp(hT:bw P T){sT xT ty e:TypeId}{ei:TI}{dx:TypeDesc}{bT:Array TypeId}{args:Array Value}{x':Value}{a':Option Addr}{k off len cap cap' n:Nat}{ys iw ys' ys2' old' z:List Value}{v:Value}
  (h1:desc T sT=some (.slice e)) (hi:T.Y.get e=some ei) (h2:desc T xT=some dx) (ht0:bT[0]? =some sT) (ht1:bT[1]? =some xT) (ha0:args[0]? =some (.slice a' len cap')) (ha1:args[1]? =some x')
  (hx:VR π D (.slice (some ⟨k,off,some ei.size⟩) len cap) (.slice a' len cap'))
  (hn:Hg P dx e ei.info ei.size x' n w w.drew ys') (hn2:Hg P dx e ei.info ei.size x' n w w ys2') (hfit:cap<len+n) (hb:(len+n)*(ei.info.bytes+1)≤1000000000) (hb1:1≤ei.info.bytes) (hz:dY ei=some z)
  (ho:(Builtin.firstCells ei.size len (.slice a' len cap')).run P w.drew= .ok ⟨old'⟩ w.drew) (hys:aR π D ys ys') (hys2:aR π D ys ys2') (hold:aR π D iw old') (hys1:∀v∈ys,bH v=true) (hold1:∀v∈iw,bH v=true)
  (hyl:ys.length=n*ei.size) (hol:iw.length=len*ei.size) (hcells:σ.db k off (len*ei.size)=some iw)
  (h:xn σ ei.size len (len+n) (gL iw ys) (some ⟨k,off,some ei.size⟩)=some (v,σ'))
  (hp:cC σ σ' π δ D H w):gU P σ σ' π δ D H w v (Builtin.append_ bT ty args):=by
 obtain⟨_,e1⟩:=aj (show iff (Nat.beq ei.size ei.size) (au (σ.kill k (Nat.add off (Nat.mul len ei.size))) fun z' aA σ'=>iff (Nat.beq z' ei.size) (bM σ' (len+n) (gL iw ys) ei.size aA) none) none=some (v,σ')from h)
 obtain⟨z',aA,σ1,e2,e3⟩:=aq e1
 obtain⟨e4,e5⟩:=aj e3
 rw [beq_iff]at e4
 subst e4
 obtain⟨c,hobj,hcl,hσ1⟩:=FD e2
 have hcl':c.length=off+len*ei.size:=hcl
 obtain⟨hv,hσ'⟩:=ik e5
 have hk:=DC hp.wf hobj
 have hsl:∃i,π k=some i∧∃A,a'=some A∧A.spot=none∧A.block=i.bm∧cap≤cap'∧i.s4=some ei.size∧((A.off=i.sh+off∧A.off+cap'*ei.size=i.bsize)∨(len=0∧cap=0∧cap'=0)):=by
  cases hx with
  |sl n c hn hs ha=>cases hs
  |slz a a' hs=>cases hs
  |slo n c c' hn hs ha=>
   cases hs
   obtain⟨g1,g2,g3⟩:=ha
   rcases g3 with⟨i,g4,g5,g6,g7⟩|⟨g4,g5⟩
   ·exact⟨i,g4,_,rfl,g1,g5,g2,g6,g7⟩
   ·exfalso
    rcases hp.dead k g5 with⟨o,q1,q2⟩|q1
    ·rw [hobj]at q1;cases q1;cases q2
    ·have:=hp.Rw;omega
 obtain⟨i,hik,A,rfl,hA1,hA2,hcc,hA3,hA4⟩:=hsl
 obtain⟨i',hik',cc,elem,fz,hB,hsz,hle,h1c,hvs,hfz,hes,horg,hro,hl⟩:=hp.here hobj rfl (.inl ⟨i,hik⟩)
 rw [hik]at hik';cases hik'
 have hmono1:cm σ σ1:=by
  subst hσ1
  refine⟨Nat.le_refl _,Nat.le_refl _,Nat.min_le_right _ _,fun hw j hj=>?_,fun j _=>?_⟩
  ·show(σ.heap.set k _).get j=_
   rw [Tr.dm,if_neg (by have:σ.next≤j:=hj;omega)];exact hw j hj
  ·show ea j _ _ (σ.obj j) ((σ.heap.set k (.cells c (some ei.size) aA false true)).get j)
   rw [Tr.dm]
   by_cases e:j=k
   ·subst e
    rw [if_pos rfl,hobj]
    exact .cells rfl (fun h=>by cases h) (fun h=>by cases h) (.inr rfl) (.inl (Nat.min_le_left _ _))
   ·rw [if_neg e];exact .refl _ _ _ _
 have hmono2:cm σ1 σ':=by rw [hσ'];exact gM _ _
 have hp1:cC σ σ1 π δ D H w:=hp.first hmono1 hmono2
 have hpost1:Post σ σ1 π δ D H w π D w:=by
  subst hσ1
  exact He hp1 hobj (.inl ⟨i,hik⟩)
 have hp2:cC σ1 σ' π (grow σ σ1 δ) D H w:=hp.second hpost1 hmono2
 have hnext:σ1.next=σ.next:=by rw [hσ1]
 have hdead1:bd σ1 k:=⟨.cells c (some ei.size) aA false true,by
  rw [hσ1]
  show(σ.heap.set k _).get k=_
  rw [Tr.dm,if_pos rfl],rfl⟩
 have halive:¬bd σ k:=fun⟨o,q1,q2⟩=>by rw [hobj]at q1;cases q1;cases q2
 have hkorg:=(hp.rel.lF k i hik).1
 rcases Nat.lt_or_ge cap' (len+n)with hgt|hin
 ·obtain⟨v',π',D',w',r1,r2,r3⟩:=xG (ty:=ty) hT h1 hi h2 ht0 ht1 ha0 ha1 hn hgt hb hb1 hz ho hys hold hys1 hold1 hyl hol e5 (by rw [←horg,hnext];omega) (.inr ⟨k,i,hik,horg⟩) hp2
  exact⟨v',π',D',w',r1,r2,Post.trans hp hpost1 r3⟩
 ·rcases hA4 with⟨hA5,hA6⟩|⟨_,_,h0⟩
  ·have hmul:(len+n)*ei.size≤cap'*ei.size:=Nat.mul_le_mul_right _ hin
   rw [Nat.add_mul]at hmul
   have hyl2:=hys2.1
   have hro':i.ro=false:=hro
   have hx2:i.sh+c.length+ys2'.length≤cc.size:=by omega
   have hstore:=iI (P:=P) i.bm elem fz (i.sh+c.length) ys2' 0 cc w hB (j0 hys2 hys1) (by omega) (fun y hy1 hy2=>hfz rfl y (by omega))
   rw [Nat.add_zero]at hstore
   have hAa:A.add (len*ei.size)=⟨i.bm,i.sh+c.length,none⟩:=by
    obtain⟨b,o,s⟩:=A
    simp only at hA1 hA2 hA5
    subst hA1;subst hA2;subst hA5
    rw [Addr.add_plain,hcl',←Nat.add_assoc]
   have hall:∀j i₂,π j=some i₂→i₂.bm=i.bm→i₂.ro=false∧i₂.aA=i.aA∧(grow σ σ1 δ) j∧i₂.sh+i₂.len≤i.sh+c.length:=fun j i₂ hj hb2=>by
    by_cases e:j=k
    ·subst e
     rw [hik]at hj;cases hj
     exact⟨hro',rfl,.inr ⟨hdead1,halive⟩,by omega⟩
    ·rcases hp.rel.sep k j i i₂ (Ne.symm e) hik hj hb2.symm with⟨q1,_⟩|⟨_,q2,q3,q4⟩
     ·rw [hro']at q1;cases q1
     ·rcases q4 with⟨q4,_⟩|⟨q4,q5⟩
      ·exfalso
       have hnx:=hmono2.next
       rcases hp.Ju k i q4 hik with q5|⟨_,q5|⟨q5,_⟩⟩
       ·omega
       ·exact halive q5
       ·exact q5 (hmono2.dead (hmono1.wf hp.wf) hdead1)
      ·exact⟨q2,q3.symm,.inl q4,by omega⟩
   obtain⟨rw1,e6,e7⟩:∃cr,σ.row k=some cr∧sub cr off (len*ei.size)=some iw:=by
    obtain⟨cr,q1,q2⟩:=aa hcells
    exact⟨cr,q1,q2⟩
   have hrow:rw1=c:=by
    obtain⟨o,q1,q2⟩:=aa e6
    rw [show σ.obj k=some (.cells c (some ei.size) aA false false)from hobj]at q1
    cases q1
    cases q2;rfl
   subst hrow
   obtain⟨_,hsub⟩:=sub_eq e7
   have hwin:aR π D (iw++ys) (((ia cc (i.sh+rw1.length) ys2').toList.drop (i.sh+off)).take (iw++ys).length):=by
    have hlen:(iw++ys).length=len*ei.size+ys2'.length:=by rw [List.length_append,hol,hyl2]
    rw [hlen,show i.sh+rw1.length=(i.sh+off)+len*ei.size by omega,lX (Nat.le_refl _) (by omega)]
    have hdrop:(((cc.toList.drop (i.sh+off)).take (len*ei.size+ys2'.length)).drop (len*ei.size+ys2'.length))=[]:=by
     apply List.eq_nil_of_length_eq_zero
     simp only [List.length_drop,List.length_take]
     omega
    rw [hdrop,List.append_nil]
    refine aR.append ?_ hys2
    rw [List.take_take,Nat.min_eq_left (by omega),hsub]
    have:=(hvs.drop off).take (len*ei.size)
    rwa [nX (by omega)]at this
   have hpost2:=Hf (σ:=σ1) (z:=ei.size) (x:=i.sh+rw1.length) (sh:=i.sh+off) (c:=iw++ys) (vs':=ys2') (k:=k) (i:=i) (by
    have:=hp2
    rw [hσ',eH]at this
    rw [horg];exact this) hik (by omega) hall hB hsz hx2 (by simp only [List.length_append];omega) (fun v hv=>by
    rcases List.mem_append.1 hv with h|h
    ·exact hold1 v h
    ·exact hys1 v h) hwin (hfz rfl) hro'
   rw [horg,←eH,←hσ']at hpost2
   refine⟨.slice (some A) (len+n) cap',_,_,_,gG (ty:=ty) hT h1 hi h2 ht0 ht1 ha0 ha1 hn2 hin (w':=putObj w i.bm (.cells (ia cc (i.sh+rw1.length) ys2') elem fz)) ?_,?_,Post.trans hp hpost1 hpost2⟩
   ·show(storeCells (A.add (len*ei.size)) ys2').run P w=_
    rw [hAa];exact hstore
   ·rw [hv]
    refine .slo _ _ _ (Nat.le_refl _) rfl ⟨hA1,hin,.inl ⟨_,if_pos rfl,hA2,rfl,.inl ⟨?_,hA6⟩⟩⟩
    show A.off=i.sh+off+0
    omega
  ·omega
theorem sj{z len need:Nat}{cs:List Value}{a:Option Addr}(h:∀k off s,a≠some ⟨k,off,some s⟩):xn σ z len need cs a=bM σ need cs z σ.next:=by
 cases a with
 |none=>rfl
 |some a=>
  obtain⟨k,off,s⟩:=a
  cases s with
  |none=>rfl
  |some s=>exact absurd rfl (h k off s)
theorem DE(hT:bw P T){sT xT ty:TypeId}{s x s' x' v:Value}{bT:Array TypeId}{args:Array Value}(h:th T sT xT s x σ=some (v,σ'))(hs:VR π D s s')(hx:VR π D x x')
  (ht0:bT[0]? =some sT) (ht1:bT[1]? =some xT) (ha0:args[0]? =some s') (ha1:args[1]? =some x') (hp:cC σ σ' π δ D H w):gU P σ σ' π δ D H w v (Builtin.append_ bT ty args):=by
 obtain⟨d,h1,e1⟩:=aa h
 obtain⟨e,h2,e2⟩:=aa e1
 obtain⟨ei,hi,e3⟩:=aa e2
 rcases ee e3 with⟨vs,rfl,e3⟩|e3
 ·obtain⟨rows,h3,e4⟩:=aa e3
  obtain⟨dx,h4,e5⟩:=aa e4
  obtain⟨n,ys,h5,e6⟩:=ae e5
  obtain⟨h6,h7⟩:=aj e6
  cases h7
  rw [Tr.bz]at h6
  subst h6
  obtain rfl:=du h2
  have hi':T.Y.get e=some ei:=hi
  rw [ig h3]at hs
  obtain⟨hyl,hadds⟩:=By (P:=P) (σ:=σ) (σ':=σ) (π:=π) (δ:=δ) (D:=D) (H:=H) (w:=w) hT hi' h5 hx
  obtain⟨ys',ha,hys,hys1⟩:=hadds w hp
  have hy0:ys'=[]:=List.eq_nil_of_length_eq_zero (by have:=hys.1;omega)
  subst hy0
  rcases hs.cJ with⟨rfl,c,rfl⟩|⟨cs,cs',z2,c',a',rfl,hr,hc,hf,ho,hv,_⟩
  ·exact⟨_,π,D,w,gG hT h1 hi' h4 ht0 ht1 ha0 ha1 ha (Nat.zero_le _) rfl,.data (.nF _ _ rfl),.refl hp⟩
  ·exact⟨_,π,D,w,gG hT h1 hi' h4 ht0 ht1 ha0 ha1 ha hc rfl,hs,.refl hp⟩
 obtain⟨base,len,cap,h3,e4⟩:=aq e3
 obtain⟨dx,h4,e5⟩:=aa e4
 obtain⟨n,ys,h5,e6⟩:=ae e5
 obtain rfl:=du h2
 obtain rfl:=gF h3
 have hi':T.Y.get e=some ei:=hi
 obtain⟨hyl,hadds⟩:=By (P:=P) (σ:=σ) (σ':=σ') (π:=π) (δ:=δ) (D:=D) (H:=H) (w:=w) hT hi' h5 hx
 rw [iff_eq,show len.add n=len+n from rfl]at e6
 have hle0:=hs.Bn
 by_cases hfit:len+n≤cap
 ·rw [if_pos ((bk _ _).2 hfit)]at e6
  obtain⟨ys',ha,hys,hys1⟩:=hadds w hp
  obtain⟨rfl,a',c',rfl,π',D',w',h6,h7⟩:=nZ (P:=P) hp e6 hs hys hys1 (DD hs hyl hfit)
  have hcc:cap≤c':=by
   cases hs with
   |sl0=>exact Nat.le_refl _
   |sl=>exact Nat.le_refl _
   |slz=>exact Nat.le_refl _
   |slo n c c' hn hs ha=>exact ha.2.1
  exact⟨_,π',D',w',gG (ty:=ty) hT h1 hi' h4 ht0 ht1 ha0 ha1 ha (by omega) h6,(hs.Hh hfit).mono (h7.lv hp),h7⟩
 ·rw [if_neg (fun h=>hfit ((bk _ _).1 h))]at e6
  obtain⟨hb,e7⟩:=aj e6
  obtain⟨z,hz,e7⟩:=aa e7
  obtain⟨iw,h6,e8⟩:=aa e7
  rw [Bool.and_eq_true,bk,bk]at hb
  obtain⟨hb0,hb1⟩:=hb
  have hb0':(len+n)*(ei.info.bytes+1)≤1000000000:=hb0
  obtain⟨ys',ha,hys,hys1⟩:=hadds w.drew hp.drew
  obtain⟨ys2',ha2,hys2,_⟩:=hadds w hp
  obtain⟨a',cap',rfl,hcc,hnone,old',h7,h8,h9,h10⟩:=uB (P:=P) hp.drew h6 hs (fun h=>by
   rcases Nat.eq_zero_or_pos len with h0|h0
   ·rw [h0]at h
    have:Nat.mul 0 ei.size=0:=Nat.zero_mul _
    omega
   ·omega)
  have ho:(Builtin.firstCells ei.size len (.slice a' len cap')).run P w.drew= .ok ⟨old'⟩ w.drew:=by rw [wX];exact h7
  by_cases hopen:∃k off s,base=some ⟨k,off,some s⟩
  ·obtain⟨k,off,s,rfl⟩:=hopen
   have hss:s=ei.size:=by
    obtain⟨q,_⟩:=aj (show iff (Nat.beq s ei.size) (au (σ.kill k (Nat.add off (Nat.mul len ei.size))) fun z' aA σ'=>iff (Nat.beq z' ei.size) (bM σ' (Nat.add len n) (gL iw ys) ei.size aA) none) none=some (v,σ')from e8)
    exact(beq_iff _ _).1 q
   subst hss
   exact zp (ty:=ty) hT h1 hi' h4 ht0 ht1 ha0 ha1 hs ha ha2 (by omega) hb0' hb1 hz ho hys hys2 h8 hys1 h9 hyl h10 h6 e8 hp
  ·rw [sj (fun k off s h=>hopen ⟨k,off,s,h⟩)]at e8
   have hc2:cap'=cap:=by
    cases hs with
    |sl0=>rfl
    |sl=>rfl
    |slz=>rfl
    | @slo a0 a1 s0 n c c' hn hs ha=>
     obtain⟨b,o,s⟩:=a0
     cases s with
     |none=>cases hs
     |some s=>exact absurd ⟨_,_,_,rfl⟩ hopen
   subst hc2
   exact xG (ty:=ty) hT h1 hi' h4 ht0 ht1 ha0 ha1 ha (by omega) hb0' hb1 hz ho hys h8 hys1 h9 hyl h10 e8 (Nat.le_refl _) (.inl rfl) hp
end
end Go.az
namespace Go.az
section
variable {P:Program} {T:ew} {σ σ':aD} {π:aK} {δ D:Nat→Prop} {H:Nat→Option aN} {w:World}
theorem DF{d:TypeDesc}{k:IntKind}(h:intKind d=some k):d= .int k:=by
 cases d<;>simp [intKind]at h;subst h;rfl
theorem zq{e:TypeId}(h:qG T e=true):desc T e=some (.int .u8):=by
 unfold qG at h
 split at h
 ·rename_i h1
  obtain⟨d,h2,h3⟩:=aa h1
  rw [DF h3]at h2
  exact h2
 ·cases h
theorem Hi{v:Value}{b:UInt8}(h:byteOf v=some b):∃n:Int,v= .int .u8 n∧b=UInt8.ofNat n.toNat:=by
 cases v<;>simp only [byteOf,reduceCtorEq]at h
 rename_i k n
 cases k<;>simp only [reduceCtorEq,Option.some.injEq]at h
 exact⟨n,rfl,h.symm⟩
theorem n5:∀(vs:List Value)(l:List UInt8),bytesOf vs=some l→∃ns:List Int,vs=ns.map (Value.int .u8)∧l=ns.map fun n=>UInt8.ofNat n.toNat
 | [],l,h=>by simp only [bytesOf,Option.some.injEq]at h;exact⟨[],rfl,h.symm⟩
 |v::vs,l,h=>by
  obtain⟨b,h1,e1⟩:=aa (show andThen (byteOf v) (fun b=>andThen (bytesOf vs) fun r=>some (b::r))=some l from h)
  obtain⟨r,h2,e2⟩:=aa e1
  cases e2
  obtain⟨n,rfl,rfl⟩:=Hi h1
  obtain⟨ns,rfl,rfl⟩:=n5 vs r h2
  exact⟨n::ns,rfl,rfl⟩
theorem pv(hp:cC σ σ' π δ D H w){a:Addr}{len cap:Nat}{cs:List Value}{l:List UInt8}{x':Value}(h1:σ.db a.block a.off len=some cs)(h2:bytesOf cs=some l)(hx:VR π D (.slice (some a) len cap) x'):
  (Conv.bytesToString x').run P w= .ok (.string ⟨⟨l⟩⟩) w:=by
 obtain⟨ns,rfl,rfl⟩:=n5 cs l h2
 have hle:=hx.Bn
 by_cases h0:len=0
 ·subst h0
  obtain⟨a',c',rfl⟩:=hx.tn
  have:ns.map (Value.int .u8)=[]:=by
   obtain⟨c,_,e1⟩:=aa h1
   obtain⟨_,e2⟩:=sub_eq e1
   rw [e2];simp
  have hns:ns=[]:=by simpa using this
  subst hns
  simp [Conv.bytesToString,loadCells,loadCellsFrom,ByteArray.empty,ByteArray.emptyWithCapacity]
  rfl
 ·obtain⟨a',c',rfl,_,ha⟩:=kL hx (by omega)
  obtain⟨r',h3,h4,_,_⟩:=qP (P:=P) hp h1 ha
  have hr:r'=ns.map (Value.int .u8):=h4.ints (fun v hv=>by
   obtain⟨n,_,rfl⟩:=List.mem_map.1 hv
   exact⟨_,_,rfl⟩)
  subst hr
  rw [run_bytesToString w a' len c' ns h3,foldl_push_bytes]
  simp [ByteArray.empty,ByteArray.emptyWithCapacity]
  rfl
theorem DG(cc:Array Value)(e:TypeId):((w.drew.alloc (.cells cc e)).freeze {block:=w.heap.size,off:=cc.size} 1)=w.drew.alloc (.cells cc e (cc.size,cc.size+1)):=by
 unfold World.freeze
 rw [if_neg (by omega)]
 show World.mk _ _ _ _ _=World.mk _ _ _ _ _
 congr 1
 apply Array.ext_getElem?
 intro j
 rw [Array.getElem?_modify]
 show(if w.heap.size=j then Option.map _ ((w.heap.push (.cells cc e))[j]?)else((w.heap.push (.cells cc e))[j]?))=(w.heap.push (.cells cc e (cc.size,cc.size+1)))[j]?
 rw [Array.getElem?_push,Array.getElem?_push]
 by_cases h:w.heap.size=j
 ·subst h;simp
 ·rw [if_neg h,if_neg (Ne.symm h),if_neg (Ne.symm h)]
theorem wY(hp:cC σ σ' π δ D H w){rows cs:List Value}{l:List UInt8}{x':Value}(h1:aW 1 rows=some cs)(h2:bytesOf cs=some l)(hx:VR π D (dV rows) x'):
  ∃a' n c',x'= .slice a' n c'∧(Conv.bytesToString x').run P w= .ok (.string ⟨⟨l⟩⟩) w:=by
 obtain⟨ns,rfl,rfl⟩:=n5 cs l h2
 have hlen:=ey h1
 rw [List.length_map,Nat.mul_one]at hlen
 rcases hx.cJ with⟨rfl,c,rfl⟩|⟨cs2,cs',z2,c',a',rfl,hr,hc,hf,ho,hv,_⟩
 ·refine⟨none,0,c,rfl,?_⟩
  simp only [List.length_nil]at hlen
  have:ns=[]:=List.eq_nil_of_length_eq_zero hlen
  subst this
  rfl
 ·refine⟨some a',rows.length,c',rfl,?_⟩
  rcases hf with rfl|⟨hs,cc,hf,hw1,hw2⟩
  ·simp only [List.length_nil]at hlen
   have:ns=[]:=List.eq_nil_of_length_eq_zero hlen
   subst this
   simp [Conv.bytesToString,loadCells,loadCellsFrom,ByteArray.empty,ByteArray.emptyWithCapacity]
   rfl
  ·obtain⟨b,x,sp⟩:=a'
   simp only at hs
   subst hs
   simp only at hf hw1 hw2
   obtain⟨elem,fz,hB⟩:=hp.rel.uh b cc hf
   have hcs:cs2=ns.map (Value.int .u8):=by
    cases rows with
    |nil=>
     cases (show some []=some cs2 from hr)
     exact Option.some.inj (show some []=some (ns.map (Value.int .u8))from h1)
    |cons r rows=>
     obtain⟨c1,_,g1,g2,_⟩:=bO h1
     obtain⟨c2,_,g3,g4,_⟩:=bO hr
     rw [g1]at g3
     cases g3
     have:z2=1:=by omega
     subst this
     have:=(show aW 1 (r::rows)=some cs2 from hr).symm.trans h1
     cases this
     rfl
   subst hcs
   have hl:=hv.1
   rw [List.length_map]at hl
   have hr':cs'=ns.map (Value.int .u8):=hv.ints (fun v hv=>by
    obtain⟨n,_,rfl⟩:=List.mem_map.1 hv
    exact⟨_,_,rfl⟩)
   have hrun:(loadCells ⟨b,x,none⟩ rows.length).run P w= .ok ⟨ns.map (Value.int .u8)⟩ w:=by
    rw [run_loadCells hB (by show x+rows.length≤cc.length;omega)]
    congr 2
    show(cc.drop x).take rows.length=_
    rw [←hr',←hw2]
    congr 1;omega
   rw [run_bytesToString w ⟨b,x,none⟩ rows.length c' ns hrun,foldl_push_bytes]
   simp [ByteArray.empty,ByteArray.emptyWithCapacity]
   rfl
theorem Bz(hT:bw P T){src dst:TypeId}{x x' v:Value}(h:tQ T src dst x σ=some (v,σ'))(hx:VR π D x x')(hp:cC σ σ' π δ D H w):gU P σ σ' π δ D H w v (convert src dst x'):=by
 obtain⟨ds,h1,e1⟩:=aa h
 obtain⟨dd,h2,e2⟩:=aa e1
 cases dd<;>simp only [Ja,reduceCtorEq]at e2
 case int k=>
  obtain⟨k2,n,h3,h4⟩:=ae e2
  simp only [Option.some.injEq,Prod.mk.injEq]at h4
  obtain⟨rfl,rfl⟩:=h4
  obtain rfl:=cY h3
  obtain rfl:=hx.aZ
  refine⟨_,π,D,w,?_,.int _ _,.refl hp⟩
  simp only [convert,Sem.run_bind,av hT h1,av hT h2,Result.andThen_ok,Conv.intToInt,Sem.run_pure,iH]
 case string=>
  cases x<;>simp only [td,reduceCtorEq]at e2
  case string s=>
   cases e2
   obtain rfl:=hx.bn
   refine⟨_,π,D,w,?_,.string _,.refl hp⟩
   simp only [convert,Sem.run_bind,av hT h1,av hT h2,Result.andThen_ok,Sem.run_pure]
  case int k n=>
   cases e2
   obtain rfl:=hx.aZ
   refine⟨_,π,D,w,?_,.string _,.refl hp⟩
   simp only [convert,Sem.run_bind,av hT h1,av hT h2,Result.andThen_ok,Conv.intToString,Sem.run_pure]
  case slice a len cap=>
   obtain⟨e,h3,e3⟩:=aa e2
   obtain⟨h4,e4⟩:=aj e3
   obtain rfl:=du h3
   have h5:=zq h4
   obtain⟨a',c',rfl⟩:=zn hx
   have hrun:(convert src dst (.slice a' len c')).run P w=(Conv.bytesToString (.slice a' len c')).run P w:=run_convert_bytes_string w src dst e a' len c' (dp hT h1) (dp hT h5) (dp hT h2)
   cases a with
   |none=>
    cases e4
    have:=hx.ju
    cases this
    exact⟨_,π,D,w,hrun,.string _,.refl hp⟩
   |some a=>
    obtain⟨cs,h6,e5⟩:=aa e4
    obtain⟨l,h7,e6⟩:=aa e5
    cases e6
    exact⟨_,π,D,w,hrun.trans (pv hp h6 h7 hx),.string _,.refl hp⟩
  case tuple vs=>
   obtain⟨e,h3,e3⟩:=aa e2
   obtain⟨h4,e4⟩:=aj e3
   obtain⟨rows,h6,e5⟩:=aa e4
   obtain⟨cs,h7,e6⟩:=aa e5
   obtain⟨l,h8,e7⟩:=aa e6
   cases e7
   obtain rfl:=du h3
   have h5:=zq h4
   rw [ig h6]at hx
   obtain⟨a',n,c',rfl,h9⟩:=wY hp h7 h8 hx
   have hrun:(convert src dst (.slice a' n c')).run P w=(Conv.bytesToString (.slice a' n c')).run P w:=run_convert_bytes_string w src dst e a' n c' (dp hT h1) (dp hT h5) (dp hT h2)
   exact⟨_,π,D,w,hrun.trans h9,.string _,.refl hp⟩
 case slice e=>
  obtain⟨s,h3,e3⟩:=aa e2
  obtain⟨h4,e4⟩:=aj e3
  obtain⟨rfl,rfl⟩:=ik e4
  obtain⟨b,rfl,rfl⟩:=fe h3
  obtain rfl:=hx.bn
  have h5:=zq h4
  obtain⟨⟨l⟩⟩:=b
  rw [aC]
  have hle:=grownCap_le w l.length 0 e
  have hsz:(ByteArray.mk ⟨l⟩).size=l.length:=rfl
  have hel:((ByteArray.mk ⟨l⟩).data.map fun b=>Value.int .u8 (b.toNat:Int))=⟨byteCells l⟩:=by simp [eQ]
  have hbl:(byteCells l).length=l.length:=by rw [eQ,List.length_map]
  obtain⟨cc,hcc⟩:∃cc:Array Value,cc=⟨byteCells l⟩++Array.replicate (grownCap w l.length 0 e-l.length) (.int .u8 0):=⟨_,rfl⟩
  have hcs:cc.size=grownCap w l.length 0 e:=by rw [hcc];simp only [Array.size_append,Array.size_replicate,List.size_toArray,hbl];omega
  obtain⟨π',h6,h7⟩:=xF (need:=l.length) (cap:=grownCap w l.length 0 e) (cc.size,cc.size+1) (fun y hy h=>by simp only at h;omega) (elem:=e) (cc:=cc) (rest:=List.replicate (grownCap w l.length 0 e-l.length) (.int .u8 0)) hp.drew (nH l) (byteCells_one l) (by rw [hcc];simp)
   (by rw [hcs];omega) hle (Nat.le_refl _) (.inl rfl)
  refine⟨_,π',D,_,?_,h7,h6.drew⟩
  have hch:(choose (.appendCap l.length 0 e)).run P w= .ok (grownCap w l.length 0 e) w.drew:=by
   rw [run_choose];rfl
  have hsh:(w.drew.alloc (.cells cc e)).shape? w.heap.size=some (e,cc.size):=by
   simp only [World.shape?]
   rw [show(w.drew.alloc (.cells cc e)).heap[w.heap.size]? =some (.cells cc e)from by
    rw [heap_alloc];exact if_pos rfl]
  simp only [convert,Sem.run_bind,av hT h1,av hT h2,Result.andThen_ok,av hT h5,Conv.stringToBytes,hsz,hch,newRow,jw,hel,←hcc,markStringish,run_shape,Sem.run_pure]
  rw [show w.drew.heap.size=w.heap.size from rfl,hsh]
  simp only [run_freeze,DG,Result.andThen_ok]
theorem BA{o:Option Nat}{v:Value}(h:Fk o=some v):∃n,o=some n∧v= .int .i64 (Int.ofNat n):=by
 obtain⟨n,h1,h2⟩:=aa h
 cases h2
 exact⟨n,h1,rfl⟩
theorem JE{x x':Value}{n:Nat}(h:Jh x=some n)(hx:VR π D x x'):∃a' c',x'= .slice a' n c':=by
 cases x with
 |slice a n0 c=>cases (show some n0=some n from h);exact zn hx
 |tuple vs=>
  obtain⟨rows,h1,h2⟩:=aa (show andThen (nQ vs.toList) (fun rows=>some (aY rows))=some n from h)
  rw [aC]at h2
  cases h2
  rw [ig h1]at hx
  rcases hx.cJ with⟨rfl,c,rfl⟩|⟨_,_,_,c',a',rfl,_⟩
  ·exact⟨_,_,rfl⟩
  ·exact⟨_,_,rfl⟩
 |_=>cases (show none=some n from h)
theorem N0(hT:bw P T){t ty:TypeId}{x x' v:Value}{bT:Array TypeId}{args:Array Value}(h:Ji T σ t x=some v)(hx:VR π D x x')(ht:bT[0]? =some t)(ha:args[0]? =some x')(hp:cC σ σ' π δ D H w):
  (Builtin.len_ bT ty args).run P w= .ok v w∧VR π D v v:=by
 obtain⟨d,h1,e1⟩:=aa h
 obtain⟨n,h2,rfl⟩:=BA e1
 refine⟨?_,.int _ _⟩
 cases d<;>simp only [Rr,reduceCtorEq]at h2
 case string=>
  obtain⟨s,h3,h4⟩:=aa h2
  obtain⟨b,rfl,rfl⟩:=fe h3
  obtain rfl:=hx.bn
  rw [aC]at h4
  cases h4
  simp only [Builtin.len_,ht,ha,Sem.run_bind,av hT h1,Result.andThen_ok,Sem.run_pure]
  rfl
 case array m e=>
  cases h2
  simp only [Builtin.len_,ht,ha,Sem.run_bind,av hT h1,Result.andThen_ok,Sem.run_pure]
  rfl
 case slice e=>
  obtain⟨a',c',rfl⟩:=JE h2 hx
  simp only [Builtin.len_,ht,ha,Sem.run_bind,av hT h1,Result.andThen_ok,Sem.run_pure]
  rfl
 case map k e=>
  obtain⟨r,h3,e3⟩:=aa h2
  obtain⟨es,h4,h5⟩:=aa e3
  rw [aC]at h5
  cases h5
  obtain rfl:=qM h3
  cases r with
  |none=>
   obtain rfl:=hx.map_none
   cases (show some []=some es from h4)
   simp only [Builtin.len_,ht,ha,Sem.run_bind,av hT h1,Result.andThen_ok,Sem.run_pure]
   rfl
  |some r=>
   obtain⟨es0,c,h5,h6⟩:=ae (show ak (andThen (σ.obj r) entriesOf) (fun es _=>some es)=some es from h4)
   cases h6
   obtain⟨i,es',_,rfl,_,hB,hmr,_,_⟩:=hp.entries h5 hx
   simp only [Builtin.len_,ht,ha,Sem.run_bind,av hT h1,Result.andThen_ok,Sem.run_pure,run_getObj_map hB]
   rw [hmr.1]
   rfl
 case pointer a=>
  obtain⟨d2,h3,e3⟩:=aa h2
  obtain⟨m,e,h4,h5⟩:=ae e3
  cases h5
  have:d2= .array n e:=by
   cases d2<;>simp [Qz]at h4
   obtain⟨rfl,rfl⟩:=h4;rfl
  subst this
  simp only [Builtin.len_,ht,ha,Sem.run_bind,av hT h1,Result.andThen_ok,Sem.run_pure,av hT h3]
  rfl
theorem N1(hT:bw P T){t ty:TypeId}{x x' v:Value}{bT:Array TypeId}{args:Array Value}(h:U2 T t x=some v)(hx:VR π D x x')(ht:bT[0]? =some t)(ha:args[0]? =some x')(w:World):
  (Builtin.cap_ bT ty args).run P w= .ok v w∧VR π D v v:=by
 obtain⟨d,h1,e1⟩:=aa h
 obtain⟨n,h2,rfl⟩:=BA e1
 refine⟨?_,.int _ _⟩
 cases d<;>simp only [U1,reduceCtorEq]at h2
 case array m e=>
  cases h2
  simp only [Builtin.cap_,ht,ha,Sem.run_bind,av hT h1,Result.andThen_ok,Sem.run_pure]
  rfl
 case slice e=>
  obtain⟨a,n1,c,h3,e3⟩:=aq h2
  obtain⟨h4,h5⟩:=aj e3
  cases h5
  obtain rfl:=gF h3
  have:∃a',x'= .slice a' n1 n:=by
   cases hx with
   |sl0=>exact⟨_,rfl⟩
   |sl=>exact⟨_,rfl⟩
   |slz=>exact⟨_,rfl⟩
   |slo n c c' hn hs ha=>
    rename_i a0 _ _ _
    obtain⟨b,o,s⟩:=a0
    cases s with
    |none=>cases hs
    |some s=>cases h4
  obtain⟨a',rfl⟩:=this
  simp only [Builtin.cap_,ht,ha,Sem.run_bind,av hT h1,Result.andThen_ok,Sem.run_pure]
  rfl
theorem uE(b:Bool):∀(r r':List Value)(v v' u:Value),Jj b r v=some u→VR π D v v'→aR π D r r'→∀w:World,∃u',(r'.foldlM (if b then Builtin.min2 else Builtin.max2) v').run P w= .ok u' w∧VR π D u u'
 | [],r',v,v',u,h,hv,hr,w=>by
  have:r'=[]:=List.eq_nil_of_length_eq_zero hr.1.symm
  subst this
  cases (show some v=some u from h)
  exact⟨v',rfl,hv⟩
 |x::r,r',v,v',u,h,hv,hr,w=>by
  obtain⟨x',r2,rfl,hx,hr2⟩:=hr.split
  obtain⟨k,n,h1,e1⟩:=ae (show ak (mK v) (fun k n=>ak (mK x) fun _ y=>Jj b r (.int k (iff b (iff (bD n y) n y) (iff (bD y n) n y))))=some u from h)
  obtain⟨k2,m,h2,e2⟩:=ae e1
  obtain rfl:=cY h1
  obtain rfl:=cY h2
  obtain rfl:=hv.aZ
  obtain rfl:=hx.aZ
  obtain⟨u',h3,h4⟩:=uE b r r2 _ _ u e2 (.int _ _) hr2 w
  refine⟨u',?_,h4⟩
  rw [List.foldlM_cons,Sem.run_bind,←h3]
  cases b
  ·simp only [Bool.false_eq_true,if_false,iff_false,Builtin.max2,Sem.run_pure,Result.andThen_ok]
   congr 3
   rw [iff_eq]
   by_cases hle:m≤n
   ·rw [if_pos ((oX _ _).2 hle),if_neg (by omega)]
   ·rw [if_neg (fun h=>hle ((oX _ _).1 h)),if_pos (by omega)]
  ·simp only [if_true,iff_true,Builtin.min2,Sem.run_pure,Result.andThen_ok]
   congr 3
   rw [iff_eq]
   by_cases hle:n≤m
   ·rw [if_pos ((oX _ _).2 hle),if_neg (by omega)]
   ·rw [if_neg (fun h=>hle ((oX _ _).1 h)),if_pos (by omega)]
theorem DH(hT:bw P T){xT asserted:TypeId}{x x' v:Value}{ok:Bool}(h:Fi T x asserted ok=some v)(hx:VR π D x x'):kc P π D v (Instr.typeAssert x' xT asserted ok):=by
 obtain⟨d,h1,e1⟩:=aa h
 obtain⟨o,h2,e2⟩:=aa e1
 have hfail:∀{u:Value},fE T asserted ok=some u→ok=true∧∃z i,T.Y.get asserted=some i∧i.info.zero=some z∧u= .tuple #[z,.bool false]:=by
  intro u hu
  obtain⟨g1,g2⟩:=aj hu
  obtain⟨z,g3,g4⟩:=aa g2
  cases g4
  obtain⟨i,g5,g6⟩:=zero_eq g3
  exact⟨g1,z,i,g5,g6,rfl⟩
 intro w
 rcases ka h2 with⟨rfl,rfl⟩|⟨t,u,rfl,rfl⟩
 ·obtain rfl:=hx.ij
  obtain⟨rfl,z,i,g1,g2,rfl⟩:=hfail e2
  refine⟨_,?_,aR.tuple rfl (.cons (iJ hT g1 g2 π D) (.one (.bool _)))⟩
  simp only [Instr.typeAssert,Sem.run_bind,av hT h1,Result.andThen_ok]
  cases d<;>simp only [if_true,Sem.run_bind,dM hT g1 g2,Result.andThen_ok,Sem.run_pure]
 ·obtain⟨u',rfl,hu⟩:=hx.gu
  by_cases hd:∃want,d= .interface want
  ·obtain⟨want,rfl⟩:=hd
   obtain⟨i,hi,e3⟩:=aa (show andThen (az.ty T t) (fun i=>match Instr.missingMethod want i.info.methods with|none=>some (oS ok (.iface t u) true)|some _=>fE T asserted ok)=some v from e2)
   cases hm:Instr.missingMethod want i.info.methods with
   |none=>
    rw [hm]at e3
    cases e3
    refine⟨_,?_,pj (.iface t hu)⟩
    simp only [Instr.typeAssert,Sem.run_bind,av hT h1,Result.andThen_ok,fh hT hi,hm,Sem.run_pure]
   |some m=>
    rw [hm]at e3
    obtain⟨rfl,z,i2,g1,g2,rfl⟩:=hfail e3
    refine⟨_,?_,aR.tuple rfl (.cons (iJ hT g1 g2 π D) (.one (.bool _)))⟩
    simp only [Instr.typeAssert,Sem.run_bind,av hT h1,Result.andThen_ok,fh hT hi,hm,if_true,dM hT g1 g2,Sem.run_pure]
  ·have e3:iff (Nat.beq t asserted) (some (oS ok u true)) (fE T asserted ok)=some v:=by
    cases d<;>first|exact e2|exact absurd ⟨_,rfl⟩ hd
   rw [iff_eq]at e3
   by_cases ht:t=asserted
   ·rw [if_pos ((beq_iff _ _).2 ht)]at e3
    cases e3
    refine⟨_,?_,pj hu⟩
    simp only [Instr.typeAssert,Sem.run_bind,av hT h1,Result.andThen_ok]
    cases d<;>first|exact absurd ⟨_,rfl⟩ hd|simp only [if_pos ht,Sem.run_pure]
   ·rw [if_neg (fun h=>ht ((beq_iff _ _).1 h))]at e3
    obtain⟨rfl,z,i2,g1,g2,rfl⟩:=hfail e3
    refine⟨_,?_,aR.tuple rfl (.cons (iJ hT g1 g2 π D) (.one (.bool _)))⟩
    simp only [Instr.typeAssert,Sem.run_bind,av hT h1,Result.andThen_ok]
    cases d<;>first|exact absurd ⟨_,rfl⟩ hd|simp only [if_neg ht,if_true,Sem.run_bind,dM hT g1 g2,Result.andThen_ok,Sem.run_pure]
end
end Go.az
namespace Go.az
section
variable {T:ew} {σ σ':aD} {v:Value}
theorem dH{o:Option Value}(h:val σ o=some (v,σ')):o=some v∧σ'=σ:=by
 obtain⟨u,h1,h2⟩:=aa h
 simp only [Option.some.injEq,Prod.mk.injEq]at h2
 obtain⟨rfl,rfl⟩:=h2
 exact⟨h1,rfl⟩
theorem unit_eq{o:Option aD}(h:unit o=some (v,σ')):o=some σ'∧v=undef:=by
 obtain⟨u,h1,h2⟩:=aa h
 simp only [Option.some.injEq,Prod.mk.injEq]at h2
 obtain⟨rfl,rfl⟩:=h2
 exact⟨h1,rfl⟩
theorem gO{o:Option Value}(h:val σ o=some (v,σ')):cm σ σ':=by rw [(dH h).2];exact .refl σ
theorem uF{k off:Nat}{vs:List Value}(h:σ.setAt k off vs=some σ'):cm σ σ':=by
 obtain⟨c,e,aA,ho,hlen,rfl⟩:=Bh h
 exact(fG σ k _ _).mono ho (Nat.min_le_right _ _) (.cells (by simp;omega) (fun h=>by cases h) (fun h=>by cases h) (.inl (Nat.min_le_left _ _)) (.inr rfl))
theorem jx{r c c2:Nat}{es es2:List MapEntry}(ho:σ.obj r=some (.map es c)):cm σ (σ.dG r es2 c2):=by
 have hlow:σ.lower r=min r σ.low:=eO _ _
 exact(fG σ r (.map es2 c2) (σ.lower r)).mono ho (by show σ.lower r≤σ.low;omega) (.other rfl (by simp [kindOf]) (.inl (by show σ.lower r≤r;omega)))
theorem Hj{k n z aA:Nat}(h:σ.kill k n=some (z,aA,σ')):cm σ σ':=by
 obtain⟨c,hobj,_,rfl⟩:=FD h
 refine⟨Nat.le_refl _,Nat.le_refl _,Nat.min_le_right _ _,fun hw j hj=>?_,fun j _=>?_⟩
 ·show(σ.heap.set k _).get j=_
  have hk:=DC hw hobj
  rw [Tr.dm,if_neg (by have:σ.next≤j:=hj;omega)];exact hw j hj
 ·show ea j _ _ (σ.obj j) ((σ.heap.set k (.cells c (some z) aA false true)).get j)
  rw [Tr.dm]
  by_cases e:j=k
  ·subst e
   rw [if_pos rfl,hobj]
   exact .cells rfl (fun h=>by cases h) (fun h=>by cases h) (.inr rfl) (.inl (Nat.min_le_left _ _))
  ·rw [if_neg e];exact .refl _ _ _ _
theorem nI{len cap:Nat}{c:List Value}(h:lP σ len cap c=some (v,σ')):cm σ σ':=by rw [(l6 h).2];exact gM _ _
theorem sk{c:List Value}(h:newVar σ c=some (v,σ')):cm σ σ':=by rw [(qQ h).2];exact gM _ _
theorem iQ{need z aA:Nat}{cs:List Value}(h:bM σ need cs z aA=some (v,σ')):cm σ σ':=by rw [(ik h).2];exact gM _ _
theorem ma{cs:List Value}{off:Nat}{v0:Value}{a:Option Addr}(h:nU σ cs off v0 a=some (v,σ')):cm σ σ':=by
 cases a with
 |none=>cases (show some (v0,σ)=some (v,σ')from h);exact .refl σ
 |some a=>
  have h':iff (dS (aY cs)) (some (v0,σ)) (andThen (σ.setAt a.block (Nat.add a.off off) cs) fun σ'=>some (v0,σ'))=some (v,σ'):=h
  rw [iff_eq]at h'
  split at h'
  ·cases h';exact .refl σ
  ·obtain⟨σ1,h2,h3⟩:=aa h'
   cases h3
   exact uF h2
theorem DI{z len need:Nat}{cs:List Value}{a:Option Addr}(h:xn σ z len need cs a=some (v,σ')):cm σ σ':=by
 by_cases hopen:∃k off s,a=some ⟨k,off,some s⟩
 ·obtain⟨k,off,s,rfl⟩:=hopen
  obtain⟨_,e1⟩:=aj (show iff (Nat.beq s z) (au (σ.kill k (Nat.add off (Nat.mul len z))) fun z' aA σ'=>iff (Nat.beq z' z) (bM σ' need cs z aA) none) none=some (v,σ')from h)
  obtain⟨z',aA,σ1,e2,e3⟩:=aq e1
  obtain⟨_,e5⟩:=aj e3
  exact(Hj e2).trans (iQ e5)
 ·rw [sj (fun k off s h=>hopen ⟨k,off,s,h⟩)]at h
  exact iQ h
theorem BB{sT xT:TypeId}{s x:Value}(h:th T sT xT s x σ=some (v,σ')):cm σ σ':=by
 obtain⟨d,h1,e1⟩:=aa h
 obtain⟨e,h2,e2⟩:=aa e1
 obtain⟨ei,hi,e3⟩:=aa e2
 rcases ee e3 with⟨vs,rfl,e3⟩|e3
 ·obtain⟨rows,h3,e4⟩:=aa e3
  obtain⟨dx,h4,e5⟩:=aa e4
  obtain⟨n,ys,h5,e6⟩:=ae e5
  obtain⟨h6,h7⟩:=aj e6
  cases h7
  exact .refl σ
 obtain⟨base,len,cap,h3,e4⟩:=aq e3
 obtain⟨dx,h4,e5⟩:=aa e4
 obtain⟨n,ys,h5,e6⟩:=ae e5
 rw [iff_eq]at e6
 split at e6
 ·exact ma e6
 ·obtain⟨_,e7⟩:=aj e6
  obtain⟨_,_,e8⟩:=aa e7
  obtain⟨_,_,e9⟩:=aa e8
  exact DI e9
theorem Hk{t:TypeId}{d s:Value}(h:copyV T t d s σ=some (v,σ')):cm σ σ':=by
 obtain⟨_,_,e1⟩:=aa h
 obtain⟨_,_,e2⟩:=aa e1
 obtain⟨_,_,e3⟩:=aa e2
 obtain⟨_,_,_,_,e4⟩:=aq e3
 obtain⟨_,_,e5⟩:=aa e4
 obtain⟨_,_,e6⟩:=aa e5
 exact ma e6
theorem DJ{t:TypeId}{x:Value}(h:Dn T t x σ=some (v,σ')):cm σ σ':=by
 obtain⟨_,_,e1⟩:=aa h
 obtain⟨_,_,e2⟩:=aa e1
 obtain⟨_,_,e3⟩:=aa e2
 obtain⟨_,_,e4⟩:=aa e3
 obtain⟨_,_,_,_,e5⟩:=aq e4
 obtain⟨_,e6⟩:=aj e5
 exact ma e6
theorem sn{t:TypeId}{m k x:Value}(h:gE T σ t m k x=some σ'):cm σ σ':=by
 obtain⟨_,_,_,e1⟩:=ae h
 obtain⟨_,_,e2⟩:=aa e1
 obtain⟨r,_,e3⟩:=aa e2
 obtain⟨es,c,h4,e4⟩:=ae e3
 obtain⟨hit,_,e5⟩:=aa e4
 obtain⟨o,h6,h7⟩:=aa h4
 obtain rfl:=kK h7
 cases hit with
 |none=>cases e5;exact jx h6
 |some p=>
  obtain⟨i,e⟩:=p
  obtain⟨_,e6⟩:=aj e5
  cases e6;exact jx h6
theorem BC{t:TypeId}{m k:Value}(h:fP T σ t m k=some σ'):cm σ σ':=by
 obtain⟨_,_,_,e1⟩:=ae h
 obtain⟨_,_,e2⟩:=aa e1
 obtain⟨r,_,e3⟩:=aa e2
 obtain⟨es,c,h4,e4⟩:=ae e3
 obtain⟨hit,_,e5⟩:=aa e4
 obtain⟨o,h6,h7⟩:=aa h4
 obtain rfl:=kK h7
 cases hit with
 |none=>cases e5;exact jx h6
 |some p=>cases e5;exact jx h6
theorem zr{src dst:TypeId}{x:Value}(h:tQ T src dst x σ=some (v,σ')):cm σ σ':=by
 obtain⟨ds,h1,e1⟩:=aa h
 obtain⟨dd,h2,e2⟩:=aa e1
 cases dd<;>simp only [Ja,reduceCtorEq]at e2
 case int k=>obtain⟨_,_,_,h4⟩:=ae e2;cases h4;exact .refl σ
 case string=>
  cases x<;>simp only [td,reduceCtorEq]at e2
  case string s=>cases e2;exact .refl σ
  case int k n=>cases e2;exact .refl σ
  case slice a len cap=>
   obtain⟨e,h3,e3⟩:=aa e2
   obtain⟨h4,e4⟩:=aj e3
   cases a with
   |none=>cases e4;exact .refl σ
   |some a=>
    obtain⟨cs,h6,e5⟩:=aa e4
    obtain⟨l,h7,e6⟩:=aa e5
    cases e6;exact .refl σ
  case tuple vs=>
   obtain⟨_,_,e3⟩:=aa e2
   obtain⟨_,e4⟩:=aj e3
   obtain⟨_,_,e5⟩:=aa e4
   obtain⟨_,_,e6⟩:=aa e5
   obtain⟨_,_,e7⟩:=aa e6
   cases e7;exact .refl σ
 case slice e=>
  obtain⟨s,h3,e3⟩:=aa e2
  obtain⟨h4,e4⟩:=aj e3
  exact iQ e4
theorem Hl{x:Operand}{isStr:Bool}{ρ:Operand→Value}(h:Dq x isStr ρ σ=some (v,σ')):cm σ σ':=by
 obtain⟨r,off,h1,e1⟩:=ae h
 obtain⟨s,pos,h2,e2⟩:=ae e1
 obtain⟨o,h3,h4⟩:=aa h2
 obtain rfl:=xD h4
 obtain⟨_,e3⟩:=aj e2
 rw [iff_eq]at e3
 have hlow:(σ.lower r)=min r σ.low:=eO _ _
 split at e3
 ·simp only [Option.some.injEq,Prod.mk.injEq]at e3
  obtain⟨rfl,rfl⟩:=e3
  exact(fG σ r (.iter s (Nat.add pos (Utf8.decode ⟨⟨s⟩⟩ pos).2)) (σ.lower r)).mono h3 (by show σ.lower r≤σ.low;omega) (.other rfl (by simp [kindOf]) (.inl (by show σ.lower r≤r;omega)))
 ·cases e3;exact .refl σ
theorem zt{b:Builtin}{bT:List TypeId}{args:List Value}(h:jW b T bT args σ=some (v,σ')):cm σ σ':=by
 cases b<;>simp only [jW,reduceCtorEq]at h
 case append=>obtain⟨_,_,_,e1⟩:=ae h;obtain⟨_,_,_,e2⟩:=ae e1;exact BB e2
 case cap=>obtain⟨_,_,_,e1⟩:=ae h;obtain⟨_,_,_,e2⟩:=ae e1;exact gO e2
 case copy=>obtain⟨_,_,_,e1⟩:=ae h;obtain⟨_,_,_,e2⟩:=ae e1;exact Hk e2
 case clear=>obtain⟨_,_,_,e1⟩:=ae h;obtain⟨_,_,_,e2⟩:=ae e1;exact DJ e2
 case delete=>
  obtain⟨_,_,_,e1⟩:=ae h;obtain⟨_,_,_,e2⟩:=ae e1;obtain⟨s,e3,e4⟩:=aa e2
  cases e4;exact BC e3
 case len=>obtain⟨_,_,_,e1⟩:=ae h;obtain⟨_,_,_,e2⟩:=ae e1;exact gO e2
 case max=>obtain⟨_,_,_,e1⟩:=ae h;exact gO e1
 case min=>obtain⟨_,_,_,e1⟩:=ae h;exact gO e1
theorem N2{op:Op}{ρ:Operand→Value}(h:zl op T ρ σ=some (v,σ')):cm σ σ':=by
 cases op<;>simp only [zl,reduceCtorEq]at h
 case move=>cases h;exact .refl σ
 case assign=>cases h;exact .refl σ
 case pick=>obtain⟨_,_,e1⟩:=aa h;cases e1;exact .refl σ
 case alloc=>obtain⟨_,_,e1⟩:=aa h;obtain⟨_,_,e2⟩:=aa e1;exact sk e2
 case box=>obtain⟨_,_,e1⟩:=aa h;exact sk e1
 case buildSlice=>
  obtain⟨_,_,e1⟩:=aa h;obtain⟨_,_,e2⟩:=aa e1;obtain⟨_,_,e3⟩:=aa e2;obtain⟨_,_,e4⟩:=aa e3;obtain⟨_,e5⟩:=aj e4;obtain⟨_,_,e6⟩:=aa e5
  exact nI e6
 case load=>
  unfold Jl tX at h
  rcases ee h with⟨_,_,h⟩|h
  ·obtain⟨_,_,e1⟩:=aa h;exact gO e1
  ·obtain⟨_,_,_,e1⟩:=ae h;exact gO e1
 case store=>
  obtain⟨h1,_⟩:=unit_eq h
  obtain⟨_,_,_,e1⟩:=ae h1;obtain⟨_,_,e2⟩:=aa e1;obtain⟨_,_,e3⟩:=aa e2;obtain⟨_,e4⟩:=aj e3
  exact uF e4
 case binOp=>obtain⟨_,e1⟩:=aj h;exact gO e1
 case convert=>exact zr h
 case makeInterface=>obtain⟨_,_,e1⟩:=aa h;obtain⟨_,e2⟩:=er e1;cases e2;exact .refl σ
 case makeFunc=>cases h;exact .refl σ
 case makeMap=>
  obtain⟨_,_,e1⟩:=aa h;obtain⟨_,_,_,e2⟩:=ae e1;obtain⟨_,_,e3⟩:=aa e2
  cases e3;exact gM _ _
 case makeSlice=>
  obtain⟨_,_,e1⟩:=aa h;obtain⟨_,_,e2⟩:=aa e1;obtain⟨_,_,e3⟩:=aa e2;obtain⟨_,_,e4⟩:=aa e3;obtain⟨_,_,_,e5⟩:=ae e4;obtain⟨_,_,e6⟩:=aa e5
  obtain⟨_,_,_,e7⟩:=ae e6;obtain⟨_,_,e8⟩:=aa e7;obtain⟨_,e9⟩:=aj e8
  exact nI e9
 case mapUpdate=>exact sn (unit_eq h).1
 case insert=>exact sn (unit_eq h).1
 case range=>
  obtain⟨d,_,e1⟩:=aa h
  cases d<;>simp only [reduceCtorEq]at e1
  obtain⟨_,_,e2⟩:=aa e1
  cases e2;exact gM _ _
 case next=>exact Hl h
 all_goals exact gO h
def iR(call:cD):Prop:=∀f args σ v σ',call f args σ=some (v,σ')→cm σ σ'
theorem uG{call:cD}(hc:iR call){recv:Value}{name:String}{args:List Value}(h:Fq T call σ recv name args=some (v,σ')):cm σ σ':=by
 obtain⟨_,_,e1⟩:=aa h
 obtain⟨_,_,_,e2⟩:=ae e1
 obtain⟨_,_,_,e3⟩:=ae e2
 exact hc _ _ _ _ _ e3
theorem mO{call:cD}(hc:iR call){op:Op}{ρ:Operand→Value}(h:gX T call op ρ σ=some (v,σ')):cm σ σ':=by
 unfold gX at h
 cases hop:tZ op with
 |none=>rw [hop]at h;exact N2 h
 |some c=>
  rw [hop]at h
  have h':tY c.callee T call ρ σ c.argTypes.toList (nq ρ c.args.toList)=some (v,σ'):=h
  cases hcc:c.callee<;>rw [hcc]at h'<;>simp only [tY]at h'
  case builtin b=>exact zt h'
  case invoke recv name=>exact uG hc h'
  case value f=>
   obtain⟨fn,first,captured,_,e1⟩:=aq h'
   cases fn<;>simp only [Dr,reduceCtorEq]at e1
   case func g=>exact hc _ _ _ _ _ e1
   case method name=>
    obtain⟨_,_,_,e2⟩:=ae e1
    exact uG hc e2
end
end Go.az
namespace Go.az
section
variable {P:Program} {T:ew} {σ σ':aD} {π:aK} {δ D:Nat→Prop} {H:Nat→Option aN} {w:World}
theorem zo.map{o:Option Operand}{ρ ρ':Operand→Value}(h:∀x∈o.toArray,VR π D (ρ x) (ρ' x)):zo π D (o.map ρ) (o.map ρ'):=by
 cases o with
 |none=>trivial
 |some x=>exact h x (by simp)
theorem BD(hT:bw P T){o:Oper}{ρ ρ':Operand→Value}{v:Value}(hm:mem o.op=false)(h:zl o.op T ρ σ=some (v,σ'))(hρ:∀x∈o.op.operands,VR π D (ρ x) (ρ' x)):
  σ'=σ∧∀w:World,∃v',(execOp ρ' o).run P w= .ok (.value v') w∧VR π D v v':=by
 obtain⟨guard,op,dst,ty,after,pos⟩:=o
 simp only at hm h hρ
 cases op<;>simp only [mem,reduceCtorEq]at hm<;>simp only [zl]at h<;>simp only [Op.operands]at hρ<;>simp only [execOp]
 case move x=>cases h;exact⟨rfl,fun w=>⟨_,rfl,hρ x (by simp)⟩⟩
 case assign x=>cases h;exact⟨rfl,fun w=>⟨_,rfl,hρ x (by simp)⟩⟩
 case pick c a b=>
  obtain⟨t,h1,e1⟩:=aa h
  cases e1
  refine⟨rfl,fun w=>?_⟩
  have hc:=hρ c (by simp)
  rw [gq h1]at hc
  rw [hc.dq]
  rw [iff_eq]
  cases t
  ·exact⟨_,rfl,hρ b (by simp)⟩
  ·exact⟨_,rfl,hρ a (by simp)⟩
 case build t ps=>
  obtain⟨h1,rfl⟩:=dH h
  have hps:=xB (π:=π) (D:=D) (ρ:=ρ) (ρ':=ρ') ps (fun x hx=>hρ x (by simpa using hx))
  refine⟨rfl,fun w=>?_⟩
  obtain⟨v',h2,h3⟩:=G7 hT h1 hps.1 hps.2 w
  exact⟨v',by simp only [Sem.run_bind,h2,Result.andThen_ok,Sem.run_pure],h3⟩
 case nilCheck x=>
  obtain⟨h1,rfl⟩:=dH h
  refine⟨rfl,fun w=>?_⟩
  have hx:=hρ x (by simp)
  obtain⟨h2,h3,h4,h5,h6⟩:=Dx h1 hx
  refine⟨ρ' x,?_,h2⟩
  generalize ρ' x=x' at h3 h4 h5 h6
  cases x'<;>first|rfl|(exact absurd rfl h5)|(exact absurd rfl h6)|skip
  case pointer a=>cases a<;>first|(exact absurd rfl h4)|rfl
  case func fn f c=>
   obtain⟨g,rfl⟩:=h3 fn f c rfl
   rfl
 case binOp op t x y yt=>
  obtain⟨h1,e1⟩:=aj h
  obtain⟨h2,rfl⟩:=dH e1
  refine⟨rfl,fun w=>?_⟩
  obtain⟨v',h3,h4⟩:=Jz hT h2 (hρ x (by simp)) (hρ y (by simp)) w
  exact⟨v',by simp only [Sem.run_bind,G0 hT h1 (hρ x (by simp)),h3,Result.andThen_ok,Sem.run_pure],h4⟩
 case unOp op t x=>
  obtain⟨h1,rfl⟩:=dH h
  refine⟨rfl,fun w=>?_⟩
  obtain⟨v',h2,h3⟩:=NV (P:=P) h1 (hρ x (by simp)) w
  exact⟨v',by simp only [Sem.run_bind,h2,Result.andThen_ok,Sem.run_pure],h3⟩
 case makeInterface t x=>
  obtain⟨d,h1,e1⟩:=aa h
  obtain⟨h2,e2⟩:=er e1
  cases e2
  refine⟨rfl,fun w=>⟨_,?_,.iface t (hρ x (by simp))⟩⟩
  simp only [Sem.run_bind,G6 hT h1 h2,Result.andThen_ok,Sem.run_pure]
 case makeFunc fn first captured=>
  cases h
  refine⟨rfl,fun w=>⟨.func fn (first.map ρ') (captured.map ρ'),rfl,?_⟩⟩
  rw [hO,hO]
  have h1:aR π D (first.toList.map ρ) (first.toList.map ρ'):=aR.mapped _ fun x hx=>hρ x (by simp at hx;simp [hx])
  have h2:aR π D (captured.toList.map ρ) (captured.toList.map ρ'):=aR.mapped _ fun x hx=>hρ x (by simp at hx;simp [hx])
  have e1:first.map ρ'=⟨first.toList.map ρ'⟩:=by apply Array.ext';simp
  have e2:captured.map ρ'=⟨captured.toList.map ρ'⟩:=by apply Array.ext';simp
  rw [e1,e2]
  exact .func fn h1.1 h1.2 h2.1 h2.2
 case slice t x lo hi mx=>
  obtain⟨h1,rfl⟩:=dH h
  refine⟨rfl,fun w=>?_⟩
  obtain⟨v',h2,h3⟩:=G5 hT h1 (hρ x (by simp)) (zo.map fun y hy=>hρ y (by simp at hy ⊢;simp [hy])) (zo.map fun y hy=>hρ y (by simp at hy ⊢;simp [hy])) (zo.map fun y hy=>hρ y (by simp at hy ⊢;simp [hy])) w
  exact⟨v',by simp only [Sem.run_bind,h2,Result.andThen_ok,Sem.run_pure],h3⟩
 case fieldAddr t x f=>
  obtain⟨h1,rfl⟩:=dH h
  refine⟨rfl,fun w=>?_⟩
  obtain⟨v',h2,h3⟩:=wT hT h1 (hρ x (by simp)) w
  exact⟨v',by simp only [Sem.run_bind,h2,Result.andThen_ok,Sem.run_pure],h3⟩
 case field t x f=>
  obtain⟨h1,rfl⟩:=dH h
  refine⟨rfl,fun w=>?_⟩
  obtain⟨v',h2,h3⟩:=G1 hT h1 (hρ x (by simp)) w
  exact⟨v',by simp only [Sem.run_bind,h2,Result.andThen_ok,Sem.run_pure],h3⟩
 case indexAddr t x i=>
  obtain⟨h1,rfl⟩:=dH h
  refine⟨rfl,fun w=>?_⟩
  obtain⟨v',h2,h3⟩:=wU hT h1 (hρ x (by simp)) (hρ i (by simp)) w
  exact⟨v',by simp only [Sem.run_bind,h2,Result.andThen_ok,Sem.run_pure],h3⟩
 case index t x i=>
  obtain⟨h1,rfl⟩:=dH h
  refine⟨rfl,fun w=>?_⟩
  obtain⟨v',h2,h3⟩:=G3 hT h1 (hρ x (by simp)) (hρ i (by simp)) w
  exact⟨v',by simp only [Sem.run_bind,h2,Result.andThen_ok,Sem.run_pure],h3⟩
 case typeAssert x xt asserted ok=>
  obtain⟨h1,rfl⟩:=dH h
  refine⟨rfl,fun w=>?_⟩
  obtain⟨v',h2,h3⟩:=DH (xT:=xt) hT h1 (hρ x (by simp)) w
  exact⟨v',by simp only [Sem.run_bind,h2,Result.andThen_ok,Sem.run_pure],h3⟩
 case extract x i=>
  obtain⟨h1,rfl⟩:=dH h
  refine⟨rfl,fun w=>?_⟩
  obtain⟨v',h2,h3⟩:=Bq (P:=P) h1 (hρ x (by simp)) w
  exact⟨v',by simp only [Sem.run_bind,h2,Result.andThen_ok,Sem.run_pure],h3⟩
def BE(P:Program)(σ σ':aD)(π:aK)(δ D:Nat→Prop)(H:Nat→Option aN)(w:World)(v:Value)(s:Sem Go.Next):Prop:=
 ∃nx v' π' D' w',s.run P w= .ok nx w'∧(nx= .value v'∨(nx= .skip∧v'=undef))∧VR π' D' v v'∧Post σ σ' π δ D H w π' D' w'
theorem gU.leads{v:Value}{s:Sem Value}(h:gU P σ σ' π δ D H w v s):BE P σ σ' π δ D H w v (do pure (.value (←s))):=by
 obtain⟨v',π',D',w',h1,h2,h3⟩:=h
 exact⟨_,v',π',D',w',by simp only [Sem.run_bind,h1,Result.andThen_ok,Sem.run_pure],.inl rfl,h2,h3⟩
theorem FC.leads{s:Sem Unit}(h:FC P σ σ' π δ D H w s):BE P σ σ' π δ D H w undef (do s;pure .skip):=by
 obtain⟨π',D',w',h1,h3⟩:=h
 exact⟨.skip,undef,π',D',w',by simp only [Sem.run_bind,h1,Result.andThen_ok,Sem.run_pure],.inr ⟨rfl,rfl⟩,aR.tuple rfl .nil,h3⟩
theorem RB(hT:bw P T){o:Oper}{ρ ρ':Operand→Value}{v:Value}(h:zl o.op T ρ σ=some (v,σ'))(hρ:∀x∈o.op.operands,VR π D (ρ x) (ρ' x))(hp:cC σ σ' π δ D H w):BE P σ σ' π δ D H w v (execOp ρ' o):=by
 by_cases hm:mem o.op=false
 ·obtain⟨rfl,h1⟩:=BD hT hm h hρ
  obtain⟨v',h2,h3⟩:=h1 w
  exact⟨_,v',π,D,w,h2,.inl rfl,h3,.refl hp⟩
 ·obtain⟨guard,op,dst,ty,after,pos⟩:=o
  simp only at hm h hρ
  cases op<;>first|(exact absurd rfl hm)|skip
  all_goals (simp only [zl,reduceCtorEq]at h)
  all_goals (simp only [Op.operands]at hρ)
  case alloc t=>exact(Ha hT h hp).leads
  case box t x=>exact(NY h (hρ x (by simp)) hp).leads
  case buildSlice t n ps=>
   have hps:=xB (π:=π) (D:=D) (ρ:=ρ) (ρ':=ρ') ps (fun x hx=>hρ x (by simpa using hx))
   exact(uv hT h hps.1 hps.2 hp).leads
  case load t a=>
   have h:tX T t σ (ρ a)=some (v,σ'):=h
   unfold tX at h
   have ha:=hρ a (by simp)
   rcases ee h with⟨vs,hvs,h⟩|h
   ·obtain⟨cs,h1,e1⟩:=aa h
    obtain⟨h2,rfl⟩:=dH e1
    rw [hvs,pc h1]at ha
    obtain⟨a',he,v',h3,h4⟩:=G8 (P:=P) hT hp h2 ha
    refine gU.leads ⟨v',π,D,w,?_,h4,.refl hp⟩
    rw [he]
    simp only [Instr.loadAt,Sem.run_bind,Instr.sureAddr,Sem.run_pure,Result.andThen_ok,h3]
   obtain⟨k,off,h1,e1⟩:=ae h
   obtain⟨h2,rfl⟩:=dH e1
   rw [iN h1]at ha
   obtain⟨a',he,har⟩:=ha.js
   obtain⟨v',h3,h4⟩:=Br hT hp h2 har
   refine gU.leads ⟨v',π,D,w,?_,h4,.refl hp⟩
   rw [he]
   simp only [Instr.loadAt,Sem.run_bind,Instr.sureAddr,Sem.run_pure,Result.andThen_ok,h3]
  case store t a x=>
   obtain⟨h1,rfl⟩:=unit_eq h
   exact(G9 hT hp h1 (hρ a (by simp)) (hρ x (by simp))).leads
  case convert s d x=>exact(Bz hT h (hρ x (by simp)) hp).leads
  case makeMap t r=>exact(Bt hT h (zo.map fun y hy=>hρ y (by simpa using hy)) hp).leads
  case makeSlice t l c=>exact(wV hT h (hρ l (by simp)) (hρ c (by simp)) hp).leads
  case lookup t x i ok=>
   obtain⟨h1,rfl⟩:=dH h
   obtain⟨v',h2,h3⟩:=DA hT h1 (hρ x (by simp)) (hρ i (by simp)) hp
   exact gU.leads ⟨v',π,D,w,h2,h3,.refl hp⟩
  case mapUpdate t m k x=>
   obtain⟨h1,rfl⟩:=unit_eq h
   exact(uA hT h1 (hρ m (by simp)) (hρ k (by simp)) (hρ x (by simp)) hp).leads
  case insert t m k x=>
   obtain⟨h1,rfl⟩:=unit_eq h
   exact(uA hT h1 (hρ m (by simp)) (hρ k (by simp)) (hρ x (by simp)) hp).leads
  case range t x=>exact(Hc hT h (hρ x (by simp)) hp).leads
  case next it isStr=>exact(JA _ h (hρ it (by simp)) hp).leads
end
end Go.az
end
