/- What the card of ReportBack leans on, part 8: written with few blanks and short names by a program out of longer texts. Conditions: those of each lemma. -/
import Derived.Test.YtdmpneafeadbbaaGreatDoorPag
import Derived.Below
set_option maxRecDepth 100000
set_option linter.unusedVariables false
set_option linter.unusedSimpArgs false
noncomputable section
namespace Go.az
theorem cA.split:∀{a b:List Ds}{l:List Value},cA (a++b) l→∃c d,l=c++d∧cA a c∧cA b d
 | [],b,l,h=>⟨[],l,rfl,by simp only [cA],h⟩
 |s::a,b,l,h=>by
  rw [List.cons_append]at h
  obtain⟨v,vs,rfl,h1,h2⟩:=h.cons_inv
  obtain⟨c,d,rfl,h3,h4⟩:=cA.split h2
  exact⟨v::c,d,rfl,by simp only [cA];exact⟨h1,h3⟩,h4⟩
def gx:Ty→List Ds
 | .bool=>[.bool]
 | .int k=>[.int k]
 | .str=>[.str]
 | .unit=>[]
 | .pair a b=>gx a++gx b
 | .arr n t=>(List.replicate n (gx t)).flatten
 | .slice t=>[.sl (gx t)]
def AT:(t:Ty)→El t→Prop
 | .bool=>fun _=>True
 | .int k=>fun n=>(Lit.int k n).wf=true
 | .str=>fun l=>l.length≤maxLen
 | .unit=>fun _=>True
 | .pair a b=>fun x=>AT a x.1∧AT b x.2
 | .arr _ t=>fun x=>∀y∈x.1,AT t y
 | .slice t=>fun(l:List (El t))=>l.length≤maxLen∧∀y∈l,AT t y
def Gt:(t:Ty)→El t→Nat
 | .bool=>fun _=>0
 | .int _=>fun _=>0
 | .str=>fun l=>l.length
 | .unit=>fun _=>0
 | .pair a b=>fun x=>Gt a x.1+Gt b x.2
 | .arr _ t=>fun x=>(x.1.map (Gt t)).sum
 | .slice t=>fun(l:List (El t))=>(l.map fun y=>1+Gt t y).sum
theorem CM{t:Ty}(ih:∀cs,cA (gx t) cs→∃x:El t,cs=ah t x∧AT t x∧Gt t x=pD (gx t) cs):∀{rows:List (List Value)},(∀r∈rows,cA (gx t) r)→
  ∃l:List (El t),rows=l.map (ah t)∧(∀y∈l,AT t y)∧(l.map fun y=>1+Gt t y).sum=(rows.map fun c=>1+pD (gx t) c).sum
 | [],_=>⟨[],rfl,fun y hy=>(by cases hy),rfl⟩
 |r::rows,h=>by
  obtain⟨x,h1,h2,h3⟩:=ih r (h r (List.mem_cons_self ..))
  obtain⟨l,g1,g2,g3⟩:=CM ih (rows:=rows) fun q hq=>h q (List.mem_cons_of_mem _ hq)
  refine⟨x::l,by rw [g1,List.map_cons,h1],fun y hy=>?_,?_⟩
  ·rcases List.mem_cons.1 hy with rfl|hy
   ·exact h2
   ·exact g2 y hy
  ·rw [List.map_cons,List.sum_cons,List.map_cons,List.sum_cons,g3,h3]
theorem Gu:∀(t:Ty)(cs:List Value),cA (gx t) cs→∃x:El t,cs=ah t x∧AT t x∧Gt t x=pD (gx t) cs:=by
 intro t
 induction t with
 |bool=>
  intro cs h
  obtain⟨v,vs,rfl,h1,h2⟩:=(show cA [.bool] cs from h).cons_inv
  obtain rfl:=h2.eI
  obtain⟨b,rfl⟩:=h1.dq
  exact⟨b,rfl,trivial,by simp only [gx,pD,J2];rfl⟩
 |int k=>
  intro cs h
  obtain⟨v,vs,rfl,h1,h2⟩:=(show cA [.int k] cs from h).cons_inv
  obtain rfl:=h2.eI
  obtain⟨n,rfl,hn⟩:=h1.aZ
  exact⟨n,rfl,hn,by simp only [gx,pD,J2];rfl⟩
 |str=>
  intro cs h
  obtain⟨v,vs,rfl,h1,h2⟩:=(show cA [.str] cs from h).cons_inv
  obtain rfl:=h2.eI
  obtain⟨s,rfl,hn⟩:=h1.zO
  obtain⟨⟨l⟩⟩:=s
  exact⟨l,rfl,hn,by simp only [gx,pD,J2,qD];rfl⟩
 |unit=>
  intro cs h
  obtain rfl:=(show cA [] cs from h).eI
  exact⟨(),rfl,trivial,by simp only [gx,pD];rfl⟩
 |pair a b iha ihb=>
  intro cs h
  obtain⟨c,d,rfl,h1,h2⟩:=cA.split (show cA (gx a++gx b) cs from h)
  obtain⟨x,rfl,g1,g2⟩:=iha c h1
  obtain⟨y,rfl,g3,g4⟩:=ihb d h2
  refine⟨(x,y),rfl,⟨g1,g3⟩,?_⟩
  show Gt a x+Gt b y=pD (gx a++gx b) (ah a x++ah b y)
  rw [kS h1.length.symm,g2,g4]
 |arr n t ih=>
  have key:∀(n:Nat)(cs:List Value),cA (List.replicate n (gx t)).flatten cs→∃l:List (El t),l.length=n∧cs=(l.map (ah t)).flatten∧(∀y∈l,AT t y)∧(l.map (Gt t)).sum=pD (List.replicate n (gx t)).flatten cs:=by
   intro n
   induction n with
   |zero=>
    intro cs h
    obtain rfl:=(show cA [] cs from h).eI
    exact⟨[],rfl,rfl,fun y hy=>(by cases hy),by simp only [List.replicate_zero,List.flatten_nil,pD];rfl⟩
   |succ n ihn=>
    intro cs h
    rw [List.replicate_succ,List.flatten_cons]at h
    obtain⟨c,d,rfl,h1,h2⟩:=cA.split h
    obtain⟨x,rfl,g1,g2⟩:=ih c h1
    obtain⟨l,g3,rfl,g4,g5⟩:=ihn d h2
    refine⟨x::l,by rw [List.length_cons,g3],rfl,fun y hy=>?_,?_⟩
    ·rcases List.mem_cons.1 hy with rfl|hy
     ·exact g1
     ·exact g4 y hy
    ·rw [List.replicate_succ,List.flatten_cons,kS h1.length.symm,List.map_cons,List.sum_cons,g2,g5]
  intro cs h
  obtain⟨l,h1,rfl,h2,h3⟩:=key n cs h
  exact⟨⟨l,h1⟩,rfl,h2,h3⟩
 |slice t ih=>
  intro cs h
  obtain⟨v,vs,rfl,h1,h2⟩:=(show cA [.sl (gx t)] cs from h).cons_inv
  obtain rfl:=h2.eI
  obtain⟨rows,rfl,hl,hr⟩:=h1.DV
  obtain⟨l,rfl,g1,g2⟩:=CM ih hr
  refine⟨l,rfl,⟨by rw [List.length_map]at hl;exact hl,g1⟩,?_⟩
  show(l.map fun y=>1+Gt t y).sum=pD [.sl (gx t)] [dV (cW (l.map (ah t)))]
  simp only [pD,Nat.add_zero]
  rw [DW,g2]
def Zx:(ts:List Ty)→bg ts→Prop
 | [],_=>True
 |t::ts,x=>AT t x.1∧Zx ts x.2
def R3:(ts:List Ty)→bg ts→Nat
 | [],_=>0
 |t::ts,x=>Gt t x.1+R3 ts x.2
def UP(A:List Ty):List (Bool×List Ds):=A.map fun t=>(dz t,gx t)
theorem CN:∀(A:List Ty)(vs:List Value),fi (UP A) vs→∃a:bg A,vs=aO A a∧Zx A a∧R3 A a=J4 (UP A) vs
 | [],vs,h=>by
  obtain rfl:=(show fi [] vs from h).eI
  exact⟨(),rfl,trivial,rfl⟩
 |t::A,vs,h=>by
  obtain⟨v,ws,rfl,h1,h2⟩:=(show fi ((dz t,gx t)::UP A) vs from h).cons_inv
  obtain⟨a,rfl,g1,g2⟩:=CN A ws h2
  have key:∃x:El t,v=aT t x∧AT t x∧Gt t x=UO (dz t,gx t) v:=by
   unfold aT UO
   cases ha:dz t with
   |true=>
    rw [ha]at h1
    obtain⟨cs,rfl,h3⟩:=h1.agg
    obtain⟨x,rfl,h4,h5⟩:=Gu t cs h3
    exact⟨x,by rw [if_pos rfl],h4,h5⟩
   |false=>
    rw [ha]at h1
    obtain⟨s,hs,h3⟩:=(show∃s,gx t=[s]∧oM s v from h1)
    obtain⟨x,h6,h4,h5⟩:=Gu t [v] (by rw [hs];exact .one h3)
    rw [bI ha]at h6
    obtain⟨rfl,_⟩:=List.cons.inj h6
    exact⟨x,by rw [if_neg (by decide)],h4,h5⟩
  obtain⟨x,rfl,h3,h4⟩:=key
  exact⟨(x,a),rfl,⟨h3,g1⟩,by show Gt t x+R3 A a=UO (dz t,gx t) (aT t x)+J4 (UP A) (aO A a);rw [h4,g2]⟩
theorem Il{ι:Ren}(hd:ι.dt=true)(t:Ty)(x:El t):VA ι (aT t x) (aT t x):=by
 have h:=bX.closed (ι:=ι) hd (ca t x)
 unfold aT
 cases ha:dz t with
 |true=>rw [if_pos rfl];exact h.agg
 |false=>
  rw [if_neg (by decide)]
  rw [bI ha]at h
  exact h.2 0 _ _ rfl rfl
theorem kZ{ι:Ren}(hd:ι.dt=true):∀(A:List Ty)(a:bg A),bX ι (aO A a) (aO A a)
 | [],_=> .nil
 |t::A,a=> .cons (Il hd t a.1) (kZ hd A a.2)
section
variable {P:Program} {T:ew} {H:Type} {enc:TypeId×Value→H} {w:World}
end
end Go.az
namespace Go.az
theorem eJ(a b:Int):bD a b=decide (a≤b):=by
 rw [eB]
theorem fZ(a b:Int):cB a b=decide (a=b):=by
 rw [iG]
 by_cases h:a=b
 ·subst h;simp
 ·rw [decide_eq_false h];simpa using h
theorem aV{k n:Nat}(h:k<n):an (Int.ofNat k) n=some k:=by
 show iff (Nat.blt k n) (some k) none=some k
 rw [(bK k n).2 h];rfl
theorem bf{α:Type}{k:Nat}{l:List α}{a:α}(h:l[k]? =some a):aU k l=some a:=by rw [bW,h]
theorem cX{k:Nat}(h:k<9223372036854775807):aP .i64 (Int.add (Int.ofNat k) (Int.ofNat 1))=Int.ofNat (k+1):=by
 rw [show Int.add (Int.ofNat k) (Int.ofNat 1)=Int.ofNat (k+1)from rfl,iH]
 simp [IntKind.wrap,IntKind.bits,IntKind.signed]
 omega
theorem gJ(a b:Nat):bD (Int.ofNat a) (Int.ofNat b)=decide (a≤b):=by
 rw [eJ]
 congr 1
 exact propext Int.ofNat_le
theorem ej(a b:Nat):cB (Int.ofNat a) (Int.ofNat b)=decide (a=b):=by
 rw [fZ]
 congr 1
 exact propext Int.ofNat_inj
theorem p7(a:Int):cB a a=true:=by rw [fZ];simp
theorem ym(b:Bool):lI b b=true:=by cases b<;>rfl
theorem nc{α:Type}(o:Option (List α)):iff (fp o) none (some (aM o))=o:=by cases o<;>rfl
theorem R4{α:Type}(o:Option (List α)):iff (fp o) [] (aM o)=aM o:=by cases o<;>rfl
theorem fA{α β:Type}(a:α)(f:α→Option β):andThen (some a) f=f a:=rfl
theorem vR{X R:Type}(f:X→Option R)(x:X):cq f (.inl x)=f x:=rfl
theorem gP{a b:Nat}(h:a≤b):Nat.ble a b=true:=(bk a b).2 h
theorem fH{α:Type}{c:Bool}{a b:α}(h:c=true):iff c a b=a:=by rw [h];rfl
theorem p8{α:Type}{c:Bool}{a b:α}(h:c=false):iff c a b=b:=by rw [h];rfl
theorem dI{α:Type}{c:Bool}{a b:α}(h:c=true):iff (!c) a b=b:=by rw [h];rfl
theorem dO{α:Type}{c:Bool}{a b:α}(h:c=false):iff (!c) a b=a:=by rw [h];rfl
theorem aF{α β:Type}{o:Option α}{a:α}{f:α→Option β}(h:o=some a):andThen o f=f a:=by rw [h];rfl
theorem br{a b:Nat}(h:b<a):bD (Int.ofNat a) (Int.ofNat b)=false:=by rw [gJ,decide_eq_false (by omega)]
theorem le_true{a b:Nat}(h:a≤b):bD (Int.ofNat a) (Int.ofNat b)=true:=by rw [gJ,decide_eq_true h]
section
variable {X R:Type} {body:X→Option (X⊕R)}
theorem iB{n:Nat}{x x':X}(h:body x=some (.inl x')):cp body (n+1) x=cp body n x':=by
 show andThen (body x) (fun y=> @Sum.rec X R (fun _=>Option R) (cp body n) some y)=_
 rw [h];rfl
theorem dP{n:Nat}{x:X}{r:R}(h:body x=some (.inr r)):cp body (n+1) x=some r:=by
 show andThen (body x) (fun y=> @Sum.rec X R (fun _=>Option R) (cp body n) some y)=_
 rw [h];rfl
theorem rB{Post:R→Prop}(I:Nat→X→Prop)(step:∀m x,I m x→(∃x' m',body x=some (.inl x')∧m'<m∧I m' x')∨∃r,body x=some (.inr r)∧Post r):
  ∀(n m:Nat)(x:X),I m x→m<n→∃r,cp body n x=some r∧Post r:=by
 intro n
 induction n with
 |zero=>intro m x _ h;omega
 |succ n ih=>
  intro m x hI hm
  rcases step m x hI with⟨x',m',h1,h2,h3⟩|⟨r,h1,h2⟩
  ·obtain⟨r,h4,h5⟩:=ih m' x' h3 (by omega)
   exact⟨r,by rw [iB h1];exact h4,h5⟩
  ·exact⟨r,dP h1,h2⟩
theorem oD{S α:Type}(l:List α)(st:Nat→S→X)(f:S→α→S)(fin:S→R)(I:Nat→S→Prop)
  (step:∀k a s,l[k]? =some a→I k s→body (st k s)=some (.inl (st (k+1) (f s a)))∧I (k+1) (f s a)) (last:∀s,I l.length s→body (st l.length s)=some (.inr (fin s))):
  ∀(n:Nat)(s:S),I 0 s→l.length<n→cp body n (st 0 s)=some (fin (l.foldl f s))∧I l.length (l.foldl f s):=by
 have key:∀(r:List α)(k n:Nat)(s:S),l.drop k=r→k+r.length=l.length→I k s→r.length<n→cp body n (st k s)=some (fin (r.foldl f s))∧I l.length (r.foldl f s):=by
  intro r
  induction r with
  |nil=>
   intro k n s _ hk hI hn
   have hk:k=l.length:=by simpa using hk
   subst hk
   cases n with
   |zero=>simp at hn
   |succ n=>exact⟨dP (last s hI),hI⟩
  |cons a r ih=>
   intro k n s hd hk hI hn
   have ha:l[k]? =some a:=by
    have:(l.drop k)[0]? =some a:=by rw [hd];rfl
    rwa [List.getElem?_drop,Nat.add_zero]at this
   obtain⟨h1,h2⟩:=step k a s ha hI
   cases n with
   |zero=>simp at hn
   |succ n=>
    rw [iB h1,List.foldl_cons]
    exact ih (k+1) n (f s a) (by rw [←List.drop_drop,hd];rfl) (by simp at hk;omega) h2 (by simp at hn;omega)
 intro n s hI hn
 exact key l 0 n s rfl (by simp) hI hn
def Ez{α R:Type}(p:α→Bool)(hit:Nat→R)(fin:R):List α→Nat→R
 | [],_=>fin
 |a::r,k=>if p a=true then hit k else Ez p hit fin r (k+1)
theorem EA{α:Type}(l:List α)(st:Nat→X)(p:α→Bool)(hit:Nat→R)(fin:R)(step:∀k a,l[k]? =some a→body (st k)=some (if p a=true then .inr (hit k)else .inl (st (k+1))))
  (last:body (st l.length)=some (.inr fin)):∀n:Nat,l.length<n→cp body n (st 0)=some (Ez p hit fin l 0):=by
 have key:∀(r:List α)(k n:Nat),l.drop k=r→k+r.length=l.length→r.length<n→cp body n (st k)=some (Ez p hit fin r k):=by
  intro r
  induction r with
  |nil=>
   intro k n _ hk hn
   have hk:k=l.length:=by simpa using hk
   subst hk
   cases n with
   |zero=>simp at hn
   |succ n=>exact dP last
  |cons a r ih=>
   intro k n hd hk hn
   have ha:l[k]? =some a:=by
    have:(l.drop k)[0]? =some a:=by rw [hd];rfl
    rwa [List.getElem?_drop,Nat.add_zero]at this
   have h1:=step k a ha
   cases n with
   |zero=>simp at hn
   |succ n=>
    cases hp:p a with
    |true=>
     rw [if_pos hp]at h1
     rw [dP h1,Ez,if_pos hp]
    |false=>
     have hne:¬p a=true:=by rw [hp];decide
     rw [if_neg hne]at h1
     rw [iB h1,Ez,if_neg hne]
     exact ih (k+1) n (by rw [←List.drop_drop,hd];rfl) (by simp at hk;omega) (by simp at hn;omega)
 intro n hn
 exact key l 0 n rfl (by simp) hn
end
def lC{S α R:Type}(f:Nat→S→α→S⊕R)(fin:S→R):List α→Nat→S→R
 | [],_,s=>fin s
 |a::l,k,s=>match f k s a with
  | .inl s'=>lC f fin l (k+1) s'
  | .inr r=>r
def Z9{S X R:Type}(g:S→X):S⊕R→X⊕R
 | .inl s=> .inl (g s)
 | .inr r=> .inr r
section
variable {X R:Type} {body:X→Option (X⊕R)}
theorem fB{S α:Type}(l:List α)(st:Nat→S→X)(f:Nat→S→α→S⊕R)(fin:S→R)(I:Nat→S→Prop)
  (step:∀k a s,l[k]? =some a→I k s→body (st k s)=some (Z9 (st (k+1)) (f k s a))∧∀s',f k s a= .inl s'→I (k+1) s') (last:∀s,I l.length s→body (st l.length s)=some (.inr (fin s))):
  ∀(n:Nat)(s:S),I 0 s→l.length<n→cp body n (st 0 s)=some (lC f fin l 0 s):=by
 have key:∀(r:List α)(k n:Nat)(s:S),l.drop k=r→k+r.length=l.length→I k s→r.length<n→cp body n (st k s)=some (lC f fin r k s):=by
  intro r
  induction r with
  |nil=>
   intro k n s _ hk hI hn
   have hk:k=l.length:=by simpa using hk
   subst hk
   cases n with
   |zero=>simp at hn
   |succ n=>exact dP (last s hI)
  |cons a r ih=>
   intro k n s hd hk hI hn
   have ha:l[k]? =some a:=by
    have:(l.drop k)[0]? =some a:=by rw [hd];rfl
    rwa [List.getElem?_drop,Nat.add_zero]at this
   obtain⟨h1,h2⟩:=step k a s ha hI
   cases n with
   |zero=>simp at hn
   |succ n=>
    unfold lC
    cases hf:f k s a with
    |inl s'=>
     rw [hf]at h1
     rw [iB h1]
     exact ih (k+1) n s' (by rw [←List.drop_drop,hd];rfl) (by simp at hk;omega) (h2 s' hf) (by simp at hn;omega)
    |inr q=>
     rw [hf]at h1
     exact dP h1
 intro n s hI hn
 exact key l 0 n s rfl (by simp) hI hn
end
end Go.az
namespace Go.az
section
variable {P:Program} {σ σ':aD} {π π':aK} {δ D D':Nat→Prop} {H:Nat→Option aN} {w w1:World}
theorem fq{k:Nat}{c:List Value}{e:Option Nat}{aA:Nat}{ro:Bool}(h:σ.obj k=some (.cells c e aA ro false)):σ.row k=some c:=by
 unfold aD.row
 rw [h];rfl
theorem cC.cell(hp:cC σ σ' π δ D H w){k off:Nat}{c:List Value}{a':Addr}(h:σ.row k=some c)(ha:AR π D ⟨k,off,none⟩ a'){j:Nat}{v:Value}(hv:c[off+j]? =some v):
  ∃v',w.cell? ⟨a'.block,a'.off+j,none⟩=some v'∧VR π D v v':=by
 obtain⟨B,x,cc,elem,fz,rfl,hB,hle,_,hvs⟩:=hp.cells h ha
 obtain⟨v',h1,h2⟩:=hvs.get hv
 refine⟨v',?_,h2⟩
 have hj:off+j<c.length:=(List.getElem?_eq_some_iff.1 hv).1
 rw [List.getElem?_take,if_pos hj,List.getElem?_drop]at h1
 have:w.cell? ⟨B,x+off+j,none⟩=cc[x+off+j]? :=by simp [World.cell?,hB]
 show w.cell? ⟨B,x+off+j,none⟩=_
 rw [this,←Array.getElem?_toList,←h1]
 congr 1
 omega
theorem cC.free(hp:cC σ σ' π δ D H w){k off:Nat}{c:List Value}{e:Option Nat}{aA:Nat}{a':Addr}(h:σ.obj k=some (.cells c e aA false false))(ha:AR π D ⟨k,off,none⟩ a'){j:Nat}(hj:off+j<c.length):
  w.frozen? ⟨a'.block,a'.off+j,none⟩=false:=by
 obtain⟨i,hi,cc,elem,fz,h1,h2,h3,h4,h5,h6,_⟩:=hp.here h rfl ha.known
 rw [ha.at hi]
 have h7:=h6 rfl (i.sh+off+j) (by omega)
 show w.frozen? ⟨i.bm,i.sh+off+j,none⟩=false
 have hn:¬(fz.1≤i.sh+off+j∧i.sh+off+j<fz.2):=h7
 unfold World.frozen?
 simp only [h1]
 simpa using hn
theorem cC.aB(hp:cC σ σ' π δ D H w){k off:Nat}{c:List Value}{a':Addr}(h:σ.row k=some c)(ha:AR π D ⟨k,off,none⟩ a'):a'.block<w.heap.size:=by
 obtain⟨B,x,cc,elem,fz,rfl,hB,_⟩:=hp.cells h ha
 exact Go.az.aB hB
theorem cC.apart(hp:cC σ σ' π δ D H w){k₁ k₂ f₁ f₂:Nat}{c₁ c₂:List Value}{e₁ e₂:Option Nat}{o₁ o₂:Nat}{a₁ a₂:Addr}(h₁:σ.obj k₁=some (.cells c₁ e₁ o₁ false false))(h₂:σ.obj k₂=some (.cells c₂ e₂ o₂ false false))
  (ho:o₁≠o₂) (hk:k₁≠k₂) (ha₁:AR π D ⟨k₁,f₁,none⟩ a₁) (ha₂:AR π D ⟨k₂,f₂,none⟩ a₂):a₁.block≠a₂.block:=by
 obtain⟨i₁,hi₁,_,_,_,_,_,_,_,_,_,_,ho₁,hr₁,_⟩:=hp.here h₁ rfl ha₁.known
 obtain⟨i₂,hi₂,_,_,_,_,_,_,_,_,_,_,ho₂,hr₂,_⟩:=hp.here h₂ rfl ha₂.known
 rw [ha₁.at hi₁,ha₂.at hi₂]
 intro hb
 rcases hp.rel.sep k₁ k₂ i₁ i₂ hk hi₁ hi₂ hb with⟨h,_⟩|⟨_,_,h,_⟩
 ·rw [hr₁]at h;cases h
 ·rw [ho₁,ho₂]at h;exact ho h
theorem VR.vX{v':Value}{k off:Nat}(h:VR π D (.pointer (some ⟨k,off,none⟩)) v'):∃a',v'= .pointer (some a')∧a'.spot=none∧AR π D ⟨k,off,none⟩ a':=by
 obtain⟨a',h1,h2⟩:=h.js
 exact⟨a',h1,h2.1,h2⟩
theorem VR.mE{a:Addr}{n c:Nat}{v':Value}(h:VR π D (.slice (some a) n c) v')(hc:0<c):∃a' c',v'= .slice (some a') n c'∧c≤c'∧a'.spot=none∧AR π D ⟨a.block,a.off,none⟩ a':=by
 obtain⟨a',c',h1,h2,h3⟩:=kL h hc
 exact⟨a',c',h1,h2,h3.1,h3⟩
end
end Go.az
namespace Go.az
open Go.RowKit
def jH:Value→Bool
 | .bool _=>true
 | .int _ _=>true
 | .string _=>true
 |_=>false
theorem gQ:∀(t:Ty)(x:El t),cn t=true→∀v∈ah t x,jH v=true
 | .bool,x,_,v,h=>by rw [List.mem_singleton.1 (show v∈ [Value.bool x]from h)];rfl
 | .int k,x,_,v,h=>by rw [List.mem_singleton.1 (show v∈ [Value.int k x]from h)];rfl
 | .str,x,_,v,h=>by rw [List.mem_singleton.1 (show v∈ [Value.string ⟨⟨x⟩⟩]from h)];rfl
 | .unit,_,_,v,h=>by cases (show v∈ []from h)
 | .slice _,_,h,_,_=>by cases h
 | .pair a b,x,h,v,hv=>by
  have h:(cn a&&cn b)=true:=h
  rw [Bool.and_eq_true]at h
  rcases List.mem_append.1 (show v∈ah a x.1++ah b x.2 from hv)with hv|hv
  ·exact gQ a x.1 h.1 v hv
  ·exact gQ b x.2 h.2 v hv
 | .arr n t,x,h,v,hv=>by
  obtain⟨r,hr,hv⟩:=List.mem_flatten.1 (show v∈(x.1.map (ah t)).flatten from hv)
  obtain⟨y,_,rfl⟩:=List.mem_map.1 hr
  exact gQ t y h v hv
section
variable {π:aK} {D:Nat→Prop} {ι:Ren}
theorem VR.jO{v v':Value}(h:VR π D v v')(hp:jH v=true):v'=v:=by
 cases h<;>first|rfl|cases hp
theorem VA.jO{v v':Value}(h:VA ι v v')(hp:jH v=true):v'=v:=by
 cases h<;>first|rfl|cases hp
theorem VR.pl{v:Value}(hp:jH v=true):VR π D v v:=by
 cases v<;>first|(cases hp;done)|constructor
theorem aR.jO{l l':List Value}(h:aR π D l l')(hp:∀v∈l,jH v=true):l'=l:=by
 refine List.ext_getElem h.1.symm fun i h1 h2=>?_
 exact(h.2 i _ _ (List.getElem?_eq_getElem h2) (List.getElem?_eq_getElem h1)).jO (hp _ (List.getElem_mem h2))
theorem bX.jO{l l':List Value}(h:bX ι l l')(hp:∀v∈l,jH v=true):l'=l:=by
 refine List.ext_getElem h.1.symm fun i h1 h2=>?_
 exact(h.2 i _ _ (List.getElem?_eq_getElem h2) (List.getElem?_eq_getElem h1)).jO (hp _ (List.getElem_mem h2))
theorem aR.pl{l:List Value}(hp:∀v∈l,jH v=true):aR π D l l:=
 ⟨rfl,fun i v v' h1 h2=>by
  rw [h1]at h2
  cases h2
  exact .pl (hp v (List.mem_of_getElem? h1))⟩
theorem Gv{v:Value}(h:jH v=true):bH v=true:=by
 cases v<;>first|(cases h;done)|rfl
theorem PR(t:Ty)(x:El t)(h:cn t=true):VR π D (aT t x) (aT t x):=by
 have h1:=gQ t x h
 unfold aT
 cases ha:dz t with
 |true=>
  rw [if_pos rfl]
  exact .agg rfl (fun v hv=>Gv (h1 v hv)) (aR.pl h1).2
 |false=>
  rw [if_neg (by decide)]
  refine .pl (h1 _ ?_)
  rw [bI ha]
  exact List.mem_singleton.2 rfl
theorem sN{t:Ty}{x:El t}(h:cn t=true){v':Value}(hv:VR π D (aT t x) v'):v'=aT t x:=by
 have h1:=gQ t x h
 unfold aT at hv ⊢
 cases ha:dz t with
 |true=>
  rw [ha,if_pos rfl]at hv
  rw [if_pos rfl]
  cases hv with
  |agg hc _ hcs=>rw [aR.jO ⟨hc,hcs⟩ h1]
 |false=>
  rw [ha,if_neg (by decide)]at hv
  rw [if_neg (by decide)]
  refine hv.jO (h1 _ ?_)
  rw [bI ha]
  exact List.mem_singleton.2 rfl
theorem CP{t:Ty}{x:El t}(h:cn t=true){v':Value}(hv:VA ι (aT t x) v'):v'=aT t x:=by
 have h1:=gQ t x h
 unfold aT at hv ⊢
 cases ha:dz t with
 |true=>
  rw [ha,if_pos rfl]at hv
  rw [if_pos rfl]
  cases hv with
  |agg hc hcs=>rw [bX.jO ⟨hc,hcs⟩ h1]
 |false=>
  rw [ha,if_neg (by decide)]at hv
  rw [if_neg (by decide)]
  refine hv.jO (h1 _ ?_)
  rw [bI ha]
  exact List.mem_singleton.2 rfl
theorem p9:∀(ts:List Ty)(x:bg ts),ts.all cn=true→aR π D (aO ts x) (aO ts x)
 | [],_,_=> .nil
 |t::ts,x,h=>by
  rw [List.all_cons,Bool.and_eq_true]at h
  exact .cons (PR t x.1 h.1) (p9 ts x.2 h.2)
theorem k8:∀(ts:List Ty)(x:bg ts){l:List Value},ts.all cn=true→aR π D (aO ts x) l→l=aO ts x
 | [],_,l,_,h=>h.empty
 |t::ts,x,l,h,hv=>by
  rw [List.all_cons,Bool.and_eq_true]at h
  obtain⟨v',r,rfl,h1,h2⟩:=(show aR π D (aT t x.1::aO ts x.2) l from hv).split
  rw [sN h.1 h1,k8 ts x.2 h.2 h2];rfl
theorem bX.Sz{v:Value}{l m:List Value}(h:bX ι (v::l) m):∃v' r,m=v'::r∧VA ι v v'∧bX ι l r:=by
 cases m with
 |nil=>exact absurd h.1 (by simp)
 |cons a m=>exact⟨a,m,rfl,h.2 0 _ _ rfl rfl,⟨by simpa using h.1,fun i u u' g1 g2=>h.2 (i+1) u u' (by simpa using g1) (by simpa using g2)⟩⟩
theorem qa:∀(ts:List Ty)(x:bg ts){l:List Value},ts.all cn=true→bX ι (aO ts x) l→l=aO ts x
 | [],_,l,_,h=>List.eq_nil_of_length_eq_zero h.1.symm
 |t::ts,x,l,h,hv=>by
  rw [List.all_cons,Bool.and_eq_true]at h
  obtain⟨v',r,rfl,h1,h2⟩:=(show bX ι (aT t x.1::aO ts x.2) l from hv).Sz
  rw [CP h.1 h1,qa ts x.2 h.2 h2];rfl
theorem Lw(ts:List Ty)(x:bg ts)(h:ts.all cn=true):VR π D (ar (aO ts x)) (ar (aO ts x)):=by
 have h1:=p9 (π:=π) (D:=D) ts x h
 match ts,x,h1 with
 | [],x,h1=>exact .tuple rfl rfl aR.nil.2
 | [t],x,h1=>exact h1.2 0 _ _ rfl rfl
 |t::u::ts,x,h1=>exact .tuple rfl rfl h1.2
theorem jc(ts:List Ty)(x:bg ts)(h:ts.all cn=true){v':Value}(hv:VR π D (ar (aO ts x)) v'):v'=ar (aO ts x):=by
 match ts,x,h,hv with
 | [],x,h,hv=>
  cases hv with
  |tuple _ hc hcs=>rw [(aR.empty ⟨hc,hcs⟩)];rfl
 | [t],x,h,hv=>
  rw [List.all_cons,Bool.and_eq_true]at h
  exact sN h.1 hv
 |t::u::ts,x,h,hv=>
  have key:∀{l:List Value}{v':Value},l.length≠1→VR π D (.tuple ⟨l⟩) v'→∃l',v'= .tuple ⟨l'⟩∧aR π D l l':=fun{l v'} hl hv=>by
   cases hv with
   |tuple _ hc hcs=>exact⟨_,rfl,hc,hcs⟩
   |data=>exact absurd rfl hl
   |dataP=>exact absurd rfl hl
   |any=>exact absurd rfl hl
  obtain⟨l',rfl,h2⟩:=key (l:=aO (t::u::ts) x) (show(aO ts x.2.2).length+1+1≠1 by omega) hv
  rw [k8 (t::u::ts) x h h2];rfl
end
section
variable {P:Program} {σ σ':aD} {π:aK} {δ D:Nat→Prop} {H:Nat→Option aN} {w w1:World}
theorem Post.below(h:cC σ σ π δ D H w)(hb:Below w.heap.size w w1):Post σ σ π δ D H w π D w1:=by
 have p:=Post.refl h
 refine⟨p.mono,⟨fun k i hk=>?_,p.rel.lF,fun B cc hf=>?_,p.rel.AS,p.rel.sep⟩,p.sub,p.kept,p.lu,p.o8,p.Ni,p.lF,p.bm,p.Fw,⟨hb.os,hb.tape,hb.output,hb.size,fun B hB _=>hb.block B hB⟩⟩
 ·obtain⟨o,ho,hr⟩:=p.rel.obj k i hk
  exact⟨o,ho,hr.mono (eV.refl _ _) (hb.block _ (p.rel.lt hk))⟩
 ·obtain⟨el,fz,h1⟩:=p.rel.uh B cc hf
  exact⟨el,fz,(hb.block _ (aB h1)).trans h1⟩
theorem qc{G:bP}{f:FuncId}{A B:List Ty}{F:bg A→Option (bg B)}(he:Enters P f)(hA:A.all cn=true)(hB:B.all cn=true)
  (h:∀a r,F a=some r→∀w,Calls P f ⟨aO A a⟩ w fun e w'=>e= .returned (ar (aO B r))∧Below w.heap.size w w'):aJ P G f (bu.spec ⟨f,A,B,F,false,none⟩):=by
 have inv:∀{args σ v σ'},bu.spec ⟨f,A,B,F,false,none⟩ args σ=some (v,σ')→σ'=σ∧∃a r,F a=some r∧args=aO A a∧v=ar (aO B r):=fun{args σ v σ'} hs=>by
  obtain⟨h1,_,a,h2,h3,h4⟩:=rf (show sG (vF A) [] (fun a=>(F a).isSome=true) (bu.res ⟨f,A,B,F,false,none⟩) args σ=some (v,σ')from hs)
  rw [dN]at h3
  obtain⟨r,hr⟩:=Option.isSome_iff_exists.1 h2
  refine⟨h1,a,r,hr,qa A a hA h3,?_⟩
  rw [h4]
  show @Option.rec (bg B) (fun _=>Value) undef (fun r=>ar (aO B r)) (F a)=_
  rw [hr]
 refine⟨fun args σ v σ' hs=>by rw [(inv hs).1];exact .refl σ,fun args σ v σ' hs=>⟨he,fun _ π δ D H w args' _ ha hp=>?_⟩⟩
 obtain⟨rfl,a,r,h1,rfl,rfl⟩:=inv hs
 rw [k8 A a hA ha]
 refine(h a r h1 w).mono fun e w' ⟨h2,h3⟩=>?_
 exact⟨_,π,D,h2,Lw B r hB,.below hp h3⟩
theorem Lx:cC ⟨.leaf,0,0,0⟩ ⟨.leaf,0,0,0⟩ ⟨fun _=>none,fun _=>none⟩ No No (fun _=>none) w where
 rel:=⟨fun k i h=>(by cases h),fun k i h=>(by cases h),fun B cc h=>(by cases h),fun k i h=>(by cases h),fun k₁ k₂ i₁ i₂ _ h=>(by cases h)⟩
 wf:=fun k _=>rfl
 Rw:=Nat.le_refl _
 fresh:=fun k _ _=>rfl
 Ng:=fun k h=>h.elim
 Ju:=fun k i h=>h.elim
 Nh:=fun k i h=>(by cases h)
 dead:=fun k h=>h.elim
theorem Am{f:FuncId}{A B:List Ty}{F:bg A→Option (bg B)}{eS:Bool}(h:aJ P fg f (bu.spec ⟨f,A,B,F,eS,none⟩))(hl:eS=false)(hA:A.all cn=true)(hB:B.all cn=true){a:bg A}{r:bg B}(hF:F a=some r)(w:World):
  Calls P f ⟨aO A a⟩ w fun e w'=>e= .returned (ar (aO B r))∧Below w.heap.size w w':=by
 subst hl
 have hs:bu.spec ⟨f,A,B,F,false,none⟩ (aO A a) ⟨.leaf,0,0,0⟩=some (ar (aO B r),⟨.leaf,0,0,0⟩):=by
  show sG (vF A) [] (fun a=>(F a).isSome=true) (bu.res ⟨f,A,B,F,false,none⟩) (aO A a) _=_
  rw [uW (a:=a) rfl (by rw [hF];rfl) (by rw [dN];exact kZ rfl A a)]
  show some (@Option.rec (bg B) (fun _=>Value) undef (fun r=>ar (aO B r)) (F a),_)=_
  rw [hF]
 obtain⟨_,hsim⟩:=h.2 _ _ _ _ hs
 refine(hsim (Nat.zero_le _) ⟨fun _=>none,fun _=>none⟩ No No (fun _=>none) w (aO A a) (fun g hg=>by cases hg) (p9 A a hA) Lx).mono fun e w' ⟨v',π',D',h1,h2,h3⟩=>?_
 rw [jc B r hB h2]at h1
 exact⟨h1,h3.fr.os,h3.fr.tape,h3.fr.output,h3.fr.size,fun k hk=>h3.fr.kF k hk (fun _ _ h=>by cases h)⟩
end
end Go.az
namespace Go.az
open Go.RowKit
def LL(w:World)(ts:List Ty)(a:bg ts)(l:List Value):Prop:=aR ⟨fun _=>none,cP w⟩ No (aO ts a) l
def cQ(w:World)(t:Ty)(x:El t)(v:Value):Prop:=VR ⟨fun _=>none,cP w⟩ No (aT t x) v
def WL(w:World)(ts:List Ty)(a:bg ts)(v:Value):Prop:=VR ⟨fun _=>none,cP w⟩ No (ar (aO ts a)) v
section
variable {P:Program} {π π':aK} {D D':Nat→Prop}
theorem As{t:Ty}{x:El t}{v':Value}(h:VR π D (aT t x) v')(hf:∀B cc,π.fr B=some cc→π'.fr B=some cc):VR π' D' (aT t x) v':=by
 have hc:=ca t x
 unfold aT at h ⊢
 cases ha:dz t with
 |true=>
  rw [ha,if_pos rfl]at h
  rw [if_pos rfl]
  cases h with
  |agg hl h1 hcs=>exact .agg hl h1 ((aR.Z7 ⟨hl,hcs⟩ hc).mono hf).Xx.2
 |false=>
  rw [ha,if_neg (by decide)]at h
  rw [if_neg (by decide)]
  have:cH (pF t x)=true:=hc _ (by rw [bI ha];exact List.mem_singleton.2 rfl)
  exact((h.rd this).mono hf).vr
theorem wc:∀(ts:List Ty)(a:bg ts){l:List Value},aR π D (aO ts a) l→(∀B cc,π.fr B=some cc→π'.fr B=some cc)→aR π' D' (aO ts a) l
 | [],_,l,h,_=>by rw [(show aR π D [] l from h).empty];exact .nil
 |t::ts,a,l,h,hf=>by
  obtain⟨v',r,rfl,h1,h2⟩:=(show aR π D (aT t a.1::aO ts a.2) l from h).split
  exact .cons (As h1 hf) (wc ts a.2 h2 hf)
theorem yw{l:List Value}{v':Value}(hl:l.length≠1)(hv:VR π D (.tuple ⟨l⟩) v'):∃l',v'= .tuple ⟨l'⟩∧aR π D l l':=by
 cases hv with
 |tuple _ hc hcs=>exact⟨_,rfl,hc,hcs⟩
 |data=>exact absurd rfl hl
 |dataP=>exact absurd rfl hl
 |any=>exact absurd rfl hl
theorem EE{l:List Value}(h:l.length≠1):dF l=false:=by
 cases l with
 |nil=>rfl
 |cons a l=>cases l with
  |nil=>exact absurd rfl h
  |cons b l=>rfl
theorem SL(ts:List Ty)(a:bg ts){v':Value}(h:VR π D (ar (aO ts a)) v')(hf:∀B cc,π.fr B=some cc→π'.fr B=some cc):VR π' D' (ar (aO ts a)) v':=by
 match ts,a,h with
 | [],a,h=>
  obtain⟨l',rfl,h2⟩:=yw (l:=[]) (by decide) h
  rw [h2.empty]
  exact .tuple rfl rfl aR.nil.2
 | [t],a,h=>exact As h hf
 |t::u::ts,a,h=>
  have hn:(aO (t::u::ts) a).length≠1:=show(aO ts a.2.2).length+1+1≠1 by omega
  obtain⟨l',rfl,h2⟩:=yw (l:=aO (t::u::ts) a) hn h
  have h3:=wc (π':=π') (D':=D') (t::u::ts) a h2 hf
  exact .tuple (EE hn) h3.1 h3.2
theorem qf{w:World}{B:Nat}{cc:List Value}{elem:TypeId}{fz:Nat×Nat}(h:w.heap[B]? =some (.cells ⟨cc⟩ elem fz)):cP w B=some cc:=by
 unfold cP
 rw [h]
theorem PZ(w:World):cC ⟨.leaf,0,0,0⟩ ⟨.leaf,0,0,0⟩ ⟨fun _=>none,cP w⟩ No No (fun _=>none) w where
 rel:=⟨fun k i h=>(by cases h),fun k i h=>(by cases h),fun B cc h=>kj h,fun k i h=>(by cases h),fun k₁ k₂ i₁ i₂ _ h=>(by cases h)⟩
 wf:=fun k _=>rfl
 Rw:=Nat.le_refl _
 fresh:=fun k _ _=>rfl
 Ng:=fun k h=>h.elim
 Ju:=fun k i h=>h.elim
 Nh:=fun k i h=>(by cases h)
 dead:=fun k h=>h.elim
theorem fm{f:FuncId}{A B:List Ty}{F:bg A→Option (bg B)}{eS:Bool}(h:aJ P fg f (bu.spec ⟨f,A,B,F,eS,none⟩)){a:bg A}{r:bg B}(hF:F a=some r){w:World}{args':List Value}(ha:LL w A a args'):
  Calls P f ⟨args'⟩ w fun e w'=>∃v',e= .returned v'∧WL w' B r v'∧Below w.heap.size w w':=by
 have hs:bu.spec ⟨f,A,B,F,eS,none⟩ (aO A a) ⟨.leaf,0,0,0⟩=some (ar (aO B r),⟨.leaf,0,0,0⟩):=by
  have hr:bu.res ⟨f,A,B,F,eS,none⟩ a=ar (aO B r):=by
   show @Option.rec (bg B) (fun _=>Value) undef (fun r=>ar (aO B r)) (F a)=_
   rw [hF]
  rw [←hr]
  cases eS with
  |false=>exact uW (a:=a) rfl (by show(F a).isSome=true;rw [hF];rfl) (by rw [dN];exact kZ rfl A a)
  |true=>exact BX (a:=a) rfl (by show(F a).isSome=true;rw [hF];rfl) (by rw [dN];exact kZ rfl A a)
 obtain⟨_,hsim⟩:=h.2 _ _ _ _ hs
 refine(hsim (Nat.zero_le _) ⟨fun _=>none,cP w⟩ No No (fun _=>none) w args' (fun g hg=>by cases hg) ha (PZ w)).mono fun e w' ⟨v',π',D',h1,h2,h3⟩=>?_
 refine⟨v',h1,SL B r h2 fun B cc hf=>?_,h3.fr.os,h3.fr.tape,h3.fr.output,h3.fr.size,fun k hk=>h3.fr.kF k hk (fun _ _ h=>by cases h)⟩
 obtain⟨elem,fz,hB⟩:=h3.rel.uh B cc hf
 exact qf hB
theorem xk{G:bP}{f:FuncId}{A B:List Ty}{F:bg A→Option (bg B)}(he:Enters P f)(hB:B.all cn=true)
  (h:∀a r,F a=some r→∀w args',LL w A a args'→Calls P f ⟨args'⟩ w fun e w'=>e= .returned (ar (aO B r))∧Below w.heap.size w w'):aJ P G f (bu.spec ⟨f,A,B,F,true,none⟩):=by
 have inv:∀{args σ v σ'},bu.spec ⟨f,A,B,F,true,none⟩ args σ=some (v,σ')→σ'=σ∧∃a r,F a=some r∧bX (BW [] σ) (aO A a) args∧v=ar (aO B r):=fun{args σ v σ'} hs=>by
  obtain⟨h1,_,a,h2,h3,h4⟩:=re (show uV (vF A) [] (fun a=>(F a).isSome=true) (bu.res ⟨f,A,B,F,true,none⟩) args σ=some (v,σ')from hs)
  rw [dN]at h3
  obtain⟨r,hr⟩:=Option.isSome_iff_exists.1 h2
  refine⟨h1,a,r,hr,h3,?_⟩
  rw [h4]
  show @Option.rec (bg B) (fun _=>Value) undef (fun r=>ar (aO B r)) (F a)=_
  rw [hr]
 refine⟨fun args σ v σ' hs=>by rw [(inv hs).1];exact .refl σ,fun args σ v σ' hs=>⟨he,fun _ π δ D H w args' _ ha hp=>?_⟩⟩
 obtain⟨rfl,a,r,h1,h2,rfl⟩:=inv hs
 have hF:∀b cells,σ'.row b=some cells→∃e aA ro,σ'.obj b=some (.cells cells e aA ro false):=fun b cells hb=>by
  obtain⟨e,aA,ro,ho⟩:=Dy hb
  exact⟨e,aA,ro,ho⟩
 have hent:=oq (tabs:=[]) (n:=0) (G:=fun _=>false) (by rfl) (fun p hp=>by cases hp) (fun g hg=>by cases hg) rfl h2 hF
 obtain⟨hP,hrep⟩:=hent.rep hp
 have hac:aR _ No _ _:=hent.args.comp hP ha
 have hl:LL w A a args':=wc A a hac fun B cc hf=>by
  rcases eA hf with h3|⟨_,h3⟩
  ·obtain⟨elem,fz,hB⟩:=hp.rel.uh B cc h3
   exact qf hB
  ·exact h3
 refine(h a r h1 w args' hl).mono fun e w' ⟨h2,h3⟩=>?_
 exact⟨_,π,D,h2,Lw B r hB,.below hp h3⟩
end
end Go.az
namespace Go.az
theorem ll{n:Int}(h1: -9223372036854775808≤n)(h2:n≤9223372036854775807):aP .i64 n=n:=by
 rw [iH]
 simp [IntKind.wrap,IntKind.bits,IntKind.signed]
 split<;>omega
end Go.az
end
