/- What the card of ReportBack leans on, part 5: written with few blanks and short names by a program out of longer texts. Conditions: those of each lemma. -/
import Derived.Test.YtdmpneafeadbbaaGreatDoorPad
import Derived.Carry
import Derived.KernelRfl
set_option maxRecDepth 100000
set_option linter.unusedVariables false
set_option linter.unusedSimpArgs false
noncomputable section
namespace Go.az
def QE:List (Nat×List Value)→Tr aN
 | []=> .leaf
 |p::r=>(QE r).set p.1 (.cells p.2 none p.1 true false)
def JN:List (List Value)→Nat→Tr aN→Tr aN
 | [],_,t=>t
 |c::r,n,t=>JN r (n+1) (t.set n (.cells c none n true false))
def start(gs:List (Nat×List Value))(n:Nat)(bs:List (List Value)):aD:=
 ⟨JN bs n (QE gs),n+bs.length,n+bs.length,n+bs.length⟩
section
variable {H:Type}
def valueOf(T:ew)(t:TypeId)(cs:List Value):Option Value:=andThen (ty T t) fun i=>iff i.agg (some (.agg ⟨cs⟩)) (match cs with| [v]=>some v|_=>none)
end
def No:Nat→Prop:=fun _=>False
section
variable {P:Program} {T:ew} {H:Type} {enc:TypeId×Value→H} {w:World} {D:Nat→Prop}
theorem DQ(hT:bw P T){base:Nat}{t:TypeId}{c:List Value}{v v':Value}{π:aK}(h:valueOf T t c=some v)(hok:Value.okWide P w .any base t v')(hc:aR π D c v'.cells.toList)(h1:∀u∈c,bH u=true)(hone:∀u∈c,bH u=true):VR π D v v':=by
 obtain⟨i,hi,h2⟩:=aa h
 rw [iff_eq]at h2
 have hti:=hT t i hi
 unfold Value.okWide at hok
 rw [hti.desc]at hok
 split at h2
 ·rename_i ha
  cases h2
  rw [hti.agg]at ha
  cases hd:i.desc<;>rw [hd]at ha hok<;>first|(cases ha;done)|skip
  all_goals
   obtain⟨cs,rfl,_,_⟩:=hok
   obtain⟨cs⟩:=cs
   exact hc.agg hone
 ·rename_i ha
  have hna:∀cs:List Value,v'≠ .agg ⟨cs⟩:=fun cs hv=>by
   subst hv
   rw [hti.agg]at ha
   cases hd:i.desc<;>rw [hd]at ha hok<;>first|(exact absurd rfl ha)|(simp [Cell.okWide,Cell.ok,hti.desc,hd]at hok;done)|skip
   all_goals (unfold Cell.okWide Cell.ok at hok;rw [hti.desc,hd]at hok;simp at hok)
  split at h2
  ·cases h2
   cases hv:v' with
   |agg cs=>obtain⟨cs⟩:=cs;exact absurd hv (hna cs)
   |_=>rw [hv]at hc;exact hc.head
  ·cases h2
def cP(w:World):Nat→Option (List Value):=fun B=>match w.heap[B]? with
 |some (.cells cc _ _)=>some cc.toList
 |_=>none
theorem kj{w:World}{B:Nat}{cc:List Value}(h:cP w B=some cc):∃elem fz,w.heap[B]? =some (.cells ⟨cc⟩ elem fz):=by
 unfold cP at h
 split at h
 ·rename_i c elem fz hB
  cases h
  exact⟨elem,fz,hB⟩
 ·cases h
open Go.RowKit Go.ChangeShapes in
theorem JO{f:Func}{s:ChangeSpec}{apart handsOn:Bool}{W':World}{args:Array Value}{ds:List (DataW H)}{before:List MemPlace}(tb:TypeId)(hlo:laidOutB P=true)
  (hread:∀t∈f.params.toList,P.readableRec t=true∧t<P.types.size) (hres:f.resultTypes.toList=[tb]) (hb:P.underlying tb=some .bool) (hv:s.vars=[])
  (hfn:s.fn H ds= {results:=[.lit (.bool true)],args:=ds}) (hW:DataW.Whole enc P f.params.toList s.vars apart w args.toList ds [] before) (hs:Below w.heap.size w W'):
  s.post enc P f apart true handsOn false w args (.bool true) W':=by
 have hW0:=hW
 obtain⟨p,q,h1,h2,h3,h4,h5⟩:=hW
 have hall:∀(ts:List TypeId)(vs:List Value)(ds:List (DataW H))(p:List MemPlace),(∀t∈ts,P.readableRec t=true∧t<P.types.size)→(∀x∈p,x.block<w.heap.size)→DataW.TrodAll enc P w 0 (fun _=>true) true ts vs ds p→DataW.TrodAll enc P W' 0 (fun b=>decide (b<w.heap.size)) true ts vs ds p:=by
  intro ts
  induction ts with
  |nil=>
   intro vs ds p _ _ h
   obtain⟨rfl,rfl,rfl⟩:=trodAll_nil h
   exact trodAll_mk0
  |cons t ts ih=>
   intro vs ds p hr hlt h
   obtain⟨v,vs',d,ds',p0,q0,rfl,rfl,rfl,g1,g2⟩:=trodAll_cons h
   have hr0:=hr t (by simp)
   exact⟨p0,q0,Below.trod hlo hr0.1 hr0.2 g1 hs (fun x hx=>hlt x (by simp [hx])),ih vs' ds' q0 (fun u hu=>hr u (by simp [hu])) (fun x hx=>hlt x (by simp [hx])) g2,rfl⟩
 have hq:q=[]:=by rw [hv]at h2;exact h2
 have hsize:f.resultTypes.size=1:=by
  have:=congrArg List.length hres
  simpa using this
 refine⟨ds,[],before,[],p,[],hW0,?_,?_,?_,hs.frame _,fun h=>by cases h⟩
 ·rw [List.append_nil,hfn,hres,hsize]
  exact⟨[],[],⟨1,by simp [DataW.trod,hb,Value.cells]⟩,rfl,rfl⟩
 ·rw [List.append_nil,hfn]
  refine hall _ _ _ p hread (fun x hx=>hW0.lt x (by rw [h3];simp [hx])) h1
 ·rw [List.append_nil,hfn,hv]
  rfl
end
end Go.az
namespace Go.az
open Go.RowKit
structure BN(S:Nat→Bool)(A:aK)(w₀:World)(σ:aD)(π:aK)(D:Nat→Prop)(w:World):Prop where
 rel:Rel π (bd σ) D (ext σ fun _=>none) w
 wf:WF σ
 low:σ.low≤σ.next
 FH:∀k i,π k=some i→k<σ.next
 dead:∀k,D k→bd σ k
 own:∀k i,π k=some i→i.ro=false→w₀.heap.size≤i.bm
 iw:Below w₀.heap.size w₀ w
 UN:∀k,S k=true→π k=A k∧∃c e,σ.obj k=some (.cells c e k true false)
 Xy:∀B cc,A.fr B=some cc→π.fr B=some cc
 Xz:∀B cc,π.fr B=some cc→A.fr B=some cc∨w₀.heap.size≤B
theorem BN.pre{S:Nat→Bool}{A:aK}{w₀:World}{σ σ':aD}{π:aK}{D:Nat→Prop}{w:World}(h:BN S A w₀ σ π D w)(hn:σ.next≤σ'.next):cC σ σ' π (bd σ) D (fun _=>none) w:=
 ⟨h.rel,h.wf,hn,fun k hk _=>by
  cases hp:π k with
  |none=>rfl
  |some i=>have:=h.FH k i hp;omega,fun k hk=> .inl (cI h.wf hk),fun k i hd _=> .inr ⟨cI h.wf hd,.inl hd⟩,fun k i hk h1=>by have:=h.FH k i hk;omega,fun k hk=> .inl (h.dead k hk)⟩
theorem BN.post{S:Nat→Bool}{A:aK}{w₀:World}{σ σ':aD}{π π':aK}{D D':Nat→Prop}{w w':World}(h:BN S A w₀ σ π D w)(p:Post σ σ' π (bd σ) D (fun _=>none) w π' D' w'):BN S A w₀ σ' π' D' w':=by
 have hwf:=p.mono.wf h.wf
 refine⟨p.rel.weaken fun k hk=>?_,hwf,Nat.le_trans p.mono.low (Nat.le_trans h.low p.mono.next),fun k i hk=>?_,fun k hk=>?_,fun k i hk hr=>?_,?_,fun k hk=>?_,fun B cc hf=>p.Fw.1 B cc (h.Xy B cc hf),fun B cc hf=>?_⟩
 ·rcases hk with hk|hk
  ·exact p.mono.dead h.wf hk
  ·exact hk.1
 ·rcases p.sub k i hk with h1|h1
  ·exact Nat.lt_of_lt_of_le (h.FH k i h1) p.mono.next
  ·exact h1.2.2
 ·rcases p.o8 k hk with h1|h1
  ·exact p.mono.dead h.wf (h.dead k h1)
  ·exact h1.1
 ·rcases p.bm k i hk hr with⟨k₀,i₀,h1,h2,h3⟩|h1
  ·rw [←h3];exact h.own k₀ i₀ h1 h2
  ·exact Nat.le_trans h.iw.size h1
 ·refine h.iw.trans ⟨p.fr.os,p.fr.tape,p.fr.output,p.fr.size,fun B hB=>p.fr.kF B (Nat.lt_of_lt_of_le hB h.iw.size) fun k i hk hr hb=>?_⟩
  have:=h.own k i hk hr
  omega
 ·obtain⟨h1,c,e,h2⟩:=h.UN k hk
  have hlt:k<σ.next:=by
   rcases Nat.lt_or_ge k σ.next with h3|h3
   ·exact h3
   ·rw [h.wf k h3]at h2;cases h2
  have hs:=p.mono.step k hlt
  rw [h2]at hs
  generalize ho:σ'.obj k=o' at hs
  cases hs with
  |cells hl hd hr hlow hk2=>
   obtain⟨rfl,rfl⟩:=hr rfl
   refine⟨?_,_,_,rfl⟩
   rw [←h1]
   cases hπ:π k with
   |some i=>
    rcases p.kept k i hπ with h4|⟨_,h4,_⟩
    ·exact h4
    ·exfalso
     rcases p.o8 k h4 with h5|⟨⟨o,h5,h6⟩,_⟩
     ·obtain⟨o,h5,h6⟩:=h.dead k h5
      rw [h2]at h5;cases h5;cases h6
     ·rw [ho]at h5;cases h5;cases h6
   |none=>
    cases hπ':π' k with
    |none=>rfl
    |some i=>
     rcases p.sub k i hπ' with h4|⟨_,h4,_⟩
     ·rw [hπ]at h4;cases h4
     ·omega
  |other h3 h0 _=>simp [kindOf]at h0
 ·rcases p.Fw.2 B cc hf with h1|h1
  ·exact h.Xz B cc h1
  ·exact .inr (Nat.le_trans h.iw.size h1)
def norm(σ:aD):aD:=⟨σ.heap,σ.next,σ.next,σ.next⟩
theorem BN.Vd{S:Nat→Bool}{A:aK}{w₀:World}{σ:aD}{π:aK}{D:Nat→Prop}{w:World}(h:BN S A w₀ σ π D w):BN S A w₀ (norm σ) π D w:=⟨h.rel,h.wf,Nat.le_refl _,h.FH,h.dead,h.own,h.iw,h.UN,h.Xy,h.Xz⟩
def eD(P:Program)(G:bP)(S:Nat→Bool)(N:Nat)(c:Code)(e:Env)(σ:aD)(Q:gn→Env→aD→Prop):Prop:=
 ∀(A:aK)(w₀:World)(π:aK)(D:Nat→Prop)(w:World)(a:Act)(M:Exit→Act→World→Prop),BN S A w₀ σ π D w→jJ N π D e a→eW G π D→
  (∀x e' σ' π' D' w' a',Q x e' σ'→BN S A w₀ σ' π' D' w'→jJ N π' D' e' a'→eW G π' D'→M (uN x) a' w')→c.wp P M a w
section
variable {P:Program} {G:bP} {S:Nat→Bool} {N:Nat} {T:ew} {call:cD} {lf:Nat} {e:Env} {σ:aD} {Q:gn→Env→aD→Prop}
theorem eD.mono{c:Code}{Q':gn→Env→aD→Prop}(h:eD P G S N c e σ Q)(hq:∀x e σ,Q x e σ→Q' x e σ):eD P G S N c e σ Q':=
 fun A w₀ π D w a M hr he hg hm=>h A w₀ π D w a M hr he hg fun x e' σ' π' D' w' a' hx=>hm x e' σ' π' D' w' a' (hq _ _ _ hx)
theorem N6{c:Code}{run:Env→aD→Out}(hs:zE P G N c run)(hm:∀e σ x e' σ',run e σ=some (x,e',σ')→cm σ σ'){x:gn}{e':Env}{σ':aD}(h:run e σ=some (x,e',σ'))(hq:Q x e' σ'):eD P G S N c e σ Q:=
 fun _A _w₀ π D w a _M hr he hg hM=>hs e σ x e' σ' h hr.low π (bd σ) D (fun _=>none) w a (hr.pre (hm _ _ _ _ _ h).next) he hg _ fun π' D' w' a' he' hpo=>
  hM x e' σ' π' D' w' a' hq (hr.post hpo) he' (hg.mono (hpo.lv (hr.pre (hm _ _ _ _ _ h).next)))
theorem uQ{c:Code}(h:eD P G S N c e (norm σ) Q):eD P G S N c e σ Q:=fun A w₀ π D w a M hr he hg hm=>h A w₀ π D w a M hr.Vd he hg hm
theorem JP(h:Q .normal e σ):eD P G S N .skip e σ Q:=fun _ _ π D w a _ hr he hg hm=>wp_skip (hm .normal e σ π D w a h hr he hg)
theorem N7(h:Q .ret e σ):eD P G S N .ret e σ Q:=fun _ _ π D w a _ hr he hg hm=>wp_ret (hm .ret e σ π D w a h hr he hg)
theorem JQ{id:Nat}(h:Q (.exit id) e σ):eD P G S N (.exit id) e σ Q:=fun _ _ π D w a _ hr he hg hm=>wp_exit (hm (.exit id) e σ π D w a h hr he hg)
theorem Hs{id:Nat}(h:Q .normal e σ):eD P G S N (.label id) e σ Q:=fun _ _ π D w a _ hr he hg hm=>wp_label (hm .normal e σ π D w a h hr he hg)
def QF(k:Env→aD→Prop)(Q:gn→Env→aD→Prop)(x:gn)(e:Env)(σ:aD):Prop:= @gn.rec (fun _=>Prop) (k e σ) (fun id=>Q (.exit id) e σ) (Q .ret e σ) x
theorem N8{a b:Code}(h:eD P G S N a e σ (QF (fun e σ=>eD P G S N b e σ Q) Q)):eD P G S N (.seq a b) e σ Q:=by
 intro A w₀ π D w act M hr he hg hm
 apply wp_seq
 refine h A w₀ π D w act _ hr he hg fun x e' σ' π' D' w' a' hx hr' he' hg'=>?_
 cases x with
 |normal=>exact hx A w₀ π' D' w' a' M hr' he' hg' hm
 |exit id=>exact hm _ _ _ _ _ _ _ hx hr' he' hg'
 |ret=>exact hm _ _ _ _ _ _ _ hx hr' he' hg'
theorem JR{c:Operand}{a b:Code}{t:Bool}(hc:sd (env e c)=some t)(hok:qU G c=true)(h1:t=true→eD P G S N a e σ Q)(h2:t=false→eD P G S N b e σ Q):eD P G S N (.cond c a b) e σ Q:=by
 intro A w₀ π D w act M hr he hg hm
 have hcv:=he.eval hg hok
 rw [gq hc]at hcv
 refine wp_cond hcv.dq ?_
 cases t with
 |true=>exact h1 rfl A w₀ π D w act M hr he hg hm
 |false=>exact h2 rfl A w₀ π D w act M hr he hg hm
theorem Ht{id:Nat}{c:Code}(h:eD P G S N c e σ (fun x=>Q (leaves id x))):eD P G S N (.block id c) e σ Q:=by
 intro A w₀ π D w act M hr he hg hm
 apply wp_block
 refine h A w₀ π D w act _ hr he hg fun x e' σ' π' D' w' a' hx hr' he' hg'=>?_
 have hM:=hm _ _ _ _ _ _ _ hx hr' he' hg'
 cases x with
 |normal=>exact hM
 |ret=>exact hM
 |exit id'=>
  show(if id'=id then M .normal a' w' else M (.exit id') a' w')
  have h2:M (uN (iff (Nat.beq id' id) .normal (.exit id'))) a' w':=hM
  rw [iff_eq]at h2
  by_cases hid:id'=id
  ·rw [if_pos ((beq_iff _ _).2 hid)]at h2
   rw [if_pos hid];exact h2
  ·rw [if_neg fun h=>hid ((beq_iff _ _).1 h)]at h2
   rw [if_neg hid];exact h2
theorem Hu{c:Code}(h:eD P G S N c e σ Q):eD P G S N (.scope c) e σ Q:=by
 intro A w₀ π D w act M hr he hg hm
 apply wp_scope_straight
 refine h A w₀ π D w act _ hr he hg fun x e' σ' π' D' w' a' hx hr' he' hg'=>?_
 have hM:=hm _ _ _ _ _ _ _ hx hr' he' hg'
 cases x<;>exact hM
theorem BO{c:Code}(In:Nat→Env→aD→Prop)(round:∀n e σ,In n e σ→eD P G S N c e σ (QF (fun e σ=>∃m,m<n∧In m e σ) Q)){n:Nat}(h:In n e σ):eD P G S N (.loop c) e σ Q:=by
 intro A w₀ π D w act M hr he hg hm
 refine FF (fun m a w=>∃n e σ π D,n<m∧In n e σ∧BN S A w₀ σ π D w∧jJ N π D e a∧eW G π D) ?_ ?_ (n+1) act w ⟨n,e,σ,π,D,Nat.lt_succ_self n,h,hr,he,hg⟩
 ·rintro a w ⟨n,_,_,_,_,h0,_⟩;omega
 ·rintro m a w ⟨n,e,σ,π,D,hnm,hI,hr,he,hg⟩
  refine round n e σ hI A w₀ π D w a _ hr he hg fun x e' σ' π' D' w' a' hx hr' he' hg'=>?_
  cases x with
  |normal=>
   obtain⟨k,hk,hI'⟩:=hx
   exact⟨k,e',σ',π',D',by omega,hI',hr',he',hg'⟩
  |exit id=>exact hm _ _ _ _ _ _ _ hx hr' he' hg'
  |ret=>exact hm _ _ _ _ _ _ _ hx hr' he' hg'
end
structure Ren where
 loc:Nat→Option (Nat×Nat)
 fz:Nat→Option (List Value)
 zI:Bool
 dt:Bool
instance:CoeFun Ren (fun _=>Nat→Option (Nat×Nat)):=⟨Ren.loc⟩
inductive VA(ι:Ren):Value→Value→Prop
 |bool (b:Bool):VA ι (.bool b) (.bool b)
 |int (k:IntKind) (n:Int):VA ι (.int k n) (.int k n)
 |float (k:FloatKind) (b:Nat):VA ι (.float k b) (.float k b)
 |complex (k:FloatKind) (x y:Nat):VA ι (.complex k x y) (.complex k x y)
 |string (s:ByteArray):VA ι (.string s) (.string s)
 |ptr0:VA ι (.pointer none) (.pointer none)
 |ptr {b off off':Nat} {s:Option Nat} {k sh:Nat} (h:ι b=some (k,sh)) (ho:off'=sh+off):VA ι (.pointer (some ⟨b,off,s⟩)) (.pointer (some ⟨k,off',s⟩))
 |sl0 (n c:Nat):VA ι (.slice none n c) (.slice none n c)
 |sl {b off off':Nat} {s:Option Nat} {k sh:Nat} (n c:Nat) (h:ι b=some (k,sh)) (ho:off'=sh+off):VA ι (.slice (some ⟨b,off,s⟩) n c) (.slice (some ⟨k,off',s⟩) n c)
 |slz (a a':Addr) (h:a.spot=none) (h':a'.spot=none):VA ι (.slice (some a) 0 0) (.slice (some a') 0 0)
 |map0:VA ι (.map none) (.map none)
 |map {r k sh:Nat} (h:ι r=some (k,sh)):VA ι (.map (some r)) (.map (some k))
 |func (fn:Fn) {f c f' c':List Value} (hf:f.length=f'.length) (hfs:∀(i:Nat) v v',f[i]? =some v→f'[i]? =some v'→VA ι v v')
   (hc:c.length=c'.length) (hcs:∀(i:Nat) v v',c[i]? =some v→c'[i]? =some v'→VA ι v v'):VA ι (.func fn ⟨f⟩ ⟨c⟩) (.func fn ⟨f'⟩ ⟨c'⟩)
 |nilFunc:VA ι .nilFunc .nilFunc
 |iface (t:TypeId) {v v':Value} (h:VA ι v v'):VA ι (.iface t v) (.iface t v')
 |nilIface:VA ι .nilIface .nilIface
 |agg {c c':List Value} (hc:c.length=c'.length) (hcs:∀(i:Nat) v v',c[i]? =some v→c'[i]? =some v'→VA ι v v'):VA ι (.agg ⟨c⟩) (.agg ⟨c'⟩)
 |tuple {c c':List Value} (h1:dF c=false) (h1':dF c'=false) (hc:c.length=c'.length) (hcs:∀(i:Nat) v v',c[i]? =some v→c'[i]? =some v'→VA ι v v'):VA ι (.tuple ⟨c⟩) (.tuple ⟨c'⟩)
 |data (rows:List Value) (hd:ι.dt=true):VA ι (dV rows) (dV rows)
 |dataP (cs:List Value) (hd:ι.dt=true):VA ι (fv cs) (fv cs)
 |JS (c:Nat) (hi:ι.zI=true):VA ι (dV []) (.slice none 0 c)
 |fz {rows cs cs' cells:List Value} {z b off n c:Nat} {s:Option Nat} (hi:ι.zI=true) (hF:ι.fz b=some cells) (hr:jr z rows cs) (hn:rows.length=n) (hw:eC cells off cs') (h1:∀v∈cs,cH v=true) (hl:cs.length=cs'.length)
   (hcs:∀(i:Nat) v v',cs[i]? =some v→cs'[i]? =some v'→VA ι v v'):VA ι (dV rows) (.slice (some ⟨b,off,s⟩) n c)
 |X0 {cs cs' cells:List Value} {b off:Nat} (hi:ι.zI=true) (hF:ι.fz b=some cells) (hw:eC cells off cs') (h1:∀v∈cs,cH v=true) (hl:cs.length=cs'.length)
   (hcs:∀(i:Nat) v v',cs[i]? =some v→cs'[i]? =some v'→VA ι v v'):VA ι (fv cs) (.pointer (some ⟨b,off,none⟩))
def bX(ι:Ren)(l l':List Value):Prop:=l.length=l'.length∧∀(i:Nat) v v',l[i]? =some v→l'[i]? =some v'→VA ι v v'
theorem bX.nil{ι:Ren}:bX ι [] []:=⟨rfl,fun i v v' h _=>by simp at h⟩
theorem bX.cons{ι:Ren}{v v':Value}{l l':List Value}(h:VA ι v v')(hl:bX ι l l'):bX ι (v::l) (v'::l'):=
 ⟨by simp [hl.1],fun i u u' h1 h2=>by
  cases i with
  |zero=>simp at h1 h2;subst h1;subst h2;exact h
  |succ i=>simp at h1 h2;exact hl.2 i u u' h1 h2⟩
theorem bX.append{ι:Ren}{l l' m m':List Value}(h:bX ι l l')(h':bX ι m m'):bX ι (l++m) (l'++m'):=
 ⟨by simp [h.1,h'.1],fun i v v' h1 h2=>by
  by_cases hi:i<l.length
  ·rw [List.getElem?_append_left hi]at h1
   rw [List.getElem?_append_left (h.1▸hi)]at h2
   exact h.2 i v v' h1 h2
  ·rw [List.getElem?_append_right (by omega)]at h1
   rw [List.getElem?_append_right (by have:=h.1;omega),←h.1]at h2
   exact h'.2 _ v v' h1 h2⟩
theorem bX.agg{ι:Ren}{l l':List Value}(h:bX ι l l'):VA ι (.agg ⟨l⟩) (.agg ⟨l'⟩):= .agg h.1 h.2
theorem bX.tuple{ι:Ren}{l l':List Value}(h1:dF l=false)(h1':dF l'=false)(h:bX ι l l'):VA ι (.tuple ⟨l⟩) (.tuple ⟨l'⟩):= .tuple h1 h1' h.1 h.2
theorem bX.get{ι:Ren}{l l':List Value}(h:bX ι l l'){i:Nat}{v:Value}(hv:l[i]? =some v):∃v',l'[i]? =some v'∧VA ι v v':=by
 have hi:i<l.length:=(List.getElem?_eq_some_iff.1 hv).1
 have hi':i<l'.length:=h.1▸hi
 exact⟨l'[i],by rw [List.getElem?_eq_getElem hi'],h.2 i v _ hv (by rw [List.getElem?_eq_getElem hi'])⟩
theorem bX.Ve{ι:Ren}{l l':List Value}(h:bX ι l l'){i:Nat}{v':Value}(hv:l'[i]? =some v'):∃v,l[i]? =some v∧VA ι v v':=by
 have hi:i<l'.length:=(List.getElem?_eq_some_iff.1 hv).1
 have hi':i<l.length:=h.1▸hi
 exact⟨l[i],by rw [List.getElem?_eq_getElem hi'],h.2 i _ v' (by rw [List.getElem?_eq_getElem hi']) hv⟩
theorem VA.FI{ι:Ren}{v v':Value}(h:VA ι v v'):bH v'=bH v:=by
 cases h
 case tuple h1 h1' _ _=>
  show(false||dF _)=(false||dF _)
  rw [h1,h1']
 all_goals rfl
theorem bX.j0{ι:Ren}{l l':List Value}(h:bX ι l l')(h1:∀v∈l',bH v=true):∀v∈l,bH v=true:=by
 intro v hv
 obtain⟨i,hi,rfl⟩:=List.getElem_of_mem hv
 obtain⟨v',h2,h3⟩:=h.get (List.getElem?_eq_getElem hi)
 rw [←h3.FI]
 exact h1 _ (List.mem_of_getElem? h2)
theorem bX.xQ{ι:Ren}{l l':List Value}(h:bX ι l l')(h1:∀v∈l,bH v=true):∀v∈l',bH v=true:=by
 intro v hv
 obtain⟨i,hi,rfl⟩:=List.getElem_of_mem hv
 obtain⟨v',h2,h3⟩:=h.Ve (List.getElem?_eq_getElem hi)
 rw [h3.FI]
 exact h1 _ (List.mem_of_getElem? h2)
theorem VA.bare{ι:Ren}{v:Value}(h:az.bare v=true):VA ι v v:=by
 cases v<;>simp only [az.bare,reduceCtorEq]at h
 case bool b=>exact .bool b
 case int k n=>exact .int k n
 case string s=>exact .string s
 case nilIface=>exact .nilIface
 case nilFunc=>exact .nilFunc
 case pointer a=>cases a<;>simp only [reduceCtorEq]at h;exact .ptr0
 case slice a n c=>cases a<;>simp only [reduceCtorEq]at h;exact .sl0 n c
 case map a=>cases a<;>simp only [reduceCtorEq]at h;exact .map0
theorem bX.bare{ι:Ren}:∀{l:List Value},(∀v∈l,az.bare v=true)→bX ι l l
 | [],_=> .nil
 |v::_,h=> .cons (VA.bare (h v (by simp))) (bX.bare fun u hu=>h u (by simp [hu]))
def JT(ι:Ren)(es es':List MapEntry):Prop:=es.length=es'.length∧∀(i:Nat) e e',es[i]? =some e→es'[i]? =some e'→VA ι e.key e'.key∧VA ι e.val e'.val∧e.born=e'.born
def jl(ι:Ren)(k sh:Nat):aN→aN→Prop
 | .cells c e aA ro d,.cells c' e' _ ro' d'=>d=false∧d'=false∧aA=k∧e=e'∧sh+c.length≤c'.length∧bX ι c ((c'.drop sh).take c.length)∧(ro=false→ro'=false∧sh=0∧c.length=c'.length)
 | .map es cl,.map es' cl'=>sh=0∧cl=cl'∧JT ι es es'
 |_,_=>False
def BP:aN→Bool
 | .cells _ _ _ ro _=>ro
 |_=>false
def lenOf:aN→Nat
 | .cells c _ _ _ _=>c.length
 |_=>0
def JU:aN→Bool
 | .iter _ _=>true
 |_=>false
theorem jl.inv{ι:Ren}{k sh:Nat}{c:List Value}{e:Option Nat}{aA:Nat}{ro d:Bool}{o':aN}(h:jl ι k sh (.cells c e aA ro d) o'):
  d=false∧aA=k∧∃c' org' ro',o'= .cells c' e org' ro' false∧sh+c.length≤c'.length∧bX ι c ((c'.drop sh).take c.length)∧(ro=false→ro'=false∧sh=0∧c.length=c'.length):=by
 cases o' with
 |cells c' e' org' ro' d'=>
  obtain⟨rfl,rfl,rfl,rfl,h0,h1,h2⟩:=h
  exact⟨rfl,rfl,c',org',ro',rfl,h0,h1,h2⟩
 |_=>exact h.elim
theorem jl.Vf{ι:Ren}{k sh:Nat}{es:List MapEntry}{cl:Nat}{o':aN}(h:jl ι k sh (.map es cl) o'):∃es',o'= .map es' cl∧sh=0∧JT ι es es':=by
 cases o' with
 |map es' cl'=>
  obtain⟨h0,rfl,h1⟩:=h
  exact⟨es',rfl,h0,h1⟩
 |_=>exact h.elim
theorem jl.alive{ι:Ren}{k sh:Nat}{o o':aN}(h:jl ι k sh o o'):lV o'=false∧JU o=false∧(BP o=false→BP o'=false):=by
 cases o with
 |cells c e aA ro d=>
  obtain⟨_,_,c',org',ro',rfl,_,_,h2⟩:=h.inv
  exact⟨rfl,rfl,fun hro=>(h2 hro).1⟩
 |map es cl=>
  obtain⟨es',rfl,_⟩:=h.Vf
  exact⟨rfl,rfl,fun _=>rfl⟩
 |iter s p=>cases o'<;>exact h.elim
structure Match(S:Nat→Bool)(G:bP)(ι:Ren)(e:Env)(σ:aD)(ec:Env)(σc:aD):Prop where
 low:σc.low≤σc.next
 wf:WF σc
 inj:∀k₁ k₂ k s₁ s₂,ι k₁=some (k,s₁)→ι k₂=some (k,s₂)→k₁=k₂
 obj:∀k o,σc.obj k=some o→∃k' sh o',ι k=some (k',sh)∧σ.obj k'=some o'∧jl ι k sh o o'
 env:∀t v,ec.get t=some v→∃v',e.get t=some v'∧VA ι v v'
 FH:∀k p,ι k=some p→(σc.obj k).isSome=true
 pA:∀g,G g=true→ι g=some (g,0)
 UN:∀k,S k=true→ι k=some (k,0)∧σc.obj k=σ.obj k
 fz:∀b cells,ι.fz b=some cells→(∃e aA,σ.obj b=some (.cells cells e aA false false))∧∀k sh,ι k≠some (b,sh)
section
variable {P:Program} {G:bP} {S:Nat→Bool} {N:Nat} {ι:Ren} {π πc:aK} {D Dc:Nat→Prop}
def PI.at(i:PI)(k sh:Nat)(ro:Bool)(len:Nat):PI:=⟨i.bm,i.sh+sh,i.bsize,i.s4,k,ro,len⟩
structure DR(ι:Ren)(π:aK)(D:Nat→Prop)(πc:aK):Prop where
 loc:∀k k' sh,ι k=some (k',sh)→¬D k'∧∀i,π k'=some i→∃ic,πc k=some ic∧ic.bm=i.bm∧ic.sh=i.sh+sh∧ic.bsize=i.bsize∧ic.s4=i.s4
 fr:∀B cc,π.fr B=some cc→πc.fr B=some cc
 fz:∀b cells,ι.fz b=some cells→¬D b∧∀i,π b=some i→∃cc,πc.fr i.bm=some cc∧i.sh+cells.length≤cc.length∧aR π D cells ((cc.drop i.sh).take cells.length)
structure RF(ι:Ren)(πc:aK)(Dc:Nat→Prop)(π:aK):Prop where
 loc:∀k k' sh,ι k=some (k',sh)→¬Dc k∧∀ic,πc k=some ic→∃i,π k'=some i∧ic.bm=i.bm∧ic.sh=i.sh+sh∧ic.bsize=i.bsize∧ic.s4=i.s4
 zI:ι.zI=false
 fr:ι.dt=true→∀B cc,πc.fr B=some cc→π.fr B=some cc
theorem eC.aR{cells cs' cc:List Value}{off sh:Nat}(hw:eC cells off cs')(hle:sh+cells.length≤cc.length)(h:az.aR π D cells ((cc.drop sh).take cells.length)):
  eC cc (sh+off) ((cc.drop (sh+off)).take cs'.length)∧az.aR π D cs' ((cc.drop (sh+off)).take cs'.length):=by
 obtain⟨h1,h2⟩:=hw
 have hl:((cc.drop (sh+off)).take cs'.length).length=cs'.length:=by simp;omega
 refine⟨⟨by rw [hl];omega,by rw [hl]⟩,?_⟩
 have:=(h.drop off).take cs'.length
 rw [h2,List.drop_take,List.take_take,List.drop_drop,Nat.min_eq_left (by omega)]at this
 exact this
theorem VA.comp(hp:DR ι π D πc){vc v:Value}(h:VA ι vc v):∀{v':Value},VR π D v v'→VR πc Dc vc v':=by
 induction h with
 |bool b=>intro v' h';cases h';exact .bool b
 |int k n=>intro v' h';cases h';exact .int k n
 |float k b=>intro v' h';cases h';exact .float k b
 |complex k x y=>intro v' h';cases h';exact .complex k x y
 |string s=>intro v' h';cases h';exact .string s
 |ptr0=>intro v' h';cases h';exact .ptr0
 | @ptr b off off' s k sh h ho=>
  intro v' h'
  obtain⟨h2,h3⟩:=hp.loc _ _ _ h
  cases h' with
  |ptr hs ha=>
   cases (show s=none from hs)
   rcases ha.2 with⟨j,h4,h5,h6⟩|⟨_,h4⟩
   ·obtain⟨ic,g1,g2,g3,_,_⟩:=h3 _ h4
    have h6':_=j.sh+off':=h6
    exact .ptr rfl ⟨ha.1,.inl ⟨ic,g1,h5.trans g2.symm,by show _=ic.sh+off;omega⟩⟩
   ·exact absurd h4 h2
 |sl0 n c=>
  intro v' h'
  cases h' with
  |sl0 _ _ hn=>exact .sl0 n c hn
 | @sl b off off' s k sh n c h ho=>
  intro v' h'
  obtain⟨h2,h3⟩:=hp.loc _ _ _ h
  cases h' with
  |sl _ _ hn hs ha=>
   cases (show s=none from hs)
   rcases ha.2 with⟨j,h4,h5,h6⟩|⟨_,h4⟩
   ·obtain⟨ic,g1,g2,g3,_,_⟩:=h3 _ h4
    have h6':_=j.sh+off':=h6
    exact .sl n c hn rfl ⟨ha.1,.inl ⟨ic,g1,h5.trans g2.symm,by show _=ic.sh+off;omega⟩⟩
   ·exact absurd h4 h2
  |slz _ _ hs=>exact .slz _ _ hs
  |slo _ _ c' hn hs ha=>
   refine .slo n c c' hn hs ⟨ha.1,ha.2.1,?_⟩
   rcases ha.2.2 with⟨j,h4,h5,h6,h7⟩|⟨_,h4⟩
   ·obtain⟨ic,g1,g2,g3,g4,g5⟩:=h3 _ h4
    refine .inl ⟨ic,g1,h5.trans g2.symm,g5.trans h6,?_⟩
    rcases h7 with⟨h8,h9⟩|h8
    ·have h8':_=j.sh+off':=h8
     exact .inl ⟨by show _=ic.sh+off;omega,by rw [g4];exact h9⟩
    ·exact .inr h8
   ·exact absurd h4 h2
 |slz a a' h h2=>
  intro v' h'
  cases h' with
  |sl _ _ hn hs ha=>exact .slz _ _ h
  |slz _ _ hs=>exact .slz _ _ h
  |slo _ _ c' hn hs ha=>rw [h2]at hs;cases hs
 |map0=>intro v' h';cases h';exact .map0
 | @map r k sh h=>
  intro v' h'
  obtain⟨h2,h3⟩:=hp.loc _ _ _ h
  cases h' with
  |map hr=>
   rcases hr with⟨j,h4,h5⟩|⟨_,h4⟩
   ·obtain⟨ic,g1,g2,_⟩:=h3 _ h4
    exact .map (.inl ⟨ic,g1,h5.trans g2.symm⟩)
   ·exact absurd h4 h2
 |func fn hf1 hfs1 hc1 hcs1 ih1 ih2=>
  intro v' h'
  cases h' with
  |func _ hf2 hfs2 hc2 hcs2=>
   refine .func fn (hf1.trans hf2) (fun i v v' h3 h4=>?_) (hc1.trans hc2) (fun i v v' h3 h4=>?_)
   ·have hi:=(List.getElem?_eq_some_iff.1 h3).1
    obtain⟨u,hu⟩:∃u,_=some u:=⟨_,List.getElem?_eq_getElem (hf1▸hi)⟩
    exact ih1 i v u h3 hu (hfs2 i u v' hu h4)
   ·have hi:=(List.getElem?_eq_some_iff.1 h3).1
    obtain⟨u,hu⟩:∃u,_=some u:=⟨_,List.getElem?_eq_getElem (hc1▸hi)⟩
    exact ih2 i v u h3 hu (hcs2 i u v' hu h4)
 |nilFunc=>intro v' h';cases h';exact .nilFunc
 |iface t _ ih=>
  intro v' h'
  cases h' with
  |iface _ h3=>exact .iface t (ih h3)
 |nilIface=>intro v' h';cases h';exact .nilIface
 |agg hc1 hcs1 ih=>
  intro v' h'
  cases h' with
  |agg hc2 ho2 hcs2=>
   refine .agg (hc1.trans hc2) (bX.j0 ⟨hc1,hcs1⟩ ho2) (fun i v v' h3 h4=>?_)
   have hi:=(List.getElem?_eq_some_iff.1 h3).1
   obtain⟨u,hu⟩:∃u,_=some u:=⟨_,List.getElem?_eq_getElem (hc1▸hi)⟩
   exact ih i v u h3 hu (hcs2 i u v' hu h4)
 |data rows hd=>intro v' h';exact .data (h'.uj.mono hp.fr)
 |dataP cs hd=>
  intro v' h'
  obtain⟨csm,a',cc,rfl,hs,hf,hw,ho,hv,hr⟩:=h'.j4
  exact .dataP hs ⟨cc,hp.fr _ _ hf,hw⟩ (hr.mono hp.fr)
 |JS c hi=>
  intro v' h'
  cases h' with
  |sl0 _ _ hn=>exact .data (.nF _ _ rfl)
 | @fz rows cs cs' cells z b off n c s hi hF hr hn hw h1 hl hcs ih=>
  intro v' h'
  obtain⟨g1,g2⟩:=hp.fz b cells hF
  have key:∀(j:PI)(a':Addr)(c':Nat),π b=some j→a'.spot=none→a'.block=j.bm→a'.off=j.sh+off→rows.length≤c'→VR πc Dc (dV rows) (.slice (some a') rows.length c'):=fun j a' c' h4 hs h5 h6 hc=>by
   obtain⟨cc,f1,f2,f3⟩:=g2 j h4
   obtain⟨w1,w2⟩:=hw.aR f2 f3
   refine .data (.data hr hc (.inr ⟨hs,cc,by rw [h5];exact f1,by rw [h6];exact w1⟩) (hl.trans w2.1) (fun i v v' h3 h4=>VR.rd (D:=Dc) ?_ (h1 v (List.mem_of_getElem? h3))))
   have hi:=(List.getElem?_eq_some_iff.1 h3).1
   obtain⟨u,hu⟩:∃u,_=some u:=⟨_,List.getElem?_eq_getElem (hl▸hi)⟩
   exact ih i v u h3 hu (w2.2 i u v' hu h4)
  have empty:∀(a':Addr)(c':Nat),rows.length=0→VR πc Dc (dV rows) (.slice (some a') rows.length c'):=fun a' c' h0=>by
   have:=List.eq_nil_of_length_eq_zero h0
   subst this
   exact .data (Rd.nil _ _)
  cases h' with
  |sl _ _ hle hs ha=>
   rcases ha.2 with⟨j,h4,h5,h6⟩|⟨_,h4⟩
   ·have h0:=key j _ _ h4 ha.1 h5 h6 (by rw [hn];assumption);rw [hn]at h0;exact h0
   ·exact absurd h4 g1
  |slz _ a' hs=>have h0:=empty a' 0 hn;rw [hn]at h0;exact h0
  | @slo _ a' _ _ _ c' hle hs ha=>
   rcases ha.2.2 with⟨j,h4,h5,h6,h7⟩|⟨_,h4⟩
   ·rcases h7 with⟨h8,h9⟩|⟨h8,_⟩
    ·have h0:=key j _ c' h4 ha.1 h5 h8 (by rw [hn];exact Nat.le_trans hle ha.2.1);rw [hn]at h0;exact h0
    ·have h0:=empty a' c' (hn.trans h8);rw [hn]at h0;exact h0
   ·exact absurd h4 g1
 | @X0 cs cs' cells b off hi hF hw h1 hl hcs ih=>
  intro v' h'
  obtain⟨g1,g2⟩:=hp.fz b cells hF
  cases h' with
  |ptr hs ha=>
   rcases ha.2 with⟨j,h4,h5,h6⟩|⟨_,h4⟩
   ·obtain⟨cc,f1,f2,f3⟩:=g2 j h4
    obtain⟨w1,w2⟩:=hw.aR f2 f3
    have h6':_=j.sh+off:=h6
    refine .dataP ha.1 ⟨cc,by rw [h5];exact f1,by rw [h6'];exact w1⟩ ⟨hl.trans w2.1,fun i v v' h3 h4=>VR.rd (D:=Dc) ?_ (h1 v (List.mem_of_getElem? h3))⟩
    have hi:=(List.getElem?_eq_some_iff.1 h3).1
    obtain⟨u,hu⟩:∃u,_=some u:=⟨_,List.getElem?_eq_getElem (hl▸hi)⟩
    exact ih i v u h3 hu (w2.2 i u v' hu h4)
   ·exact absurd h4 g1
 | @tuple c c2 hd1 hd1' hc1 hcs1 ih=>
  intro v' h'
  cases h' with
  |any=>
   match c,hc1,hcs1 with
   | [x],_,hcs1=>
    cases hcs1 0 x .nilFunc rfl rfl with
    |nilFunc=>exact .any _
  |data=>cases hd1'
  |dataP=>cases hd1'
  |tuple hd2 hc2 hcs2=>
   refine .tuple hd1 (hc1.trans hc2) (fun i v v' h3 h4=>?_)
   have hi:=(List.getElem?_eq_some_iff.1 h3).1
   obtain⟨u,hu⟩:∃u,_=some u:=⟨_,List.getElem?_eq_getElem (hc1▸hi)⟩
   exact ih i v u h3 hu (hcs2 i u v' hu h4)
theorem VA.back(hp:RF ι πc Dc π){vc v:Value}(h:VA ι vc v):∀{v':Value},VR πc Dc vc v'→VR π D v v':=by
 induction h with
 |bool b=>intro v' h';cases h';exact .bool b
 |int k n=>intro v' h';cases h';exact .int k n
 |float k b=>intro v' h';cases h';exact .float k b
 |complex k x y=>intro v' h';cases h';exact .complex k x y
 |string s=>intro v' h';cases h';exact .string s
 |ptr0=>intro v' h';cases h';exact .ptr0
 | @ptr b off off' s k sh h ho=>
  intro v' h'
  obtain⟨h2,h3⟩:=hp.loc _ _ _ h
  cases h' with
  |ptr hs ha=>
   cases (show s=none from hs)
   rcases ha.2 with⟨j,h4,h5,h6⟩|⟨_,h4⟩
   ·obtain⟨i,g1,g2,g3,_,_⟩:=h3 _ h4
    have h6':_=j.sh+off:=h6
    exact .ptr rfl ⟨ha.1,.inl ⟨i,g1,h5.trans g2,by show _=i.sh+off';omega⟩⟩
   ·exact absurd h4 h2
 |sl0 n c=>
  intro v' h'
  cases h' with
  |sl0 _ _ hn=>exact .sl0 n c hn
 | @sl b off off' s k sh n c h ho=>
  intro v' h'
  obtain⟨h2,h3⟩:=hp.loc _ _ _ h
  cases h' with
  |sl _ _ hn hs ha=>
   cases (show s=none from hs)
   rcases ha.2 with⟨j,h4,h5,h6⟩|⟨_,h4⟩
   ·obtain⟨i,g1,g2,g3,_,_⟩:=h3 _ h4
    have h6':_=j.sh+off:=h6
    exact .sl n c hn rfl ⟨ha.1,.inl ⟨i,g1,h5.trans g2,by show _=i.sh+off';omega⟩⟩
   ·exact absurd h4 h2
  |slz _ _ hs=>exact .slz _ _ hs
  |slo _ _ c' hn hs ha=>
   refine .slo n c c' hn hs ⟨ha.1,ha.2.1,?_⟩
   rcases ha.2.2 with⟨j,h4,h5,h6,h7⟩|⟨_,h4⟩
   ·obtain⟨i,g1,g2,g3,g4,g5⟩:=h3 _ h4
    refine .inl ⟨i,g1,h5.trans g2,g5.symm.trans h6,?_⟩
    rcases h7 with⟨h8,h9⟩|h8
    ·have h8':_=j.sh+off:=h8
     exact .inl ⟨by show _=i.sh+off';omega,by rw [←g4];exact h9⟩
    ·exact .inr h8
   ·exact absurd h4 h2
 |slz a a' h h2=>
  intro v' h'
  cases h' with
  |sl _ _ hn hs ha=>exact .slz _ _ h2
  |slz _ _ hs=>exact .slz _ _ h2
  |slo _ _ c' hn hs ha=>rw [h]at hs;cases hs
 |map0=>intro v' h';cases h';exact .map0
 | @map r k sh h=>
  intro v' h'
  obtain⟨h2,h3⟩:=hp.loc _ _ _ h
  cases h' with
  |map hr=>
   rcases hr with⟨j,h4,h5⟩|⟨_,h4⟩
   ·obtain⟨i,g1,g2,_⟩:=h3 _ h4
    exact .map (.inl ⟨i,g1,h5.trans g2⟩)
   ·exact absurd h4 h2
 |func fn hf1 hfs1 hc1 hcs1 ih1 ih2=>
  intro v' h'
  cases h' with
  |func _ hf2 hfs2 hc2 hcs2=>
   refine .func fn (hf1.symm.trans hf2) (fun i v v' h3 h4=>?_) (hc1.symm.trans hc2) (fun i v v' h3 h4=>?_)
   ·have hi:=(List.getElem?_eq_some_iff.1 h3).1
    obtain⟨u,hu⟩:∃u,_=some u:=⟨_,List.getElem?_eq_getElem (hf1.symm▸hi)⟩
    exact ih1 i u v hu h3 (hfs2 i u v' hu h4)
   ·have hi:=(List.getElem?_eq_some_iff.1 h3).1
    obtain⟨u,hu⟩:∃u,_=some u:=⟨_,List.getElem?_eq_getElem (hc1.symm▸hi)⟩
    exact ih2 i u v hu h3 (hcs2 i u v' hu h4)
 |nilFunc=>intro v' h';cases h';exact .nilFunc
 |iface t _ ih=>
  intro v' h'
  cases h' with
  |iface _ h3=>exact .iface t (ih h3)
 |nilIface=>intro v' h';cases h';exact .nilIface
 |agg hc1 hcs1 ih=>
  intro v' h'
  cases h' with
  |agg hc2 ho2 hcs2=>
   refine .agg (hc1.symm.trans hc2) (bX.xQ ⟨hc1,hcs1⟩ ho2) (fun i v v' h3 h4=>?_)
   have hi:=(List.getElem?_eq_some_iff.1 h3).1
   obtain⟨u,hu⟩:∃u,_=some u:=⟨_,List.getElem?_eq_getElem (hc1.symm▸hi)⟩
   exact ih i u v hu h3 (hcs2 i u v' hu h4)
 |data rows hd=>intro v' h';exact .data (h'.uj.mono (hp.fr hd))
 |dataP cs hd=>
  intro v' h'
  obtain⟨csm,a',cc,rfl,hs,hf,hw,ho,hv,hr⟩:=h'.j4
  exact .dataP hs ⟨cc,hp.fr hd _ _ hf,hw⟩ (hr.mono (hp.fr hd))
 |JS c hi=>rw [hp.zI]at hi;cases hi
 |fz hi=>rw [hp.zI]at hi;cases hi
 |X0 hi=>rw [hp.zI]at hi;cases hi
 | @tuple c c2 hd1 hd1' hc1 hcs1 ih=>
  intro v' h'
  cases h' with
  |data=>cases hd1
  |dataP=>cases hd1
  |any=>
   match c2,hc1,hcs1 with
   | [x],_,hcs1=>
    cases hcs1 0 .nilFunc x rfl rfl with
    |nilFunc=>exact .any _
  |tuple hd2 hc2 hcs2=>
   refine .tuple hd1' (hc1.symm.trans hc2) (fun i v v' h3 h4=>?_)
   have hi:=(List.getElem?_eq_some_iff.1 h3).1
   obtain⟨u,hu⟩:∃u,_=some u:=⟨_,List.getElem?_eq_getElem (hc1.symm▸hi)⟩
   exact ih i u v hu h3 (hcs2 i u v' hu h4)
theorem bX.comp(hp:DR ι π D πc){c c' w':List Value}(h:bX ι c c')(h2:aR π D c' w'):aR πc Dc c w':=
 ⟨h.1.trans h2.1,fun i v v' h3 h4=>by
  obtain⟨u,hu,hva⟩:=h.get h3
  exact hva.comp hp (h2.2 i u v' hu h4)⟩
theorem bX.back(hp:RF ι πc Dc π){c c' w':List Value}(h:bX ι c c')(h2:aR πc Dc c w'):aR π D c' w':=
 ⟨h.1.symm.trans h2.1,fun i v v' h3 h4=>by
  obtain⟨u,hu,hva⟩:=h.Ve h3
  exact hva.back hp (h2.2 i u v' hu h4)⟩
def partOf(ι:Ren)(π:aK)(σc:aD)(w:World):aK:=⟨fun k=>match ι k,σc.obj k with
 |some p,some (.cells c _ _ ro _)=>(π p.1).map fun i=>i.at k p.2 ro c.length
 |some p,some (.map _ _)=>(π p.1).map fun i=>i.at k p.2 false 0
 |_,_=>none,fun B=>match π.fr B with
 |some cc=>some cc
 |none=> @ite _ (∃b cells i,ι.fz b=some cells∧π b=some i∧i.bm=B) (Classical.propDecidable _) (cP w B) none⟩
theorem kl{σc:aD}{w:World}{B:Nat}{cc:List Value}(h:π.fr B=some cc):(partOf ι π σc w).fr B=some cc:=by simp only [partOf,h]
theorem uR{σc:aD}{w:World}{b:Nat}{cells:List Value}{i:PI}{cc:Array Value}{elem:TypeId}{fz:Nat×Nat}(h:ι.fz b=some cells)(hi:π b=some i)(hB:w.heap[i.bm]? =some (.cells cc elem fz))(hn:π.fr i.bm=none∨π.fr i.bm=some cc.toList):(partOf ι π σc w).fr i.bm=some cc.toList:=by
 rcases hn with hn|hn
 ·simp only [partOf,hn]
  rw [if_pos ⟨b,cells,i,h,hi,rfl⟩]
  simp only [cP,hB]
 ·exact kl hn
theorem eA{σc:aD}{w:World}{B:Nat}{cc:List Value}(h:(partOf ι π σc w).fr B=some cc):π.fr B=some cc∨((∃b cells i,ι.fz b=some cells∧π b=some i∧i.bm=B)∧cP w B=some cc):=by
 simp only [partOf]at h
 split at h
 ·rename_i c hc;cases h;exact .inl hc
 ·split at h
  ·rename_i h1;exact .inr ⟨h1,h⟩
  ·cases h
theorem cF{σc:aD}{w:World}{k:Nat}{ic:PI}(h:partOf ι π σc w k=some ic):∃k' sh i o,ι k=some (k',sh)∧σc.obj k=some o∧π k'=some i∧ic=i.at k sh (BP o) (lenOf o):=by
 simp only [partOf]at h
 split at h
 ·rename_i p c e aA ro d h1 h2
  rw [Option.map_eq_some_iff]at h
  obtain⟨i,h3,h4⟩:=h
  exact⟨p.1,p.2,i,_,h1,h2,h3,h4.symm⟩
 ·rename_i p es cl h1 h2
  rw [Option.map_eq_some_iff]at h
  obtain⟨i,h3,h4⟩:=h
  exact⟨p.1,p.2,i,_,h1,h2,h3,h4.symm⟩
 ·cases h
theorem xS{σc:aD}{w:World}{k k' sh:Nat}{i:PI}{o:aN}(hι:ι k=some (k',sh))(ho:σc.obj k=some o)(hi:π k'=some i)(hn:JU o=false):partOf ι π σc w k=some (i.at k sh (BP o) (lenOf o)):=by
 cases o with
 |cells c e aA ro d=>simp only [partOf,hι,ho,hi,Option.map_some];rfl
 |map es cl=>simp only [partOf,hι,ho,hi,Option.map_some];rfl
 |iter s p=>cases hn
theorem fK.ro{i:PI}{w:World}{o:aN}(h:fK π D i w o):i.ro=BP o:=by
 cases o with
 |cells c e aA ro d=>
  obtain⟨_,_,_,_,_,_,_,_,_,_,_,h7,_⟩:=h
  exact h7
 |map es cl=>obtain⟨_,_,_,h3,_⟩:=h;exact h3
 |iter s p=>exact h.2.1
theorem uS{σc:aD}{w:World}{k sh:Nat}{i:PI}{o o':aN}(hp:DR ι π D (partOf ι π σc w))(ho:jl ι k sh o o')(hr:fK π D i w o'):
  fK (partOf ι π σc w) No (i.at k sh (BP o) (lenOf o)) w o:=by
 cases o with
 |iter s p=>cases o'<;>exact ho.elim
 |map es cl=>
  obtain⟨es',rfl,rfl,h1,h2⟩:=ho.Vf
  obtain⟨em,g1,g2,g3,g4⟩:=hr
  refine⟨em,g1,⟨h1.trans g2.1,fun j x y hx hy=>?_⟩,rfl,g4⟩
  have hj:=(List.getElem?_eq_some_iff.1 hx).1
  obtain⟨u,hu⟩:∃u,es'[j]? =some u:=⟨_,List.getElem?_eq_getElem (h1▸hj)⟩
  obtain⟨a1,a2,a3⟩:=h2 j x u hx hu
  obtain⟨b1,b2,b3⟩:=g2.2 j u y hu hy
  exact⟨a1.comp hp b1,a2.comp hp b2,a3.trans b3⟩
 |cells c e aA ro d=>
 obtain⟨rfl,rfl,c',org',ro',rfl,hle,h2,h3⟩:=ho.inv
 obtain⟨cc,elem,fz,g1,g2,g3,g4,g5,g6,g7,g8,g9,g10⟩:=hr
 have hwin:aR π D ((c'.drop sh).take c.length) ((cc.toList.drop (i.sh+sh)).take c.length):=by
  have:=(g5.drop sh).take c.length
  rwa [nX hle]at this
 refine⟨cc,elem,fz,g1,g2,by show i.sh+sh+c.length≤i.bsize;omega,bX.j0 h2 fun v hv=>g4 v (List.mem_of_mem_drop (List.mem_of_mem_take hv)),h2.comp hp hwin,fun hro=>?_,g7,rfl,rfl,rfl⟩
 obtain⟨h4,_,_⟩:=h3 hro
 exact g6 h4
theorem xU{e ec:Env}{σ σc:aD}{A:aK}{w₀ w:World}(hm:Match S G ι e σ ec σc)(hr:BN S A w₀ σ π D w):DR ι π D (partOf ι π σc w)∧BN S A w₀ σc (partOf ι π σc w) No w:=by
 obtain⟨hlow,hwf,hinj,hobj,henv,hdom,hglob,hanc,hfz⟩:=hm
 have halive:∀k k' sh,ι k=some (k',sh)→∃o o',σc.obj k=some o∧σ.obj k'=some o'∧jl ι k sh o o':=fun k k' sh hι=>by
  obtain⟨o,ho⟩:=Option.isSome_iff_exists.1 (hdom k _ hι)
  obtain⟨k2,sh2,o',h2,h3,h4⟩:=hobj k o ho
  rw [hι]at h2
  cases h2
  exact⟨o,o',ho,h3,h4⟩
 have hnd:∀k k' sh,ι k=some (k',sh)→¬bd σ k':=fun k k' sh hι ⟨o2,h2,hd⟩=>by
  obtain⟨o,o',_,h3,h4⟩:=halive k k' sh hι
  rw [h3]at h2;cases h2
  rw [h4.alive.1]at hd
  cases hd
 have hp0:∀k k' sh,ι k=some (k',sh)→¬D k'∧∀i,π k'=some i→∃ic,partOf ι π σc w k=some ic∧ic.bm=i.bm∧ic.sh=i.sh+sh∧ic.bsize=i.bsize∧ic.s4=i.s4:=fun k k' sh hι=>⟨fun hd=>hnd k k' sh hι (hr.dead k' hd),fun i hi=>by
  obtain⟨o,o',ho,_,hoa⟩:=halive k k' sh hι
  exact⟨_,xS hι ho hi hoa.alive.2.1,rfl,rfl,rfl,rfl⟩⟩
 have hfzo:∀b cells i,ι.fz b=some cells→π b=some i→i.ro=false∧¬bd σ b∧∃cc elem fz,w.heap[i.bm]? =some (.cells cc elem fz)∧i.sh+cells.length≤cc.toList.length∧aR π D cells ((cc.toList.drop i.sh).take cells.length):=fun b cells i hF hi=>by
  obtain⟨⟨e2,org2,ho⟩,_⟩:=hfz b cells hF
  obtain⟨q,hq,hrq⟩:=hr.rel.obj b i hi
  have hext:ext σ (fun _=>none) b=σ.obj b:=if_pos (hr.FH b i hi)
  rw [hext,ho]at hq
  cases hq
  obtain⟨cc,elem,fz,g1,g2,g3,g4,g5,g6,g7,g8,g9,g10⟩:=hrq
  refine⟨g9,fun⟨o,h1,h2⟩=>?_,cc,elem,fz,g1,by show _≤cc.size;omega,g5⟩
  rw [ho]at h1;cases h1;cases h2
 have hp:DR ι π D (partOf ι π σc w):=⟨hp0,fun B cc hf=>kl hf,fun b cells hF=>⟨fun hd=>?_,fun i hi=>?_⟩⟩
 rotate_left
 ·obtain⟨⟨e2,org2,ho⟩,_⟩:=hfz b cells hF
  obtain⟨o,h1,h2⟩:=hr.dead b hd
  rw [ho]at h1;cases h1;cases h2
 ·obtain⟨g1,g2,cc,elem,fz,g3,g4,g5⟩:=hfzo b cells i hF hi
  exact⟨cc.toList,uR hF hi g3 (.inl (hr.rel.AS b i hi g1)),g4,g5⟩
 have hlt:∀k o,σc.obj k=some o→k<σc.next:=fun k o ho=>by
  rcases Nat.lt_or_ge k σc.next with h1|h1
  ·exact h1
  ·rw [hwf k h1]at ho;cases ho
 have hrep:BN S A w₀ σc (partOf ι π σc w) No w:=by
  refine⟨⟨fun k ic hk=>?_,fun k ic hk=>?_,fun B cc hf=>?_,fun k ic hk hro=>?_,fun k₁ k₂ i₁ i₂ hne hk1 hk2 hb=>?_⟩,hwf,hlow,fun k ic hk=>?_,fun k hk=>hk.elim,fun k ic hk hro=>?_,hr.iw,fun k hk=>?_,fun B cc hf=>kl (hr.Xy B cc hf),fun B cc hf=>?_⟩
  ·obtain⟨k',sh,i,o,hι,ho,hi,rfl⟩:=cF hk
   obtain⟨o,o',ho2,ho',hoa⟩:=halive k k' sh hι
   rw [ho]at ho2
   cases ho2
   refine⟨_,(if_pos (hlt k _ ho)).trans ho,?_⟩
   obtain⟨o2,ho2,hr2⟩:=hr.rel.obj k' i hi
   have hext:ext σ (fun _=>none) k'=σ.obj k':=if_pos (hr.FH k' i hi)
   rw [hext,ho']at ho2
   cases ho2
   exact uS hp hoa hr2
  ·obtain⟨k',sh,i,o,hι,ho,hi,rfl⟩:=cF hk
   exact⟨Nat.le_refl _,fun _=>rfl⟩
  ·rcases eA hf with h1|⟨_,h1⟩
   ·exact hr.rel.uh B cc h1
   ·exact kj h1
  ·obtain⟨k',sh,i,o,hι,ho,hi,rfl⟩:=cF hk
   obtain⟨o,o',g1,g1',hoa⟩:=halive _ _ _ hι
   rw [ho]at g1;cases g1
   have h6:=hoa.alive.2.2 hro
   obtain⟨q,hq,hrq⟩:=hr.rel.obj k' i hi
   have hext:ext σ (fun _=>none) k'=σ.obj k':=if_pos (hr.FH k' i hi)
   rw [hext,g1']at hq
   cases hq
   have h7:=hrq.ro
   have hiro:i.ro=false:=h7.trans h6
   show(partOf ι π σc w).fr i.bm=none
   cases hfc:(partOf ι π σc w).fr i.bm with
   |none=>rfl
   |some cc=>
    exfalso
    rcases eA hfc with h1|⟨⟨b,cells,i2,h1,h2,h3⟩,_⟩
    ·rw [hr.rel.AS k' i hi hiro]at h1;cases h1
    ·obtain⟨b1,b2,_⟩:=hfzo b cells i2 h1 h2
     have hne:k'≠b:=fun h=>(hfz b cells h1).2 k sh (h▸hι)
     rcases hr.rel.sep k' b i i2 hne hi h2 h3.symm with⟨h4,_⟩|⟨_,_,_,h4|h4⟩
     ·rw [hiro]at h4;cases h4
     ·exact hnd _ _ _ hι h4.1
     ·exact b2 h4.1
  ·obtain⟨k1',sh1,j1,q1,hι1,ho1,hi1,rfl⟩:=cF hk1
   obtain⟨k2',sh2,j2,q2,hι2,ho2,hi2,rfl⟩:=cF hk2
   have hne':k1'≠k2':=fun h=>by subst h;exact hne (hinj _ _ _ _ _ hι1 hι2)
   obtain⟨o1,o1',g1,g1',hoa1⟩:=halive _ _ _ hι1
   obtain⟨o2,o2',g2,g2',hoa2⟩:=halive _ _ _ hι2
   rw [ho1]at g1;cases g1
   rw [ho2]at g2;cases g2
   rcases hr.rel.sep k1' k2' j1 j2 hne' hi1 hi2 hb with⟨h3,h4⟩|⟨_,_,_,h4|h4⟩
   ·have ro_of:∀k' i (_:π k'=some i) (_:i.ro=true) o' (_:σ.obj k'=some o') k sh o,jl ι k sh o o'→BP o=true:=fun k' i hi hiro o' ho' k sh o hoa=>by
     cases hro:BP o with
     |true=>rfl
     |false=>
      have h6:=hoa.alive.2.2 hro
      obtain⟨q,hq,hrq⟩:=hr.rel.obj k' i hi
      have hext:ext σ (fun _=>none) k'=σ.obj k':=if_pos (hr.FH k' i hi)
      rw [hext,ho']at hq
      cases hq
      have h7:=hrq.ro
      rw [hiro,h6]at h7;cases h7
    exact .inl ⟨ro_of _ _ hi1 h3 _ g1' _ _ _ hoa1,ro_of _ _ hi2 h4 _ g2' _ _ _ hoa2⟩
   ·exact absurd h4.1 (hnd _ _ _ hι1)
   ·exact absurd h4.1 (hnd _ _ _ hι2)
  ·obtain⟨k',sh,i,o,hι,ho,hi,rfl⟩:=cF hk
   exact hlt k _ ho
  ·obtain⟨k',sh,i,o,hι,ho,hi,rfl⟩:=cF hk
   obtain⟨o,o',g1,g1',hoa⟩:=halive _ _ _ hι
   rw [ho]at g1;cases g1
   have h6:=hoa.alive.2.2 hro
   obtain⟨q,hq,hrq⟩:=hr.rel.obj k' i hi
   have hext:ext σ (fun _=>none) k'=σ.obj k':=if_pos (hr.FH k' i hi)
   rw [hext,g1']at hq
   cases hq
   have h7:=hrq.ro
   exact hr.own k' i hi (h7.trans h6)
  ·obtain⟨h1,c,e,h2⟩:=hr.UN k hk
   obtain⟨h3,h4⟩:=hanc k hk
   refine⟨?_,c,e,h4.trans h2⟩
   rw [←h1]
   simp only [partOf,h3,h4,h2]
   cases hπ:π k with
   |none=>rfl
   |some i=>
    obtain⟨q,hq,hrq⟩:=hr.rel.obj k i hπ
    have hext:ext σ (fun _=>none) k=σ.obj k:=if_pos (hr.FH k i hπ)
    rw [hext,h2]at hq
    cases hq
    obtain⟨_,_,_,_,_,_,_,_,_,_,g1,g2,g3⟩:=hrq
    simp only [Option.map_some,PI.at,Nat.add_zero,←g1,←g2,←g3]
  ·rcases eA hf with h1|⟨⟨b,cells,i2,h1,h2,h3⟩,_⟩
   ·exact hr.Xz B cc h1
   ·exact .inr (h3▸hr.own b i2 h2 (hfzo b cells i2 h1 h2).1)
 exact⟨hp,hrep⟩
theorem xV{c:Code}{e ec:Env}{σ σc:aD}{Q:gn→Env→aD→Prop}(hm:Match S G ι e σ ec σc)(h:eD P G S N c ec σc Q):eD P G S N c e σ Q:=by
 intro A w₀ π D w a M hr he hg hM
 obtain⟨hp,hrep⟩:=xU hm hr
 obtain⟨hlow,hwf,hinj,hobj,henv,hdom,hglob,hanc,hfz⟩:=hm
 refine h A w₀ (partOf ι π σc w) No w a M hrep ⟨he.size,fun t=>?_,he.defers⟩ (fun g hgg=>?_) hM
 ·cases hec:ec.get t with
  |none=>exact .any _
  |some v=>
   obtain⟨v',h1,h2⟩:=henv t v hec
   have:=he.tmp t
   rw [h1]at this
   exact h2.comp hp this
 ·obtain⟨h1,h2⟩:=hp.loc g g 0 (hglob g hgg)
  rcases(hg g hgg).2 with⟨i,h3,h4,h5⟩|⟨_,h3⟩
  ·obtain⟨ic,g1,g2,g3,_⟩:=h2 i h3
   exact⟨rfl,.inl ⟨ic,g1,h4.trans g2.symm,by rw [g3];exact h5⟩⟩
  ·exact absurd h3 h1
end
end Go.az
namespace Go.az
def RG:TypeDesc→Bool
 | .struct _=>true
 | .array _ _=>true
 |_=>false
def xW:TypeDesc→Bool
 | .struct _=>true
 |_=>false
def QG(i:TI):Bool:=match i.info.zero with|some z=>zx z|none=>true
def Zr(P:Program)(t:TypeId)(i:TI):Bool:=
 and (Nat.beq i.size i.info.size) (and (i.agg==RG i.desc) (and (cond (xW i.desc) (P.stoodInHeld t==i.held) true) (and (P.eqGuardType P.depth t==i.guard) (QG i))))
theorem aL.of{P:Program}{t:TypeId}{i:TI}(h1:P.info? t=some i.info)(h2:P.underlying t=some i.desc)(h3:Zr P t i=true):aL P t i:=by
 unfold Zr at h3
 simp only [Bool.and_eq_true,beq_iff_eq]at h3
 obtain⟨a,b,c,d,e⟩:=h3
 refine⟨h1,h2,Nat.eq_of_beq_eq_true a,?_,fun fs hfs=>?_,d,fun z hz=>?_⟩
 ·rw [b];cases i.desc<;>rfl
 ·rw [hfs]at c;simpa [xW]using c
 ·unfold QG at e;rw [hz]at e;exact xI e
def Tr.QH{α:Type}(p:Nat→α→Prop):Tr α→(Nat→Nat)→Prop
 | .leaf,_=>True
 | .node l v r,g=>(match v with|some a=>p (g 0) a|none=>True)∧Tr.QH p l (fun k=>g (2*k+1))∧Tr.QH p r (fun k=>g (2*k+2))
theorem Tr.QH.get{α:Type}{p:Nat→α→Prop}:∀{t:Tr α}{g:Nat→Nat},Tr.QH p t g→∀n a,t.get n=some a→p (g n) a
 | .leaf,g,_,n,a,h=>by cases h
 | .node l v r,g,⟨h1,h2,h3⟩,n,a,h=>by
  rw [Tr.cw]at h
  by_cases h0:n=0
  ·rw [if_pos h0]at h;subst h0;rw [h]at h1;exact h1
  ·rw [if_neg h0]at h
   by_cases ho:n % 2=1
   ·rw [if_pos ho]at h
    have:=h2.get _ _ h
    have e:2*(n / 2)+1=n:=by omega
    rw [e]at this;exact this
   ·rw [if_neg ho]at h
    have:=h3.get _ _ h
    have e:2*(n / 2-1)+2=n:=by omega
    rw [e]at this;exact this
def iT(P:Program)(G:bP)(f:FuncId)(fn:Func):Prop:=P.funcs[f]? =some fn∧(fn.name== "runtime.NumGoroutine")=false∧∀c,fn.body=some c→codeOk G fn.ntmps c=true
def X1(G:bP)(fn:Func):Bool:=and (not (fn.name== "runtime.NumGoroutine")) (match fn.body with|some c=>codeOk G fn.ntmps c|none=>true)
theorem iT.of{P:Program}{G:bP}{f:FuncId}{fn:Func}(h1:P.funcs[f]? =some fn)(h2:X1 G fn=true):iT P G f fn:=by
 unfold X1 at h2
 rw [Bool.and_eq_true,Bool.not_eq_true']at h2
 exact⟨h1,h2.1,fun c hc=>by have:=h2.2;rw [hc]at this;exact this⟩
theorem N9{P:Program}{T:ew}(h:T.Y.QH (aL P) (fun k=>k)):bw P T:=fun t i ht=>h.get t i ht
theorem JV{P:Program}{T:ew}{G:bP}(hx:P.follows .mixedOrders=true)(h:T.F.QH (iT P G) (fun k=>k)):JL P T G:=⟨hx,fun f fn hf=>h.get f fn hf⟩
end Go.az
namespace Go.az
open Go.RowKit
structure Entry(G:bP)(S:Nat→Bool)(ι:Ren)(args argsc:List Value)(σ σc:aD):Prop where
 low:σc.low≤σc.next
 wf:WF σc
 none:∀k,S k=false→σc.obj k=none
 obj:∀k,S k=true→∃k' sh c e o',ι k=some (k',sh)∧σc.obj k=some (.cells c e k true false)∧σ.obj k'=some o'∧jl ι k sh (.cells c e k true false) o'
 FH:∀k p,ι k=some p→S k=true
 args:bX ι argsc args
 pA:∀g,G g=true→ι g=some (g,0)
 fz:∀b cells,ι.fz b=some cells→∃e aA ro,σ.obj b=some (.cells cells e aA ro false)
structure uT(S:Nat→Bool)(ι κ:Ren)(nw:Nat→Nat)(σ σ' σ1:aD)(v1 v:Value):Prop where
 next:σ.next≤σ'.next
 low:σ'.low=σ.low
 bp:σ'.bp=σ.bp
 kept:∀k,k<σ.next∨σ'.next≤k→σ'.obj k=σ.obj k
 made:∀j,σ.next≤j→j<σ'.next→κ (nw j)=some (j,0)∧∃c1 org1 e c,σ1.obj (nw j)=some (.cells c1 e org1 false false)∧σ'.obj j=some (.cells c e j false false)∧bX κ c1 c
 Z8:∀k k' sh,κ k=some (k',sh)→(S k=true∧ι k=some (k',sh))∨(S k=false∧sh=0∧σ.next≤k'∧k'<σ'.next∧nw k'=k)
 val:VA κ v1 v
 zI:κ.zI=false
 dt:κ.dt=true→∀b,ι.fz b=none
def JW(T:ew)(fn:Func)(R:Value→aD→Prop)(x:gn)(e:Env)(σ:aD):Prop:=
 @gn.rec (fun _=>Prop) (∃vs,bq T σ e fn.results.toList=some vs∧R (ar vs) σ) (fun _=>False) (∃vs,bq T σ e fn.results.toList=some vs∧R (ar vs) σ) x
section
variable {P:Program} {T:ew} {G:bP} {S:Nat→Bool} {ι:Ren} {args argsc:List Value} {σ σc:aD}
theorem Entry.rep{π:aK}{δ D:Nat→Prop}{H:Nat→Option aN}{w:World}{σ':aD}(h:Entry G S ι args argsc σ σc)(hp:cC σ σ' π δ D H w):
  DR ι π D (partOf ι π σc w)∧BN S (partOf ι π σc w) w σc (partOf ι π σc w) No w:=by
 have hobj:=h.obj
 have alive:∀k k' sh,ι k=some (k',sh)→∃c e o',σc.obj k=some (.cells c e k true false)∧σ.obj k'=some o'∧jl ι k sh (.cells c e k true false) o':=fun k k' sh hι=>by
  obtain⟨k2,sh2,c,e,o',h1,h2,h3,h4⟩:=h.obj k (h.FH k _ hι)
  rw [hι]at h1
  cases h1
  exact⟨c,e,o',h2,h3,h4⟩
 have hkn:∀k k' sh,ι k=some (k',sh)→k'<σ.next:=fun k k' sh hι=>by
  obtain⟨_,_,o',_,h2,_⟩:=alive k k' sh hι
  rcases Nat.lt_or_ge k' σ.next with h1|h1
  ·exact h1
  ·rw [hp.wf k' h1]at h2;cases h2
 have hP0:∀k k' sh,ι k=some (k',sh)→¬D k'∧∀i,π k'=some i→∃ic,partOf ι π σc w k=some ic∧ic.bm=i.bm∧ic.sh=i.sh+sh∧ic.bsize=i.bsize∧ic.s4=i.s4:=fun k k' sh hι=>by
  obtain⟨c,e,o',h1,h2,h3⟩:=alive k k' sh hι
  refine⟨fun hd=>?_,fun i hi=>⟨i.at k sh true c.length,?_,rfl,rfl,rfl,rfl⟩⟩
  ·rcases hp.dead k' hd with⟨o,ho,hd2⟩|h4
   ·rw [h2]at ho;cases ho
    rw [h3.alive.1]at hd2;cases hd2
   ·have:=hkn k k' sh hι;have:=hp.Rw;omega
  ·exact xS hι h1 hi rfl
 have hfz:∀b cells,ι.fz b=some cells→b<σ.next∧¬D b∧∀i,π b=some i→∃cc,(partOf ι π σc w).fr i.bm=some cc∧i.sh+cells.length≤cc.length∧aR π D cells ((cc.drop i.sh).take cells.length):=fun b cells hF=>by
  obtain⟨e,aA,ro,ho⟩:=h.fz b cells hF
  have hb:b<σ.next:=by
   rcases Nat.lt_or_ge b σ.next with h1|h1
   ·exact h1
   ·rw [hp.wf b h1]at ho;cases ho
  refine⟨hb,fun hd=>?_,fun i hi=>?_⟩
  ·rcases hp.dead b hd with⟨o,h1,h2⟩|h4
   ·rw [ho]at h1;cases h1;cases h2
   ·have:=hp.Rw;omega
  ·obtain⟨q,hq,hrq⟩:=hp.rel.obj b i hi
   have hext:ext σ H b=σ.obj b:=if_pos hb
   rw [hext,ho]at hq
   cases hq
   obtain⟨cc,elem,fz,g1,g2,g3,g4,g5,_⟩:=hrq
   refine⟨cc.toList,uR hF hi g1 ?_,by show _≤cc.size;omega,g5⟩
   cases hc:π.fr i.bm with
   |none=>exact .inl rfl
   |some c2=>
    obtain⟨_,_,h3⟩:=hp.rel.uh _ _ hc
    rw [g1]at h3;cases h3
    exact .inr rfl
 have hP:DR ι π D (partOf ι π σc w):=⟨hP0,fun B cc hf=>kl hf,fun b cells hF=>(hfz b cells hF).2⟩
 have hlt:∀k o,σc.obj k=some o→k<σc.next:=fun k o ho=>by
  rcases Nat.lt_or_ge k σc.next with h1|h1
  ·exact h1
  ·rw [h.wf k h1]at ho;cases ho
 have hro:∀k ic,partOf ι π σc w k=some ic→ic.ro=true∧ic.aA=k:=fun k ic hk=>by
  obtain⟨k',sh,i,o,hι,ho,hi,rfl⟩:=cF hk
  obtain⟨c2,e2,o',h1,_⟩:=alive k k' sh hι
  rw [ho]at h1;cases h1
  exact⟨rfl,rfl⟩
 refine⟨hP,⟨fun k ic hk=>?_,fun k ic hk=>⟨Nat.le_of_eq (hro k ic hk).2,fun _=>(hro k ic hk).2⟩,fun B cc hf=>?_,fun k ic hk hr=>?_,fun k₁ k₂ i₁ i₂ _ hk1 hk2 _=> .inl ⟨(hro _ _ hk1).1,(hro _ _ hk2).1⟩⟩,h.wf,h.low,fun k ic hk=>?_,fun k hk=>hk.elim,fun k ic hk hr=>?_,Below.refl _ _,fun k hk=>⟨rfl,?_⟩,fun _ _ hf=>hf,fun _ _ hf=> .inl hf⟩
 ·obtain⟨k',sh,i,o,hι,ho,hi,rfl⟩:=cF hk
  refine⟨_,(if_pos (hlt k _ ho)).trans ho,?_⟩
  obtain⟨c2,e2,o',h1,h2,h3⟩:=alive k k' sh hι
  rw [ho]at h1;cases h1
  obtain⟨q,hq,hrq⟩:=hp.rel.obj k' i hi
  have hext:ext σ H k'=σ.obj k':=if_pos (hkn k k' sh hι)
  rw [hext,h2]at hq
  cases hq
  exact uS hP h3 hrq
 ·rcases eA hf with h1|⟨_,h1⟩
  ·exact hp.rel.uh B cc h1
  ·exact kj h1
 ·rw [(hro k ic hk).1]at hr;cases hr
 ·obtain⟨k',sh,i,o,hι,ho,hi,rfl⟩:=cF hk
  exact hlt k _ ho
 ·rw [(hro k ic hk).1]at hr;cases hr
 ·obtain⟨k',sh,c,e,o',h1,h2,h3,h4⟩:=h.obj k hk
  exact⟨c,e,h2⟩
theorem uT.post{κ:Ren}{nw:Nat→Nat}{σ' σ1:aD}{v1 v v':Value}{π π1:aK}{δ D D1:Nat→Prop}{H:Nat→Option aN}{w w1:World}
  (hl:uT S ι κ nw σ σ' σ1 v1 v) (hp:cC σ σ' π δ D H w) (hr:BN S (partOf ι π σc w) w σ1 π1 D1 w1) (hv:VR π1 D1 v1 v'):
  ∃π',VR π' D v v'∧Post σ σ' π δ D H w π' D w1:=by
 let π':aK:=⟨fun j=>if σ.next≤j∧j<σ'.next then(π1 (nw j)).map fun i=> {i with aA:=j}else π j,if κ.dt=true then π1.fr else π.fr⟩
 have hfr1:κ.dt=true→π'.fr=π1.fr:=fun h=>if_pos h
 have hfr2:κ.dt≠true→π'.fr=π.fr:=fun h=>if_neg h
 have hfs:eZ π π' w:=by
  by_cases hd:κ.dt=true
  ·refine⟨fun B cc hf=>?_,fun B cc hf=>?_⟩
   ·rw [hfr1 hd];exact hr.Xy B cc (kl hf)
   ·rw [hfr1 hd]at hf
    rcases hr.Xz B cc hf with h1|h1
    ·rcases eA h1 with h2|⟨⟨b,cells,_,h2,_⟩,_⟩
     ·exact .inl h2
     ·rw [hl.dt hd b]at h2;cases h2
    ·exact .inr h1
  ·exact eZ.same (hfr2 hd)
 have hold:∀j,¬(σ.next≤j∧j<σ'.next)→π' j=π j:=fun j h=>if_neg h
 have hnew:∀j,σ.next≤j→j<σ'.next→∀i,π' j=some i→∃i1,π1 (nw j)=some i1∧i= {i1 with aA:=j}:=fun j h1 h2 i hi=>by
  have h3:π' j=(π1 (nw j)).map fun i=> {i with aA:=j}:=if_pos ⟨h1,h2⟩
  rw [h3,Option.map_eq_some_iff]at hi
  obtain⟨i1,h4,h5⟩:=hi
  exact⟨i1,h4,h5.symm⟩
 have hfr:∀j,σ.next≤j→j<σ'.next→π j=none:=hp.fresh
 have hq0:∀k k' sh,κ k=some (k',sh)→¬D1 k∧∀ic,π1 k=some ic→∃i,π' k'=some i∧ic.bm=i.bm∧ic.sh=i.sh+sh∧ic.bsize=i.bsize∧ic.s4=i.s4:=fun k k' sh hκ=>by
  rcases hl.Z8 k k' sh hκ with⟨h1,h2⟩|⟨h1,rfl,h3,h4,h5⟩
  ·obtain⟨h6,c,e,h7⟩:=hr.UN k h1
   refine⟨fun hd=>?_,fun ic hic=>?_⟩
   ·obtain⟨o,ho,hd2⟩:=hr.dead k hd
    rw [h7]at ho;cases ho;cases hd2
   ·rw [h6]at hic
    obtain⟨k2,sh2,i,_,g1,g2,g3,rfl⟩:=cF hic
    rw [h2]at g1;cases g1
    refine⟨i,?_,rfl,rfl,rfl,rfl⟩
    rw [hold k' fun hf=>by rw [hfr k' hf.1 hf.2]at g3;cases g3]
    exact g3
  ·obtain⟨_,c1,org1,e,c,g1,g2,g3⟩:=hl.made k' h3 h4
   rw [h5]at g1
   refine⟨fun hd=>?_,fun ic hic=>?_⟩
   ·obtain⟨o,ho,hd2⟩:=hr.dead k hd
    rw [g1]at ho;cases ho;cases hd2
   ·refine⟨{ic with aA:=k'},?_,rfl,rfl,rfl,rfl⟩
    have h6:π' k'=(π1 (nw k')).map fun i=> {i with aA:=k'}:=if_pos ⟨h3,h4⟩
    rw [h6,h5,hic];rfl
 have hq:RF κ π1 D1 π':=⟨hq0,hl.zI,fun hd B cc hf=>by rw [hfr1 hd];exact hf⟩
 have hobjn:∀j,σ.next≤j→j<σ'.next→∀i,π' j=some i→w.heap.size≤i.bm∧i.aA=j∧i.ro=false∧∃o,σ'.obj j=some o∧lV o=false∧fK π' D i w1 o:=fun j h1 h2 i hi=>by
  obtain⟨i1,h3,rfl⟩:=hnew j h1 h2 i hi
  obtain⟨_,c1,org1,e,c,g1,g2,g3⟩:=hl.made j h1 h2
  obtain⟨o1,ho1,hr1⟩:=hr.rel.obj (nw j) i1 h3
  have hext:ext σ1 (fun _=>none) (nw j)=σ1.obj (nw j):=if_pos (hr.FH _ _ h3)
  rw [hext,g1]at ho1
  cases ho1
  obtain⟨cc,elem,fz,a1,a2,a3,a4,a5,a6,a7,a8,a9,a10⟩:=hr1
  refine⟨show w.heap.size≤i1.bm from hr.own (nw j) i1 h3 a9,rfl,a9,_,g2,rfl,?_⟩
  have hlen:=g3.1
  refine⟨cc,elem,fz,a1,a2,by show i1.sh+c.length≤i1.bsize;omega,bX.xQ g3 a4,?_,a6,a7,rfl,a9,by show i1.len=c.length;omega⟩
  show aR π' D c ((cc.toList.drop i1.sh).take c.length)
  rw [←hlen];exact g3.back hq a5
 have hmono:cm σ σ':=⟨hl.next,Nat.le_of_eq hl.low,Nat.le_of_eq hl.bp,fun hw k hk=>(hl.kept k (.inr hk)).trans (hw k (Nat.le_trans hl.next hk)),fun k hk=>by rw [hl.kept k (.inl hk)];exact .refl _ _ _ _⟩
 have hstep:eV π D π' D:=⟨fun k i hk=> .inl ((hold k fun hf=>by rw [hfr k hf.1 hf.2]at hk;cases hk).trans hk),fun k hk hd=>⟨by
  rw [hold k fun hf=>by
   rcases hp.dead k hd with h1|h1
   ·have:=cI hp.wf h1;omega
   ·omega]
  exact hk,hd⟩,hfs.1⟩
 refine⟨π',hl.val.back hq hv,⟨hmono,⟨fun k i hk=>?_,fun k i hk=>?_,fun B cc hf=>?_,fun k i hk hro=>?_,fun k₁ k₂ i₁ i₂ hne hk1 hk2 hb=>?_⟩,fun k i hk=>?_,fun k i hk=>?_,fun k hd=>hd,fun k hd=> .inl hd,fun k hk hd hnd=>?_,fun k i hk=>?_,fun k i hk hro=>?_,hfs,⟨hr.iw.os,hr.iw.tape,hr.iw.output,hr.iw.size,fun B hB _=>hr.iw.block B hB⟩⟩⟩
 ·by_cases hf:σ.next≤k∧k<σ'.next
  ·obtain⟨_,_,_,o,ho,_,hro⟩:=hobjn k hf.1 hf.2 i hk
   exact⟨o,(if_pos hf.2).trans ho,hro⟩
  ·rw [hold k hf]at hk
   obtain⟨o,ho,hro⟩:=hp.rel.obj k i hk
   refine⟨o,?_,hro.mono hstep (hr.iw.block i.bm (hp.rel.lt hk))⟩
   rw [←ho]
   by_cases h1:k<σ.next
   ·exact(if_pos (Nat.lt_of_lt_of_le h1 hl.next)).trans ((hl.kept k (.inl h1)).trans (if_pos h1).symm)
   ·exact(if_neg (by omega)).trans (if_neg h1).symm
 ·by_cases hf:σ.next≤k∧k<σ'.next
  ·obtain⟨_,h1,_⟩:=hobjn k hf.1 hf.2 i hk
   exact⟨Nat.le_of_eq h1,fun _=>h1⟩
  ·rw [hold k hf]at hk
   exact hp.rel.lF k i hk
 ·by_cases hd:κ.dt=true
  ·rw [hfr1 hd]at hf;exact hr.rel.uh B cc hf
  ·rw [hfr2 hd]at hf
   obtain⟨el,fz,h1⟩:=hp.rel.uh B cc hf
   exact⟨el,fz,(hr.iw.block B (aB h1)).trans h1⟩
 ·by_cases hf:σ.next≤k∧k<σ'.next
  ·obtain⟨h1,_⟩:=hobjn k hf.1 hf.2 i hk
   obtain⟨i1,h3,rfl⟩:=hnew k hf.1 hf.2 i hk
   by_cases hd:κ.dt=true
   ·rw [hfr1 hd];exact hr.rel.AS (nw k) i1 h3 hro
   ·rw [hfr2 hd]
    cases hc:π.fr i1.bm with
    |none=>rfl
    |some cc=>
     obtain⟨_,_,h4⟩:=hp.rel.uh _ _ hc
     have:=aB h4
     have h5:w.heap.size≤i1.bm:=h1
     omega
  ·rw [hold k hf]at hk
   have h1:=hp.rel.AS k i hk hro
   by_cases hd:κ.dt=true
   ·cases hc:π'.fr i.bm with
    |none=>rfl
    |some cc=>
     exfalso
     rcases hfs.2 _ _ hc with h2|h2
     ·rw [h1]at h2;cases h2
     ·have:=hp.rel.lt hk;omega
   ·rw [hfr2 hd];exact h1
 ·by_cases hf1:σ.next≤k₁∧k₁<σ'.next
  ·by_cases hf2:σ.next≤k₂∧k₂<σ'.next
   ·exfalso
    obtain⟨j1,g1,rfl⟩:=hnew k₁ hf1.1 hf1.2 i₁ hk1
    obtain⟨j2,g2,rfl⟩:=hnew k₂ hf2.1 hf2.2 i₂ hk2
    obtain⟨m1,c1,org1,e1,c1',m2,m3,_⟩:=hl.made k₁ hf1.1 hf1.2
    obtain⟨m4,c2,org2,e2,c2',m5,m6,_⟩:=hl.made k₂ hf2.1 hf2.2
    have hne2:nw k₁≠nw k₂:=fun h=>by rw [h,m4]at m1;cases m1;exact hne rfl
    have nd:∀k c e aA,σ1.obj k=some (.cells c e aA false false)→¬bd σ1 k:=fun k c e aA h ⟨o,ho,hd⟩=>by rw [h]at ho;cases ho;cases hd
    rcases hr.rel.sep _ _ j1 j2 hne2 g1 g2 hb with⟨h3,_⟩|⟨_,_,_,h4|h4⟩
    ·obtain⟨_,_,h5,_⟩:=hobjn k₁ hf1.1 hf1.2 _ hk1
     rw [show j1.ro=false from h5]at h3;cases h3
    ·exact nd _ _ _ _ m2 h4.1
    ·exact nd _ _ _ _ m5 h4.1
   ·exfalso
    obtain⟨h1,_⟩:=hobjn k₁ hf1.1 hf1.2 i₁ hk1
    rw [hold k₂ hf2]at hk2
    have:=hp.rel.lt hk2
    omega
  ·by_cases hf2:σ.next≤k₂∧k₂<σ'.next
   ·exfalso
    obtain⟨h1,_⟩:=hobjn k₂ hf2.1 hf2.2 i₂ hk2
    rw [hold k₁ hf1]at hk1
    have:=hp.rel.lt hk1
    omega
   ·rw [hold k₁ hf1]at hk1
    rw [hold k₂ hf2]at hk2
    rcases hp.rel.sep k₁ k₂ i₁ i₂ hne hk1 hk2 hb with h3|⟨h3,h4,h5,h6⟩
    ·exact .inl h3
    ·exact .inr ⟨h3,h4,h5,h6.imp (fun h=>⟨.inl h.1,h.2⟩) (fun h=>⟨.inl h.1,h.2⟩)⟩
 ·by_cases hf:σ.next≤k∧k<σ'.next
  ·exact .inr ⟨hfr k hf.1 hf.2,hf.1,hf.2⟩
  ·rw [hold k hf]at hk;exact .inl hk
 ·exact .inl ((hold k fun hf=>by rw [hfr k hf.1 hf.2]at hk;cases hk).trans hk)
 ·obtain⟨o,ho,hd2⟩:=hd
  rw [hl.kept k (.inl hk)]at ho
  exact absurd ⟨o,ho,hd2⟩ hnd
 ·by_cases hf:σ.next≤k∧k<σ'.next
  ·obtain⟨_,h1,_⟩:=hobjn k hf.1 hf.2 i hk
   exact .inl (by rw [h1];exact hf.1)
  ·rw [hold k hf]at hk;exact .inr ⟨k,i,hk,rfl⟩
 ·by_cases hf:σ.next≤k∧k<σ'.next
  ·obtain⟨h1,_⟩:=hobjn k hf.1 hf.2 i hk
   exact .inr h1
  ·rw [hold k hf]at hk;exact .inl ⟨k,i,hk,hro,rfl⟩
theorem Hv{f:FuncId}{fn:Func}{c:Code}(hfn:iT P G f fn)(hb:fn.body=some c)(hT:bw P T){σ':aD}{v:Value}(hent:Entry G S ι args argsc σ σc)
  (hrun:∀N,fn.ntmps≤N→eD P G S N c (eG argsc 0 .leaf) σc (JW T fn fun v1 σ1=>∃κ nw,uT S ι κ nw σ σ' σ1 v1 v)):
  Enters P f∧(σ.low≤σ.next→∀π δ D H w args',eW G π D→aR π D args args'→cC σ σ' π δ D H w→Calls P f ⟨args'⟩ w (nu σ σ' π δ D H w v)):=by
 obtain⟨g1,g2,g3⟩:=hfn
 refine⟨⟨fn,g1,g2,by rw [hb];rfl⟩,fun _ π δ D H w args' hg ha hp=>?_⟩
 obtain⟨hP,hrep⟩:=hent.rep hp
 have hac:aR (partOf ι π σc w) No argsc args':=hent.args.comp hP ha
 refine calls_of_wp g1 hb ?_
 have hsz:(⟨args'⟩:Array Value).size=args'.length:=rfl
 rw [hsz]
 have hgl:eW G (partOf ι π σc w) No:=fun g hgg=>by
  obtain⟨h1,h2⟩:=hP.loc g g 0 (hent.pA g hgg)
  rcases(hg g hgg).2 with⟨i,h3,h4,h5⟩|⟨_,h3⟩
  ·obtain⟨ic,a1,a2,a3,_⟩:=h2 i h3
   exact⟨rfl,.inl ⟨ic,a1,h4.trans a2.symm,by rw [a3];exact h5⟩⟩
  ·exact absurd h3 h1
 refine hrun (args'.length+(fn.ntmps-args'.length)) (by omega) (partOf ι π σc w) w (partOf ι π σc w) No w _ _ hrep (jJ.start hac fn.ntmps) hgl fun x e' σ1 π1 D1 w1 a1 hx hr1 he1 hg1=>?_
 have hend:∀vs,bq T σ1 e' fn.results.toList=some vs→(∃κ nw,uT S ι κ nw σ σ' σ1 (ar vs) v)→bodyPost P fn (nu σ σ' π δ D H w v) .ret a1 w1:=fun vs h1 ⟨κ,nw,h2⟩=>by
  obtain⟨v',hv1,hv2⟩:=mi hT (hr1.pre (Nat.le_refl _)) he1 h1
  obtain⟨π',h3,h4⟩:=h2.post hp hr1 hv2
  exact⟨he1.defers,v',hv1,v',π',D,rfl,h3,h4⟩
 cases x with
 |normal=>obtain⟨vs,h1,h2⟩:=hx;exact hend vs h1 h2
 |exit id=>exact hx.elim
 |ret=>obtain⟨vs,h1,h2⟩:=hx;exact hend vs h1 h2
end
end Go.az
namespace Go.az
inductive Sh where
 |int (k:IntKind)
 |bool
 |str
def zJ(f:TypeId→Option (List Sh)):List TypeId→Option (List Sh)
 | []=>some []
 |t::ts=>andThen (f t) fun a=>andThen (zJ f ts) fun b=>some (a++b)
def zK(T:ew):Nat→TypeId→Option (List Sh)
 |0,_=>none
 |fuel+1,t=>andThen (desc T t) fun ds=>match ds with
  | .bool=>some [.bool]
  | .int k=>some [.int k]
  | .string=>some [.str]
  | .struct fs=>andThen (size T t) fun z=>iff (oe T fs.toList 0 z) (zJ (zK T fuel) (fs.toList.map (·.type))) none
  | .array len e=>andThen (size T t) fun z=>andThen (size T e) fun ze=>iff (Nat.beq z (len*ze)) (zJ (zK T fuel) (List.replicate len e)) none
  |_=>none
def jK(n:Nat)(l:List Nat):Bool:= @List.rec Nat (fun _=>Bool) false (fun a _ ih=>iff (Nat.beq n a) true ih) l
def zL(n:Nat)(l:List (Nat×Nat)):Nat:= @List.rec (Nat×Nat) (fun _=>Nat) (nat_lit 0) (fun a _ ih=>iff (Nat.beq n a.1) a.2 ih) l
inductive HT where
 |done
 |lit (h:HT)
 |split (a b:HT)
 |sure (c:Bool) (h:HT)
class JX where
 fn:FuncId→List Value→aD→Option (Bool×(Value×aD))
instance:JX:=⟨fun _ _ _=>none⟩
structure Hint where
 kd:List (Nat×Nat)
 un:List (Nat×Nat)
 [cg:JX]
section
variable (T:ew) (call:cD)
end
def eh:Code→Nat
 | .region id _ _=>id
 | .seq a _=>eh a
 | .cond _ a _=>eh a
 | .block _ c=>eh c
 | .loop c=>eh c
 | .scope c=>eh c
 |_=>nat_lit 0
section
variable (L:Code→Env→aD→(gn→HT→Env→aD→Prop)→Prop) (T:ew) (call:cD) (h:Hint)
end
section
variable {P:Program} {G:bP} {S:Nat→Bool} {N:Nat} {T:ew} {call:cD} {h:Hint}
theorem FJ{e e':Env}(he:∀t,e'.get t=e.get t):env e'=env e:=by
 funext x
 cases x with
 |tmp t=>show fM _=fM _;rw [he]
 |_=>rfl
end
end Go.az
namespace Go.az
abbrev lA:=List Value→aD→gk
def aJ(P:Program)(G:bP)(f:FuncId)(s:lA):Prop:=
 (∀args σ v σ',s args σ=some (v,σ')→cm σ σ')∧∀args σ v σ',s args σ=some (v,σ')→Enters P f∧
  (σ.low≤σ.next→∀π δ D H w args',eW G π D→aR π D args args'→cC σ σ' π δ D H w→Calls P f ⟨args'⟩ w (nu σ σ' π δ D H w v))
theorem aJ.mono{P:Program}{G G':bP}{f:FuncId}{s:lA}(h:aJ P G f s)(hg:∀g,G g=true→G' g=true):aJ P G' f s:=
 ⟨h.1,fun args σ v σ' hs=>⟨(h.2 args σ v σ' hs).1,fun hl π δ D H w args' hgl ha hp=>(h.2 args σ v σ' hs).2 hl π δ D H w args' (fun g hgg=>hgl g (hg g hgg)) ha hp⟩⟩
def sD(l:List (FuncId×lA)):cD:= @List.rec (FuncId×lA) (fun _=>cD) (fun _ _ _=>none) (fun p _ ih f args σ=>iff (Nat.beq f p.1) (p.2 args σ) (ih f args σ)) l
theorem qZ{P:Program}{G:bP}:∀{l:List (FuncId×lA)},(∀p∈l,aJ P G p.1 p.2)→pw P G (sD l)∧iR (sD l)
 | [],_=>⟨fun f args σ v σ' h=>(by cases (show none=some (v,σ')from h)),fun f args σ v σ' h=>(by cases (show none=some (v,σ')from h))⟩
 |p::l,hp=>by
  have ih:=qZ (l:=l) fun q hq=>hp q (by simp [hq])
  have h0:=hp p (by simp)
  have key:∀f args σ v σ',sD (p::l) f args σ=some (v,σ')→(f=p.1∧p.2 args σ=some (v,σ'))∨sD l f args σ=some (v,σ'):=fun f args σ v σ' h=>by
   have h':iff (Nat.beq f p.1) (p.2 args σ) (sD l f args σ)=some (v,σ'):=h
   rw [iff_eq]at h'
   split at h'
   ·rename_i hb;exact .inl ⟨(beq_iff _ _).1 hb,h'⟩
   ·exact .inr h'
  refine⟨fun f args σ v σ' h=>?_,fun f args σ v σ' h=>?_⟩
  ·rcases key f args σ v σ' h with⟨rfl,h1⟩|h1
   ·exact h0.2 args σ v σ' h1
   ·exact ih.1 f args σ v σ' h1
  ·rcases key f args σ v σ' h with⟨rfl,h1⟩|h1
   ·exact h0.1 args σ v σ' h1
   ·exact ih.2 f args σ v σ' h1
theorem JY{P:Program}{G:bP}{l:List (FuncId×lA)}(h:∀p∈l,aJ P G p.1 p.2):fT P G (sD l)∧iR (sD l):=⟨(qZ h).1.Zq,(qZ h).2⟩
def fg:bP:=fun _=>false
theorem kP{T:ew}{e e':Env}{σ:aD}(he:∀t,e'.get t=e.get t):∀rs:List ResultVar,bq T (norm σ) e' rs=bq T σ e rs
 | []=>rfl
 | .tmp t::rs=>by
  show andThen (bq T (norm σ) e' rs) (fun vs=>some (env e' (.tmp t)::vs))=andThen (bq T σ e rs) (fun vs=>some (env e (.tmp t)::vs))
  rw [kP he rs,FJ he]
 | .cell a t::rs=>by
  show ak (fN (env e' (.tmp a))) (fun k off=>andThen (jU T σ t k off) fun v=>andThen (bq T (norm σ) e' rs) fun vs=>some (v::vs))=ak (fN (env e (.tmp a))) (fun k off=>andThen (jU T σ t k off) fun v=>andThen (bq T σ e rs) fun vs=>some (v::vs))
  rw [kP he rs,FJ he]
def pB:Ren:=⟨fun _=>none,fun _=>none,false,true⟩
theorem zM{S:Nat→Bool}{ι:Ren}(hf:∀b,ι.fz b=none){σ σ1:aD}{v:Value}(hv:VA pB v v):uT S ι pB id σ σ σ1 v v:=
 ⟨Nat.le_refl _,rfl,rfl,fun _ _=>rfl,fun j h1 h2=>(by omega),fun k k' sh h=>(by cases h),hv,rfl,fun _=>hf⟩
def xb{α:Type}(l:List (Nat×α)):Tr α:= @List.rec (Nat×α) (fun _=>Tr α) .leaf (fun p _ ih=>ih.set p.1 p.2) l
def BQ{α:Type}:List Nat→List α→Tr α
 |k::ks,a::as=>(BQ ks as).set k a
 |_,_=> .leaf
def pC{α:Type}:List Nat→List α→Nat→Option α
 |k::ks,a::as,n=>if n=k then some a else pC ks as n
 |_,_,_=>none
theorem xX{α:Type}:∀(ks:List Nat)(as:List α)(n:Nat),(BQ ks as).get n=pC ks as n
 |k::ks,a::as,n=>by
  rw [show BQ (k::ks) (a::as)=(BQ ks as).set k a from rfl,Tr.dm,xX ks as n];rfl
 | [],_,n=>by cases ‹List α› <;>rfl
 |_::_,[],n=>rfl
def og:List Nat→List Nat→Nat→Option (Nat×Nat)
 |k::ks,k'::ks',n=>if n=k then some (k',0)else og ks ks' n
 |_,_,_=>none
def DS(F:Nat→Option (List Value))(ks ks':List Nat):Ren:=⟨og ks ks',F,true,true⟩
def JZ(ks ks':List Nat):Ren:=DS (fun _=>none) ks ks'
def ownRow(σ:aD)(b:Nat):Option (List Value):=andThen (σ.obj b) fun o=>au (rowsOf o) fun c _ _=>some c
def BR(ι:Ren):List Nat→List aN→List aN→Prop
 |k::ks,o::os,o'::os'=>jl ι k 0 o o'∧BR ι ks os os'
 | [],[],[]=>True
 |_,_,_=>False
theorem xY:∀{ks ks':List Nat}{k:Nat}{p:Nat×Nat},og ks ks' k=some p→∃i:Nat,ks[i]? =some k∧ks'[i]? =some p.1∧p.2=0
 |a::ks,b::ks',k,p,h=>by
  unfold og at h
  split at h
  ·rename_i hk;cases h;exact⟨0,by rw [hk];rfl,rfl,rfl⟩
  ·obtain⟨i,h1,h2,h3⟩:=xY h
   exact⟨i+1,h1,h2,h3⟩
 | [],_,k,p,h=>by cases ‹List Nat› <;>cases h
 |_::_,[],k,p,h=>by cases h
theorem om{α:Type}:∀{ks:List Nat}{as:List α}{k:Nat}{a:α},pC ks as k=some a→∃i:Nat,ks[i]? =some k∧as[i]? =some a
 |x::ks,b::as,k,a,h=>by
  unfold pC at h
  split at h
  ·rename_i hk;cases h;exact⟨0,by rw [hk];rfl,rfl⟩
  ·obtain⟨i,h1,h2⟩:=om h
   exact⟨i+1,h1,h2⟩
 | [],_,k,a,h=>by cases ‹List α› <;>cases h
 |_::_,[],k,a,h=>by cases h
def X2(kb:List Nat)(os:List aN)(n:Nat):aD:=⟨BQ kb os,n,n,n⟩
def J0(n:Nat)(l:List Nat):Bool:=l.all fun k=>Nat.blt k n
def gh:List Nat→Bool
 | []=>true
 |a::l=>and (not (l.contains a)) (gh l)
def Vg(sb kb kb':List Nat)(n:Nat):Bool:=and (and (gh kb) (gh kb')) (and (and (J0 n kb) (Nat.beq kb.length kb'.length)) (sb.isPrefixOf kb&&sb.isPrefixOf kb'))
theorem q8:∀{l:List Nat},gh l=true→∀{i j k:Nat},l[i]? =some k→l[j]? =some k→i=j
 |a::l,h,i,j,k,h1,h2=>by
  simp only [gh,Bool.and_eq_true,Bool.not_eq_true',List.contains_eq_mem,decide_eq_false_iff_not]at h
  cases i with
  |zero=>
   cases j with
   |zero=>rfl
   |succ j=>
    simp only [List.getElem?_cons_zero,Option.some.injEq]at h1
    subst h1
    exact absurd (List.mem_of_getElem? (by simpa using h2)) h.1
  |succ i=>
   cases j with
   |zero=>
    simp only [List.getElem?_cons_zero,Option.some.injEq]at h2
    subst h2
    exact absurd (List.mem_of_getElem? (by simpa using h1)) h.1
   |succ j=>rw [q8 h.2 (i:=i) (j:=j) (by simpa using h1) (by simpa using h2)]
 | [],_,i,j,k,h1,_=>by simp at h1
theorem BR.get{ι:Ren}:∀{ks:List Nat}{os os':List aN},BR ι ks os os'→os.length=ks.length∧os'.length=ks.length∧∀(i k:Nat) o,ks[i]? =some k→os[i]? =some o→∃o',os'[i]? =some o'∧jl ι k 0 o o'
 | [],[],[],_=>⟨rfl,rfl,fun i k o h=>by simp at h⟩
 |k::ks,o::os,o'::os',⟨h1,h2⟩=>by
  obtain⟨h3,h4,h5⟩:=BR.get h2
  refine⟨by simp [h3],by simp [h4],fun i k2 o2 hi ho=>?_⟩
  cases i with
  |zero=>
   simp only [List.getElem?_cons_zero,Option.some.injEq]at hi ho
   subst hi;subst ho
   exact⟨o',rfl,h1⟩
  |succ i=>exact h5 i k2 o2 (by simpa using hi) (by simpa using ho)
 | [],[],_::_,h=>h.elim
 | [],_::_,_,h=>by cases ‹List aN› <;>exact h.elim
 |_::_,[],_,h=>by cases ‹List aN› <;>exact h.elim
 |_::_,_::_,[],h=>h.elim
theorem FK:∀{ks ks':List Nat}{i k k':Nat},gh ks=true→ks[i]? =some k→ks'[i]? =some k'→og ks ks' k=some (k',0)
 |a::ks,b::ks',i,k,k',hn,h1,h2=>by
  unfold og
  by_cases hk:k=a
  ·subst hk
   have:i=0:=q8 hn h1 rfl
   subst this
   simp only [List.getElem?_cons_zero,Option.some.injEq]at h2
   subst h2
   rw [if_pos rfl]
  ·rw [if_neg hk]
   cases i with
   |zero=>simp only [List.getElem?_cons_zero,Option.some.injEq]at h1;exact absurd h1.symm hk
   |succ i=>
    simp only [gh,Bool.and_eq_true]at hn
    exact FK hn.2 (by simpa using h1) (by simpa using h2)
 | [],_,i,k,k',_,h1,_=>by simp at h1
 |_::_,[],i,k,k',_,_,h2=>by simp at h2
theorem BS{α:Type}:∀{ks:List Nat}{as:List α}{i k:Nat}{a:α},gh ks=true→ks[i]? =some k→as[i]? =some a→pC ks as k=some a
 |x::ks,b::as,i,k,a,hn,h1,h2=>by
  unfold pC
  by_cases hk:k=x
  ·subst hk
   have:i=0:=q8 hn h1 rfl
   subst this
   simp only [List.getElem?_cons_zero,Option.some.injEq]at h2
   subst h2
   rw [if_pos rfl]
  ·rw [if_neg hk]
   cases i with
   |zero=>simp only [List.getElem?_cons_zero,Option.some.injEq]at h1;exact absurd h1.symm hk
   |succ i=>
    simp only [gh,Bool.and_eq_true]at hn
    exact BS hn.2 (by simpa using h1) (by simpa using h2)
 | [],_,i,k,a,_,h1,_=>by simp at h1
 |_::_,[],i,k,a,_,_,h2=>by simp at h2
theorem km(n:Nat):∀l:List Nat,jK n l=true↔n∈l
 | []=>by simp [jK]
 |a::l=>by
  show iff (Nat.beq n a) true (jK n l)=true↔_
  rw [iff_eq]
  by_cases h:Nat.beq n a=true
  ·rw [if_pos h];simp [(beq_iff _ _).1 h]
  ·rw [if_neg h,km n l]
   have:n≠a:=fun hn=>h ((beq_iff _ _).2 hn)
   simp [this]
def Fits(F:Nat→Option (List Value))(sb kb kb':List Nat)(so:List aN)(vs:List Value)(os:List aN)(xs:List Value)(ys:List aN):Prop:=
 bX (DS F kb kb') vs xs∧BR (DS F kb kb') kb (so++os) ys∧ys.take sb.length=so
def oo(fn:Func):Code:=match fn.body with|some c=>c|none=> .skip
theorem ra{fn:Func}(h:fn.body.isSome=true):fn.body=some (oo fn):=by
 unfold oo
 cases hb:fn.body with
 |none=>rw [hb]at h;cases h
 |some c=>rfl
def gI(k:IntKind)(v:Value):Option Int:=ak (mK v) fun k' n=>iff (sameKind k' k) (some n) none
theorem Vh{k:IntKind}{v:Value}{n:Int}(h:gI k v=some n):v= .int k n:=by
 obtain⟨k',m,h1,h2⟩:=ae h
 obtain⟨h3,h4⟩:=aj h2
 cases h4
 rw [bG]at h3
 subst h3
 exact cY h1
def gB(v:Value):Option Bool:=sd v
theorem Vi{v:Value}{b:Bool}(h:gB v=some b):v= .bool b:=gq h
def g1{α:Type}:List α→Option α| [a]=>some a|_=>none
def g2{α:Type}:List α→Option (α×α)| [a,b]=>some (a,b)|_=>none
def g3{α:Type}:List α→Option (α×α×α)| [a,b,c]=>some (a,b,c)|_=>none
def g4{α:Type}:List α→Option (α×α×α×α)| [a,b,c,d]=>some (a,b,c,d)|_=>none
theorem VA.oV{ι:Ren}{v:Value}(h:az.oV v=true):VA ι v v:=by
 cases v with
 |agg cs=>
  obtain⟨cs⟩:=cs
  refine(bX.bare fun v hv=>?_).agg
  have h':oU cs=true:=h
  clear h
  induction cs with
  |nil=>simp at hv
  |cons a cs ih=>
   have h2:az.iff (az.bare a) (oU cs) false=true:=h'
   rw [iff_eq]at h2
   split at h2
   ·rename_i ha
    rcases List.mem_cons.1 hv with rfl|hv
    ·exact ha
    ·exact ih hv h2
   ·cases h2
 |_=>exact VA.bare h
theorem VA.xp{ι:Ren}{v:Value}(h:az.xp v=true):VA ι v v:=by
 cases v with
 |tuple cs=>
  obtain⟨cs⟩:=cs
  have h0:az.iff (dF cs) false (jX cs)=true:=h
  clear h
  rw [iff_eq]at h0
  by_cases hd:dF cs=true
  ·rw [if_pos hd]at h0;cases h0
  have hd':dF cs=false:=by simpa using hd
  rw [if_neg hd]at h0
  refine bX.tuple hd' hd' ?_
  have h':=h0
  clear h0 hd hd'
  induction cs with
  |nil=>exact .nil
  |cons a cs ih=>
   have h2:az.iff (az.oV a) (jX cs) false=true:=h'
   rw [iff_eq]at h2
   split at h2
   ·rename_i ha
    exact .cons (VA.oV ha) (ih h2)
   ·cases h2
 |agg cs=>exact VA.oV (v:= .agg cs) h
 |_=>exact VA.bare h
theorem VA.ints{ι:Ren}{k:IntKind}(r:List Int):VA ι (.agg ⟨r.map (.int k)⟩) (.agg ⟨r.map (.int k)⟩):=
 (bX.bare fun v hv=>by obtain⟨n,_,rfl⟩:=List.mem_map.1 hv;rfl).agg
section
variable {P:Program} {T:ew} {call:cD}
end
def zN(k:Nat)(c:List Value)(σ:aD):Bool:=match σ.obj k with|some (.cells c' none _ _ false)=>iE c c'|_=>false
def fV(tabs:List (Nat×List Value))(σ:aD):Bool:= @List.rec (Nat×List Value) (fun _=>Bool) true (fun p _ ih=>iff (zN p.1 p.2 σ) ih false) tabs
theorem Hw{k:Nat}{c:List Value}{σ:aD}(h:zN k c σ=true):∃aA ro,σ.obj k=some (.cells c none aA ro false):=by
 unfold zN at h
 split at h
 ·rename_i c' aA ro ho
  exact⟨aA,ro,by rw [ho,(l9 _ _ h).1]⟩
 ·cases h
theorem uU:∀{tabs:List (Nat×List Value)}{σ:aD},fV tabs σ=true→∀p∈tabs,∃aA ro,σ.obj p.1=some (.cells p.2 none aA ro false)
 | [],_,_,p,hp=>by cases hp
 |q::tabs,σ,h,p,hp=>by
  have h':az.iff (zN q.1 q.2 σ) (fV tabs σ) false=true:=h
  rw [iff_eq]at h'
  split at h'
  ·rename_i h1
   rcases List.mem_cons.1 hp with rfl|hp
   ·exact Hw h1
   ·exact uU h' p hp
  ·cases h'
def BT(k:Nat)(c:List Value):aN:= .cells c none k true false
def DT(tabs:List (Nat×List Value))(n:Nat):aD:=X2 (tabs.map (·.1)) (tabs.map fun p=>BT p.1 p.2) n
def QI(c:List Value):Bool:=c.all fun v=>(mK v).isSome
theorem DU{c:List Value}(h:QI c=true):∀v∈c,az.bare v=true:=fun v hv=>by
 have:=List.all_eq_true.1 h v hv
 cases v<;>simp [mK]at this ⊢
 rfl
theorem oq{G:bP}{F:Nat→Option (List Value)}{tabs:List (Nat×List Value)}{n:Nat}{args argsc:List Value}{σ:aD}(hb:Vg [] (tabs.map (·.1)) (tabs.map (·.1)) n=true)(hi:∀p∈tabs,QI p.2=true)(hG:∀g,G g=true→jK g (tabs.map (·.1))=true)(ht:fV tabs σ=true)
  (hva:bX (DS F (tabs.map (·.1)) (tabs.map (·.1))) argsc args) (hF:∀b cells,F b=some cells→∃e aA ro,σ.obj b=some (.cells cells e aA ro false)):Entry G (fun k=>jK k (tabs.map (·.1))) (DS F (tabs.map (·.1)) (tabs.map (·.1))) args argsc σ (DT tabs n):=by
 simp only [Vg,Bool.and_eq_true,beq_iff,J0,List.all_eq_true]at hb
 obtain⟨⟨hn1,_⟩,⟨hlt,_⟩,_⟩:=hb
 have hobj:∀k,(DT tabs n).obj k=pC (tabs.map (·.1)) (tabs.map fun p=>BT p.1 p.2) k:=fun k=>xX _ _ k
 have hat:∀k,jK k (tabs.map (·.1))=true→∃p∈tabs,p.1=k∧(DT tabs n).obj k=some (BT k p.2)∧og (tabs.map (·.1)) (tabs.map (·.1)) k=some (k,0):=fun k hk=>by
  rw [km,List.mem_map]at hk
  obtain⟨p,hp,rfl⟩:=hk
  obtain⟨i,hi2,rfl⟩:=List.getElem_of_mem hp
  have h1:(tabs.map (·.1))[i]? =some tabs[i].1:=by rw [List.getElem?_map,List.getElem?_eq_getElem hi2];rfl
  refine⟨_,hp,rfl,?_,FK hn1 h1 h1⟩
  rw [hobj]
  refine BS hn1 h1 ?_
  rw [List.getElem?_map,List.getElem?_eq_getElem hi2];rfl
 refine⟨Nat.le_refl _,fun k hk=>?_,fun k hk=>?_,fun k hk=>?_,fun k p hk=>?_,hva,fun g hg=>?_,hF⟩
 ·rw [hobj]
  cases hl:pC (tabs.map (·.1)) (tabs.map fun p=>BT p.1 p.2) k with
  |none=>rfl
  |some o=>
   obtain⟨i,h1,_⟩:=om hl
   have:=(bK _ _).1 (hlt k (List.mem_of_getElem? h1))
   have:n≤k:=hk
   omega
 ·rw [hobj]
  cases hl:pC (tabs.map (·.1)) (tabs.map fun p=>BT p.1 p.2) k with
  |none=>rfl
  |some o=>
   obtain⟨i,h1,_⟩:=om hl
   rw [(km k _).2 (List.mem_of_getElem? h1)]at hk
   cases hk
 ·obtain⟨p,hp,rfl,h1,h2⟩:=hat k hk
  obtain⟨aA,ro,h3⟩:=uU ht p hp
  refine⟨p.1,0,p.2,none,_,h2,h1,h3,rfl,rfl,rfl,rfl,by omega,?_,fun h=>by cases h⟩
  rw [List.drop_zero,List.take_length]
  exact bX.bare (DU (hi p hp))
 ·obtain⟨i,h1,_⟩:=xY hk
  exact(km k _).2 (List.mem_of_getElem? h1)
 ·obtain⟨p,_,_,_,h2⟩:=hat g (hG g hg)
  exact h2
end Go.az
namespace Go.az
def J1:Sh→Value→Prop
 | .int k,v=>∃n,v= .int k n∧(Lit.int k n).wf=true
 | .bool,v=>∃b,v= .bool b
 | .str,v=>∃s:ByteArray,v= .string s∧s.size≤maxLen
def Hx:List Sh→List Value→Prop
 | [],[]=>True
 |s::ss,v::vs=>J1 s v∧Hx ss vs
 |_,_=>False
theorem Hx.append:∀{a b:List Sh}{c d:List Value},Hx a c→Hx b d→Hx (a++b) (c++d)
 | [],_,[],_,_,h=>h
 |_::_,_,_::_,_,h,h'=>⟨h.1,Hx.append h.2 h'⟩
 | [],_,_::_,_,h,_=>h.elim
 |_::_,_,[],_,h,_=>h.elim
theorem Hx.cons_inv{s:Sh}{ss:List Sh}{l:List Value}(h:Hx (s::ss) l):∃v vs,l=v::vs∧J1 s v∧Hx ss vs:=by
 match l,h with
 |_::_,h=>exact⟨_,_,rfl,h.1,h.2⟩
theorem Hx.eI{l:List Value}(h:Hx [] l):l=[]:=by
 match l,h with
 | [],_=>rfl
section
variable {P:Program} {T:ew} {H:Type} {enc:TypeId×Value→H} {w:World} {base:Nat} {spare:Nat→Bool} {held:Bool} {D:Nat→Prop}
def xZ(p:Bool×List Sh)(v:Value):Prop:=if p.1 then∃cs,v= .agg ⟨cs⟩∧Hx p.2 cs else∃s,p.2=[s]∧J1 s v
def mR:List (Bool×List Sh)→List Value→Prop
 | [],[]=>True
 |s::ss,v::vs=>xZ s v∧mR ss vs
 |_,_=>False
theorem mR.cons_inv{s:Bool×List Sh}{ss:List (Bool×List Sh)}{l:List Value}(h:mR (s::ss) l):∃v vs,l=v::vs∧xZ s v∧mR ss vs:=by
 match l,h with
 |_::_,h=>exact⟨_,_,rfl,h.1,h.2⟩
theorem mR.eI{l:List Value}(h:mR [] l):l=[]:=by
 match l,h with
 | [],_=>rfl
theorem xZ.agg{s:List Sh}{v:Value}(h:xZ (true,s) v):∃cs,v= .agg ⟨cs⟩∧Hx s cs:=h
theorem xZ.one{s:Sh}{v:Value}(h:xZ (false,[s]) v):J1 s v:=by
 obtain⟨s',e,h⟩:=(show∃s',[s]=[s']∧J1 s' v from h)
 cases e;exact h
theorem _root_.Go.DataW.TrodAll.x5:∀{ts:List TypeId}{vs:List Value}{ds:List (DataW H)}{ps:List MemPlace},DataW.TrodAll enc P w base spare held ts vs ds ps→ts.length=ds.length
 | [],[],[],_,_=>rfl
 |_::_,_::_,_::_,_,⟨_,_,_,h,_⟩=>congrArg Nat.succ h.x5
 | [],[],_::_,_,h=>h.elim
 | [],_::_,[],_,h=>h.elim
 | [],_::_,_::_,_,h=>h.elim
 |_::_,[],[],_,h=>h.elim
 |_::_,[],_::_,_,h=>h.elim
 |_::_,_::_,[],_,h=>h.elim
end
end Go.az
namespace Go.az
structure Blk where
 own:Nat
 at_:Nat
 cells:List Value
inductive Ds where
 |int (k:IntKind)
 |bool
 |str
 |sl (ss:List Ds)
def mj(f:TypeId→Option (List Ds)):List TypeId→Option (List Ds)
 | []=>some []
 |t::ts=>andThen (f t) fun a=>andThen (mj f ts) fun b=>some (a++b)
def kQ(T:ew):Nat→TypeId→Option (List Ds)
 |0,_=>none
 |fuel+1,t=>andThen (desc T t) fun ds=>match ds with
  | .bool=>some [.bool]
  | .int k=>some [.int k]
  | .string=>some [.str]
  | .slice e=>andThen (size T e) fun z=>iff (dS z) none (andThen (kQ T fuel e) fun ss=>iff (Nat.beq ss.length z) (some [.sl ss]) none)
  | .struct fs=>andThen (size T t) fun z=>iff (oe T fs.toList 0 z) (mj (kQ T fuel) (fs.toList.map (·.type))) none
  | .array len e=>andThen (size T t) fun z=>andThen (size T e) fun ze=>iff (Nat.beq z (len*ze)) (mj (kQ T fuel) (List.replicate len e)) none
  |_=>none
def cW(rows:List (List Value)):List Value:=rows.map fun c=> .agg ⟨c⟩
mutual
def oM:Ds→Value→Prop
 | .int k,v=>∃n,v= .int k n∧(Lit.int k n).wf=true
 | .bool,v=>∃b,v= .bool b
 | .str,v=>∃s:ByteArray,v= .string s∧s.size≤maxLen
 | .sl ss,v=>∃rows:List (List Value),v=dV (cW rows)∧rows.length≤maxLen∧∀r∈rows,cA ss r
def cA:List Ds→List Value→Prop
 | [],[]=>True
 |s::ss,v::vs=>oM s v∧cA ss vs
 |_,_=>False
end
theorem cA.append:∀{a b:List Ds}{c d:List Value},cA a c→cA b d→cA (a++b) (c++d)
 | [],_,[],_,_,h=>h
 |_::_,_,_::_,_,h,h'=>by
  simp only [cA,List.cons_append]at h ⊢
  exact⟨h.1,cA.append h.2 h'⟩
 | [],_,_::_,_,h,_=>by simp only [cA]at h
 |_::_,_,[],_,h,_=>by simp only [cA]at h
theorem cA.cons_inv{s:Ds}{ss:List Ds}{l:List Value}(h:cA (s::ss) l):∃v vs,l=v::vs∧oM s v∧cA ss vs:=by
 match l,h with
 |_::_,h=>simp only [cA]at h;exact⟨_,_,rfl,h.1,h.2⟩
 | [],h=>simp only [cA]at h
theorem cA.eI{l:List Value}(h:cA [] l):l=[]:=by
 match l,h with
 | [],_=>rfl
 |_::_,h=>simp only [cA]at h
theorem cA.one{s:Ds}{v:Value}(h:oM s v):cA [s] [v]:=by simp only [cA];exact⟨h,trivial⟩
theorem cA.length:∀{ss:List Ds}{l:List Value},cA ss l→l.length=ss.length
 | [],l,h=>by rw [h.eI];rfl
 |_::_,l,h=>by
  obtain⟨v,vs,rfl,_,h2⟩:=h.cons_inv
  simp [h2.length]
theorem oM.aZ{k:IntKind}{v:Value}(h:oM (.int k) v):∃n,v= .int k n∧(Lit.int k n).wf=true:=by simpa only [oM]using h
theorem oM.dq{v:Value}(h:oM .bool v):∃b,v= .bool b:=by simpa only [oM]using h
theorem oM.zO{v:Value}(h:oM .str v):∃s:ByteArray,v= .string s∧s.size≤maxLen:=by simpa only [oM]using h
theorem oM.DV{ss:List Ds}{v:Value}(h:oM (.sl ss) v):∃rows:List (List Value),v=dV (cW rows)∧rows.length≤maxLen∧∀r∈rows,cA ss r:=by simpa only [oM]using h
theorem bQ{z:Nat}:∀{rows:List (List Value)},(∀r∈rows,r.length=z)→aW z (cW rows)=some rows.flatten
 | [],_=>rfl
 |r::rows,h=>by
  rw [List.flatten_cons]
  exact kI (h r (by simp)) (bQ fun q hq=>h q (by simp [hq]))
theorem bx(rows:List (List Value)):(cW rows).length=rows.length:=List.length_map ..
theorem VA.closed{ι:Ren}(hd:ι.dt=true){v:Value}(h:cH v=true):VA ι v v:=by
 unfold cH at h
 rw [Bool.or_eq_true,Bool.or_eq_true]at h
 rcases h with(h|h)|h
 ·exact .bare h
 ·obtain⟨l,hl⟩:=Option.isSome_iff_exists.1 h
  rw [Bk hl]
  exact .data l hd
 ·obtain⟨a,rfl,hs⟩:=xu h
  exact .slz _ _ hs hs
theorem bX.closed{ι:Ren}(hd:ι.dt=true):∀{l:List Value},(∀v∈l,cH v=true)→bX ι l l
 | [],_=> .nil
 |v::_,h=> .cons (VA.closed hd (h v (by simp))) (bX.closed hd fun u hu=>h u (by simp [hu]))
theorem oM.cH{s:Ds}{v:Value}(h:oM s v):az.cH v=true:=by
 match s,h with
 | .int k,h=>obtain⟨n,rfl,_⟩:=h.aZ;rfl
 | .bool,h=>obtain⟨b,rfl⟩:=h.dq;rfl
 | .str,h=>obtain⟨s,rfl,_⟩:=h.zO;rfl
 | .sl ss,h=>obtain⟨rows,rfl,_⟩:=h.DV;rfl
theorem cA.cH:∀{ss:List Ds}{l:List Value},cA ss l→∀v∈l,az.cH v=true
 | [],l,h=>by rw [h.eI];intro v hv;cases hv
 |s::ss,l,h=>by
  obtain⟨v,vs,rfl,h1,h2⟩:=h.cons_inv
  intro u hu
  rcases List.mem_cons.1 hu with rfl|hu
  ·exact h1.cH
  ·exact h2.cH u hu
theorem oM.bH{s:Ds}{v:Value}(h:oM s v):az.bH v=true:=by
 match s,h with
 | .int k,h=>obtain⟨n,rfl,_⟩:=h.aZ;rfl
 | .bool,h=>obtain⟨b,rfl⟩:=h.dq;rfl
 | .str,h=>obtain⟨s,rfl,_⟩:=h.zO;rfl
 | .sl ss,h=>obtain⟨rows,rfl,_⟩:=h.DV;rfl
theorem cA.bH:∀{ss:List Ds}{l:List Value},cA ss l→∀v∈l,az.bH v=true
 | [],l,h=>by rw [h.eI];intro v hv;cases hv
 |s::ss,l,h=>by
  obtain⟨v,vs,rfl,h1,h2⟩:=h.cons_inv
  intro u hu
  rcases List.mem_cons.1 hu with rfl|hu
  ·exact h1.bH
  ·exact h2.bH u hu
mutual
def gi{H:Type}:DataW H→Nat
 | .lit (.string bytes)=>bytes.length+1
 | .lit _=>1
 | .nil=>1
 | .ptr d=>gi d+1
 | .slice elems spare=>dy elems+dy spare+1
 | .agg parts=>dy parts+1
 | .iface _ d=>gi d+1
 | .map entries=>sE entries+1
 | .held _=>1
def dy{H:Type}:List (DataW H)→Nat
 | []=>0
 |d::r=>gi d+dy r
def sE{H:Type}:List (Lit×DataW H)→Nat
 | []=>0
 |x::r=>Hy x+sE r
def Hy{H:Type}:Lit×DataW H→Nat
 |(.string bytes,d)=>bytes.length+gi d+1
 |(_,d)=>gi d+1
end
mutual
def J2:Ds→Value→Nat
 | .str,v=>(match qD v with|some l=>l.length|none=>0)
 | .sl ss,v=>(match I7 v with|some rows=>(rows.map fun r=>match wO r with|some c=>1+pD ss c|none=>1).sum|none=>0)
 | .int _,_=>0
 | .bool,_=>0
def pD:List Ds→List Value→Nat
 |s::ss,v::vs=>J2 s v+pD ss vs
 | [],_=>0
 |_::_,[]=>0
end
theorem kS:∀{a b:List Ds}{c d:List Value},a.length=c.length→pD (a++b) (c++d)=pD a c+pD b d
 | [],_,[],_,_=>by simp only [List.nil_append,pD,Nat.zero_add]
 |_::_,_,_::_,_,h=>by
  simp only [List.cons_append,pD]
  rw [kS (by simpa using h),Nat.add_assoc]
 | [],_,_::_,_,h=>by simp at h
 |_::_,_,[],_,h=>by simp at h
theorem DW{ss:List Ds}{rows:List (List Value)}:J2 (.sl ss) (dV (cW rows))=(rows.map fun c=>1+pD ss c).sum:=by
 simp only [J2]
 show((cW rows).map fun r=>match wO r with|some c=>1+pD ss c|none=>1).sum=_
 unfold cW
 rw [List.map_map]
 rfl
theorem jD{H:Type}:∀l:List (DataW H),dy l=(l.map gi).sum
 | []=>by simp [dy]
 |d::l=>by simp only [dy,List.map_cons,List.sum_cons,jD l]
theorem BU{H:Type}(a b:List (DataW H)):gi (.slice a b)=dy a+dy b+1:=by simp only [gi]
theorem x6{H:Type}(a:List (DataW H)):gi (.agg a)=dy a+1:=by simp only [gi]
section
variable {P:Program} {T:ew} {H:Type} {enc:TypeId×Value→H} {w:World} {base:Nat} {held:Bool} {D:Nat→Prop}
def jE(w:World)(ss:List Ds)(cs:List Value)(b:Nat):Prop:=∃acs,cA ss acs∧acs.length=cs.length∧lO (cP w) acs cs∧pD ss acs≤b
theorem jE.nil:jE w [] [] 0:=⟨[],by simp only [cA],rfl,.nil,by simp only [pD];exact Nat.le_refl 0⟩
theorem jE.append{a b:List Ds}{c d:List Value}{m n:Nat}(h:jE w a c m)(h':jE w b d n):jE w (a++b) (c++d) (m+n):=by
 obtain⟨x,h1,h2,h3,h7⟩:=h
 obtain⟨y,h4,h5,h6,h8⟩:=h'
 refine⟨x++y,h1.append h4,by simp [h2,h5],h3.append h6,?_⟩
 rw [kS h1.length.symm]
 omega
theorem jE.one{s:Ds}{v v':Value}{b:Nat}(h:oM s v)(hv:Rd (cP w) v v')(hb:J2 s v≤b):jE w [s] [v'] b:=⟨[v],.one h,rfl,.cons hv .nil,by simp only [pD,Nat.add_zero];exact hb⟩
theorem jE.mono{s:List Ds}{c:List Value}{m n:Nat}(h:jE w s c m)(hm:m≤n):jE w s c n:=by
 obtain⟨x,h1,h2,h3,h4⟩:=h
 exact⟨x,h1,h2,h3,by omega⟩
theorem ml{sh:TypeId→Option (List Ds)}:∀(ts:List TypeId)(ss:List Ds)(css:List (List Value))(bs:List Nat),mj sh ts=some ss→css.length=ts.length→bs.length=ts.length→
  (∀(i:Nat) t c s b,ts[i]? =some t→css[i]? =some c→bs[i]? =some b→sh t=some s→jE w s c b)→jE w ss css.flatten bs.sum
 | [],ss,css,bs,h,hl,hb,_=>by
  cases (show some []=some ss from h)
  have:css=[]:=List.eq_nil_of_length_eq_zero hl
  subst this
  have:bs=[]:=List.eq_nil_of_length_eq_zero hb
  subst this
  exact .nil
 |t::ts,ss,css,bs,h,hl,hb,hp=>by
  obtain⟨a,h1,h2⟩:=aa (show andThen (sh t) (fun a=>andThen (mj sh ts) fun b=>some (a++b))=some ss from h)
  obtain⟨b,h3,h4⟩:=aa h2
  cases h4
  cases css with
  |nil=>simp at hl
  |cons c css=>
   cases bs with
   |nil=>simp at hb
   |cons n bs=>
    rw [List.flatten_cons,List.sum_cons]
    exact(hp 0 t c a n rfl rfl rfl h1).append (ml ts b css bs h3 (by simpa using hl) (by simpa using hb) fun i u x s m hu hx hm hs=>hp (i+1) u x s m (by simpa using hu) (by simpa using hx) (by simpa using hm) hs)
theorem mm{α:Type}{p:Nat→α→Prop}:∀(n:Nat),(∀i,i<n→∃x,p i x)→∃l:List α,l.length=n∧∀(i:Nat) x,l[i]? =some x→p i x
 |0,_=>⟨[],rfl,fun i x h=>by simp at h⟩
 |n+1,h=>by
  obtain⟨l,h1,h2⟩:=mm n fun i hi=>h i (by omega)
  obtain⟨x,hx⟩:=h n (by omega)
  refine⟨l++[x],by simp [h1],fun i y hy=>?_⟩
  by_cases hi:i<l.length
  ·rw [List.getElem?_append_left hi]at hy
   exact h2 i y hy
  ·rw [List.getElem?_append_right (by omega)]at hy
   have hi2:=(List.getElem?_eq_some_iff.1 hy).1
   have:i=n:=by simp at hi2;omega
   subst this
   rw [h1,Nat.sub_self]at hy
   cases hy
   exact hx
theorem lO.flatten{fr:Nat→Option (List Value)}:∀{rows rows':List (List Value)},rows.length=rows'.length→(∀(i:Nat) r r',rows[i]? =some r→rows'[i]? =some r'→lO fr r r')→lO fr rows.flatten rows'.flatten
 | [],[],_,_=> .nil
 |r::rows,r'::rows',hl,h=>by
  rw [List.flatten_cons,List.flatten_cons]
  exact(h 0 r r' rfl rfl).append (lO.flatten (by simpa using hl) fun i q q' hq hq'=>h (i+1) q q' (by simpa using hq) (by simpa using hq'))
 | [],_::_,hl,_=>by simp at hl
 |_::_,[],hl,_=>by simp at hl
theorem J3:∀{a b:List Nat},a.length=b.length→(∀(i:Nat) x y,a[i]? =some x→b[i]? =some y→x≤y)→a.sum≤b.sum
 | [],[],_,_=>Nat.le_refl _
 |x::a,y::b,hl,h=>by
  rw [List.sum_cons,List.sum_cons]
  exact Nat.add_le_add (h 0 x y rfl rfl) (J3 (by simpa using hl) fun i x y hx hy=>h (i+1) x y (by simpa using hx) (by simpa using hy))
 | [],_::_,hl,_=>by simp at hl
 |_::_,[],hl,_=>by simp at hl
theorem zP(hT:bw P T):∀(fuel:Nat)(t:TypeId)(ss:List Ds)(d:DataW H)(cs:List Value),kQ T fuel t=some ss→
  (∃fuel' ps,DataW.trod enc P w base (fun _=>true) held fuel' t cs=some (d,ps))→∃b,b+1≤gi d∧jE w ss cs b
 |0,_,_,_,_,h,_=>by cases (show none=some _ from h)
 |fuel+1,t,ss,d,cs,h,⟨fuel',ps,hr⟩=>by
  simp only [kQ]at h
  obtain⟨ds,hd,h⟩:=aa h
  have hu:=dp hT hd
  split at h
  ·cases h
   obtain⟨b,rfl,hx⟩:=DataW.trod_bool hu hr
   cases hx
   exact⟨0,by simp only [gi];omega,.one (s:= .bool) (by simp only [oM];exact⟨b,rfl⟩) (.bool b) (by simp only [J2];omega)⟩
  ·rename_i k
   cases h
   obtain⟨m,rfl,hx,hm⟩:=DataW.trod_int hu hr
   cases hx
   exact⟨0,by simp only [gi];omega,.one (s:= .int k) (by simp only [oM];exact⟨m,rfl,hm⟩) (.int _ m) (by simp only [J2];omega)⟩
  ·cases h
   obtain⟨s,rfl,hx,hs⟩:=DataW.trod_string hu hr
   cases hx
   exact⟨s.data.toList.length,by simp only [gi];omega,.one (s:= .str) (by simp only [oM];exact⟨s,rfl,hs⟩) (.string s) (by simp only [J2,qD];exact Nat.le_refl _)⟩
  ·rename_i e
   obtain⟨z,hsz,h⟩:=aa h
   obtain⟨hzz,h⟩:=er h
   obtain⟨es,he,h⟩:=aa h
   obtain⟨hel0,h⟩:=aj h
   cases h
   rw [beq_iff]at hel0
   have hzn:z≠0:=fun h0=>by rw [(Tr.bz z).2 h0]at hzz;cases hzz
   rcases DataW.trod_slice hu hr with⟨rfl,hx⟩|⟨a,len,cap,els,rest,m,_,rfl,hx,_,hlc,hcm,hlen,hel,hsp,_⟩
   ·cases hx
    exact⟨0,by simp only [gi];omega,.one (s:= .sl es) (by simp only [oM];exact⟨[],rfl,Nat.zero_le _,fun r hr=>by cases hr⟩) (.nF 0 0 rfl) (by rw [show dV []=dV (cW [])from rfl,DW];exact Nat.le_refl _)⟩
   ·cases hx
    rw [iS hT hsz]at hel
    have hw:∀i,i<len→∃cs',w.cells? base (a.add (i*z)) z=some cs'∧∃y,els[i]? =some y∧DataW.trod enc P w base (fun _=>true) held m e cs'=some y:=fun i hi=>by
     have:=hel i hi
     rw [List.getElem?_eq_getElem (by omega),Option.bind_eq_some_iff]at this
     obtain⟨cs',g1,g2⟩:=this
     exact⟨cs',g1,_,List.getElem?_eq_getElem (by omega),g2⟩
    obtain⟨css,hcl,hcs⟩:=mm len hw
    obtain⟨rows,hrl,hrs⟩:=mm (p:=fun i (r:List Value)=>∀c y,css[i]? =some c→els[i]? =some y→cA es r∧r.length=c.length∧lO (cP w) r c∧1+pD es r≤gi y.1) len fun i hi=>by
     have hi2:i<css.length:=by omega
     obtain⟨_,y,hy0,hy⟩:=hcs i css[i] (List.getElem?_eq_getElem hi2)
     obtain⟨b,hb,r,h1,h2,h3,h4⟩:=zP hT fuel e es y.1 css[i] he ⟨m,y.2,hy⟩
     exact⟨r,fun c y' hc hy'=>by
      rw [List.getElem?_eq_getElem hi2]at hc
      rw [hy0]at hy'
      cases hc;cases hy'
      exact⟨h1,h2,h3,by omega⟩⟩
    have hrow:∀r∈rows,cA es r:=fun r hr=>by
     obtain⟨i,hi,rfl⟩:=List.getElem_of_mem hr
     have hi2:i<css.length:=by omega
     exact(hrs i _ (List.getElem?_eq_getElem hi) css[i] els[i] (List.getElem?_eq_getElem hi2) (List.getElem?_eq_getElem (by omega))).1
    have hz:∀r∈rows,r.length=z:=fun r hr=>(hrow r hr).length.trans hel0
    have hD:oM (.sl es) (dV (cW rows)):=by
     simp only [oM]
     exact⟨rows,rfl,by omega,hrow⟩
    have hwt:J2 (.sl es) (dV (cW rows))≤dy (els.map (·.1)):=by
     rw [DW,jD,List.map_map]
     refine J3 (by simp;omega) fun i x y hx hy=>?_
     rw [List.getElem?_map,Option.map_eq_some_iff]at hx hy
     obtain⟨r,hr,rfl⟩:=hx
     obtain⟨q,hq,rfl⟩:=hy
     have hi:=(List.getElem?_eq_some_iff.1 hr).1
     exact(hrs i r hr css[i] q (List.getElem?_eq_getElem (by omega)) hq).2.2.2
    refine⟨dy (els.map (·.1)),by rw [BU];omega,[dV (cW rows)],.one hD,rfl,.cons ?_ .nil,by simp only [pD,Nat.add_zero];exact hwt⟩
    have hv:lO (cP w) rows.flatten css.flatten:=lO.flatten (by omega) fun i r c hr hc=>by
     have hi:=(List.getElem?_eq_some_iff.1 hr).1
     have hi2:i<els.length:=by omega
     exact(hrs i r hr c els[i] hc (List.getElem?_eq_getElem hi2)).2.2.1
    have hlen2:(cW rows).length=len:=by rw [bx];exact hrl
    rw [←hlen2]
    refine .data (bQ hz) (by omega) ?_ hv.1 hv.2
    ·rcases Nat.eq_zero_or_pos len with h0|h0
     ·exact .inl (List.eq_nil_of_length_eq_zero (hlen2.trans h0))
     ·right
      obtain⟨g1,_⟩:=hcs 0 css[0] (List.getElem?_eq_getElem (by omega))
      have ha0:a.add (0*z)=a:=by rw [Nat.zero_mul];unfold Addr.add;rw [if_pos rfl]
      rw [ha0]at g1
      obtain⟨cc,elem,fz,hs,hB,hsz0,hw0⟩:=pz (by omega) g1
      have bm:∀k,(a.add k).block=a.block:=fun k=>by unfold Addr.add;split<;>rfl
      have offs:∀k,(a.add k).off=a.off+k:=fun k=>by unfold Addr.add;split<;>simp_all
      have hwin:∀(i:Nat) c,css[i]? =some c→a.off+i*z+z≤cc.size∧(cc.toList.drop (a.off+i*z)).take z=c:=fun i c hc=>by
       obtain⟨g2,_⟩:=hcs i c hc
       obtain⟨cc',elem',fz',_,hB',hsz',hw'⟩:=pz (by omega) g2
       rw [bm,hB]at hB'
       cases hB'
       rw [offs]at hsz' hw'
       exact⟨hsz',hw'⟩
      have hflat:=kO (cc:=cc.toList) (sz:=z) css a.off fun i x hx=>(hwin i x hx).2
      have hbound:a.off+len*z≤cc.size:=by
       have:=(hwin (len-1) css[len-1] (List.getElem?_eq_getElem (by omega))).1
       have e2:len*z=(len-1)*z+z:=by rw [←Nat.succ_mul];congr 1;omega
       omega
      have hfl:css.flatten.length=len*z:=by rw [←hflat,hcl];simp;omega
      refine⟨hs,cc.toList,?_,by rw [hfl];exact hbound,by rw [hfl,←hcl];exact hflat⟩
      simp only [cP,hB]
  ·rename_i fs
   obtain⟨z,hz,h⟩:=aa h
   obtain⟨hc,h⟩:=aj h
   obtain⟨ys,m,_,hx,hl,hyl,hy⟩:=DataW.trod_struct hu hr
   cases hx
   rw [iS hT hz]at hl
   obtain⟨css,g1,g2,g3⟩:=nJ fs.toList 0 cs hc hl (Nat.zero_le _)
   rw [List.drop_zero]at g2
   rw [←g2]
   refine⟨dy (ys.map (·.1)),by rw [x6];omega,?_⟩
   rw [jD]
   refine ml _ _ css _ h (by simp [g1]) (by have h0:fs.toList.length=fs.size:=rfl;simp;omega) fun i t c s b ht hcx hb hs=>?_
   rw [List.getElem?_map,Option.map_eq_some_iff]at ht
   obtain⟨f,h5,rfl⟩:=ht
   obtain⟨zf,h7,h8⟩:=g3 i f h5
   rw [hcx]at h8
   cases h8
   have h9:=hy i f (by rw [←Array.getElem?_toList];exact h5)
   rw [iS hT h7]at h9
   have hi:i<ys.length:=by
    have:=(List.getElem?_eq_some_iff.1 h5).1
    have h0:fs.toList.length=fs.size:=rfl
    omega
   rw [List.getElem?_eq_getElem hi]at h9
   obtain⟨b',hb',hk⟩:=zP hT fuel f.type s (ys[i]).1 _ hs ⟨m,_,h9⟩
   rw [List.map_map,List.getElem?_map,List.getElem?_eq_getElem hi]at hb
   cases hb
   exact hk.mono (by show b'≤gi (ys[i]).1;omega)
  ·rename_i len e
   obtain⟨z,hz,h⟩:=aa h
   obtain⟨ze,hze,h⟩:=aa h
   obtain⟨hc,h⟩:=aj h
   rw [beq_iff]at hc
   obtain⟨ys,m,_,hx,hl,hyl,hy⟩:=DataW.trod_array hu hr
   cases hx
   rw [iS hT hz]at hl
   rw [iS hT hze]at hy
   let css:List (List Value):=(List.range len).map fun i=>(cs.drop (i*ze)).take ze
   have hcsl:css.length=len:=by simp [css]
   have hcsi:∀(i:Nat) x,css[i]? =some x→i<len∧(cs.drop (i*ze)).take ze=x:=fun i x hx=>by
    simp only [css,List.getElem?_map,Option.map_eq_some_iff]at hx
    obtain⟨j,hj,rfl⟩:=hx
    have:=(List.getElem?_eq_some_iff.1 hj).1
    rw [List.getElem?_range (by simpa using this)]at hj
    cases hj
    exact⟨by simpa using this,rfl⟩
   have hflat:=kO (cc:=cs) (sz:=ze) css 0 fun i x hx=>by rw [Nat.zero_add];exact(hcsi i x hx).2
   rw [List.drop_zero,hcsl,←hc,←hl,List.take_length]at hflat
   rw [hflat]
   refine⟨dy (ys.map (·.1)),by rw [x6];omega,?_⟩
   rw [jD]
   refine ml _ _ css _ h (by simp [hcsl]) (by simp;omega) fun i t c s b ht hcx hb hs=>?_
   obtain⟨hi,hx2⟩:=hcsi i c hcx
   rw [List.getElem?_replicate]at ht
   rw [if_pos hi]at ht
   cases ht
   have h9:=hy i hi
   rw [hx2,List.getElem?_eq_getElem (by omega)]at h9
   obtain⟨b',hb',hk⟩:=zP hT fuel e s (ys[i]).1 _ hs ⟨m,_,h9⟩
   rw [List.map_map,List.getElem?_map,List.getElem?_eq_getElem (by omega)]at hb
   cases hb
   exact hk.mono (by show b'≤gi (ys[i]).1;omega)
  ·cases h
def FL(T:ew)(fuel:Nat):List TypeId→Option (List (Bool×List Ds))
 | []=>some []
 |t::ts=>andThen (ty T t) fun i=>andThen (kQ T fuel t) fun s=>iff (or i.agg (Nat.beq s.length 1)) (andThen (FL T fuel ts) fun r=>some ((i.agg,s)::r)) none
def ou(p:Bool×List Ds)(v:Value):Prop:=if p.1 then∃cs,v= .agg ⟨cs⟩∧cA p.2 cs else∃s,p.2=[s]∧oM s v
def fi:List (Bool×List Ds)→List Value→Prop
 | [],[]=>True
 |s::ss,v::vs=>ou s v∧fi ss vs
 |_,_=>False
def UO(p:Bool×List Ds)(v:Value):Nat:=if p.1 then(match wO v with|some cs=>pD p.2 cs|none=>0)else pD p.2 [v]
def J4:List (Bool×List Ds)→List Value→Nat
 |p::ss,v::vs=>UO p v+J4 ss vs
 |_,_=>0
theorem fi.cons_inv{s:Bool×List Ds}{ss:List (Bool×List Ds)}{l:List Value}(h:fi (s::ss) l):∃v vs,l=v::vs∧ou s v∧fi ss vs:=by
 match l,h with
 |_::_,h=>exact⟨_,_,rfl,h.1,h.2⟩
theorem fi.eI{l:List Value}(h:fi [] l):l=[]:=by
 match l,h with
 | [],_=>rfl
theorem ou.agg{s:List Ds}{v:Value}(h:ou (true,s) v):∃cs,v= .agg ⟨cs⟩∧cA s cs:=h
theorem ou.one{s:Ds}{v:Value}(h:ou (false,[s]) v):oM s v:=by
 obtain⟨s',e,h⟩:=(show∃s',[s]=[s']∧oM s' v from h)
 cases e;exact h
theorem BV(hT:bw P T){fuel:Nat}:∀(ts:List TypeId)(ds:List (DataW H))(vs':List Value)(ss:List (Bool×List Ds))(ps:List MemPlace),FL T fuel ts=some ss→
  DataW.TrodAll enc P w base (fun _=>true) held ts vs' ds ps→(∀(j:Nat) t v,ts[j]? =some t→vs'[j]? =some v→Value.okWide P w .any base t v)→
  ∃vs,fi ss vs∧J4 ss vs≤dy ds∧∀π:aK,π.fr=cP w→aR π D vs vs'
 | [],[],[],ss,ps,h,_,_=>by cases (show some []=some ss from h);exact⟨[],trivial,Nat.zero_le _,fun _ _=> .nil⟩
 |t::ts,d::ds,v'::vs',ss,ps,h,ht,hok=>by
  obtain⟨i,h1,h2⟩:=aa (show andThen (ty T t) (fun i=>andThen (kQ T fuel t) fun s=>iff (or i.agg (Nat.beq s.length 1)) (andThen (FL T fuel ts) fun r=>some ((i.agg,s)::r)) none)=some ss from h)
  obtain⟨s,h3,h4⟩:=aa h2
  obtain⟨h0,h4⟩:=aj h4
  obtain⟨r,h5,h6⟩:=aa h4
  cases h6
  obtain⟨p,q,⟨fl,t1⟩,t2,_⟩:=ht
  obtain⟨bb,hbb,acs,g1,g2,g3,g7⟩:=zP hT fuel t s d _ h3 ⟨fl,p,t1⟩
  obtain⟨vs,g4,g8,g5⟩:=BV hT ts ds vs' r q h5 t2 fun j t v hj hv=>hok (j+1) t v (by simpa using hj) (by simpa using hv)
  have hone:∀u∈acs,bH u=true:=g1.bH
  have hv:∃v,valueOf T t acs=some v∧ou (i.agg,s) v∧UO (i.agg,s) v=pD s acs:=by
   unfold valueOf
   rw [h1,af]
   cases ha:i.agg with
   |true=>exact⟨_,rfl,⟨acs,rfl,g1⟩,rfl⟩
   |false=>
    rw [ha,Bool.false_or,beq_iff]at h0
    match s,h0 with
    | [s0],_=>
     obtain⟨v,rest,rfl,k1,k2⟩:=g1.cons_inv
     obtain rfl:=k2.eI
     exact⟨v,rfl,⟨s0,rfl,k1⟩,rfl⟩
  obtain⟨v,k1,k2,k3⟩:=hv
  exact⟨v::vs,⟨k2,g4⟩,by show UO (i.agg,s) v+J4 r vs≤dy (d::ds);rw [k3];simp only [dy];omega,fun π hπ=> .cons (DQ hT k1 (hok 0 t v' rfl rfl) (lO.Xx (by rw [hπ];exact g3)) hone hone) (g5 π hπ)⟩
 | [],[],_::_,_,_,_,ht,_=>ht.elim
 | [],_::_,[],_,_,_,ht,_=>ht.elim
 | [],_::_,_::_,_,_,_,ht,_=>ht.elim
 |_::_,[],[],_,_,_,ht,_=>ht.elim
 |_::_,[],_::_,_,_,_,ht,_=>ht.elim
 |_::_,_::_,[],_,_,_,ht,_=>ht.elim
end
end Go.az
namespace Go.az
theorem VA.cJ{ι:Ren}{rows:List Value}{v:Value}(h:VA ι (dV rows) v):
  (v=dV rows∧ι.dt=true)∨(rows=[]∧∃c,v= .slice none 0 c)∨
  (∃cs cs' cells z b off n c s,v= .slice (some ⟨b,off,s⟩) n c∧ι.fz b=some cells∧jr z rows cs∧rows.length=n∧eC cells off cs'∧bX ι cs cs'):=by
 generalize hd:dV rows=d at h
 cases h with
 |tuple h1 _ _ _=>unfold dV at hd;cases hd;cases h1
 |data rows2 h1=>unfold dV at hd;cases hd;exact .inl ⟨rfl,h1⟩
 |dataP _ _=>unfold dV fv at hd;cases hd
 |JS c _=>unfold dV at hd;cases hd;exact .inr (.inl ⟨rfl,c,rfl⟩)
 | @fz rows2 cs cs' cells z b off n c s _ hF hr hn hw _ hl hcs=>
  unfold dV at hd;cases hd
  exact .inr (.inr ⟨cs,cs',cells,z,b,off,n,c,s,rfl,hF,hr,hn,hw,hl,hcs⟩)
 |X0 _ _ _ _ _ _=>unfold dV fv at hd;cases hd
 |_=>unfold dV at hd;cases hd
structure lG(α:Type) where
 val:α→Value
 closed:∀(ι:Ren) a,ι.dt=true→VA ι (val a) (val a)
 uniq:∀(ι:Ren) a b v,VA ι (val a) v→VA ι (val b) v→a=b
structure gd(α:Type) where
 n:Nat
 cells:α→List Value
 len:∀a,(cells a).length=n
 closed:∀a,∀v∈cells a,cH v=true
 uniq:∀(ι:Ren) a b l,bX ι (cells a) l→bX ι (cells b) l→a=b
structure ov(α:Type) where
 fy:α→List Value
 closed:∀(ι:Ren) a,ι.dt=true→bX ι (fy a) (fy a)
 uniq:∀(ι:Ren) a b l,bX ι (fy a) l→bX ι (fy b) l→a=b
def lG.int(k:IntKind):lG Int:=⟨.int k,fun _ n _=> .int k n,fun ι a b v h1 h2=>by cases h1;cases h2;rfl⟩
def lG.bool:lG Bool:=⟨.bool,fun _ b _=> .bool b,fun ι a b v h1 h2=>by cases h1;cases h2;rfl⟩
def lG.str:lG ByteArray:=⟨.string,fun _ s _=> .string s,fun ι a b v h1 h2=>by cases h1;cases h2;rfl⟩
def lG.text:lG (List UInt8):=⟨fun l=> .string ⟨⟨l⟩⟩,fun _ s _=> .string _,fun ι a b v h1 h2=>by cases h1;cases h2;rfl⟩
theorem bX.pE{ι:Ren}{a b l:List Value}(h:bX ι (a++b) l):bX ι a (l.take a.length)∧bX ι b (l.drop a.length):=by
 have hl:=h.1
 rw [List.length_append]at hl
 refine⟨⟨by simp;omega,fun i v v' h1 h2=>?_⟩,⟨by simp;omega,fun i v v' h1 h2=>?_⟩⟩
 ·have hi:=(List.getElem?_eq_some_iff.1 h1).1
  rw [List.getElem?_take,if_pos hi]at h2
  exact h.2 i v v' (by rw [List.getElem?_append_left hi];exact h1) h2
 ·rw [List.getElem?_drop]at h2
  exact h.2 (a.length+i) v v' (by rw [List.getElem?_append_right (by omega),Nat.add_sub_cancel_left];exact h1) h2
namespace gd
variable {α β:Type}
theorem kn(E:gd α){ι:Ren}:∀{l m:List α}{cs:List Value},l.length=m.length→bX ι (l.map E.cells).flatten cs→bX ι (m.map E.cells).flatten cs→l=m
 | [],[],_,_,_,_=>rfl
 |a::l,b::m,cs,hl,h1,h2=>by
  rw [List.map_cons,List.flatten_cons]at h1 h2
  obtain⟨g1,g2⟩:=h1.pE
  obtain⟨g3,g4⟩:=h2.pE
  rw [E.len]at g1 g2 g3 g4
  rw [E.uniq ι a b _ g1 g3,kn E (by simpa using hl) g2 g4]
 | [],_::_,_,hl,_,_=>by simp at hl
 |_::_,[],_,hl,_,_=>by simp at hl
theorem mS(E:gd α){l:List α}:∀r∈l.map E.cells,r.length=E.n:=fun r hr=>by
 obtain⟨a,_,rfl⟩:=List.mem_map.1 hr
 exact E.len a
theorem rb(E:gd α){l:List α}{z:Nat}{cs:List Value}(h:jr z (cW (l.map E.cells)) cs):cs=(l.map E.cells).flatten:=
 l5 h (bQ E.mS)
theorem iU(E:gd α)(l:List α):(l.map E.cells).flatten.length=l.length*E.n:=by
 have:=ey (bQ (E.mS (l:=l)))
 rw [bx,List.length_map]at this
 exact this
def XA(V:lG α)(h:∀a,cH (V.val a)=true):gd α:=
 ⟨1,fun a=>[V.val a],fun _=>rfl,fun a v hv=>by simp at hv;rw [hv];exact h a,fun ι a b l h1 h2=>by
  obtain⟨v,hv,g1⟩:=h1.get (i:=0) rfl
  obtain⟨v',hv',g2⟩:=h2.get (i:=0) rfl
  rw [hv]at hv';cases hv'
  exact V.uniq ι a b v g1 g2⟩
def int(k:IntKind):gd Int:=XA (.int k) fun _=>rfl
def bool:gd Bool:=XA .bool fun _=>rfl
def text:gd (List UInt8):=XA .text fun _=>rfl
def pair(E:gd α)(F:gd β):gd (α×β):=
 ⟨E.n+F.n,fun p=>E.cells p.1++F.cells p.2,fun p=>by rw [List.length_append,E.len,F.len],fun p v hv=>by
  rcases List.mem_append.1 hv with h|h
  ·exact E.closed _ v h
  ·exact F.closed _ v h,fun ι p q l h1 h2=>by
  obtain⟨g1,g2⟩:=h1.pE
  obtain⟨g3,g4⟩:=h2.pE
  rw [E.len]at g1 g2 g3 g4
  exact Prod.ext (E.uniq ι _ _ _ g1 g3) (F.uniq ι _ _ _ g2 g4)⟩
def vec(E:gd α)(k:Nat):gd {l:List α // l.length=k}:=
 ⟨k*E.n,fun l=>(l.1.map E.cells).flatten,fun l=>by rw [E.iU,l.2],fun l v hv=>by
  obtain⟨r,hr,hv⟩:=List.mem_flatten.1 hv
  obtain⟨a,_,rfl⟩:=List.mem_map.1 hr
  exact E.closed a v hv,fun ι a b l h1 h2=>Subtype.ext (E.kn (a.2.trans b.2.symm) h1 h2)⟩
end gd
namespace lG
variable {α β:Type}
def list(E:gd α):lG (List α):=
 ⟨fun l=>dV (cW (l.map E.cells)),fun ι l hd=> .data _ hd,fun ι l m v h1 h2=>by
  have hlen:∀{k:List α},(cW (k.map E.cells)).length=k.length:=fun{k}=>by rw [bx,List.length_map]
  have hself:∀(k:List α),ι.dt=true→bX ι (k.map E.cells).flatten (k.map E.cells).flatten:=fun k hd=>bX.closed hd fun v hv=>by
   obtain⟨r,hr,hv⟩:=List.mem_flatten.1 hv
   obtain⟨a,_,rfl⟩:=List.mem_map.1 hr
   exact E.closed a v hv
  rcases h1.cJ with⟨rfl,hd⟩|⟨a1,c,rfl⟩|⟨cs,cs',cells,z,b,off,n,c,s,rfl,a1,a2,a3,a4,a5⟩
  ·rcases h2.cJ with⟨he,_⟩|⟨_,c,he⟩|⟨_,_,_,_,_,_,_,_,_,he,_⟩
   ·unfold dV at he
    have he:cW (l.map E.cells)=cW (m.map E.cells):=by injection he with he;injection he with he;injection he with he _;injection he with he;injection he
    have h3:l.length=m.length:=by rw [←hlen (k:=l),he,hlen]
    have h4:(l.map E.cells).flatten=(m.map E.cells).flatten:=by
     have g1:=bQ (E.mS (l:=l))
     have g2:=bQ (E.mS (l:=m))
     rw [he]at g1
     exact Option.some.inj (g1.symm.trans g2)
    exact E.kn h3 (hself l hd) (by rw [h4];exact hself m hd)
   ·unfold dV at he;cases he
   ·unfold dV at he;cases he
  ·have hl0:l=[]:=List.eq_nil_of_length_eq_zero (by rw [←hlen (k:=l),a1];rfl)
   rcases h2.cJ with⟨he,_⟩|⟨b1,_⟩|⟨_,_,_,_,_,_,_,_,_,he,_⟩
   ·unfold dV at he;cases he
   ·rw [hl0,List.eq_nil_of_length_eq_zero (l:=m) (by rw [←hlen (k:=m),b1];rfl)]
   ·cases he
  ·rcases h2.cJ with⟨he,_⟩|⟨_,_,he⟩|⟨ds,ds',cells2,z2,b2,off2,n2,c2,s2,he,b1,b2',b3,b4,b5⟩
   ·unfold dV at he;cases he
   ·cases he
   ·cases he
    rw [a1]at b1
    cases b1
    rw [E.rb a2]at a5
    rw [E.rb b2']at b5
    rw [hlen]at a3 b3
    have e1:cs'.length=ds'.length:=by rw [←a5.1,←b5.1,E.iU,E.iU,a3,b3]
    have e2:cs'=ds':=by rw [←a4.2,←b4.2,e1]
    subst e2
    exact E.kn (by omega) a5 b5⟩
def agg(E:gd α):lG α:=⟨fun a=> .agg ⟨E.cells a⟩,fun ι a hd=>(bX.closed hd (E.closed a)).agg,fun ι a b v h1 h2=>by
 cases h1 with
 |agg hc1 hcs1=>
  cases h2 with
  |agg hc2 hcs2=>exact E.uniq ι a b _ ⟨hc1,hcs1⟩ ⟨hc2,hcs2⟩⟩
end lG
def gd.list{α:Type}(E:gd α):gd (List α):=gd.XA (lG.list E) fun _=>rfl
namespace ov
variable {α β:Type}
def nil:ov Unit:=⟨fun _=>[],fun _ _ _=> .nil,fun _ _ _ _ _ _=>rfl⟩
def cons(V:lG α)(F:ov β):ov (α×β):=
 ⟨fun p=>V.val p.1::F.fy p.2,fun ι p hd=> .cons (V.closed ι p.1 hd) (F.closed ι p.2 hd),fun ι p q l h1 h2=>by
  match l,h1,h2 with
  |v::l,h1,h2=>
   have t:∀{x:Value}{xs:List Value},bX ι (x::xs) (v::l)→VA ι x v∧bX ι xs l:=fun h=>⟨h.2 0 _ _ rfl rfl,⟨by have:=h.1;simpa using this,fun i u u' g1 g2=>h.2 (i+1) u u' (by simpa using g1) (by simpa using g2)⟩⟩
   exact Prod.ext (V.uniq ι _ _ v (t h1).1 (t h2).1) (F.uniq ι _ _ l (t h1).2 (t h2).2)
  | [],h1,_=>exact absurd h1.1 (by simp)⟩
def one(V:lG α):ov α:=⟨fun a=>[V.val a],fun ι a hd=> .cons (V.closed ι a hd) .nil,fun ι a b l h1 h2=>by
 obtain⟨v,hv,g1⟩:=h1.get (i:=0) rfl
 obtain⟨v',hv',g2⟩:=h2.get (i:=0) rfl
 rw [hv]at hv';cases hv'
 exact V.uniq ι a b v g1 g2⟩
end ov
def BW(tabs:List (Nat×List Value))(σ:aD):Ren:=DS (fun b=>σ.row b) (tabs.map (·.1)) (tabs.map (·.1))
def QJ:Ren:=⟨fun _=>none,fun _=>none,false,false⟩
def uV{α:Type}(E:ov α)(tabs:List (Nat×List Value))(ok:α→Prop)(res:α→Value):lA:=fun args σ=>
 @dite _ (fV tabs σ=true∧∃a,ok a∧bX (BW tabs σ) (E.fy a) args) (Classical.propDecidable _) (fun h=>some (res (Classical.choose h.2),σ)) (fun _=>none)
theorem BX{α:Type}{E:ov α}{tabs:List (Nat×List Value)}{ok:α→Prop}{res:α→Value}{args:List Value}{σ:aD}{a:α}(ht:fV tabs σ=true)(ha:ok a)(hv:bX (BW tabs σ) (E.fy a) args):uV E tabs ok res args σ=some (res a,σ):=by
 have h:fV tabs σ=true∧∃a,ok a∧bX (BW tabs σ) (E.fy a) args:=⟨ht,a,ha,hv⟩
 unfold uV
 rw [dif_pos h]
 have:=Classical.choose_spec h.2
 rw [E.uniq _ _ _ _ this.2 hv]
theorem re{α:Type}{E:ov α}{tabs:List (Nat×List Value)}{ok:α→Prop}{res:α→Value}{args:List Value}{σ σ':aD}{v:Value}(h:uV E tabs ok res args σ=some (v,σ')):
  σ'=σ∧fV tabs σ=true∧∃a,ok a∧bX (BW tabs σ) (E.fy a) args∧v=res a:=by
 unfold uV at h
 split at h
 ·rename_i hh
  cases h
  have:=Classical.choose_spec hh.2
  exact⟨rfl,hh.1,_,this.1,this.2,rfl⟩
 ·cases h
def sG{α:Type}(E:ov α)(tabs:List (Nat×List Value))(ok:α→Prop)(res:α→Value):lA:=fun args σ=>
 @dite _ (fV tabs σ=true∧∃a,ok a∧bX (JZ (tabs.map (·.1)) (tabs.map (·.1))) (E.fy a) args) (Classical.propDecidable _) (fun h=>some (res (Classical.choose h.2),σ)) (fun _=>none)
theorem uW{α:Type}{E:ov α}{tabs:List (Nat×List Value)}{ok:α→Prop}{res:α→Value}{args:List Value}{σ:aD}{a:α}(ht:fV tabs σ=true)(ha:ok a)(hv:bX (JZ (tabs.map (·.1)) (tabs.map (·.1))) (E.fy a) args):sG E tabs ok res args σ=some (res a,σ):=by
 have h:fV tabs σ=true∧∃a,ok a∧bX (JZ (tabs.map (·.1)) (tabs.map (·.1))) (E.fy a) args:=⟨ht,a,ha,hv⟩
 unfold sG
 rw [dif_pos h]
 have:=Classical.choose_spec h.2
 rw [E.uniq _ _ _ _ this.2 hv]
theorem rf{α:Type}{E:ov α}{tabs:List (Nat×List Value)}{ok:α→Prop}{res:α→Value}{args:List Value}{σ σ':aD}{v:Value}(h:sG E tabs ok res args σ=some (v,σ')):
  σ'=σ∧fV tabs σ=true∧∃a,ok a∧bX (JZ (tabs.map (·.1)) (tabs.map (·.1))) (E.fy a) args∧v=res a:=by
 unfold sG at h
 split at h
 ·rename_i hh
  cases h
  have:=Classical.choose_spec hh.2
  exact⟨rfl,hh.1,_,this.1,this.2,rfl⟩
 ·cases h
def seen(σ:aD):Ren:=⟨fun _=>none,fun b=>ownRow σ b,true,true⟩
theorem DX(σ:aD):Match (fun _=>false) fg (seen σ) .leaf σ .leaf ⟨.leaf,0,0,0⟩:=
 ⟨Nat.le_refl _,fun _ _=>rfl,fun _ _ _ _ _ h=>(by cases h),fun _ _ h=>(by cases h),fun _ _ h=>(by cases h),fun _ _ h=>(by cases h),fun _ h=>(by cases h),fun _ h=>(by cases h),fun b cells hF=>by
  obtain⟨o,h1,h2⟩:=aa (show andThen (σ.obj b) (fun o=>au (rowsOf o) fun c _ _=>some c)=some cells from hF)
  obtain⟨c,e,aA,h3,h4⟩:=aq h2
  cases h4
  rw [mM h3]at h1
  exact⟨⟨e,aA,h1⟩,fun k sh h=>by cases h⟩⟩
theorem zQ{P:Program}{T:ew}{G:bP}{S:Nat→Bool}{ι:Ren}{args argsc:List Value}{σ σc:aD}{f:FuncId}{fn:Func}{c:Code}(hfn:iT P G f fn)(hb:fn.body=some c)(hT:bw P T){v:Value}(hent:Entry G S ι args argsc σ σc)
  (hfz:∀b,ι.fz b=none) (hv:VA pB v v) (hrun:∀N,fn.ntmps≤N→eD P G S N c (eG argsc 0 .leaf) σc (JW T fn fun v1 σ1=>VA (seen σ1) v v1)):
  Enters P f∧(σ.low≤σ.next→∀π δ D H w args',eW G π D→aR π D args args'→cC σ σ π δ D H w→Calls P f ⟨args'⟩ w (nu σ σ π δ D H w v)):=by
 obtain⟨g1,g2,g3⟩:=hfn
 refine⟨⟨fn,g1,g2,by rw [hb];rfl⟩,fun _ π δ D H w args' hg ha hp=>?_⟩
 obtain⟨hP,hrep⟩:=hent.rep hp
 have hac:aR (partOf ι π σc w) No argsc args':=hent.args.comp hP ha
 refine calls_of_wp g1 hb ?_
 have hsz:(⟨args'⟩:Array Value).size=args'.length:=rfl
 rw [hsz]
 have hgl:eW G (partOf ι π σc w) No:=fun g hgg=>by
  obtain⟨h1,h2⟩:=hP.loc g g 0 (hent.pA g hgg)
  rcases(hg g hgg).2 with⟨i,h3,h4,h5⟩|⟨_,h3⟩
  ·obtain⟨ic,a1,a2,a3,_⟩:=h2 i h3
   exact⟨rfl,.inl ⟨ic,a1,h4.trans a2.symm,by rw [a3];exact h5⟩⟩
  ·exact absurd h3 h1
 refine hrun (args'.length+(fn.ntmps-args'.length)) (by omega) (partOf ι π σc w) w (partOf ι π σc w) No w _ _ hrep (jJ.start hac fn.ntmps) hgl fun x e' σ1 π1 D1 w1 a1 hx hr1 he1 hg1=>?_
 have hend:∀vs,bq T σ1 e' fn.results.toList=some vs→VA (seen σ1) v (ar vs)→bodyPost P fn (nu σ σ π δ D H w v) .ret a1 w1:=fun vs h1 h2=>by
  obtain⟨v',hv1,hv2⟩:=mi hT (hr1.pre (Nat.le_refl _)) he1 h1
  have hr0:BN (fun _=>false) (partOf ι π σc w) w σ1 π1 D1 w1:= {hr1 with UN:=fun k hk=>(by cases hk)}
  obtain⟨hP2,hr2⟩:=xU (DX σ1) hr0
  have hl:uT (fun _=>false) ι pB id σ σ ⟨.leaf,0,0,0⟩ v v:=zM hfz hv
  obtain⟨π',h3,h4⟩:=hl.post hp hr2 (h2.comp hP2 hv2)
  exact⟨he1.defers,v',hv1,v',π',D,rfl,h3,h4⟩
 cases x with
 |normal=>obtain⟨vs,h1,h2⟩:=hx;exact hend vs h1 h2
 |exit id=>exact hx.elim
 |ret=>obtain⟨vs,h1,h2⟩:=hx;exact hend vs h1 h2
end Go.az
namespace Go.az
inductive Ty where
 |bool
 |int (k:IntKind)
 |str
 |unit
 |pair (a b:Ty)
 |arr (n:Nat) (t:Ty)
 |slice (t:Ty)
deriving DecidableEq
def El:Ty→Type
 | .bool=>Bool
 | .int _=>Int
 | .str=>List UInt8
 | .unit=>Unit
 | .pair a b=>El a×El b
 | .arr n t=> {l:List (El t) // l.length=n}
 | .slice t=>List (El t)
def Oa(t:Ty)(a b:List (El t)):List (El t):=a++b
def gd.unit:gd Unit:=⟨0,fun _=>[],fun _=>rfl,fun _ v hv=>(by cases hv),fun _ _ _ _ _ _=>rfl⟩
def kU:(t:Ty)→gd (El t)
 | .bool=>gd.bool
 | .int k=>gd.int k
 | .str=>gd.text
 | .unit=>gd.unit
 | .pair a b=>(kU a).pair (kU b)
 | .arr n t=>(kU t).vec n
 | .slice t=>(kU t).list
def al:Ty→Nat
 | .bool=>1
 | .int _=>1
 | .str=>1
 | .unit=>0
 | .pair a b=>Nat.add (al a) (al b)
 | .arr n t=>Nat.mul n (al t)
 | .slice _=>1
def dz:Ty→Bool
 | .unit=>true
 | .pair _ _=>true
 | .arr _ _=>true
 |_=>false
def ah(t:Ty)(x:El t):List Value:=(kU t).cells x
def pF:(t:Ty)→El t→Value
 | .bool=>fun x=> .bool x
 | .int k=>fun x=> .int k x
 | .str=>fun x=> .string ⟨⟨x⟩⟩
 | .slice t=>fun x=>dV (cW (x.map (ah t)))
 |_=>fun _=> .nilFunc
def aT(t:Ty)(x:El t):Value:=if dz t then .agg ⟨ah t x⟩else pF t x
theorem aH(t:Ty)(x:El t):(ah t x).length=al t:=by
 have:∀t:Ty,(kU t).n=al t:=by
  intro t
  induction t with
  |pair a b ha hb=>show(kU a).n+(kU b).n=_;rw [ha,hb];rfl
  |arr n t h=>show n*(kU t).n=_;rw [h];rfl
  |_=>rfl
 unfold ah
 rw [(kU t).len,this]
theorem bI{t:Ty}(h:dz t=false)(x:El t):ah t x=[pF t x]:=by
 cases t<;>first|rfl|cases h
theorem mn(a b:Ty)(x:El (.pair a b)):ah (.pair a b) x=ah a x.1++ah b x.2:=rfl
theorem ca(t:Ty)(x:El t):∀v∈ah t x,cH v=true:=(kU t).closed x
theorem Hz(t:Ty)(x:El t):flat (aT t x)=some (ah t x):=by
 unfold aT
 cases h:dz t with
 |true=>rw [if_pos rfl];rfl
 |false=>rw [if_neg (by decide),bI h];cases t<;>first|rfl|cases h
inductive Sym where
 |v (x:Value)
 |d (t:Ty) (x:El t)
 |p (t:Ty) (x:El t)
 |rp (b base z j off:Nat)
 |sl (b z lo len cap:Nat) (s:Option Nat)
 |os (b z len:Nat)
 |mo (b z len:Nat) (nl nn:Bool)
 |fn (f:Fn) (a c:Sym)
 |rw (t:Ty) (xs:List (El t))
 |nil
 |cons (a r:Sym)
 |agg (l:Sym)
 |I1 (l:Sym)
structure X3 where
 val:Value
 cells:List Value
 fy:List Value
def Nj(b z len:Nat)(nl nn:Bool):Value:=iff nl (iff nn (.slice none 0 0) (.slice (some ⟨b,0,none⟩) 0 0)) (.slice (some ⟨b,0,some z⟩) len len)
def Sym.g:Sym→X3
 | .v x=>⟨x,[x],[]⟩
 | .d t x=>⟨aT t x,ah t x,[]⟩
 | .p t x=>⟨fv (ah t x),[fv (ah t x)],[]⟩
 | .rp b base z j off=>⟨.pointer (some ⟨b,Nat.add (Nat.add base (Nat.mul j z)) off,none⟩),[.pointer (some ⟨b,Nat.add (Nat.add base (Nat.mul j z)) off,none⟩)],[]⟩
 | .sl b z lo len cap s=>⟨.slice (some ⟨b,Nat.mul lo z,s⟩) len cap,[.slice (some ⟨b,Nat.mul lo z,s⟩) len cap],[]⟩
 | .os b z len=>⟨.slice (some ⟨b,0,some z⟩) len len,[.slice (some ⟨b,0,some z⟩) len len],[]⟩
 | .mo b z len nl nn=>⟨Nj b z len nl nn,[Nj b z len nl nn],[]⟩
 | .fn f a c=>⟨.func f ⟨a.g.fy⟩ ⟨c.g.fy⟩,[.func f ⟨a.g.fy⟩ ⟨c.g.fy⟩],[]⟩
 | .rw t xs=>⟨I4,(xs.map (ah t)).flatten,[]⟩
 | .nil=>⟨I4,[],[]⟩
 | .cons a r=>⟨I4,a.g.cells++r.g.cells,a.g.val::r.g.fy⟩
 | .agg l=>⟨.agg ⟨l.g.cells⟩,l.g.cells,[]⟩
 | .I1 l=>⟨.tuple ⟨l.g.fy⟩,[.tuple ⟨l.g.fy⟩],[]⟩
def Sym.val(s:Sym):Value:=s.g.val
def Sym.cells(s:Sym):List Value:=s.g.cells
def Sym.fy(s:Sym):List Value:=s.g.fy
def Vj:Value→Bool
 | .agg _=>false
 | .tuple _=>false
 |_=>true
def Sym.size:Sym→Nat
 | .v _=>1
 | .d t _=>al t
 | .p _ _=>1
 | .rp .. =>1
 | .sl .. =>1
 | .os .. =>1
 | .mo .. =>1
 | .fn .. =>1
 | .rw t xs=>Nat.mul xs.length (al t)
 | .nil=>0
 | .cons a r=>Nat.add a.size r.size
 | .agg l=>l.size
 | .I1 _=>1
theorem uX(t:Ty)(xs:List (El t)):(xs.map (ah t)).flatten.length=xs.length*al t:=by
 induction xs with
 |nil=>rw [List.length_nil,Nat.zero_mul];rfl
 |cons x xs ih=>rw [List.map_cons,List.flatten_cons,List.length_append,aH,ih,List.length_cons,Nat.succ_mul,Nat.add_comm]
theorem Sym.size_eq:∀s:Sym,s.cells.length=s.size
 | .v _=>rfl
 | .d t x=>aH t x
 | .p _ _=>rfl
 | .rp .. =>rfl
 | .sl .. =>rfl
 | .os .. =>rfl
 | .mo .. =>rfl
 | .fn .. =>rfl
 | .rw t xs=>uX t xs
 | .nil=>rfl
 | .cons a r=>by
  show(a.cells++r.cells).length=Nat.add a.size r.size
  rw [List.length_append,Sym.size_eq a,Sym.size_eq r];rfl
 | .agg l=>Sym.size_eq l
 | .I1 _=>rfl
def Sym.isAgg:Sym→Bool
 | .d t _=>dz t
 | .agg _=>true
 |_=>false
def Sym.ok:Sym→Bool
 | .v x=>Vj x
 | .nil=>false
 | .cons _ _=>false
 | .I1 _=>false
 | .rw _ _=>false
 |_=>true
def Sym.Ob:Sym→Bool
 | .rw _ _=>true
 |_=>false
theorem HI{x:Value}(h:Vj x=true):flat x=some [x]:=by
 cases x<;>first|rfl|cases h
theorem Sym.zR{s:Sym}(h:s.ok=true):flat s.val=some s.cells:=by
 cases s with
 |v x=>exact HI h
 |d t x=>exact Hz t x
 |p t x=>rfl
 |rp=>rfl
 |sl=>rfl
 |os=>rfl
 |mo b z len nl nn=>show flat (Nj b z len nl nn)=some [Nj b z len nl nn];cases nl<;>cases nn<;>rfl
 |fn=>rfl
 |agg l=>rfl
 |_=>cases h
theorem Sym.gH{s:Sym}(h:s.isAgg=true):s.val= .agg ⟨s.cells⟩:=by
 cases s with
 |d t x=>show aT t x=_;unfold aT;rw [if_pos (show dz t=true from h)];rfl
 |agg l=>rfl
 |_=>cases h
theorem Sym.mT{s:Sym}(ho:s.ok=true)(h:s.isAgg=false):s.cells=[s.val]:=by
 cases s with
 |d t x=>show ah t x=[aT t x];unfold aT;rw [if_neg (by rw [show dz t=false from h];decide)];exact bI h x
 |agg l=>cases h
 |nil=>cases ho
 |cons _ _=>cases ho
 |I1 _=>cases ho
 |rw _ _=>cases ho
 |_=>rfl
def nK:(t:Ty)→El t→Sym
 | .bool=>fun x=> .v (.bool x)
 | .int k=>fun x=> .v (.int k x)
 | .str=>fun x=> .v (.string ⟨⟨x⟩⟩)
 | .unit=>fun x=> .d .unit x
 | .pair a b=>fun x=> .d (.pair a b) x
 | .arr n t=>fun x=> .d (.arr n t) x
 | .slice t=>fun x=> .d (.slice t) x
theorem QK(t:Ty)(x:El t):(nK t x).g=(Sym.d t x).g:=by
 cases t<;>rfl
theorem pG(t:Ty)(x:El t):(nK t x).val=aT t x:=by unfold Sym.val;rw [QK];rfl
theorem eR(t:Ty)(x:El t):(nK t x).cells=ah t x:=by unfold Sym.cells;rw [QK];rfl
theorem DY(t:Ty)(x:El t):(nK t x).ok=true:=by cases t<;>rfl
theorem zS(t:Ty)(x:El t):(nK t x).isAgg=dz t:=by cases t<;>rfl
def uY:Value→Sym
 | .agg cs=> .agg (cs.toList.foldr (fun c r=> .cons (.v c) r) .nil)
 |x=> .v x
theorem sH(l:List Value):(l.foldr (fun c r=>Sym.cons (.v c) r) .nil).cells=l:=by
 induction l with
 |nil=>rfl
 |cons a l ih=>show [a]++(l.foldr (fun c r=>Sym.cons (.v c) r) .nil).cells=_;rw [ih];rfl
theorem mU(x:Value):(uY x).val=x:=by
 cases x with
 |agg cs=>show Value.agg ⟨(cs.toList.foldr (fun c r=>Sym.cons (.v c) r) .nil).cells⟩=_;rw [sH]
 |_=>rfl
end Go.az
end
