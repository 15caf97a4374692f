/- What the card of ReportBack leans on, part 4: written with few blanks and short names by a program out of longer texts. Conditions: those of each lemma. -/
import Derived.Test.YtdmpneafeadbbaaGreatDoorPac
import Derived.Calls
import Derived.Orders
import Derived.Scope
import GoSem.ClaimJoined
import Derived.Lib.LaidTab
import Derived.OpenShut
set_option maxRecDepth 100000
set_option linter.unusedVariables false
set_option linter.unusedSimpArgs false
noncomputable section
namespace Go.az
abbrev bP:=Nat→Bool
def eW(G:bP)(π:aK)(D:Nat→Prop):Prop:=∀g,G g=true→AR π D ⟨g,0,none⟩ ⟨g,0,none⟩
theorem eW.mono{G:bP}{π π':aK}{D D':Nat→Prop}(hs:eV π D π' D')(h:eW G π D):eW G π' D':=fun g hg=>(h g hg).mono hs
def Enters(P:Program)(f:FuncId):Prop:=∃fn,P.funcs[f]? =some fn∧(fn.name== "runtime.NumGoroutine")=false∧fn.body.isNone=false
def nu(σ σ':aD)(π:aK)(δ D:Nat→Prop)(H:Nat→Option aN)(w:World)(v:Value):Ending→World→Prop:=
 fun e w'=>∃v' π' D',e= .returned v'∧VR π' D' v v'∧Post σ σ' π δ D H w π' D' w'
def pw(P:Program)(G:bP)(call:cD):Prop:=∀f args σ v σ',call f args σ=some (v,σ')→Enters P f∧
 (σ.low≤σ.next→∀π δ D H w args',eW G π D→aR π D args args'→cC σ σ' π δ D H w→Calls P f ⟨args'⟩ w (nu σ σ' π δ D H w v))
section
variable {P:Program} {G:bP} {T:ew} {call:cD} {σ σ':aD} {π:aK} {δ D:Nat→Prop} {H:Nat→Option aN} {w:World}
def mb(P:Program)(σ σ':aD)(π:aK)(δ D:Nat→Prop)(H:Nat→Option aN)(w:World)(v:Value)(s:Sem Go.Next):Prop:=
 BE P σ σ' π δ D H w v s∨∃f args',s.run P w= .ok (.enter f args') w∧Calls P f args' w (nu σ σ' π δ D H w v)
def fT(P:Program)(G:bP)(call:cD):Prop:=∀f args σ v σ',call f args σ=some (v,σ')→σ.low≤σ.next→∀π δ D H w args',eW G π D→aR π D args args'→cC σ σ' π δ D H w→mb P σ σ' π δ D H w v (callFunc f ⟨args'⟩)
theorem mb.wp{o:Oper}{a:Act}{v:Value}{K:Act→World→Prop}{Q:Exit→Act→World→Prop}(h:mb P σ σ' π δ D H w v (execOp a.eval o))
  (hk:∀v' π' D' w',VR π' D' v v'→Post σ σ' π δ D H w π' D' w'→K (a.put o.dst v') w'):o.wp P a w K Q:=by
 unfold Oper.wp
 rcases h with⟨nx,v',π',D',w',h1,h2,h3,h4⟩|⟨f,args',h1,h2⟩
 ·rw [h1]
  rcases h2 with rfl|⟨rfl,rfl⟩
  ·exact hk v' π' D' w' h3 h4
  ·exact hk undef π' D' w' h3 h4
 ·rw [h1]
  exact Calls.mono h2 fun e w' he=>by
   obtain⟨v',π',D',rfl,h3,h4⟩:=he
   exact hk v' π' D' w' h3 h4
theorem zu{f:FuncId}(h:Enters P f)(args:Array Value)(w:World):(callFunc f args).run P w= .ok (.enter f args) w:=by
 obtain⟨fn,h1,h2,h3⟩:=h
 simp only [callFunc,Sem.run_bind,run_program,Result.andThen_ok,h1,h2,h3,Bool.false_eq_true,if_false,Sem.run_pure]
theorem pw.Zq(h:pw P G call):fT P G call:=fun f args σ v σ' hs hl π δ D H w args' hg ha hp=>by
 obtain⟨h1,h2⟩:=h f args σ v σ' hs
 exact .inr ⟨f,⟨args'⟩,zu h1 ⟨args'⟩ w,h2 hl π δ D H w args' hg ha hp⟩
theorem xH(hc:fT P G call)(hg:eW G π D)(hlow:σ.low≤σ.next){f:FuncId}{args:List Value}{args':Array Value}{v:Value}(h:call f args σ=some (v,σ'))(ha:aR π D args args'.toList)(hp:cC σ σ' π δ D H w):
  mb P σ σ' π δ D H w v (callFunc f args'):=by
 exact hc f args σ v σ' h hlow π δ D H w args'.toList hg ha hp
theorem DK(hT:bw P T){t:TypeId}{v v' r:Value}{f:FuncId}{name:String}(h:Fp T t v name=some (f,r))(w:World):r=v∧(method (P.types.size+Made.depth) t v' name).run P w= .ok (f,v') w:=by
 obtain⟨i,hi,e1⟩:=aa h
 obtain⟨m,hm,e2⟩:=aa e1
 obtain⟨g,byPtr,h1,e3⟩:=ae e2
 obtain⟨h2,e4⟩:=aj e3
 simp only [Option.some.injEq,Prod.mk.injEq]at e4
 obtain⟨rfl,rfl⟩:=e4
 refine⟨rfl,?_⟩
 rw [Bool.and_eq_true]at h2
 obtain⟨h3,h4⟩:=h2
 have hm':i.info.methods.find? (fun x=>x.name==name)=some m:=by rw [←Array.find?_toList];exact hm
 have hpath:m.path= #[]:=by simpa using h3
 have hd:=(hT t i hi).desc
 have hsz:∃n,P.types.size+Made.depth=n+1:=⟨P.types.size+99,rfl⟩
 obtain⟨n,hn⟩:=hsz
 rw [hn]
 simp only [method,Sem.run_bind,fh hT hi,Result.andThen_ok,hm',hpath,follow,Sem.run_pure,h1]
 simp only [receiverAt,Sem.run_bind,run_underlying hd,Result.andThen_ok]
 cases byPtr
 ·have:A3 i.desc=false:=by
   revert h4;cases A3 i.desc<;>simp
  cases hdd:i.desc<;>rw [hdd]at this<;>first|(cases this;done)|(simp only [Place.get,Sem.run_pure,Result.andThen_ok])
 ·have:A3 i.desc=true:=by
   revert h4;cases A3 i.desc<;>simp
  cases hdd:i.desc<;>rw [hdd]at this<;>first|(cases this;done)|(simp only [Place.get,Sem.run_pure,Result.andThen_ok])
theorem sq(hT:bw P T)(hc:fT P G call)(hg:eW G π D)(hlow:σ.low≤σ.next){recv recv' v:Value}{name:String}{args:List Value}{args':Array Value}(h:Fq T call σ recv name args=some (v,σ'))(hr:VR π D recv recv')(ha:aR π D args args'.toList)(hp:cC σ σ' π δ D H w):
  mb P σ σ' π δ D H w v (callMethod recv' name args'):=by
 obtain⟨o,h1,e1⟩:=aa h
 obtain⟨t,u,h2,e2⟩:=ae e1
 obtain⟨f,r,h3,e3⟩:=ae e2
 subst h2
 rcases ka h1 with⟨_,h4⟩|⟨t',u',rfl,h4⟩
 ·cases h4
 ·cases h4
  obtain⟨x',rfl,hx⟩:=hr.gu
  obtain⟨rfl,hm⟩:=DK (v':=x') hT h3 w
  have hg:=xH (args':= #[x']++args') hc hg hlow e3 (by simpa using aR.cons hx ha) hp
  have heq:(callMethod (.iface t x') name args').run P w=(callFunc f (#[x']++args')).run P w:=by
   simp only [callMethod,Sem.run_bind,run_program,Result.andThen_ok,hm]
  rcases hg with⟨nx,v',π',D',w',g1,g2⟩|⟨g,args2,g1,g2⟩
  ·exact .inl ⟨nx,v',π',D',w',heq.trans g1,g2⟩
  ·exact .inr ⟨g,args2,heq.trans g1,g2⟩
theorem mb.zw{s s':Sem Go.Next}{v:Value}(heq:s.run P w=s'.run P w)(h:mb P σ σ' π δ D H w v s'):mb P σ σ' π δ D H w v s:=by
 rcases h with⟨nx,v',π',D',w',g1,g2⟩|⟨g,args2,g1,g2⟩
 ·exact .inl ⟨nx,v',π',D',w',heq.trans g1,g2⟩
 ·exact .inr ⟨g,args2,heq.trans g1,g2⟩
theorem tq{α:Type}{l:List α}{a b:α}(h:tV l=some (a,b)):∃r,l=a::b::r:=by
 match l,h with
 |_::_::r,h=>simp [tV]at h;obtain⟨rfl,rfl⟩:=h;exact⟨r,rfl⟩
theorem fU{α:Type}{l:List α}{a:α}{r:List α}(h:jV l=some (a,r)):l=a::r:=by
 match l,h with
 |_::_,h=>simp [jV]at h;obtain⟨rfl,rfl⟩:=h;rfl
theorem BF(hT:bw P T){b:Builtin}{bT:Array TypeId}{ty:TypeId}{cs:Array Bool}{args:List Value}{args':Array Value}{v:Value}(h:jW b T bT.toList args σ=some (v,σ'))(ha:aR π D args args'.toList)(hp:cC σ σ' π δ D H w):
  BE P σ σ' π δ D H w v (builtin b bT ty cs args'):=by
 have ty0:∀{t r},bT.toList=t::r→bT[0]? =some t:=fun h=>by rw [←Array.getElem?_toList,h];rfl
 have ty1:∀{t u r},bT.toList=t::u::r→bT[1]? =some u:=fun h=>by rw [←Array.getElem?_toList,h];rfl
 have a0:∀{x:Value}{r:List Value},args=x::r→∃x',args'[0]? =some x'∧VR π D x x':=fun h=>by
  obtain⟨x',h1,h2⟩:=ha.get (i:=0) (show args[0]? =some _ by rw [h];rfl)
  exact⟨x',by rw [←Array.getElem?_toList];exact h1,h2⟩
 have a1:∀{x y:Value}{r:List Value},args=x::y::r→∃y',args'[1]? =some y'∧VR π D y y':=fun h=>by
  obtain⟨x',h1,h2⟩:=ha.get (i:=1) (show args[1]? =some _ by rw [h];rfl)
  exact⟨x',by rw [←Array.getElem?_toList];exact h1,h2⟩
 cases b<;>simp only [jW,reduceCtorEq]at h<;>simp only [builtin]
 case append=>
  obtain⟨sT,xT,h1,e1⟩:=ae h
  obtain⟨s,x,h2,e2⟩:=ae e1
  obtain⟨r1,h3⟩:=tq h1
  obtain⟨r2,h4⟩:=tq h2
  obtain⟨s',h5,h6⟩:=a0 h4
  obtain⟨x',h7,h8⟩:=a1 h4
  exact(DE hT e2 h6 h8 (ty0 h3) (ty1 h3) h5 h7 hp).leads
 case cap=>
  obtain⟨t,r,h1,e1⟩:=ae h
  obtain⟨x,r2,h2,e2⟩:=ae e1
  obtain⟨h3,rfl⟩:=dH e2
  obtain⟨x',h5,h6⟩:=a0 (fU h2)
  obtain⟨h7,h8⟩:=N1 (ty:=ty) hT h3 h6 (ty0 (fU h1)) h5 w
  exact gU.leads ⟨v,π,D,w,h7,h8,.refl hp⟩
 case copy=>
  obtain⟨t,r,h1,e1⟩:=ae h
  obtain⟨d,s,h2,e2⟩:=ae e1
  obtain⟨r2,h4⟩:=tq h2
  obtain⟨d',h5,h6⟩:=a0 h4
  obtain⟨s',h7,h8⟩:=a1 h4
  exact(JC hT e2 h6 h8 (ty0 (fU h1)) h5 h7 hp).leads
 case clear=>
  obtain⟨t,r,h1,e1⟩:=ae h
  obtain⟨x,r2,h2,e2⟩:=ae e1
  obtain⟨x',h5,h6⟩:=a0 (fU h2)
  exact(Hd hT e2 h6 (ty0 (fU h1)) h5 hp).leads
 case delete=>
  obtain⟨t,r,h1,e1⟩:=ae h
  obtain⟨m,k,h2,e2⟩:=ae e1
  obtain⟨σ1,h3,e3⟩:=aa e2
  cases e3
  obtain⟨r2,h4⟩:=tq h2
  obtain⟨m',h5,h6⟩:=a0 h4
  obtain⟨k',h7,h8⟩:=a1 h4
  exact(DB hT h3 h6 h8 (ty0 (fU h1)) h5 h7 hp).leads
 case len=>
  obtain⟨t,r,h1,e1⟩:=ae h
  obtain⟨x,r2,h2,e2⟩:=ae e1
  obtain⟨h3,rfl⟩:=dH e2
  obtain⟨x',h5,h6⟩:=a0 (fU h2)
  obtain⟨h7,h8⟩:=N0 (ty:=ty) hT h3 h6 (ty0 (fU h1)) h5 hp
  exact gU.leads ⟨v,π,D,w,h7,h8,.refl hp⟩
 case max=>
  obtain⟨x,r,h1,e1⟩:=ae h
  obtain⟨h3,rfl⟩:=dH e1
  rw [fU h1]at ha
  obtain⟨x',r',hargs,hx,hr⟩:=ha.split
  obtain⟨u',h4,h5⟩:=uE (P:=P) false r r' x x' v h3 hx hr w
  refine gU.leads ⟨u',π,D,w,?_,h5,.refl hp⟩
  unfold Builtin.max_
  rw [hargs]
  exact h4
 case min=>
  obtain⟨x,r,h1,e1⟩:=ae h
  obtain⟨h3,rfl⟩:=dH e1
  rw [fU h1]at ha
  obtain⟨x',r',hargs,hx,hr⟩:=ha.split
  obtain⟨u',h4,h5⟩:=uE (P:=P) true r r' x x' v h3 hx hr w
  refine gU.leads ⟨u',π,D,w,?_,h5,.refl hp⟩
  unfold Builtin.min_
  rw [hargs]
  exact h4
theorem BG(hT:bw P T)(hc:fT P G call)(hg:eW G π D)(hlow:σ.low≤σ.next){o:Oper}{ρ ρ':Operand→Value}{v:Value}(h:gX T call o.op ρ σ=some (v,σ'))(hρ:∀x∈o.op.operands,VR π D (ρ x) (ρ' x))(hp:cC σ σ' π δ D H w):
  mb P σ σ' π δ D H w v (execOp ρ' o):=by
 unfold gX at h
 cases hop:tZ o.op with
 |none=>rw [hop]at h;exact .inl (RB hT h hρ hp)
 |some c=>
  rw [hop]at h
  have h':tY c.callee T call ρ σ c.argTypes.toList (nq ρ c.args.toList)=some (v,σ'):=h
  have hop':o.op= .call c:=by
   revert hop;cases o.op<;>simp [tZ]
  rw [hop']at hρ
  have hargs:aR π D (nq ρ c.args.toList) (c.args.map ρ').toList:=by
   rw [hO,Array.toList_map]
   exact aR.mapped _ fun x hx=>hρ x (by
    simp only [Op.operands,Call.operands]
    cases c.callee<;>simp<;>first|exact hx|(exact .inr (by simpa using hx))|(simp at hx;simp [hx]))
  have hex:execOp ρ' o=(do let d←resolve ρ' c o.type;invoke d.target d.args):=by
   unfold execOp;rw [hop']
  rw [hex]
  cases hcc:c.callee<;>rw [hcc]at h'<;>simp only [tY]at h'
  case builtin b=>
   refine mb.zw ?_ (.inl (BF (ty:=o.type) (cs:=c.args.map fun| .const _=>true|_=>false) hT h' hargs hp))
   simp only [Sem.run_bind,resolve,hcc,Sem.run_pure,Result.andThen_ok,invoke]
   rfl
  case invoke recv name=>
   have hr:VR π D (ρ recv) (ρ' recv):=hρ recv (by simp [Op.operands,Call.operands,hcc])
   refine mb.zw ?_ (sq hT hc hg hlow h' hr hargs hp)
   simp only [Sem.run_bind,resolve,hcc,Sem.run_pure,Result.andThen_ok,invoke]
   have h0:(#[ρ' recv]++c.args.map ρ')[0]? =some (ρ' recv):=by
    rw [←Array.getElem?_toList,Array.toList_append];rfl
   have h1:(#[ρ' recv]++c.args.map ρ').extract 1 (#[ρ' recv]++c.args.map ρ').size=c.args.map ρ':=by
    apply Array.ext'
    simp only [Array.toList_extract,Array.toList_append,List.extract_eq_take_drop,Array.size_append,List.cons_append,List.nil_append,List.drop_succ_cons,List.drop_zero]
    rw [List.take_of_length_le (by simp)]
   rw [h0]
   simp only [h1]
  case value f=>
   obtain⟨fn,first,captured,hf,e1⟩:=aq h'
   have hfv:VR π D (ρ f) (ρ' f):=hρ f (by simp [Op.operands,Call.operands,hcc])
   have hfe:ρ f= .func fn ⟨first⟩ ⟨captured⟩:=by
    revert hf
    cases ρ f<;>simp [Zp]
    rintro rfl rfl rfl;exact⟨rfl,rfl,rfl⟩
   rw [hfe]at hfv
   obtain⟨f',c',hfe',hvf,hvc⟩:=hfv.uq
   cases fn<;>simp only [Dr,reduceCtorEq]at e1
   case func g=>
    have hall:aR π D (gL (gL first (nq ρ c.args.toList)) captured) (f'++c.args.map ρ'++c').toList:=by
     rw [eH,eH,Array.toList_append,Array.toList_append]
     exact(hvf.append hargs).append hvc
    refine mb.zw ?_ (xH hc hg hlow e1 hall hp)
    simp only [Sem.run_bind,resolve,hcc,Sem.run_pure,Result.andThen_ok,hfe',Deferred.ofValue,invoke]
   case method name=>
    obtain⟨r,rest,h2,e2⟩:=ae e1
    have h3:=fU h2
    have hall:aR π D (gL first (nq ρ c.args.toList)) (f'++c.args.map ρ').toList:=by
     rw [eH,Array.toList_append]
     exact hvf.append hargs
    rw [h3]at hall
    obtain⟨r',rest',h4,hr,hrest⟩:=hall.split
    have hx:(f'++c.args.map ρ')=⟨r'::rest'⟩:=by apply Array.ext';exact h4
    refine mb.zw ?_ (sq (args':=⟨rest'⟩) hT hc hg hlow e2 hr hrest hp)
    simp only [Sem.run_bind,resolve,hcc,Sem.run_pure,Result.andThen_ok,hfe',Deferred.ofValue,invoke,hx]
    have h0:(⟨r'::rest'⟩:Array Value)[0]? =some r':=by simp
    have h1:(⟨r'::rest'⟩:Array Value).extract 1 (⟨r'::rest'⟩:Array Value).size=⟨rest'⟩:=by
     apply Array.ext';simp
    rw [h0]
    simp only [h1]
end
end Go.az
namespace Go.az
def me:Value→Bool
 | .bool _| .int _ _| .float _ _| .complex _ _ _| .string _| .nilFunc| .nilIface| .pointer none| .map none=>true
 | .slice none n c=>Nat.ble n c
 | .func _ a b=>and a.isEmpty b.isEmpty
 |_=>false
def zx:Value→Bool
 | .agg cs=>cs.toList.all me
 | .tuple vs=>vs.toList.all me
 | .iface _ v=>me v
 |v=>me v
theorem mP{v:Value}(h:me v=true):Const v∧v.oneCell'=true:=by
 cases v<;>simp only [me,reduceCtorEq]at h
 case bool b=>exact⟨fun _ _=> .bool b,rfl⟩
 case int k n=>exact⟨fun _ _=> .int k n,rfl⟩
 case float k n=>exact⟨fun _ _=> .float k n,rfl⟩
 case complex k x y=>exact⟨fun _ _=> .complex k x y,rfl⟩
 case string s=>exact⟨fun _ _=> .string s,rfl⟩
 case nilFunc=>exact⟨fun _ _=> .nilFunc,rfl⟩
 case nilIface=>exact⟨fun _ _=> .nilIface,rfl⟩
 case pointer a=>cases a<;>simp only [reduceCtorEq]at h;exact⟨fun _ _=> .ptr0,rfl⟩
 case map a=>cases a<;>simp only [reduceCtorEq]at h;exact⟨fun _ _=> .map0,rfl⟩
 case slice a n c=>
  cases a<;>simp only [reduceCtorEq]at h
  exact⟨fun _ _=> .sl0 n c ((bk _ _).1 h),rfl⟩
 case func fn a b=>
  obtain⟨a⟩:=a
  obtain⟨b⟩:=b
  rw [Bool.and_eq_true]at h
  obtain⟨h1,h2⟩:=h
  have ha:a=[]:=by simpa using h1
  have hb:b=[]:=by simpa using h2
  subst ha;subst hb
  exact⟨fun _ _=> .func fn rfl (fun i v v' h=>by simp at h) rfl (fun i v v' h=>by simp at h),rfl⟩
theorem n7{π:aK}{D:Nat→Prop}:∀(l:List Value),l.all me=true→aR π D l l
 | [],_=> .nil
 |v::l,h=>by
  simp only [List.all_cons,Bool.and_eq_true]at h
  exact .cons ((mP h.1).1 π D) (n7 l h.2)
theorem DL:∀{l:List Value},l.all me=true→dF l=false
 | [],_=>rfl
 | [v],h=>by
  simp only [List.all_cons,Bool.and_eq_true]at h
  show I5 v=false
  cases v<;>first|rfl|(cases h.1;done)
 |_::_::_,_=>rfl
theorem xI{v:Value}(h:zx v=true):Const v:=by
 intro π D
 cases v
 case agg cs=>
  obtain⟨cs⟩:=cs
  exact(n7 cs h).agg fun u hu=>Fy (mP (List.all_eq_true.1 h u hu)).2
 case tuple cs=>
  obtain⟨cs⟩:=cs
  exact aR.tuple (DL h) (n7 cs h)
 case iface t u=>exact .iface t ((mP h).1 π D)
 all_goals (simp only [zx]at h;exact(mP h).1 π D)
def qU(G:bP):Operand→Bool
 | .tmp _=>true
 | .const v=>zx v
 | .global g=>G g
 | .func _=>true
structure n8(ds:List Deferred)(N:Nat)(π:aK)(D:Nat→Prop)(e:Env)(a:Act):Prop where
 size:a.tmps.size=N
 tmp:∀t,VR π D (fM (e.get t)) (a.tmps.getD t undef)
 defers:a.defers=ds
abbrev jJ:=n8 []
theorem n8.mono{ds:List Deferred}{N:Nat}{π π':aK}{D D':Nat→Prop}{e:Env}{a:Act}(hs:eV π D π' D')(h:n8 ds N π D e a):n8 ds N π' D' e a:=⟨h.size,fun t=>(h.tmp t).mono hs,h.defers⟩
theorem n8.eval{ds:List Deferred}{N:Nat}{G:bP}{π:aK}{D:Nat→Prop}{e:Env}{a:Act}(h:n8 ds N π D e a)(hg:eW G π D){x:Operand}(hx:qU G x=true):VR π D (env e x) (a.eval x):=by
 cases x with
 |tmp t=>exact h.tmp t
 |const v=>exact xI hx π D
 |global g=>exact .ptr rfl (hg g hx)
 |func f=>exact .func _ rfl (fun i v v' h=>by simp at h) rfl (fun i v v' h=>by simp at h)
theorem n8.put{ds:List Deferred}{N:Nat}{π:aK}{D:Nat→Prop}{e:Env}{a:Act}(h:n8 ds N π D e a){v v':Value}(hv:VR π D v v'){dst:Option Tmp}(hd:∀d,dst=some d→d<N):n8 ds N π D (put e v dst) (a.put dst v'):=by
 cases dst with
 |none=>exact h
 |some d=>
  have hdn:=hd d rfl
  refine⟨by show(a.tmps.setIfInBounds d v').size=N;rw [Array.size_setIfInBounds];exact h.size,fun t=>?_,h.defers⟩
  show VR π D (fM ((e.set d v).get t)) ((a.tmps.setIfInBounds d v').getD t undef)
  rw [Tr.dm,Array.getD_eq_getD_getElem?]
  by_cases ht:t=d
  ·subst ht
   rw [if_pos rfl,Array.getElem?_setIfInBounds_self_of_lt (by rw [h.size];exact hdn)]
   exact hv
  ·rw [if_neg ht,Array.getElem?_setIfInBounds_ne (Ne.symm ht),←Array.getD_eq_getD_getElem?]
   exact h.tmp t
theorem BH(π:aK)(D:Nat→Prop):VR π D undef undef:=aR.tuple rfl .nil
theorem DM{π:aK}{D:Nat→Prop}{v v':Value}{want b:Bool}(h:VR π D v v')(hg:guardOf want v=some b):(sd v'==some want)=b:=by
 cases h
 case any=>cases (show none=some b from hg)
 case data=>cases (show none=some b from hg)
 case dataP=>cases (show none=some b from hg)
 all_goals simp only [guardOf,reduceCtorEq]at hg
 case bool b'=>cases hg;rfl
 case tuple c c' h1 hc hcs=>
  cases c with
  |nil=>cases hg;rfl
  |cons a c=>cases hg
theorem Hm{ds:List Deferred}{N:Nat}{π:aK}{D:Nat→Prop}{e:Env}{a:Act}(h:n8 ds N π D e a){ops:Array Oper}{j:Nat}{o:Oper}(ho:ops[j]? =some o)(hd:∀d,o.dst=some d→d<N){want b:Bool}(hb:lT e want o=some b):
  (yielded ops a.tmps j==some want)=b:=by
 unfold lT at hb
 unfold yielded
 rw [ho]
 simp only [Option.bind_some]
 cases hdst:o.dst with
 |none=>rw [hdst]at hb;cases hb;rfl
 |some d=>
  rw [hdst]at hb
  have hdn:=hd d hdst
  have ht:=h.tmp d
  have hget:a.tmps[d]? =some (a.tmps.getD d undef):=by
   rw [Array.getD_eq_getD_getElem?]
   rw [Array.getElem?_eq_getElem (by rw [h.size];exact hdn)];rfl
  simp only [Option.bind_some,hget]
  obtain⟨v,h1,h2⟩:=aa (show andThen (e.get d) (guardOf want)=some b from hb)
  rw [h1]at ht
  have h3:=DM (show VR π D v _ from ht) h2
  rw [←h3]
  generalize a.tmps.getD d undef=x
  cases x<;>rfl
structure uH(G:bP)(N:Nat)(o:Oper):Prop where
 QC:∀x∈o.op.operands,qU G x=true
 dst:∀d,o.dst=some d→d<N
def qV(G:bP)(N:Nat)(o:Oper):Bool:=and (o.op.operands.toList.all (qU G)) (match o.dst with|some d=>Nat.blt d N|none=>true)
theorem Hn{G:bP}{N:Nat}{o:Oper}(h:qV G N o=true):uH G N o:=by
 unfold qV at h
 rw [Bool.and_eq_true]at h
 refine⟨fun x hx=>List.all_eq_true.1 h.1 x (by simpa using hx),fun d hd=>?_⟩
 rw [hd]at h
 exact(bK _ _).1 h.2
theorem xJ{ds:List Deferred}{N:Nat}{G:bP}{π:aK}{D:Nat→Prop}{e:Env}{a:Act}(h:n8 ds N π D e a){ops:Array Oper}(hops:∀o∈ops.toList,uH G N o)(g:Option (Nat×Bool))(hg:∀j b,g=some (j,b)→j<ops.size)(o:Oper)(hog:o.guard=g){r:Bool}(hw:wanted ops.toList e g=some r):
  Region.wanted o (yielded ops a.tmps)=r:=by
 unfold Region.wanted
 rw [hog]
 cases g with
 |none=>cases hw;rfl
 |some p=>
  obtain⟨j,b⟩:=p
  have hj:=hg j b rfl
  simp only [wanted]at hw ⊢
  rw [bW]at hw
  have hget:ops.toList[j]? =some ops[j]:=by simp [hj]
  have hget':ops[j]? =some ops[j]:=by simp [hj]
  rw [hget]at hw
  exact Hm h hget' (hops _ (by simp)).dst hw
section
variable {P:Program} {T:ew} {call:cD}
theorem uJ(hm:iR call){bar:Bool}{op:Op}{ρ:Operand→Value}{σ σ':aD}{v:Value}(h:drawn T call bar op ρ σ=some (v,σ')):cm σ σ':=by
 obtain⟨u,σ1,h1,h2⟩:=ae h
 obtain⟨_,h3⟩:=aj h2
 simp only [Option.some.injEq,Prod.mk.injEq]at h3
 obtain⟨rfl,rfl⟩:=h3
 have h4:=mO hm h1
 rw [eO]
 exact⟨h4.next,Nat.min_le_left _ _,h4.bp,h4.wf,fun k hk=> .trans (Nat.min_le_right _ _) (Nat.le_refl _) (h4.step k hk) (.refl _ _ _ _)⟩
theorem BI(hm:iR call){bar draw:Bool}{op:Op}{ρ:Operand→Value}{σ σ':aD}{v:Value}(h:ua T call bar draw op ρ σ=some (v,σ')):cm σ σ':=by
 unfold ua at h
 cases draw with
 |true=>exact uJ hm h
 |false=>exact mO hm h
theorem jy(ops:List Oper)(bar:Nat→Bool)(draw:Bool)(o:Oper)(l:List Oper)(i:Nat)(e:Env)(σ:aD):gT T call ops bar draw (o::l) i e σ=
  andThen (wanted ops e o.guard) fun g=>iff g (ak (ua T call (bar i) draw o.op (env e) σ) fun v σ'=>gT T call ops bar draw l (i+1) (put e v o.dst) σ') (gT T call ops bar draw l (i+1) (put e undef o.dst) σ):=rfl
theorem jz(hm:iR call){ops:List Oper}{bar:Nat→Bool}{draw:Bool}:∀(l:List Oper)(i:Nat)(e:Env)(σ:aD)(e':Env)(σ':aD),gT T call ops bar draw l i e σ=some (e',σ')→cm σ σ'
 | [],i,e,σ,e',σ',h=>by cases (show some (e,σ)=some (e',σ')from h);exact .refl σ
 |o::l,i,e,σ,e',σ',h=>by
  rw [jy]at h
  obtain⟨g,_,h⟩:=aa h
  rw [iff_eq]at h
  split at h
  ·obtain⟨v,σ1,h1,h2⟩:=ae h
   exact(BI hm h1).trans (jz hm l _ _ _ _ _ h2)
  ·exact jz hm l _ _ _ _ _ h
theorem n9{G:bP}{N:Nat}(hT:bw P T)(hc:fT P G call)(hm:iR call){ops:Array Oper}(hops:∀o∈ops.toList,uH G N o)(hgd:∀o∈ops.toList,∀j b,o.guard=some (j,b)→j<ops.size)
  {Q:Exit→Act→World→Prop} {bar:Nat→Bool} {H:Nat→Option aN}:∀(l:List Oper)(i:Nat)(e:Env)(σ:aD)(e':Env)(σ':aD)(π:aK)(δ D:Nat→Prop)(w:World)(a:Act),
  ops.toList.drop i=l→i+l.length=ops.size→gT T call ops.toList bar false l i e σ=some (e',σ')→σ.low≤σ.next→cC σ σ' π δ D H w→jJ N π D e a→eW G π D→
  (∀π' D' w' a',jJ N π' D' e' a'→Post σ σ' π δ D H w π' D' w'→Q .normal a' w')→wpOps P ops Q (List.range' i l.length) a w
 | [],i,e,σ,e',σ',π,δ,D,w,a,hl,hi,h,hlow,hp,he,hg,hq=>by
  cases (show some (e,σ)=some (e',σ')from h)
  exact hq π D w a he (.refl hp)
 |o::l,i,e,σ,e',σ',π,δ,D,w,a,hl,hi,h,hlow,hp,he,hg,hq=>by
  have hmem:o∈ops.toList:=by
   have:o∈ops.toList.drop i:=by rw [hl];simp
   exact List.mem_of_mem_drop this
  have hoi:ops[i]? =some o:=by
   rw [←Array.getElem?_toList]
   have:(ops.toList.drop i)[0]? =some o:=by rw [hl];rfl
   rw [List.getElem?_drop,Nat.add_zero]at this
   exact this
  have hl2:ops.toList.drop (i+1)=l:=by
   rw [←List.drop_drop,hl];rfl
  have hoo:=hops o hmem
  rw [List.length_cons,List.range'_succ,wpOps_cons]
  unfold wpOp
  rw [hoi]
  simp only
  rw [jy]at h
  obtain⟨g,hg0,h⟩:=aa h
  rw [iff_eq,←xJ he hops o.guard (hgd o hmem) o rfl hg0]at h
  simp only [List.length_cons]at hi
  split
  ·rename_i hw
   rw [if_pos hw]at h
   obtain⟨v,σ1,h1,h2⟩:=ae h
   have h1':gX T call o.op (env e) σ=some (v,σ1):=h1
   have m1:=mO hm h1'
   have m2:=jz hm _ _ _ _ _ _ h2
   refine .inl (mb.wp (BG hT hc hg hlow h1' (fun x hx=>he.eval hg (hoo.QC x hx)) (hp.first m1 m2)) fun v' π1 D1 w1 hv hpost=>?_)
   have hs:=hpost.lv (hp.first m1 m2)
   refine n9 hT hc hm hops hgd l (i+1) _ _ _ _ π1 (grow σ σ1 δ) D1 w1 _ hl2 (by omega) h2 (Nat.le_trans m1.low (Nat.le_trans hlow m1.next)) (hp.second hpost m2) ((he.mono hs).put hv hoo.dst) (hg.mono hs) fun π2 D2 w2 a2 he2 hp2=>?_
   exact hq π2 D2 w2 a2 he2 (Post.trans hp hpost hp2)
  ·rename_i hw
   rw [if_neg hw]at h
   exact n9 hT hc hm hops hgd l (i+1) _ _ _ _ π δ D w _ hl2 (by omega) h hlow hp (he.put (BH π D) hoo.dst) hg hq
end
end Go.az
namespace Go.az
inductive Reach(ops:List Oper):Nat→Nat→Prop
 |RC {i:Nat} {o:Oper} {e:Edge} (ho:ops[i]? =some o) (he:e∈o.after.toList) (hb:cE e=true):Reach ops i e.on
 |chain {i j:Nat} {o:Oper} {e:Edge} (ho:ops[i]? =some o) (he:e∈o.after.toList) (hb:cE e=true) (h:Reach ops e.on j):Reach ops i j
theorem uK{ops:List Oper}{i:Nat}{o:Oper}(ho:ops[i]? =some o){acc:Tr Nat}(hacc:∀i j,(lU (acc.get i)).testBit j=true→Reach ops i j):∀(es:List Edge),(∀e∈es,e∈o.after.toList)→∀j,(uc acc es).testBit j=true→Reach ops i j
 | [],_,j,h=>by
  rw [show uc acc []=0 from rfl,Nat.zero_testBit]at h;cases h
 |e::es,hs,j,h=>by
  have h':(iff (cE e) (Nat.lor (Nat.lor (uc acc es) (Nat.pow 2 e.on)) (lU (acc.get e.on))) (uc acc es)).testBit j=true:=h
  rw [iff_eq]at h'
  have ih:=uK ho hacc es (fun e he=>hs e (by simp [he])) j
  split at h'
  ·rename_i hb
   have h2:((uc acc es|||2^e.on)|||lU (acc.get e.on)).testBit j=true:=h'
   rw [Nat.testBit_or,Nat.testBit_or,Bool.or_eq_true,Bool.or_eq_true]at h2
   rcases h2 with(h2|h2)|h2
   ·exact ih h2
   ·rw [Nat.testBit_two_pow]at h2
    have:e.on=j:=by simpa using h2
    subst this
    exact .RC ho (hs e (by simp)) hb
   ·exact .chain ho (hs e (by simp)) hb (hacc _ _ h2)
  ·exact ih h'
theorem uL{ops:List Oper}:∀(l:List Oper)(i:Nat)(acc:Tr Nat),ops.drop i=l→(∀i j,(lU (acc.get i)).testBit j=true→Reach ops i j)→∀k j,(lU ((Ba l i acc).get k)).testBit j=true→Reach ops k j
 | [],i,acc,_,hacc,k,j,h=>hacc k j h
 |o::l,i,acc,hl,hacc,k,j,h=>by
  have hoi:ops[i]? =some o:=by
   have:(ops.drop i)[0]? =some o:=by rw [hl];rfl
   rw [List.getElem?_drop,Nat.add_zero]at this
   exact this
  have hl2:ops.drop (i+1)=l:=by rw [←List.drop_drop,hl];rfl
  refine uL l (i+1) (acc.set i (uc acc o.after.toList)) hl2 (fun a b hab=>?_) k j h
  rw [Tr.dm]at hab
  by_cases e:a=i
  ·subst e
   rw [if_pos rfl]at hab
   exact uK hoi hacc o.after.toList (fun _ h=>h) b hab
  ·rw [if_neg e]at hab
   exact hacc a b hab
theorem jA{ops:List Oper}{i j:Nat}(h:Jo (Ba ops 0 .leaf) i j=true):Reach ops i j:=
 uL ops 0 .leaf rfl (fun i j h=>by rw [show lU ((Tr.leaf:Tr Nat).get i)=0 from rfl,Nat.zero_testBit]at h;cases h) i j h
def iA(ops:List Oper):Prop:=∀(i:Nat)(o:Oper),ops[i]? =some o→∀e∈o.after.toList,cE e=true→e.on<i
theorem Reach.lt{ops:List Oper}(hb:iA ops){i j:Nat}(h:Reach ops i j):j<i:=by
 induction h with
 |RC ho he h=>exact hb _ _ ho _ he h
 |chain ho he h _ ih=>exact Nat.lt_trans ih (hb _ _ ho _ he h)
def mf(ops:List Oper)(S:Nat→Prop):Prop:=∀i,S i→∀o,ops[i]? =some o→∀e∈o.after.toList,cE e=true→S e.on
theorem Reach.mem{ops:List Oper}{S:Nat→Prop}(hS:mf ops S){i j:Nat}(h:Reach ops i j)(hi:∀o,ops[i]? =some o→∀e∈o.after.toList,cE e=true→S e.on):S j:=by
 induction h with
 |RC ho he hb=>exact hi _ ho _ he hb
 |chain ho he hb _ ih=>exact ih fun o ho2 e he2 hb2=>hS _ (hi _ ho _ he hb) o ho2 e he2 hb2
theorem xK{b:Tr Nat}{i:Nat}:∀(l:List Oper)(j:Nat),ue b i l j=true→∀k o,l[k]? =some o→mem o.op=true→j+k=i∨comparable b i (j+k)=true
 | [],j,_,k,o,ho,_=>by simp at ho
 |o0::l,j,h,k,o,ho,hm=>by
  have h':iff (mem o0.op) (iff (or (Nat.beq j i) (comparable b i j)) (ue b i l (j+1)) false) (ue b i l (j+1))=true:=h
  rw [iff_eq,iff_eq]at h'
  cases k with
  |zero=>
   simp only [List.getElem?_cons_zero,Option.some.injEq]at ho
   subst ho
   rw [if_pos hm]at h'
   split at h'
   ·rename_i h2
    rw [Bool.or_eq_true,beq_iff]at h2
    exact h2
   ·cases h'
  |succ k=>
   simp only [List.getElem?_cons_succ]at ho
   have h2:ue b i l (j+1)=true:=by
    split at h'
    ·split at h'
     ·exact h'
     ·cases h'
    ·exact h'
   have:=xK l (j+1) h2 k o ho hm
   rwa [show j+1+k=j+(k+1) by omega]at this
theorem oc{ops:List Oper}{i:Nat}(h:eF ops i=true){k:Nat}{o:Oper}(ho:ops[k]? =some o)(hm:mem o.op=true):k=i∨Reach ops i k∨Reach ops k i:=by
 have:=xK ops 0 h k o ho hm
 rw [Nat.zero_add]at this
 rcases this with h1|h1
 ·exact .inl h1
 ·unfold comparable at h1
  rw [Bool.or_eq_true]at h1
  rcases h1 with h1|h1
  ·exact .inr (.inl (jA h1))
  ·exact .inr (.inr (jA h1))
def JF(o:Oper):List Tmp:=o.op.operands.toList.filterMap fun| .tmp t=>some t|_=>none
def qW(ops:List Oper)(o:Oper):List Tmp:=
 match o.guard with
 |some (j,_)=>match aU j ops with|some q=>q.dst.toList|none=>[]
 |none=>[]
def il(ops:List Oper)(o:Oper):List Tmp:=o.dst.toList++JF o++qW ops o
def kh(b:Tr Nat)(i:Nat)(t:Tmp):List Oper→Nat→Bool
 | [],_=>true
 |o::l,j=>and (match o.dst with|some d=>or (not (Nat.beq d t)) (or (Nat.beq j i) (comparable b i j))|none=>true) (kh b i t l (j+1))
def uM(ops:List Oper)(b:Tr Nat):List Oper→Nat→Bool
 | [],_=>true
 |o::l,i=>and (and (o.after.toList.all fun e=>or (not (cE e)) (Nat.blt e.on i)) ((il ops o).all fun t=>kh b i t ops 0)) (uM ops b l (i+1))
structure zy(ops:List Oper):Prop where
 back:iA ops
 FE:∀(i:Nat)(o:Oper),ops[i]? =some o→∀t∈il ops o,∀(j:Nat)(q:Oper),ops[j]? =some q→q.dst=some t→j=i∨Reach ops i j∨Reach ops j i
theorem px{ops:List Oper}{i:Nat}{t:Tmp}:∀(l:List Oper)(j:Nat),kh (Ba ops 0 .leaf) i t l j=true→∀k q,l[k]? =some q→q.dst=some t→j+k=i∨Reach ops i (j+k)∨Reach ops (j+k) i
 | [],j,_,k,q,hq,_=>by simp at hq
 |o::l,j,h,k,q,hq,hd=>by
  simp only [kh,Bool.and_eq_true]at h
  cases k with
  |zero=>
   simp only [List.getElem?_cons_zero,Option.some.injEq]at hq
   subst hq
   rw [hd]at h
   have h1:=h.1
   simp only [Bool.or_eq_true,Bool.not_eq_true',comparable]at h1
   rcases h1 with h1|h1|h1|h1
   ·exact absurd ((beq_iff _ _).2 rfl) (by rw [h1];simp)
   ·exact .inl ((beq_iff _ _).1 h1)
   ·exact .inr (.inl (jA h1))
   ·exact .inr (.inr (jA h1))
  |succ k=>
   simp only [List.getElem?_cons_succ]at hq
   have:=px l (j+1) h.2 k q hq hd
   rwa [show j+1+k=j+(k+1) by omega]at this
theorem Ho{ops:List Oper}(h:uM ops (Ba ops 0 .leaf) ops 0=true):zy ops:=by
 have key:∀(l:List Oper)(i:Nat),uM ops (Ba ops 0 .leaf) l i=true→∀k o,l[k]? =some o→(∀e∈o.after.toList,cE e=true→e.on<i+k)∧∀t∈il ops o,kh (Ba ops 0 .leaf) (i+k) t ops 0=true:=by
  intro l
  induction l with
  |nil=>intro i _ k o ho;simp at ho
  |cons o0 l ih=>
   intro i h k o ho
   simp only [uM,Bool.and_eq_true]at h
   cases k with
   |zero=>
    simp only [List.getElem?_cons_zero,Option.some.injEq]at ho
    subst ho
    exact⟨fun e he hb=>by
     have:=List.all_eq_true.1 h.1.1 e he
     rw [hb]at this
     exact(bK _ _).1 this,fun t ht=>List.all_eq_true.1 h.1.2 t ht⟩
   |succ k=>
    simp only [List.getElem?_cons_succ]at ho
    have:=ih (i+1) h.2 k o ho
    rwa [show i+1+k=i+(k+1) by omega]at this
 refine⟨fun i o ho e he hb=>?_,fun i o ho t ht j q hq hd=>?_⟩
 ·have:=(key ops 0 h i o ho).1 e he hb;omega
 ·have h1:=(key ops 0 h i o ho).2 t ht
  rw [Nat.zero_add]at h1
  have:=px ops 0 h1 j q hq hd
  rwa [Nat.zero_add]at this
def reset(σ:aD):aD:=⟨σ.heap,σ.next,σ.next,σ.bp⟩
@[simp] theorem xL(σ:aD)(k:Nat):(reset σ).obj k=σ.obj k:=rfl
@[simp] theorem RD(σ:aD):(reset σ).next=σ.next:=rfl
structure Good(T:ew)(call:cD)(ops:List Oper)(st:Nat→aD)(en:Nat→Env)(val:Nat→Value)(post:Nat→aD)(k:Nat)(o:Oper):Prop where
 env:en (k+1)=put (en k) (val k) o.dst
 heap:(st (k+1)).heap=(post k).heap
 next:(st (k+1)).next=(post k).next
 low:(st (k+1)).low≤(post k).low
 mono:cm (reset (st k)) (post k)
 step:cm (st k) (st (k+1))
 run:(wanted ops (en k) o.guard=some true∧gX T call o.op (az.env (en k)) (reset (st k))=some (val k,post k)∧((st k).next≤(post k).low∨eF ops k=true))∨
  (wanted ops (en k) o.guard=some false∧post k=reset (st k)∧val k=undef)
structure Trace(T:ew)(call:cD)(ops:List Oper)(st:Nat→aD)(en:Nat→Env)(val:Nat→Value)(post:Nat→aD)(i:Nat)(l:List Oper):Prop where
 N3:∀j o,l[j]? =some o→Good T call ops st en val post (i+j) o
theorem Good.congr{T:ew}{call:cD}{ops:List Oper}{st st':Nat→aD}{en en':Nat→Env}{val val':Nat→Value}{post post':Nat→aD}{k:Nat}{o:Oper}(h:Good T call ops st en val post k o)
  (h1:st' k=st k) (h2:st' (k+1)=st (k+1)) (h3:en' k=en k) (h4:en' (k+1)=en (k+1)) (h5:val' k=val k) (h6:post' k=post k):Good T call ops st' en' val' post' k o:=by
 obtain⟨a,b,c,d,e,f,g⟩:=h
 exact⟨by rw [h4,h3,h5];exact a,by rw [h2,h6];exact b,by rw [h2,h6];exact c,by rw [h2,h6];exact d,by rw [h1,h6];exact e,by rw [h1,h2];exact f,by rw [h3,h1,h5,h6];exact g⟩
theorem py{T:ew}{call:cD}(hm:iR call){ops:List Oper}:∀(l:List Oper)(i:Nat)(e:Env)(σ:aD)(e':Env)(σ':aD),σ.low≤σ.next→gT T call ops (eF ops) true l i e σ=some (e',σ')→
  ∃st en val post,st i=σ∧en i=e∧st (i+l.length)=σ'∧en (i+l.length)=e'∧Trace T call ops st en val post i l
 | [],i,e,σ,e',σ',_,h=>by
  cases (show some (e,σ)=some (e',σ')from h)
  exact⟨fun _=>σ,fun _=>e,fun _=>undef,fun _=>σ,rfl,rfl,rfl,rfl,⟨fun j o h=>by simp at h⟩⟩
 |o::l,i,e,σ,e',σ',hlow,h=>by
  rw [jy]at h
  obtain⟨g,hg0,h⟩:=aa h
  rw [iff_eq]at h
  have key:∃(v:Value)(σ1 σ2:aD),gT T call ops (eF ops) true l (i+1) (put e v o.dst) σ1=some (e',σ')∧σ1.heap=σ2.heap∧σ1.next=σ2.next∧σ1.low≤σ2.low∧cm (reset σ) σ2∧cm σ σ1∧
    ((wanted ops e o.guard=some true∧gX T call o.op (az.env e) (reset σ)=some (v,σ2)∧(σ.next≤σ2.low∨eF ops i=true))∨(wanted ops e o.guard=some false∧σ2=reset σ∧v=undef)):=by
   split at h
   ·rename_i hw
    subst hw
    obtain⟨v,σ1,h1,h2⟩:=ae h
    have m1:=uJ hm (show drawn T call (eF ops i) o.op (az.env e) σ=some (v,σ1)from h1)
    obtain⟨u,σ2,h3,h4⟩:=ae (show ak (gX T call o.op (az.env e) (reset σ)) (fun v σ'=>iff (or (Nat.ble σ.next σ'.low) (eF ops i)) (some (v,⟨σ'.heap,σ'.next,jh σ.low σ'.low,σ'.bp⟩)) none)=some (v,σ1)from h1)
    obtain⟨h5,h6⟩:=aj h4
    simp only [Option.some.injEq,Prod.mk.injEq]at h6
    obtain⟨rfl,rfl⟩:=h6
    rw [Bool.or_eq_true,bk]at h5
    exact⟨u,_,σ2,h2,rfl,rfl,by rw [eO];exact Nat.min_le_right _ _,mO hm h3,m1,.inl ⟨hg0,h3,h5⟩⟩
   ·rename_i hw
    refine⟨undef,σ,reset σ,h,rfl,rfl,hlow,.refl _,.refl _,.inr ⟨by rw [hg0];simpa using hw,rfl,rfl⟩⟩
  obtain⟨v,σ1,σ2,h1,h2,h3,h4,h5,h6,h7⟩:=key
  obtain⟨st,en,val,post,g1,g2,g3,g4,g5⟩:=py hm l (i+1) (put e v o.dst) σ1 e' σ' (Nat.le_trans h6.low (Nat.le_trans hlow h6.next)) h1
  refine⟨fun k=>if k=i then σ else st k,fun k=>if k=i then e else en k,fun k=>if k=i then v else val k,fun k=>if k=i then σ2 else post k,if_pos rfl,if_pos rfl,?_,?_,⟨fun j q hq=>?_⟩⟩
  ·show(if i+(o::l).length=i then σ else st (i+(o::l).length))=σ'
   rw [List.length_cons,if_neg (by omega),show i+(l.length+1)=i+1+l.length by omega];exact g3
  ·show(if i+(o::l).length=i then e else en (i+(o::l).length))=e'
   rw [List.length_cons,if_neg (by omega),show i+(l.length+1)=i+1+l.length by omega];exact g4
  ·cases j with
   |zero=>
    simp only [List.getElem?_cons_zero,Option.some.injEq]at hq
    subst hq
    simp only [Nat.add_zero]
    have hi:i+1≠i:=by omega
    refine⟨?_,?_,?_,?_,?_,?_,?_⟩
    ·rw [if_neg hi,if_pos rfl,if_pos rfl,g2]
    ·rw [if_neg hi,if_pos rfl,g1];exact h2
    ·rw [if_neg hi,if_pos rfl,g1];exact h3
    ·rw [if_neg hi,if_pos rfl,g1];exact h4
    ·rw [if_pos rfl,if_pos rfl];exact h5
    ·rw [if_pos rfl,if_neg hi,g1];exact h6
    ·rw [if_pos rfl,if_pos rfl,if_pos rfl,if_pos rfl];exact h7
   |succ j=>
    simp only [List.getElem?_cons_succ]at hq
    have:=g5.N3 j q hq
    rw [show i+1+j=i+(j+1) by omega]at this
    exact this.congr (if_neg (by omega)) (if_neg (by omega)) (if_neg (by omega)) (if_neg (by omega)) (if_neg (by omega)) (if_neg (by omega))
section
variable {T:ew} {call:cD} {ops:List Oper} {st:Nat→aD} {en:Nat→Env} {val:Nat→Value} {post:Nat→aD}
def ff(ops:List Oper)(en:Nat→Env)(k:Nat):Prop:=∃o,ops[k]? =some o∧wanted ops (en k) o.guard=some true∧mem o.op=true
def cL(st:Nat→aD)(post:Nat→aD)(k:Nat):Prop:=(post k).low<(st k).next
theorem Hp{o:Op}{ρ:Operand→Value}{σ σ':aD}{v:Value}(hm:mem o=false)(h:gX T call o ρ σ=some (v,σ')):σ'=σ:=by
 unfold gX at h
 cases o<;>simp only [mem,reduceCtorEq]at hm<;>simp only [tZ]at h
 case move=>cases (show some _=some (v,σ')from h);rfl
 case assign=>cases (show some _=some (v,σ')from h);rfl
 case pick c a b=>obtain⟨_,_,e1⟩:=aa (show andThen (sd (ρ c)) _=some (v,σ')from h);cases e1;rfl
 case binOp op t x y yt=>obtain⟨_,e1⟩:=aj (show iff _ (val σ _) none=some (v,σ')from h);exact(dH e1).2
 case makeInterface t x=>obtain⟨_,_,e1⟩:=aa (show andThen (desc T t) _=some (v,σ')from h);obtain⟨_,e2⟩:=er e1;cases e2;rfl
 case makeFunc=>cases (show some _=some (v,σ')from h);rfl
 all_goals exact(dH (show az.val σ _=some (v,σ')from h)).2
variable (ht:Trace T call ops st en val post 0 ops)
include ht
theorem Trace.at{k:Nat}{o:Oper}(ho:ops[k]? =some o):Good T call ops st en val post k o:=by
 have:=ht.N3 k o ho
 rwa [Nat.zero_add]at this
theorem Trace.idle{k:Nat}(hk:k<ops.length)(h:¬ff ops en k):post k=reset (st k):=by
 have ho:ops[k]? =some ops[k]:=List.getElem?_eq_getElem hk
 rcases(ht.at ho).run with⟨h1,h2,_⟩|⟨_,h2,_⟩
 ·have hm:mem ops[k].op=false:=by
   cases hmm:mem ops[k].op with
   |false=>rfl
   |true=>exact absurd ⟨_,ho,h1,hmm⟩ h
  exact Hp hm h2
 ·exact h2
theorem Trace.writes{k:Nat}(hk:k<ops.length)(h:cL st post k):ff ops en k∧eF ops k=true:=by
 have ho:ops[k]? =some ops[k]:=List.getElem?_eq_getElem hk
 by_cases ha:ff ops en k
 ·refine⟨ha,?_⟩
  rcases(ht.at ho).run with⟨_,_,h3⟩|⟨h1,_,_⟩
  ·exact h3.resolve_left (by unfold cL at h;omega)
  ·obtain⟨o',ho',hw,_⟩:=ha
   rw [ho]at ho';cases ho'
   rw [h1]at hw;cases hw
 ·exfalso
  have:=ht.idle hk ha
  unfold cL at h
  rw [this]at h
  exact Nat.lt_irrefl _ h
theorem Trace.mono{i j:Nat}(hij:i≤j)(hj:j≤ops.length):cm (st i) (st j):=by
  induction j with
  | zero => have : i = 0 := by omega
            subst this;exact .refl _
  |succ j ih=>
    rcases Nat.lt_or_ge i (j+1)with h|h
    · exact(ih (by omega) (by omega)).trans (ht.at (List.getElem?_eq_getElem (by omega:j<ops.length))).step
    · have:i=j+1:=by omega
      subst this;exact .refl _
theorem Trace.order{S:Nat→Prop}(hS:mf ops S)(hb:iA ops){i c:Nat}(hi:i<ops.length)(hc:c<ops.length)(ai:ff ops en i)(ac:ff ops en c)
  (hni:¬S i) (hpre:∀o,ops[i]? =some o→∀e∈o.after.toList,cE e=true→S e.on) (hw:cL st post i∨cL st post c):(c<i→S c)∧(i<c→¬S c):=by
 have hcmp:c=i∨Reach ops i c∨Reach ops c i:=by
  rcases hw with hw|hw
  ·obtain⟨o,ho,_,hm⟩:=ac
   exact oc (ht.writes hi hw).2 ho hm
  ·obtain⟨o,ho,_,hm⟩:=ai
   rcases oc (ht.writes hc hw).2 ho hm with h|h|h
   ·exact .inl h.symm
   ·exact .inr (.inr h)
   ·exact .inr (.inl h)
 refine⟨fun h=>?_,fun h hsc=>?_⟩
 ·rcases hcmp with h1|h1|h1
  ·omega
  ·exact h1.mem hS hpre
  ·have:=h1.lt hb;omega
 ·rcases hcmp with h1|h1|h1
  ·omega
  ·have:=h1.lt hb;omega
  ·exact hni (h1.mem hS fun o ho e he hbe=>hS c hsc o ho e he hbe)
end
end Go.az
namespace Go.az
def Made(n:Nat)(st:Nat→aD)(S:Nat→Prop)(k:Nat):Prop:=∃c,c<n∧S c∧(st c).next≤k∧k<(st (c+1)).next
def zA(n:Nat)(st:Nat→aD)(S:Nat→Prop)(δ₀:Nat→Prop):Nat→Prop:=fun k=>δ₀ k∨∃c,c<n∧S c∧bd (st (c+1)) k∧¬bd (st c) k
structure Part(n:Nat)(st post:Nat→aD)(S:Nat→Prop)(m:Nat)(π₀:aK)(δ₀ D₀:Nat→Prop)(H:Nat→Option aN)(w₀:World)(π:aK)(D:Nat→Prop)(w:World):Prop where
 UM:m≤n
 upto:∀c,c<m→cL st post c→S c
 stop:m=n∨(cL st post m∧¬S m)
 rel:Rel π (zA n st S δ₀) D (ext (st m) H) w
 sub:∀k i,π k=some i→π₀ k=some i∨(π₀ k=none∧Made n st S k)
 kept:∀k i,π₀ k=some i→π k=some i∨(π k=none∧D k∧∃c,c<n∧S c∧(post c).low≤i.aA∧i.aA<(st (c+1)).next)
 lu:∀k,D₀ k→D k
 o8:∀k,D k→D₀ k∨∃c,c<n∧S c∧bd (st (c+1)) k∧(post c).low≤k
 lF:∀k i,π k=some i→Made n st S i.aA∨∃k₀ i₀,π₀ k₀=some i₀∧i₀.aA=i.aA
 bm:∀k i,π k=some i→i.ro=false→(∃k₀ i₀,π₀ k₀=some i₀∧i₀.ro=false∧i₀.bm=i.bm)∨w₀.heap.size≤i.bm
 fr:Fr π₀ w₀ w
 Ni:∀c,c<n→S c→∀k,k<(st c).next→bd (st (c+1)) k→¬bd (st c) k→(∃i,π₀ k=some i)∨Made n st S k
 Fw:eZ π₀ π w₀
section
variable {T:ew} {call:cD} {ops:List Oper} {st:Nat→aD} {en:Nat→Env} {val:Nat→Value} {post:Nat→aD}
variable {π₀:aK} {δ₀ D₀:Nat→Prop} {H:Nat→Option aN} {w₀:World} {π:aK} {D:Nat→Prop} {w:World} {S:Nat→Prop} {m:Nat}
theorem Trace.obj(ht:Trace T call ops st en val post 0 ops){c:Nat}(hc:c<ops.length)(k:Nat):(st (c+1)).obj k=(post c).obj k:=by
 unfold aD.obj
 rw [(ht.at (List.getElem?_eq_getElem hc)).heap]
theorem Trace.XZ(ht:Trace T call ops st en val post 0 ops){c:Nat}(hc:c<ops.length):(st (c+1)).next=(post c).next:=(ht.at (List.getElem?_eq_getElem hc)).next
theorem Trace.dead(ht:Trace T call ops st en val post 0 ops){c:Nat}(hc:c<ops.length)(k:Nat):bd (st (c+1)) k↔bd (post c) k:=by
 unfold bd
 rw [ht.obj hc]
theorem Trace.U6(ht:Trace T call ops st en val post 0 ops){c k:Nat}(hc:c<ops.length)(h1:(st c).next≤k)(h2:k<(st (c+1)).next):ff ops en c:=by
 by_cases ha:ff ops en c
 ·exact ha
 ·have:=ht.idle hc ha
  rw [ht.XZ hc,this]at h2
  exact absurd h2 (by show¬k<(st c).next;omega)
theorem Trace.QD(ht:Trace T call ops st en val post 0 ops){c k:Nat}(hc:c<ops.length)(h1:bd (st (c+1)) k)(h2:¬bd (st c) k):ff ops en c:=by
 by_cases ha:ff ops en c
 ·exact ha
 ·have:=ht.idle hc ha
  rw [ht.dead hc,this]at h1
  exact absurd h1 h2
theorem fK.N4{p:PI}{c:List Value}{e:Option Nat}{aA:Nat}{ro d:Bool}(h:fK π D p w (.cells c e aA ro d)):p.aA=aA:=by
 obtain⟨_,_,_,_,_,_,_,_,_,_,h,_⟩:=h
 exact h
theorem Trace.U7(ht:Trace T call ops st en val post 0 ops){c k:Nat}(hc:c<ops.length)(hw:¬cL st post c)(hk:k<(st c).next){p:PI}{o:aN}(ho:(st c).obj k=some o)(hr:fK π D p w o)(hp:p.aA≤k):
  ∃o',(st (c+1)).obj k=some o'∧fK π D p w o':=by
 have hs:=(ht.at (List.getElem?_eq_getElem hc)).mono.step k hk
 have hlow:(st c).next≤(post c).low:=by unfold cL at hw;omega
 rw [ht.obj hc]
 rw [xL,ho]at hs
 generalize (post c).obj k=q at hs
 cases hs with
 |cells hl hd hr2 hlow2 hk2=>
  have horg:=fK.N4 hr
  rcases hlow2 with h1|h1
  ·omega
  ·subst h1;exact⟨_,rfl,hr⟩
 |other h h0 hlow2=>
  rcases hlow2 with h1|h1
  ·omega
  ·subst h1;exact⟨_,rfl,hr⟩
theorem Trace.U8(ht:Trace T call ops st en val post 0 ops){c k:Nat}(hc:c<ops.length)(hw:¬cL st post c)(hk:k<(st c).next){p:PI}{o:aN}(ho:(st (c+1)).obj k=some o)(hr:fK π D p w o)(hp:p.aA≤k):
  ∃o',(st c).obj k=some o'∧fK π D p w o':=by
 have hs:=(ht.at (List.getElem?_eq_getElem hc)).mono.step k hk
 have hlow:(st c).next≤(post c).low:=by unfold cL at hw;omega
 rw [ht.obj hc]at ho
 rw [xL,ho]at hs
 generalize (st c).obj k=q at hs
 cases hs with
 |cells hl hd hr2 hlow2 hk2=>
  have horg:=fK.N4 hr
  rcases hlow2 with h1|h1
  ·omega
  ·subst h1;exact⟨_,rfl,hr⟩
 |other h h0 hlow2=>
  rcases hlow2 with h1|h1
  ·omega
  ·subst h1;exact⟨_,rfl,hr⟩
theorem Trace.df(ht:Trace T call ops st en val post 0 ops){i j:Nat}(hij:i≤j)(hj:j≤ops.length):(st i).next≤(st j).next:=(ht.mono hij hj).next
theorem Trace.DN(ht:Trace T call ops st en val post 0 ops){i k:Nat}(hk:k<(st i).next){p:PI}(hp:p.aA≤k):∀(j:Nat),i≤j→j≤ops.length→(∀c,i≤c→c<j→¬cL st post c)→∀{o:aN},(st i).obj k=some o→fK π D p w o→∃o',(st j).obj k=some o'∧fK π D p w o':=by
  intro j
  induction j with
  | zero => intro hij _ _ o ho hr; have : i = 0 := by omega
            subst this;exact⟨o,ho,hr⟩
  |succ j ih=>
    intro hij hj hw o ho hr
    rcases Nat.lt_or_ge i (j+1)with h|h
    · obtain⟨o1,h1,h2⟩:=ih (by omega) (by omega) (fun c hc1 hc2=>hw c hc1 (by omega)) ho hr
      exact ht.U7 (by omega) (hw j (by omega) (by omega)) (Nat.lt_of_lt_of_le hk (ht.df (by omega) (by omega))) h1 h2 hp
    · have:i=j+1:=by omega
      subst this;exact⟨o,ho,hr⟩
theorem Trace.U9(ht:Trace T call ops st en val post 0 ops){i k:Nat}(hk:k<(st i).next){p:PI}(hp:p.aA≤k):∀(j:Nat),i≤j→j≤ops.length→(∀c,i≤c→c<j→¬cL st post c)→∀{o:aN},(st j).obj k=some o→fK π D p w o→∃o',(st i).obj k=some o'∧fK π D p w o':=by
  intro j
  induction j with
  | zero => intro hij _ _ o ho hr; have : i = 0 := by omega
            subst this;exact⟨o,ho,hr⟩
  |succ j ih=>
    intro hij hj hw o ho hr
    rcases Nat.lt_or_ge i (j+1)with h|h
    · obtain⟨o1,h1,h2⟩:=ht.U8 (by omega) (hw j (by omega) (by omega)) (Nat.lt_of_lt_of_le hk (ht.df (by omega) (by omega))) ho hr hp
      exact ih (by omega) (by omega) (fun c hc1 hc2=>hw c hc1 (by omega)) h1 h2
    · have:i=j+1:=by omega
      subst this;exact⟨o,ho,hr⟩
structure wZ(ops:List Oper)(en:Nat→Env)(S:Nat→Prop)(i:Nat):Prop where
 lt:i<ops.length
 act:ff ops en i
 new:¬S i
 pre:∀o,ops[i]? =some o→∀e∈o.after.toList,cE e=true→S e.on
section
variable (ht:Trace T call ops st en val post 0 ops) (hS:mf ops S) (hb:iA ops) {i:Nat} (hi:wZ ops en S i)
include ht hS hb hi
theorem wZ.later{c:Nat}(h:i<c)(hc:c<ops.length)(ac:ff ops en c)(hs:S c):¬cL st post c∧¬cL st post i:=
 ⟨fun hw=>(ht.order hS hb hi.lt hc hi.act ac hi.new hi.pre (.inr hw)).2 h hs,fun hw=>(ht.order hS hb hi.lt hc hi.act ac hi.new hi.pre (.inl hw)).2 h hs⟩
theorem wZ.N5{c:Nat}(h:c<i)(hw:cL st post c):S c:=by
 have hc:c<ops.length:=by have:=hi.lt;omega
 exact(ht.order hS hb hi.lt hc hi.act (ht.writes hc hw).1 hi.new hi.pre (.inr hw)).1 h
theorem wZ.le(hp:Part ops.length st post S m π₀ δ₀ D₀ H w₀ π D w):i≤m:=by
 rcases Nat.lt_or_ge m i with h|h
 ·exfalso
  rcases hp.stop with h1|⟨h1,h2⟩
  ·have:=hi.lt;omega
  ·exact h2 (hi.N5 ht hS hb h h1)
 ·exact h
theorem wZ.quiet(hp:Part ops.length st post S m π₀ δ₀ D₀ H w₀ π D w){c:Nat}(h1:i≤c)(h2:c<m):¬cL st post c:=by
 intro hw
 have hs:=hp.upto c h2 hw
 have hc:c<ops.length:=Nat.lt_of_lt_of_le h2 hp.UM
 rcases Nat.lt_or_ge i c with h|h
 ·exact(hi.later ht hS hb h hc (ht.writes hc hw).1 hs).1 hw
 ·have:c=i:=by omega
  subst this;exact hi.new hs
theorem wZ.zC{k:Nat}(h1:(st i).next≤k)(h2:k<(st (i+1)).next):¬Made ops.length st S k:=by
 rintro⟨c,hc,hs,h3,h4⟩
 have _h1:=hS
 have _h2:=hb
 have hil:=hi.lt
 rcases Nat.lt_trichotomy c i with h|h|h
 ·have:=ht.df (i:=c+1) (j:=i) (by omega) (by omega);omega
 ·subst h;exact hi.new hs
 ·have:=ht.df (i:=i+1) (j:=c) (by omega) (by omega);omega
theorem wZ.Va(hp:Part ops.length st post S m π₀ δ₀ D₀ H w₀ π D w)(h0:cC (st 0) (st ops.length) π₀ δ₀ D₀ H w₀):cC (reset (st i)) (post i) π (zA ops.length st S δ₀) D (ext (st m) H) w:=by
 have hil:=hi.lt
 have hlem:=hi.le ht hS hb hp
 have hml:=hp.UM
 have hn0:=ht.df (i:=0) (j:=i) (by omega) (by omega)
 have hn1:=ht.df (i:=i) (j:=i+1) (by omega) (by omega)
 have hn2:=ht.df (i:=i+1) (j:=ops.length) (by omega) (by omega)
 have hnm:=ht.df (i:=i) (j:=m) (by omega) (by omega)
 have hnx:=ht.XZ hi.lt
 have hlow:(st ops.length).low≤(post i).low:=Nat.le_trans (ht.mono (i:=i+1) (j:=ops.length) (by omega) (by omega)).low (ht.at (List.getElem?_eq_getElem hi.lt)).low
 have hfresh:∀k,(st i).next≤k→k<(st (i+1)).next→π k=none∧π₀ k=none:=fun k h1 h2=>by
  have h3:=h0.fresh k (by omega) (by omega)
  refine⟨?_,h3⟩
  cases hk:π k with
  |none=>rfl
  |some p=>
   rcases hp.sub k p hk with h4|⟨_,h4⟩
   ·rw [h3]at h4;cases h4
   ·exact absurd h4 (hi.zC ht hS hb h1 h2)
 have hokf:∀k,zA ops.length st S δ₀ k→k<(st i).next∨(st (i+1)).next≤k:=fun k hk=>by
  rcases Nat.lt_or_ge k (st i).next with h1|h1
  ·exact .inl h1
  ·rcases Nat.lt_or_ge k (st (i+1)).next with h2|h2
   ·exfalso
    rcases hk with hk|⟨c,hc,hs,hd1,hd2⟩
    ·rcases h0.Ng k hk with h3|h3<;>omega
    ·rcases Nat.lt_or_ge k (st c).next with h3|h3
     ·rcases hp.Ni c hc hs k h3 hd1 hd2 with⟨p,h4⟩|h4
      ·rw [(hfresh k h1 h2).2]at h4;cases h4
      ·exact hi.zC ht hS hb h1 h2 h4
     ·have hw:WF (st (c+1)):=(ht.mono (i:=0) (j:=c+1) (by omega) (by omega)).wf h0.wf
      exact hi.zC ht hS hb h1 h2 ⟨c,hc,hs,h3,cI hw hd1⟩
   ·exact .inr h2
 refine⟨⟨fun k p hk=>?_,hp.rel.lF,hp.rel.uh,hp.rel.AS,hp.rel.sep⟩,(ht.mono (i:=0) (j:=i) (by omega) (by omega)).wf h0.wf,by show(st i).next≤(post i).next;omega,fun k h1 h2=>(hfresh k h1 (by omega)).1,fun k hk=>by rw [←hnx];exact hokf k hk,fun k p hd hk=>?_,fun k p hk h1=>?_,fun k hk=>?_⟩
 ·obtain⟨o,h1,h2⟩:=hp.rel.obj k p hk
  have hkin:=(hp.rel.lF k p hk).1
  by_cases hlt:k<(st i).next
  ·unfold ext at h1
   rw [if_pos (by omega)]at h1
   obtain⟨o',h3,h4⟩:=ht.U9 hlt hkin m hlem hp.UM (fun c hc1 hc2=>hi.quiet ht hS hb hp hc1 hc2) h1 h2
   exact⟨o',(if_pos hlt).trans h3,h4⟩
  ·refine⟨o,?_,h2⟩
   show(if k<(st i).next then _ else ext (st m) H k)=some o
   rw [if_neg hlt];exact h1
 ·rw [←hnx]
  rcases hokf k hd with h1|h1
  ·refine .inr ⟨h1,?_⟩
   have hnd:∀c,i<c→c<ops.length→¬bd (st c) k→¬bd (post i) k:=fun c hc1 hc2 hc3 hc4=>by
    refine hc3 ((ht.mono (i:=i+1) (j:=c) (by omega) (by omega)).dead ((ht.mono (i:=0) (j:=i+1) (by omega) (by omega)).wf h0.wf) ?_)
    rw [ht.dead hi.lt];exact hc4
   rcases hd with hd|⟨c,hc,hs,hd1,hd2⟩
   ·rcases hp.sub k p hk with h2|⟨_,c,hc,hs,h3,h4⟩
    ·rcases h0.Ju k p hd h2 with h3|⟨_,h3|⟨h3,h4⟩⟩
     ·omega
     ·exact .inl ((ht.mono (i:=0) (j:=i) (by omega) (by omega)).dead h0.wf h3)
     ·refine .inr ⟨fun h5=>h3 ?_,by omega⟩
      refine(ht.mono (i:=i+1) (j:=ops.length) (by omega) (by omega)).dead ((ht.mono (i:=0) (j:=i+1) (by omega) (by omega)).wf h0.wf) ?_
      rw [ht.dead hi.lt];exact h5
    ·exfalso
     have:=ht.df (i:=0) (j:=c) (by omega) (by omega)
     have:=ht.df (i:=c+1) (j:=ops.length) (by omega) (by omega)
     rcases h0.Ng k hd with h5|h5<;>omega
   ·rcases Nat.lt_trichotomy c i with h|h|h
    ·exact .inl ((ht.mono (i:=c+1) (j:=i) (by omega) (by omega)).dead ((ht.mono (i:=0) (j:=c+1) (by omega) (by omega)).wf h0.wf) hd1)
    ·subst h;exact absurd hs hi.new
    ·have hq:=(hi.later ht hS hb h hc (ht.QD hc hd1 hd2) hs).2
     exact .inr ⟨hnd c h hc hd2,by unfold cL at hq;omega⟩
  ·exact .inl h1
 ·rw [←hnx]at h1 ⊢
  rcases hp.sub k p hk with h2|⟨_,c,hc,hs,h3,h4⟩
  ·rcases Nat.lt_or_ge k (st ops.length).next with h3|h3
   ·rw [h0.fresh k (by omega) h3]at h2;cases h2
   ·rcases h0.Nh k p h2 h3 with h4|h4
    ·exact .inl (by omega)
    ·exact .inr (by omega)
  ·have hci:i<c:=by
    rcases Nat.lt_trichotomy c i with h|h|h
    ·have:=ht.df (i:=c+1) (j:=i) (by omega) (by omega);omega
    ·subst h;exact absurd hs hi.new
    ·exact h
   have hq:=(hi.later ht hS hb hci hc (ht.U6 hc h3 h4) hs).2
   have hlow2:(st i).next≤(post i).low:=by unfold cL at hq;omega
   rcases hp.lF k p hk with⟨c',hc',hs',h5,h6⟩|⟨k₀,i₀,h5,h6⟩
   ·rcases Nat.lt_trichotomy c' i with h|h|h
    ·have:=ht.df (i:=c'+1) (j:=i) (by omega) (by omega)
     exact .inl (by omega)
    ·subst h;exact absurd hs' hi.new
    ·have:=ht.df (i:=i+1) (j:=c') (by omega) (by omega)
     exact .inr (by omega)
   ·have hk0:=(h0.rel.lF k₀ i₀ h5).1
    rcases Nat.lt_or_ge k₀ (st 0).next with h7|h7
    ·exact .inl (by omega)
    ·rcases Nat.lt_or_ge k₀ (st ops.length).next with h8|h8
     ·rw [h0.fresh k₀ h7 h8]at h5;cases h5
     ·rcases h0.Nh k₀ i₀ h5 h8 with h9|h9
      ·exact .inl (by omega)
      ·exact .inr (by omega)
 ·rw [←hnx]
  rcases hp.o8 k hk with h1|⟨c,hc,hs,h1,h2⟩
  ·rcases h0.dead k h1 with h3|h3
   ·exact .inl ((ht.mono (i:=0) (j:=i) (by omega) (by omega)).dead h0.wf h3)
   ·exact .inr (by omega)
  ·rcases Nat.lt_trichotomy c i with h|h|h
   ·exact .inl ((ht.mono (i:=c+1) (j:=i) (by omega) (by omega)).dead ((ht.mono (i:=0) (j:=c+1) (by omega) (by omega)).wf h0.wf) h1)
   ·subst h;exact absurd hs hi.new
   ·have hnw:¬cL st post c:=fun hw=>(hi.later ht hS hb h hc (ht.writes hc hw).1 hs).1 hw
    have:=ht.df (i:=i+1) (j:=c) (by omega) (by omega)
    exact .inr (by unfold cL at hnw;omega)
end
theorem mg(n:Nat)(W S':Nat→Prop):∀(f a:Nat),a+f=n→∃m',a≤m'∧m'≤n∧(∀c,a≤c→c<m'→W c→S' c)∧(m'=n∨(W m'∧¬S' m'))
 |0,a,h=>⟨a,Nat.le_refl _,by omega,fun c h1 h2=>by omega,.inl (by omega)⟩
 |f+1,a,h=>by
  by_cases hw:W a∧¬S' a
  ·exact⟨a,Nat.le_refl _,by omega,fun c h1 h2=>by omega,.inr hw⟩
  ·obtain⟨m',h1,h2,h3,h4⟩:=mg n W S' f (a+1) (by omega)
   refine⟨m',by omega,h2,fun c hc1 hc2 hc3=>?_,h4⟩
   by_cases e:c=a
   ·subst e
    exact Classical.byContradiction fun hn=>hw ⟨hc3,hn⟩
   ·exact h3 c (by omega) hc2 hc3
theorem Part.Vb(ht:Trace T call ops st en val post 0 ops)(hS:mf ops S)(hb:iA ops)(hp:Part ops.length st post S m π₀ δ₀ D₀ H w₀ π D w){c:Nat}(hc:c<ops.length)(ac:ff ops en c)(hs:S c):c<m:=by
 rcases Nat.lt_or_ge c m with h|h
 ·exact h
 ·exfalso
  rcases hp.stop with h1|⟨h1,h2⟩
  ·omega
  ·obtain⟨o,ho,_,hm⟩:=ac
   rcases oc (ht.writes (by omega) h1).2 ho hm with h3|h3|h3
   ·subst h3;exact h2 hs
   ·have:=h3.lt hb;omega
   ·exact h2 (h3.mem hS fun o ho e he hbe=>hS c hs o ho e he hbe)
theorem Made.mono{n k:Nat}{S':Nat→Prop}(h:Made n st S k)(hs:∀c,S c→S' c):Made n st S' k:=by
 obtain⟨c,h1,h2,h3⟩:=h
 exact⟨c,h1,hs c h2,h3⟩
theorem wZ.Vc(ht:Trace T call ops st en val post 0 ops)(hS:mf ops S)(hb:iA ops){i:Nat}(hi:wZ ops en S i)(hp:Part ops.length st post S m π₀ δ₀ D₀ H w₀ π D w)(h0:cC (st 0) (st ops.length) π₀ δ₀ D₀ H w₀)
  {π':aK} {D':Nat→Prop} {w':World} (hq:Post (reset (st i)) (post i) π (zA ops.length st S δ₀) D (ext (st m) H) w π' D' w'):∃m',Part ops.length st post (fun c=>S c∨c=i) m' π₀ δ₀ D₀ H w₀ π' D' w':=by
 have hil:=hi.lt
 have hlem:=hi.le ht hS hb hp
 have hml:=hp.UM
 have hnx:=ht.XZ hi.lt
 have hn0:=ht.df (i:=0) (j:=i) (by omega) (by omega)
 have hn1:=ht.df (i:=i) (j:=i+1) (by omega) (by omega)
 have hn2:=ht.df (i:=i+1) (j:=ops.length) (by omega) (by omega)
 have hpre:=hi.Va ht hS hb hp h0
 have hst:=hq.lv hpre
 obtain⟨m',h1,h2,h3,h4⟩:=mg ops.length (cL st post) (fun c=>S c∨c=i) (ops.length-m) m (by omega)
 have hupto:∀c,c<m'→cL st post c→S c∨c=i:=fun c hc hw=>by
  rcases Nat.lt_or_ge c m with h|h
  ·exact .inl (hp.upto c h hw)
  ·exact h3 c h hc hw
 have hquiet:∀c,i<c→c<m'→¬cL st post c:=fun c hc1 hc2 hw=>by
  rcases hupto c hc2 hw with h|h
  ·have hcn:c<ops.length:=by omega
   exact(hi.later ht hS hb hc1 hcn (ht.writes hcn hw).1 h).1 hw
  ·omega
 have hnew0:∀k,(st i).next≤k→k<(st (i+1)).next→π₀ k=none:=fun k h1 h2=>h0.fresh k (by omega) (by omega)
 have hmadei:∀k,(st i).next≤k→k<(st (i+1)).next→Made ops.length st (fun c=>S c∨c=i) k:=fun k h1 h2=>⟨i,hil,.inr rfl,h1,h2⟩
 have hdead:∀k,bd (post i) k↔bd (st (i+1)) k:=fun k=>(ht.dead hil k).symm
 refine⟨m',h2,hupto,h4,⟨fun k p hk=>?_,hq.rel.lF,hq.rel.uh,hq.rel.AS,(hq.rel.weaken fun k hk=>?_).sep⟩,fun k p hk=>?_,fun k p hk=>?_,fun k hk=>hq.lu k (hp.lu k hk),fun k hk=>?_,fun k p hk=>?_,fun k p hk hro=>?_,?_,fun c hc hs k hk hd1 hd2=>?_,hp.Fw.trans hq.Fw hp.fr.size⟩
 ·obtain⟨o,g1,g2⟩:=hq.rel.obj k p hk
  have hkin:=(hq.rel.lF k p hk).1
  unfold ext at g1
  by_cases hlt:k<(st (i+1)).next
  ·rw [if_pos (by omega)]at g1
   rw [←ht.obj hil]at g1
   rcases Nat.lt_or_ge i m' with hm'|hm'
   ·obtain⟨o',g3,g4⟩:=ht.DN hlt hkin m' (by omega) h2 (fun c hc1 hc2=>hquiet c (by omega) hc2) g1 g2
    have:=ht.df (i:=i+1) (j:=m') (by omega) (by omega)
    exact⟨o',by unfold ext;rw [if_pos (by omega)];exact g3,g4⟩
   ·exfalso
    have e1:m'=i:=by omega
    rcases h4 with h5|⟨_,h5⟩
    ·omega
    ·exact h5 (.inr e1)
  ·rw [if_neg (by omega)]at g1
   have hkπ:π k=some p:=by
    rcases hq.sub k p hk with h|⟨_,_,h⟩
    ·exact h
    ·omega
   by_cases hkm:k<(st m).next
   ·rw [if_pos hkm]at g1
    have him:i<m:=by
     rcases Nat.lt_or_ge i m with h|h
     ·exact h
     ·have:m=i:=by omega
      subst this;omega
    obtain⟨o',g3,g4⟩:=ht.DN hkm hkin m' h1 h2 (fun c hc1 hc2=>hquiet c (by omega) hc2) g1 g2
    have:=ht.df (i:=m) (j:=m') h1 h2
    exact⟨o',by unfold ext;rw [if_pos (by omega)];exact g3,g4⟩
   ·rw [if_neg hkm]at g1
    refine⟨o,?_,g2⟩
    have hnm:¬k<(st m').next:=by
     intro h5
     have:=ht.df (i:=m') (j:=ops.length) h2 (Nat.le_refl _)
     have h0m:=ht.df (i:=0) (j:=m) (by omega) (by omega)
     rcases hp.sub k p hkπ with h6|⟨_,c,hc,hs,h6,h7⟩
     ·rw [h0.fresh k (by omega) (by omega)]at h6;cases h6
     ·have hcm:=hp.Vb ht hS hb hc (ht.U6 hc h6 h7) hs
      have:=ht.df (i:=c+1) (j:=m) (by omega) (by omega)
      omega
    unfold ext
    rw [if_neg hnm];exact g1
 ·rcases hk with(hk|⟨c,hc,hs,hd⟩)|⟨hd1,hd2⟩
  ·exact .inl hk
  ·exact .inr ⟨c,hc,.inl hs,hd⟩
  ·exact .inr ⟨i,hil,.inr rfl,(hdead k).1 hd1,hd2⟩
 ·rcases hq.sub k p hk with h5|⟨_,h5,h6⟩
  ·rcases hp.sub k p h5 with h7|⟨h7,h8⟩
   ·exact .inl h7
   ·exact .inr ⟨h7,h8.mono fun c h=> .inl h⟩
  ·exact .inr ⟨hnew0 k h5 (by omega),hmadei k h5 (by omega)⟩
 ·rcases hp.kept k p hk with h5|⟨h5,h6,c,hc,hs,h7⟩
  ·rcases hq.kept k p h5 with h8|⟨h8,h9,h10,h11⟩
   ·exact .inl h8
   ·exact .inr ⟨h8,h9,i,hil,.inr rfl,h10,by omega⟩
  ·obtain⟨h8,h9⟩:=hst.2 k h5 h6
   exact .inr ⟨h8,h9,c,hc,.inl hs,h7⟩
 ·rcases hq.o8 k hk with h5|⟨h5,h6⟩
  ·rcases hp.o8 k h5 with h7|⟨c,hc,hs,h7⟩
   ·exact .inl h7
   ·exact .inr ⟨c,hc,.inl hs,h7⟩
  ·exact .inr ⟨i,hil,.inr rfl,(hdead k).1 h5,h6⟩
 ·have hkin:=(hq.rel.lF k p hk).1
  have iw:∀k p,π k=some p→Made ops.length st (fun c=>S c∨c=i) p.aA∨∃k₀ i₀,π₀ k₀=some i₀∧i₀.aA=p.aA:=fun k p h=>by
   rcases hp.lF k p h with h7|h7
   ·exact .inl (h7.mono fun c h=> .inl h)
   ·exact .inr h7
  rcases hq.sub k p hk with h5|⟨_,h5,h6⟩
  ·exact iw k p h5
  ·rcases hq.lF k p hk with h7|⟨k₀,i₀,h7,h8⟩
   ·exact .inl (hmadei _ h7 (by omega))
   ·rw [←h8];exact iw k₀ i₀ h7
 ·rcases hq.bm k p hk hro with⟨k₀,i₀,h5,h6,h7⟩|h5
  ·rcases hp.bm k₀ i₀ h5 h6 with⟨k₁,i₁,h8,h9,h10⟩|h8
   ·exact .inl ⟨k₁,i₁,h8,h9,h10.trans h7⟩
   ·exact .inr (by omega)
  ·exact .inr (Nat.le_trans hp.fr.size h5)
 ·refine⟨hq.fr.os.trans hp.fr.os,hq.fr.tape.trans hp.fr.tape,hq.fr.output.trans hp.fr.output,Nat.le_trans hp.fr.size hq.fr.size,fun B hB hu=>?_⟩
  rw [hq.fr.kF B (Nat.lt_of_lt_of_le hB hp.fr.size) fun k p hk hro hbB=>?_,hp.fr.kF B hB hu]
  rcases hp.bm k p hk hro with⟨k₀,i₀,h5,h6,h7⟩|h5
  ·exact hu k₀ i₀ h5 h6 (h7.trans hbB)
  ·omega
 ·rcases hs with hs|rfl
  ·rcases hp.Ni c hc hs k hk hd1 hd2 with h5|h5
   ·exact .inl h5
   ·exact .inr (h5.mono fun c h=> .inl h)
  ·obtain⟨p,h5⟩:=hq.Ni k hk ((hdead k).2 hd1) hd2
   rcases hp.sub k p h5 with h6|⟨_,h6⟩
   ·exact .inl ⟨p,h6⟩
   ·exact .inr (h6.mono fun c h=> .inl h)
end
end Go.az
namespace Go.az
section
variable {T:ew} {call:cD} {ops:List Oper} {st:Nat→aD} {en:Nat→Env} {val:Nat→Value} {post:Nat→aD}
variable {π₀:aK} {δ₀ D₀:Nat→Prop} {H:Nat→Option aN} {w₀:World} {π:aK} {D:Nat→Prop} {w:World} {S:Nat→Prop} {m:Nat}
theorem Part.start(ht:Trace T call ops st en val post 0 ops)(h0:cC (st 0) (st ops.length) π₀ δ₀ D₀ H w₀):∃m,Part ops.length st post (fun _=>False) m π₀ δ₀ D₀ H w₀ π₀ D₀ w₀:=by
 obtain⟨m,h1,h2,h3,h4⟩:=mg ops.length (cL st post) (fun _=>False) ops.length 0 (by omega)
 refine⟨m,h2,fun c hc hw=>h3 c (by omega) hc hw,h4,⟨fun k p hk=>?_,h0.rel.lF,h0.rel.uh,h0.rel.AS,(h0.rel.weaken fun _ h=> .inl h).sep⟩,fun k p hk=> .inl hk,fun k p hk=> .inl hk,fun _ h=>h,fun _ h=> .inl h,fun k p hk=> .inr ⟨k,p,hk,rfl⟩,fun k p hk hr=> .inl ⟨k,p,hk,hr,rfl⟩,.refl _ _,fun c _ hs=>hs.elim,eZ.same rfl⟩
 obtain⟨o,g1,g2⟩:=h0.rel.obj k p hk
 have hkin:=(h0.rel.lF k p hk).1
 have hn:=ht.df (i:=0) (j:=m) (by omega) h2
 have hn2:=ht.df (i:=m) (j:=ops.length) h2 (Nat.le_refl _)
 unfold ext at g1
 by_cases hlt:k<(st 0).next
 ·rw [if_pos hlt]at g1
  obtain⟨o',g3,g4⟩:=ht.DN hlt hkin m (by omega) h2 (fun c hc1 hc2 hw=>h3 c hc1 hc2 hw) g1 g2
  exact⟨o',by unfold ext;rw [if_pos (by omega)];exact g3,g4⟩
 ·rw [if_neg hlt]at g1
  refine⟨o,?_,g2⟩
  unfold ext
  rw [if_neg fun h=>by rw [h0.fresh k (by omega) (by omega)]at hk;cases hk]
  exact g1
theorem Part.idle(ht:Trace T call ops st en val post 0 ops)(hp:Part ops.length st post S m π₀ δ₀ D₀ H w₀ π D w){i:Nat}(hi:i<ops.length)(hna:¬ff ops en i):Part ops.length st post (fun c=>S c∨c=i) m π₀ δ₀ D₀ H w₀ π D w:=by
 refine⟨hp.UM,fun c hc hw=> .inl (hp.upto c hc hw),?_,hp.rel.weaken fun k hk=>?_,fun k p hk=>?_,fun k p hk=>?_,hp.lu,fun k hk=>?_,fun k p hk=>?_,hp.bm,hp.fr,fun c hc hs k hk hd1 hd2=>?_,hp.Fw⟩
 ·rcases hp.stop with h|⟨h1,h2⟩
  ·exact .inl h
  ·refine .inr ⟨h1,fun h=>?_⟩
   rcases h with h|rfl
   ·exact h2 h
   ·exact hna (ht.writes hi h1).1
 ·rcases hk with hk|⟨c,hc,hs,hd⟩
  ·exact .inl hk
  ·exact .inr ⟨c,hc,.inl hs,hd⟩
 ·rcases hp.sub k p hk with h|⟨h1,h2⟩
  ·exact .inl h
  ·exact .inr ⟨h1,h2.mono fun c h=> .inl h⟩
 ·rcases hp.kept k p hk with h|⟨h1,h2,c,hc,hs,h3⟩
  ·exact .inl h
  ·exact .inr ⟨h1,h2,c,hc,.inl hs,h3⟩
 ·rcases hp.o8 k hk with h|⟨c,hc,hs,h3⟩
  ·exact .inl h
  ·exact .inr ⟨c,hc,.inl hs,h3⟩
 ·rcases hp.lF k p hk with h|h
  ·exact .inl (h.mono fun c h=> .inl h)
  ·exact .inr h
 ·rcases hs with hs|rfl
  ·rcases hp.Ni c hc hs k hk hd1 hd2 with h5|h5
   ·exact .inl h5
   ·exact .inr (h5.mono fun c h=> .inl h)
  ·exact absurd (ht.QD hc hd1 hd2) hna
theorem sv{Q:Nat→Prop}:∀n,¬Q 0→Q n→∃c,c<n∧¬Q c∧Q (c+1)
 |0,h0,hn=>absurd hn h0
 |n+1,h0,hn=>by
  by_cases h:Q n
  ·obtain⟨c,h1,h2⟩:=sv n h0 h
   exact⟨c,by omega,h2⟩
  ·exact⟨n,by omega,h,hn⟩
theorem Part.whole(ht:Trace T call ops st en val post 0 ops)(hp:Part ops.length st post S m π₀ δ₀ D₀ H w₀ π D w)(h0:cC (st 0) (st ops.length) π₀ δ₀ D₀ H w₀)(hall:∀c,c<ops.length→S c):Post (st 0) (st ops.length) π₀ δ₀ D₀ H w₀ π D w:=by
 have hm:m=ops.length:=by
  rcases hp.stop with h|⟨_,h⟩
  ·exact h
  ·rcases Nat.lt_or_ge m ops.length with h2|h2
   ·exact absurd (hall m h2) h
   ·have:=hp.UM;omega
 subst hm
 have hmade:∀k,Made ops.length st S k→(st 0).next≤k∧k<(st ops.length).next:=fun k ⟨c,hc,_,h1,h2⟩=>by
  have:=ht.df (i:=0) (j:=c) (by omega) (by omega)
  have:=ht.df (i:=c+1) (j:=ops.length) (by omega) (by omega)
  omega
 have hlow:∀c,c<ops.length→(st ops.length).low≤(post c).low∧(st (c+1)).next≤(st ops.length).next:=fun c hc=>
  ⟨Nat.le_trans (ht.mono (i:=c+1) (j:=ops.length) (by omega) (by omega)).low (ht.at (List.getElem?_eq_getElem hc)).low,ht.df (by omega) (by omega)⟩
 have hwf:∀c,c≤ops.length→WF (st c):=fun c hc=>(ht.mono (i:=0) (j:=c) (by omega) hc).wf h0.wf
 refine⟨ht.mono (by omega) (by omega),hp.rel.weaken fun k hk=>?_,fun k p hk=>?_,fun k p hk=>?_,hp.lu,fun k hk=>?_,fun k hk h1 h2=>?_,fun k p hk=>?_,hp.bm,hp.Fw,hp.fr⟩
 ·rcases hk with hk|⟨c,hc,hs,hd1,hd2⟩
  ·exact .inl hk
  ·exact .inr ⟨(ht.mono (i:=c+1) (j:=ops.length) (by omega) (by omega)).dead (hwf _ (by omega)) hd1,fun h=>hd2 ((ht.mono (i:=0) (j:=c) (by omega) (by omega)).dead h0.wf h)⟩
 ·rcases hp.sub k p hk with h|⟨h1,h2⟩
  ·exact .inl h
  ·exact .inr ⟨h1,(hmade k h2).1,(hmade k h2).2⟩
 ·rcases hp.kept k p hk with h|⟨h1,h2,c,hc,hs,h3,h4⟩
  ·exact .inl h
  ·have:=hlow c hc
   exact .inr ⟨h1,h2,by omega,by omega⟩
 ·rcases hp.o8 k hk with h|⟨c,hc,hs,h3,h4⟩
  ·exact .inl h
  ·have:=hlow c hc
   exact .inr ⟨(ht.mono (i:=c+1) (j:=ops.length) (by omega) (by omega)).dead (hwf _ (by omega)) h3,by omega⟩
 ·obtain⟨c,hc,h3,h4⟩:=sv (Q:=fun c=>bd (st c) k) ops.length h2 h1
  have hn:=ht.df (i:=0) (j:=c) (by omega) (by omega)
  rcases hp.Ni c hc (hall c hc) k (by omega) h4 h3 with h5|h5
  ·exact h5
  ·have:=(hmade k h5).1;omega
 ·rcases hp.lF k p hk with h|h
  ·exact .inl (hmade _ h).1
  ·exact .inr h
end
open Classical in
def ji(ops:List Oper)(en0:Env)(val:Nat→Value)(S:Nat→Prop):Nat→Env
 |0=>en0
 |k+1=>if S k then(match ops[k]? with|some o=>put (ji ops en0 val S k) (val k) o.dst|none=>ji ops en0 val S k)else ji ops en0 val S k
section
variable {ops:List Oper} {en0:Env} {val:Nat→Value} {S:Nat→Prop}
theorem xM(k:Nat):ji ops en0 val S (k+1)= @ite _ (S k) (Classical.propDecidable _) (match ops[k]? with|some o=>put (ji ops en0 val S k) (val k) o.dst|none=>ji ops en0 val S k) (ji ops en0 val S k):=rfl
theorem tt(e:Env)(v:Value)(d:Option Tmp)(t:Tmp):(put e v d).get t=if d=some t then some v else e.get t:=by
 cases d with
 |none=>simp [put]
 |some d=>
  show(e.set d v).get t=_
  rw [Tr.dm]
  by_cases h:t=d
  ·subst h;simp
  ·rw [if_neg h,if_neg (by simp;exact fun e=>h e.symm)]
theorem ez{k:Nat}{t:Tmp}(h:S k→∀o,ops[k]? =some o→o.dst≠some t):(ji ops en0 val S (k+1)).get t=(ji ops en0 val S k).get t:=by
 rw [xM]
 split
 ·rename_i hs
  cases ho:ops[k]? with
  |none=>rfl
  |some o=>
   simp only
   rw [tt,if_neg (h hs o ho)]
 ·rfl
theorem mQ{k:Nat}{t:Tmp}{o:Oper}(hs:S k)(ho:ops[k]? =some o)(hd:o.dst=some t):(ji ops en0 val S (k+1)).get t=some (val k):=by
 rw [xM,if_pos hs,ho]
 simp only
 rw [tt,if_pos hd]
theorem qX{a:Nat}{t:Tmp}:∀(b:Nat),a≤b→(∀k,a≤k→k<b→S k→∀o,ops[k]? =some o→o.dst≠some t)→(ji ops en0 val S b).get t=(ji ops en0 val S a).get t:=by
  intro b
  induction b with
  | zero => intro h _; have : a = 0 := by omega
            subst this;rfl
  |succ b ih=>
    intro h hw
    rcases Nat.lt_or_ge a (b+1)with h1|h1
    · rw [ez (hw b (by omega) (by omega)),ih (by omega) fun k hk1 hk2=>hw k hk1 (by omega)]
    · have:a=b+1:=by omega
      subst this;rfl
theorem mh{en:Nat→Env}{t:Tmp}(hen:∀k o,ops[k]? =some o→en (k+1)=put (en k) (val k) o.dst){i:Nat}(hi:i≤ops.length)(hw:∀k o,k<i→ops[k]? =some o→o.dst=some t→S k):∀k,k≤i→(ji ops (en 0) val S k).get t=(en k).get t
 |0,_=>rfl
 |k+1,hk=>by
  have ih:=mh hen hi hw k (by omega)
  have ho:ops[k]? =some ops[k]:=List.getElem?_eq_getElem (by omega)
  rw [hen k _ ho,tt]
  by_cases hd:ops[k].dst=some t
  ·rw [if_pos hd,mQ (hw k _ (by omega) ho hd) ho hd]
  ·rw [if_neg hd,ez (fun _ o ho2=>by rw [ho]at ho2;cases ho2;exact hd),ih]
theorem JG{i:Nat}{o:Oper}(ho:ops[i]? =some o)(hni:¬S i)(hlater:∀t,o.dst=some t→∀k q,i<k→ops[k]? =some q→q.dst=some t→¬S k)(t:Tmp):
  (ji ops en0 val (fun c=>S c∨c=i) ops.length).get t=if o.dst=some t then some (val i)else(ji ops en0 val S ops.length).get t:=by
 have hil:i<ops.length:=(List.getElem?_eq_some_iff.1 ho).1
 split
 ·rename_i hd
  rw [qX (a:=i+1) ops.length (by omega) fun k hk1 hk2 hs q hq hqd=>?_,mQ (.inr rfl) ho hd]
  rcases hs with hs|rfl
  ·exact hlater t hd k q (by omega) hq hqd hs
  ·omega
 ·rename_i hd
  have key:∀k,(ji ops en0 val (fun c=>S c∨c=i) k).get t=(ji ops en0 val S k).get t:=by
   intro k
   induction k with
   |zero=>rfl
   |succ k ih=>
    by_cases hki:k=i
    ·subst hki
     rw [ez (fun _ q hq=>by rw [ho]at hq;cases hq;exact hd),ez (fun hs=>absurd hs hni),ih]
    ·by_cases hs:S k
     ·cases hq:ops[k]? with
      |none=>rw [ez (fun _ q h=>by rw [hq]at h;cases h),ez (fun _ q h=>by rw [hq]at h;cases h),ih]
      |some q=>
       by_cases hqd:q.dst=some t
       ·rw [mQ (.inl hs) hq hqd,mQ hs hq hqd]
       ·rw [ez (fun _ q' h=>by rw [hq]at h;cases h;exact hqd),ez (fun _ q' h=>by rw [hq]at h;cases h;exact hqd),ih]
     ·rw [ez (fun h=>by rcases h with h|h<;>contradiction),ez (fun h=>absurd h hs),ih]
  exact key ops.length
theorem n8.congr{ds:List Deferred}{N:Nat}{π:aK}{D:Nat→Prop}{e e':Env}{a:Act}(h:n8 ds N π D e a)(he:∀t,e'.get t=e.get t):n8 ds N π D e' a:=⟨h.size,fun t=>by rw [he];exact h.tmp t,h.defers⟩
theorem JH{en:Nat→Env}(hen:∀k o,ops[k]? =some o→en (k+1)=put (en k) (val k) o.dst)(hok:zy ops)(hS:mf ops S){i:Nat}{o:Oper}(ho:ops[i]? =some o)(hni:¬S i)
  (hpre:∀o,ops[i]? =some o→∀e∈o.after.toList,cE e=true→S e.on) {t:Tmp} (ht:t∈il ops o):(ji ops (en 0) val S ops.length).get t=(en i).get t∧∀k q,i<k→ops[k]? =some q→q.dst=some t→¬S k:=by
 have hil:i<ops.length:=(List.getElem?_eq_some_iff.1 ho).1
 have hlater:∀k q,i<k→ops[k]? =some q→q.dst=some t→¬S k:=fun k q hk hq hqd hs=>by
  rcases hok.FE i o ho t ht k q hq hqd with h|h|h
  ·omega
  ·have:=h.lt hok.back;omega
  ·exact hni (h.mem hS fun o ho e he hb=>hS k hs o ho e he hb)
 have hearly:∀k q,k<i→ops[k]? =some q→q.dst=some t→S k:=fun k q hk hq hqd=>by
  rcases hok.FE i o ho t ht k q hq hqd with h|h|h
  ·omega
  ·exact h.mem hS hpre
  ·have:=h.lt hok.back;omega
 refine⟨?_,hlater⟩
 rw [qX (a:=i) ops.length (by omega) fun k hk1 hk2 hs q hq hqd=>?_]
 ·exact mh hen (by omega) hearly i (Nat.le_refl _)
 ·rcases Nat.lt_or_ge i k with h|h
  ·exact hlater k q h hq hqd hs
  ·have:k=i:=by omega
   subst this;exact hni hs
end
end Go.az
namespace Go.az
theorem xa(e:Edge):Region.binds .any e=cE e:=by
 unfold cE Region.binds
 cases e.ground<;>rfl
theorem Hq{e:Edge}(h:cE e=true)(md:Region.Mode):Region.binds md e=true:=by
 unfold cE at h
 unfold Region.binds
 cases hg:e.ground<;>rw [hg]at h<;>first|rfl|cases h
theorem xN{α:Type}{p q:α→Bool}:∀(l:List α),(∀x∈l,q x=true→p x=true)→(∃x∈l,p x=true∧q x=false)→l.countP q<l.countP p
 | [],_,⟨x,hx,_⟩=>by simp at hx
 |a::l,h,⟨x,hx,hp,hq⟩=>by
  have hle:l.countP q≤l.countP p:=List.countP_mono_left fun y hy=>h y (by simp [hy])
  rw [List.countP_cons,List.countP_cons]
  rcases List.mem_cons.1 hx with rfl|hx
  ·rw [if_pos hp,if_neg (by rw [hq];simp)];omega
  ·have:=xN l (fun y hy=>h y (by simp [hy])) ⟨x,hx,hp,hq⟩
   by_cases hqa:q a=true
   ·rw [if_pos hqa,if_pos (h a (by simp) hqa)];omega
   ·rw [if_neg hqa];split<;>omega
section
variable {T:ew} {call:cD} {st:Nat→aD} {en:Nat→Env} {val:Nat→Value} {post:Nat→aD}
variable {π₀:aK} {δ₀ D₀:Nat→Prop} {H:Nat→Option aN} {w₀:World} {π:aK} {D:Nat→Prop} {w:World} {S:Nat→Prop} {m:Nat}
theorem Part.lv{ops:List Oper}(ht:Trace T call ops st en val post 0 ops)(h0:cC (st 0) (st ops.length) π₀ δ₀ D₀ H w₀)(hp:Part ops.length st post S m π₀ δ₀ D₀ H w₀ π D w):eV π₀ D₀ π D:=
 ⟨fun k i hk=>(hp.kept k i hk).imp id fun h=>⟨h.1,h.2.1⟩,fun k hk hd=>by
  refine⟨?_,hp.lu k hd⟩
  cases h1:π k with
  |none=>rfl
  |some p=>
   rcases hp.sub k p h1 with h2|⟨_,c,hc,_,h2,h3⟩
   ·rw [hk]at h2;cases h2
   ·have:=ht.df (i:=0) (j:=c) (by omega) (by omega)
    have:=ht.df (i:=c+1) (j:=ops.length) (by omega) (by omega)
    rcases h0.dead k hd with h4|h4
    ·have:=cI h0.wf h4;omega
    ·omega,hp.Fw.1⟩
theorem zD{ops:List Oper}{o:Oper}{e e':Env}(h:∀t∈qW ops o,e.get t=e'.get t):wanted ops e o.guard=wanted ops e' o.guard:=by
 unfold wanted
 unfold qW at h
 cases hg:o.guard with
 |none=>rfl
 |some p=>
  obtain⟨j,b⟩:=p
  rw [hg]at h
  simp only at h ⊢
  cases hq:aU j ops with
  |none=>rfl
  |some q=>
   rw [hq]at h
   simp only at h ⊢
   unfold lT
   cases hd:q.dst with
   |none=>rfl
   |some d=>
    rw [hd]at h
    simp only
    rw [h d (by simp)]
def dc(n:Nat)(listed:Array Bool):Nat→Prop:=fun c=>c<n∧listed.getD c false=true
theorem BJ{n:Nat}{listed:Array Bool}(hs:listed.size=n){i:Nat}(hi:i<n):dc n (listed.setIfInBounds i true)=fun c=>dc n listed c∨c=i:=by
 funext c
 apply propext
 unfold dc
 by_cases h:i=c
 ·subst h
  constructor
  ·intro _;exact .inr rfl
  ·intro _
   refine⟨hi,?_⟩
   simp [hs,hi]
 ·rw [getD_set_ne false h]
  constructor
  ·intro h2;exact .inl h2
  ·intro h2;exact h2.resolve_right (Ne.symm h)
variable {P:Program} {G:bP} {N:Nat} {ops:Array Oper}
theorem DO(hT:bw P T)(hc:fT P G call)(hops:∀o∈ops.toList,uH G N o)(hgd:∀o∈ops.toList,∀j b,o.guard=some (j,b)→j<ops.size)(hok:zy ops.toList)
  (ht:Trace T call ops.toList st en val post 0 ops.toList) (h0:cC (st 0) (st ops.toList.length) π₀ δ₀ D₀ H w₀) (hg:eW G π₀ D₀) {Q:Exit→Act→World→Prop}
  (hq:∀π D w a,jJ N π D (en ops.toList.length) a→Post (st 0) (st ops.toList.length) π₀ δ₀ D₀ H w₀ π D w→Q .normal a w):
  ∀(fuel:Nat)(listed:Array Bool)(m:Nat)(π:aK)(D:Nat→Prop)(w:World)(a:Act),listed.size=ops.size→(List.range ops.size).countP (fun c=> !listed.getD c true)≤fuel→mf ops.toList (dc ops.size listed)→
   Part ops.toList.length st post (dc ops.size listed) m π₀ δ₀ D₀ H w₀ π D w→jJ N π D (ji ops.toList (en 0) val (dc ops.size listed) ops.toList.length) a→wpAny P .any ops Q fuel listed a w:=by
 have hen:∀k o,ops.toList[k]? =some o→en (k+1)=put (en k) (val k) o.dst:=fun k o ho=>(ht.at ho).env
 have hlen:ops.toList.length=ops.size:=rfl
 have done:∀(listed:Array Bool)(m:Nat)(π:aK)(D:Nat→Prop)(w:World)(a:Act),(∀c,c<ops.size→dc ops.size listed c)→Part ops.toList.length st post (dc ops.size listed) m π₀ δ₀ D₀ H w₀ π D w→
   jJ N π D (ji ops.toList (en 0) val (dc ops.size listed) ops.toList.length) a→Q .normal a w:=fun listed m π D w a hall hp he=>by
  refine hq π D w a (he.congr fun t=>?_) (hp.whole ht h0 hall)
  exact(mh hen (Nat.le_refl _) (fun k o hk _ _=>hall k hk) _ (Nat.le_refl _)).symm
 have whole:∀(listed:Array Bool),listed.size=ops.size→Region.ready .any ops listed=[]→∀c,c<ops.size→dc ops.size listed c:=fun listed hs hr c=>by
  induction c using Nat.strongRecOn with
  |_ c ih=>
   intro hcn
   refine⟨hcn,Classical.byContradiction fun hn=>?_⟩
   have ho:ops[c]? =some ops[c]:=by simp [hcn]
   have ho':ops.toList[c]? =some ops[c]:=by rw [Array.getElem?_toList];exact ho
   have:c∈Region.ready .any ops listed:=by
    rw [mem_ready]
    refine⟨?_,ops[c],ho,fun e he hbd=>?_⟩
    ·have hcl:c<listed.size:=by omega
     simp only [Array.getD_eq_getD_getElem?,Array.getElem?_eq_getElem hcl,Option.getD_some]at hn ⊢
     simpa using hn
    ·have hlt:=hok.back c _ ho' e (by simpa using he) (by rw [←xa];exact hbd)
     exact(ih e.on hlt (by omega)).2
   rw [hr]at this
   cases this
 intro fuel
 induction fuel with
 |zero=>
  intro listed m π D w a hs hf hcl hp he
  have hall:∀c,c<ops.size→dc ops.size listed c:=fun c hcn=>by
   refine⟨hcn,?_⟩
   have h1:(List.range ops.size).countP (fun c=> !listed.getD c true)=0:=by omega
   rw [List.countP_eq_zero]at h1
   have h2:=h1 c (List.mem_range.2 hcn)
   have hcl:c<listed.size:=by omega
   simp only [Array.getD_eq_getD_getElem?,Array.getElem?_eq_getElem hcl,Option.getD_some]at h2 ⊢
   simpa using h2
  refine⟨?_,done listed m π D w a hall hp he⟩
  rw [List.eq_nil_iff_forall_not_mem]
  intro c hcm
  rw [mem_ready]at hcm
  obtain⟨h1,o,ho,_⟩:=hcm
  have hcn:c<ops.size:=(Array.getElem?_eq_some_iff.1 ho).1
  have h2:=(hall c hcn).2
  have hcl:c<listed.size:=by omega
  simp only [Array.getD_eq_getD_getElem?,Array.getElem?_eq_getElem hcl,Option.getD_some]at h1 h2
  rw [h2]at h1;cases h1
 |succ fuel ih=>
  intro listed m π D w a hs hf hcl hp he
  refine⟨fun hr=>done listed m π D w a (whole listed hs hr) hp he,fun i hir=>?_⟩
  rw [mem_ready]at hir
  obtain⟨hni0,o,ho,hedges⟩:=hir
  have hin:i<ops.size:=(Array.getElem?_eq_some_iff.1 ho).1
  have ho':ops.toList[i]? =some o:=by rw [Array.getElem?_toList];exact ho
  have hmem:o∈ops.toList:=List.mem_of_getElem? ho'
  have hoo:=hops o hmem
  have hil:i<listed.size:=by omega
  have hni:¬dc ops.size listed i:=fun h=>by
   have h2:=h.2
   simp only [Array.getD_eq_getD_getElem?,Array.getElem?_eq_getElem hil,Option.getD_some]at h2 hni0
   rw [h2]at hni0;cases hni0
  have hpre:∀o,ops.toList[i]? =some o→∀e∈o.after.toList,cE e=true→dc ops.size listed e.on:=fun o2 ho2 e hee hb=>by
   rw [ho']at ho2;cases ho2
   have hlt:=hok.back i o ho' e hee hb
   exact⟨by omega,hedges e (by simpa using hee) (Hq hb .any)⟩
  have hnamed:∀t∈il ops.toList o,_:=fun t htn=>JH (val:=val) hen hok hcl ho' hni hpre htn
  have hset:=BJ hs hin
  have hs':(listed.setIfInBounds i true).size=ops.size:=by rw [Array.size_setIfInBounds];exact hs
  have hf':(List.range ops.size).countP (fun c=> !(listed.setIfInBounds i true).getD c true)≤fuel:=by
   have:=xN (p:=fun c=> !listed.getD c true) (q:=fun c=> !(listed.setIfInBounds i true).getD c true) (List.range ops.size) (fun c _ h=>by
    by_cases e:i=c
    ·subst e;simp [hil]at h
    ·rw [getD_set_ne true e]at h;exact h) ⟨i,List.mem_range.2 hin,by simp only [hni0];rfl,by simp [hil]⟩
   omega
  have hcl':mf ops.toList (dc ops.size (listed.setIfInBounds i true)):=by
   rw [hset]
   intro c hcs o2 ho2 e hee hb
   rcases hcs with hcs|rfl
   ·exact .inl (hcl c hcs o2 ho2 e hee hb)
   ·exact .inl (hpre o2 ho2 e hee hb)
  have henv:∀{π':aK}{D':Nat→Prop}{v':Value},eV π D π' D'→VR π' D' (val i) v'→jJ N π' D' (ji ops.toList (en 0) val (dc ops.size (listed.setIfInBounds i true)) ops.toList.length) (a.put o.dst v'):=fun hst hv=>by
   refine n8.congr ((he.mono hst).put hv hoo.dst) fun t=>?_
   rw [hset,JG ho' hni (fun t htd=>(hnamed t (by simp [il,htd])).2) t,tt]
  have hglob:eW G π D:=hg.mono (hp.lv ht h0)
  have hguard:∀{r:Bool},wanted ops.toList (en i) o.guard=some r→Region.wanted o (yielded ops a.tmps)=r:=fun hr=>
   xJ he hops o.guard (hgd o hmem) o rfl ((zD fun t htg=>(hnamed t (by simp [il,htg])).1).trans hr)
  have hopnd:∀x∈o.op.operands,VR π D (env (en i) x) (a.eval x):=fun x hx=>by
   have h1:=he.eval hglob (hoo.QC x hx)
   have h2:env (en i) x=env (ji ops.toList (en 0) val (dc ops.size listed) ops.toList.length) x:=by
    cases x with
    |tmp t=>
     have htn:t∈il ops.toList o:=by
      simp only [il,List.mem_append,JF,List.mem_filterMap]
      exact .inl (.inr ⟨.tmp t,by simpa using hx,rfl⟩)
     show fM _=fM _
     rw [(hnamed t htn).1]
    |_=>rfl
   rw [h2];exact h1
  have hgood:=ht.at ho'
  unfold wpOp
  rw [ho]
  simp only
  rcases hgood.run with⟨hw,hrun,_⟩|⟨hw,hpost,jk⟩
  ·rw [if_pos (hguard hw)]
   refine .inl ?_
   cases hmm:mem o.op with
   |false=>
    have hna:¬ff ops.toList en i:=fun⟨o2,ho2,_,hm2⟩=>by rw [ho']at ho2;cases ho2;rw [hmm]at hm2;cases hm2
    have hop:zl o.op T (env (en i)) (reset (st i))=some (val i,post i):=by
     have h1:gX T call o.op (env (en i)) (reset (st i))=zl o.op T (env (en i)) (reset (st i)):=by
      unfold gX
      cases hoc:o.op<;>rw [hoc]at hmm<;>first|rfl|cases hmm
     rw [←h1];exact hrun
    obtain⟨_,h2⟩:=BD hT hmm hop hopnd
    obtain⟨v',h3,h4⟩:=h2 w
    unfold Oper.wp
    rw [h3]
    refine ih _ m π D w _ hs' hf' hcl' ?_ (henv (.refl π D) h4)
    rw [hset]
    exact hp.idle ht hin hna
   |true=>
    have hact:ff ops.toList en i:=⟨o,ho',hw,hmm⟩
    have hturn:wZ ops.toList en (dc ops.size listed) i:=⟨hin,hact,hni,hpre⟩
    have hpr:=hturn.Va ht hcl hok.back hp h0
    refine mb.wp (BG hT hc hglob (Nat.le_refl _) hrun hopnd hpr) fun v' π' D' w' hv hpo=>?_
    obtain⟨m',hp'⟩:=hturn.Vc ht hcl hok.back hp h0 hpo
    refine ih _ m' π' D' w' _ hs' hf' hcl' ?_ (henv (hpo.lv hpr) hv)
    rw [hset]
    exact hp'
  ·have hna:¬ff ops.toList en i:=fun⟨o2,ho2,hw2,_⟩=>by rw [ho']at ho2;cases ho2;rw [hw]at hw2;cases hw2
   rw [if_neg (by rw [hguard hw];simp)]
   refine ih _ m π D w _ hs' hf' hcl' ?_ (henv (.refl π D) (by rw [jk];exact BH π D))
   rw [hset]
   exact hp.idle ht hin hna
end
end Go.az
namespace Go.az
def JI(ops:Array Oper):Bool:=ops.toList.all fun o=>match o.guard with|some (j,_)=>Nat.blt j ops.size|none=>true
def ki(G:bP)(N:Nat)(ops:Array Oper)(draw:Bool):Bool:=
 and (and (ops.toList.all (qV G N)) (JI ops)) (iff draw (uM ops.toList (Ba ops.toList (nat_lit 0) .leaf) ops.toList 0) true)
def jB:Code→Bool
 | .seq a b=>and (jB a) (jB b)
 | .cond _ a b=>and (jB a) (jB b)
 | .block _ c=>jB c
 | .loop c=>jB c
 | .scope _=>false
 |_=>true
def codeOk(G:bP)(N:Nat):Code→Bool
 | .rangeFunc g ps a c=>and (and (qU G g) (ps.toList.all fun t=>Nat.blt t N)) (and (and (jB a) (jB c)) (and (codeOk G N a) (codeOk G N c)))
 | .region _ ops draw=>ki G N ops draw
 | .seq a b=>and (codeOk G N a) (codeOk G N b)
 | .cond c a b=>and (qU G c) (and (codeOk G N a) (codeOk G N b))
 | .block _ c=>codeOk G N c
 | .loop c=>codeOk G N c
 | .scope c=>codeOk G N c
 |_=>true
theorem sw{G:bP}{N:Nat}{ops:Array Oper}{draw:Bool}(h:ki G N ops draw=true):
  (∀o∈ops.toList,uH G N o)∧(∀o∈ops.toList,∀j b,o.guard=some (j,b)→j<ops.size)∧(draw=true→zy ops.toList):=by
 unfold ki at h
 rw [Bool.and_eq_true,Bool.and_eq_true]at h
 obtain⟨⟨h1,h2⟩,h3⟩:=h
 refine⟨fun o ho=>Hn (List.all_eq_true.1 h1 o ho),fun o ho j b hg=>?_,fun hd=>?_⟩
 ·have:=List.all_eq_true.1 h2 o ho
  rw [hg]at this
  exact(bK _ _).1 this
 ·rw [hd,iff_true]at h3
  exact Ho h3
theorem FF{P:Program}{c:Code}{Q:Exit→Act→World→Prop}(In:Nat→Act→World→Prop)(h0:∀a w,¬In 0 a w)(round:∀n a w,In (n+1) a w→c.wp P (Exit.then (In n) Q) a w):∀n a w,In n a w→(Code.loop c).wp P Q a w:=by
 intro n a w h b k cs
 have key:∀n a w,In n a w→∃e a' w',Q e a' w'∧Arrives P (lone (b.at a (.code c:: .inLoop c::k)) cs w) b k cs e a' w':=by
  intro n
  induction n with
  |zero=>intro a w h;exact absurd h (h0 a w)
  |succ n ih=>
   intro a w hI
   obtain⟨e,a₁,w₁,hq,harr⟩:=round n a w hI b (.inLoop c::k) cs
   cases e with
   |normal=>
    obtain⟨e₂,a₂,w₂,hq₂,harr₂⟩:=ih a₁ w₁ hq
    exact⟨e₂,a₂,w₂,hq₂,.of_steps (Steps.trans harr (.one step_inLoop)) harr₂⟩
   |exit id=>exact⟨_,a₁,w₁,hq,.pass (x:= .inLoop c) rfl (fun _ _=> .inl (by simp)) harr⟩
   |goto l=>exact⟨_,a₁,w₁,hq,.pass (x:= .inLoop c) rfl (fun _ _=> .inl (by simp)) harr⟩
   |ret=>exact⟨_,a₁,w₁,hq,.pass (x:= .inLoop c) rfl (fun _ _=> .inl (by simp)) harr⟩
   |panic ch=>exact⟨_,a₁,w₁,hq,.pass (x:= .inLoop c) rfl (fun _ _=> .inl (by simp)) harr⟩
   |outgrown=>exact⟨_,a₁,w₁,hq,.pass (x:= .inLoop c) rfl (fun _ _=> .inl (by simp)) harr⟩
 obtain⟨e,a',w',hq,harr⟩:=key n a w h
 exact⟨e,a',w',hq,.of_steps (.one step_loop) harr⟩
def uN:gn→Exit
 | .normal=> .normal
 | .exit id=> .exit id
 | .ret=> .ret
section
variable {P:Program} {T:ew} {call:cD} {lf:Nat}
theorem jC{x:gn}{a b:Out}{r:gn×Env×aD}(h:iF x a b=some r):(x= .normal∧a=some r)∨(x≠ .normal∧b=some r):=by
 cases x with
 |normal=>exact .inl ⟨rfl,h⟩
 |exit id=>exact .inr ⟨by simp,h⟩
 |ret=>exact .inr ⟨by simp,h⟩
theorem qY{body:Env→aD→Out}(hb:∀e σ x e' σ',body e σ=some (x,e',σ')→cm σ σ'):∀(n:Nat)(e:Env)(σ:aD)(x:gn)(e':Env)(σ':aD),iter body n e σ=some (x,e',σ')→cm σ σ'
 |0,e,σ,x,e',σ',h=>by cases (show none=some (x,e',σ')from h)
 |n+1,e,σ,x,e',σ',h=>by
  obtain⟨y,e1,σ1,h1,h2⟩:=aq (show au (body e σ) (fun x e' σ'=>iF x (iter body n e' σ') (some (x,e',σ')))=some (x,e',σ')from h)
  have m1:=hb _ _ _ _ _ h1
  rcases jC h2 with⟨_,h3⟩|⟨_,h3⟩
  ·exact m1.trans (qY hb n _ _ _ _ _ h3)
  ·cases h3;exact m1
theorem gw(hm:iR call):∀(c:Code)(e:Env)(σ:aD)(x:gn)(e':Env)(σ':aD),cz c T call lf e σ=some (x,e',σ')→cm σ σ':=by
 intro c
 induction c with
 |skip=>intro e σ x e' σ' h;cases (show some (gn.normal,e,σ)=some (x,e',σ')from h);exact .refl σ
 |region id ops draw=>
  intro e σ x e' σ' h
  obtain⟨e1,σ1,h1,h2⟩:=ae (show ak (gT T call ops.toList (eF ops.toList) draw ops.toList 0 e σ) (fun e' σ'=>some (gn.normal,e',σ'))=some (x,e',σ')from h)
  cases h2
  exact jz hm _ _ _ _ _ _ h1
 |seq a b iha ihb=>
  intro e σ x e' σ' h
  obtain⟨y,e1,σ1,h1,h2⟩:=aq (show au (cz a T call lf e σ) (fun x e' σ'=>iF x (cz b T call lf e' σ') (some (x,e',σ')))=some (x,e',σ')from h)
  have m1:=iha _ _ _ _ _ h1
  rcases jC h2 with⟨_,h3⟩|⟨_,h3⟩
  ·exact m1.trans (ihb _ _ _ _ _ h3)
  ·cases h3;exact m1
 |cond c a b iha ihb=>
  intro e σ x e' σ' h
  obtain⟨t,h1,h2⟩:=aa (show andThen (sd (env e c)) (fun t=>iff t (cz a T call lf e σ) (cz b T call lf e σ))=some (x,e',σ')from h)
  cases t with
  |true=>exact iha _ _ _ _ _ h2
  |false=>exact ihb _ _ _ _ _ h2
 |block id c ih=>
  intro e σ x e' σ' h
  obtain⟨y,e1,σ1,h1,h2⟩:=aq (show au (cz c T call lf e σ) (fun x e' σ'=>some (leaves id x,e',σ'))=some (x,e',σ')from h)
  cases h2
  exact ih _ _ _ _ _ h1
 |loop c ih=>
  intro e σ x e' σ' h
  exact qY (fun e σ x e' σ' h=>ih e σ x e' σ' h) lf e σ x e' σ' (show iter (cz c T call lf) lf e σ=some (x,e',σ')from h)
 |rangeFunc=>intro e σ x e' σ' h;cases (show none=some (x,e',σ')from h)
 |exit id=>intro e σ x e' σ' h;cases (show some (gn.exit id,e,σ)=some (x,e',σ')from h);exact .refl σ
 |scope c ih=>intro e σ x e' σ' h;exact ih e σ x e' σ' h
 |label=>intro e σ x e' σ' h;cases (show some (gn.normal,e,σ)=some (x,e',σ')from h);exact .refl σ
 |goto=>intro e σ x e' σ' h;cases (show none=some (x,e',σ')from h)
 |ret=>intro e σ x e' σ' h;cases (show some (gn.ret,e,σ)=some (x,e',σ')from h);exact .refl σ
 |refuse=>intro e σ x e' σ' h;cases (show none=some (x,e',σ')from h)
def zE(P:Program)(G:bP)(N:Nat)(c:Code)(run:Env→aD→Out):Prop:=
 ∀e σ x e' σ',run e σ=some (x,e',σ')→σ.low≤σ.next→∀π δ D H w a,cC σ σ' π δ D H w→jJ N π D e a→eW G π D→∀Q:Exit→Act→World→Prop,
  (∀π' D' w' a',jJ N π' D' e' a'→Post σ σ' π δ D H w π' D' w'→Q (uN x) a' w')→c.wp P Q a w
theorem uO{G:bP}{N:Nat}(hx:P.follows .mixedOrders=true)(hT:bw P T)(hc:fT P G call)(hm:iR call){id:Nat}{ops:Array Oper}{draw:Bool}(hok:ki G N ops draw=true):
  zE P G N (.region id ops draw) (cz (.region id ops draw) T call lf):=by
 intro e σ x e' σ' h hlow π δ D H w a hp he hg Q hq
 obtain⟨hops,hgd,hdr⟩:=sw hok
 obtain⟨e1,σ1,h1,h2⟩:=ae (show ak (gT T call ops.toList (eF ops.toList) draw ops.toList 0 e σ) (fun e' σ'=>some (gn.normal,e',σ'))=some (x,e',σ')from h)
 cases h2
 cases draw with
 |false=>
  apply wp_region
  have:=n9 hT hc hm hops hgd (Q:=Q) ops.toList 0 e σ e' σ' π δ D w a rfl (by simp) h1 hlow hp he hg hq
  rw [←List.range_eq_range']at this
  exact this
 |true=>
  have hd:=hdr rfl
  obtain⟨st,en,val,post,g1,g2,g3,g4,g5⟩:=py hm ops.toList 0 e σ e' σ' hlow h1
  rw [Nat.zero_add]at g3 g4
  have h0:cC (st 0) (st ops.toList.length) π δ D H w.drew:=by rw [g1,g3];exact hp.drew
  have any:wpAny P .any ops Q ops.size (Array.replicate ops.size false) a w.drew:=by
   have hnone:dc ops.size (Array.replicate ops.size false)=fun _=>False:=by
    funext c
    apply propext
    refine⟨fun h=>?_,fun h=>h.elim⟩
    obtain⟨h5,h6⟩:=h
    simp [h5]at h6
   obtain⟨m,hpart⟩:=Part.start g5 h0
   refine DO hT hc hops hgd hd g5 h0 hg (fun π' D' w' a' he' hpo=>?_) ops.size _ m π D w.drew a (by simp) (Nat.le_trans List.countP_le_length (by simp)) ?_ ?_ ?_
   ·rw [g4]at he'
    rw [g1,g3]at hpo
    exact hq π' D' w' a' he' hpo.drew
   ·rw [hnone];exact fun i hi=>hi.elim
   ·rw [hnone];exact hpart
   ·rw [hnone]
    refine he.congr fun t=>?_
    rw [qX (a:=0) _ (by omega) fun k _ _ hs=>hs.elim]
    show(en 0).get t=_
    rw [g2]
  refine wp_region_draw fun t=>?_
  show wpOps P ops Q _ a w.drew
  unfold Region.schedule
  rw [hx,Bool.true_or,if_pos rfl]
  exact wpAny_sound ops.size t _ a _ any
theorem JJ{G:bP}{N:Nat}(hx:P.follows .mixedOrders=true)(hT:bw P T)(hc:fT P G call)(hm:iR call):∀(c:Code),codeOk G N c=true→zE P G N c (cz c T call lf):=by
 intro c
 induction c with
 |skip=>
  intro _ e σ x e' σ' h hlow π δ D H w a hp he hg Q hq
  cases (show some (gn.normal,e,σ)=some (x,e',σ')from h)
  exact wp_skip (hq π D w a he (.refl hp))
 |region id ops draw=>intro hok;exact uO hx hT hc hm hok
 |seq a b iha ihb=>
  intro hok e σ x e' σ' h hlow π δ D H w act hp he hg Q hq
  simp only [codeOk,Bool.and_eq_true]at hok
  obtain⟨y,e1,σ1,h1,h2⟩:=aq (show au (cz a T call lf e σ) (fun x e' σ'=>iF x (cz b T call lf e' σ') (some (x,e',σ')))=some (x,e',σ')from h)
  have m1:=gw hm _ _ _ _ _ _ h1
  apply wp_seq
  rcases jC h2 with⟨rfl,h3⟩|⟨hne,h3⟩
  ·have m2:=gw hm _ _ _ _ _ _ h3
   refine iha hok.1 e σ .normal e1 σ1 h1 hlow π δ D H w act (hp.first m1 m2) he hg _ fun π' D' w' a' he' hpo=>?_
   have hs:=hpo.lv (hp.first m1 m2)
   refine ihb hok.2 e1 σ1 x e' σ' h3 (Nat.le_trans m1.low (Nat.le_trans hlow m1.next)) π' _ D' H w' a' (hp.second hpo m2) he' (hg.mono hs) Q fun π2 D2 w2 a2 he2 hpo2=>?_
   exact hq π2 D2 w2 a2 he2 (Post.trans hp hpo hpo2)
  ·cases h3
   refine iha hok.1 e σ x e' σ' h1 hlow π δ D H w act hp he hg _ fun π' D' w' a' he' hpo=>?_
   cases x with
   |normal=>exact absurd rfl hne
   |exit id=>exact hq π' D' w' a' he' hpo
   |ret=>exact hq π' D' w' a' he' hpo
 |cond c a b iha ihb=>
  intro hok e σ x e' σ' h hlow π δ D H w act hp he hg Q hq
  simp only [codeOk,Bool.and_eq_true]at hok
  obtain⟨t,h1,h2⟩:=aa (show andThen (sd (env e c)) (fun t=>iff t (cz a T call lf e σ) (cz b T call lf e σ))=some (x,e',σ')from h)
  have hcv:=he.eval hg hok.1
  rw [gq h1]at hcv
  refine wp_cond hcv.dq ?_
  cases t with
  |true=>exact iha hok.2.1 e σ x e' σ' h2 hlow π δ D H w act hp he hg Q hq
  |false=>exact ihb hok.2.2 e σ x e' σ' h2 hlow π δ D H w act hp he hg Q hq
 |block id c ih=>
  intro hok e σ x e' σ' h hlow π δ D H w act hp he hg Q hq
  obtain⟨y,e1,σ1,h1,h2⟩:=aq (show au (cz c T call lf e σ) (fun x e' σ'=>some (leaves id x,e',σ'))=some (x,e',σ')from h)
  cases h2
  apply wp_block
  refine ih hok e σ y e' σ' h1 hlow π δ D H w act hp he hg _ fun π' D' w' a' he' hpo=>?_
  have hq':=hq π' D' w' a' he' hpo
  cases y with
  |normal=>exact hq'
  |ret=>exact hq'
  |exit id'=>
   show(if id'=id then Q .normal a' w' else Q (.exit id') a' w')
   have hq2:Q (uN (iff (Nat.beq id' id) .normal (.exit id'))) a' w':=hq'
   rw [iff_eq]at hq2
   by_cases hid:id'=id
   ·rw [if_pos ((beq_iff _ _).2 hid)]at hq2
    rw [if_pos hid];exact hq2
   ·rw [if_neg fun h=>hid ((beq_iff _ _).1 h)]at hq2
    rw [if_neg hid];exact hq2
 |loop c ih=>
  intro hok e σ x e' σ' h hlow π δ D H w act hp he hg Q hq
  have h':iter (cz c T call lf) lf e σ=some (x,e',σ'):=h
  refine FF (fun n a w=>∃e σ π δ D,iter (cz c T call lf) n e σ=some (x,e',σ')∧σ.low≤σ.next∧cC σ σ' π δ D H w∧jJ N π D e a∧eW G π D∧
   ∀π' D' w' a',jJ N π' D' e' a'→Post σ σ' π δ D H w π' D' w'→Q (uN x) a' w') ?_ ?_ lf act w ⟨e,σ,π,δ,D,h',hlow,hp,he,hg,hq⟩
  ·rintro a w ⟨e,σ,π,δ,D,h,_⟩
   cases (show none=some (x,e',σ')from h)
  ·rintro n a w ⟨e,σ,π,δ,D,h,hlow,hp,he,hg,hq⟩
   obtain⟨y,e1,σ1,h1,h2⟩:=aq (show au (cz c T call lf e σ) (fun x e' σ'=>iF x (iter (cz c T call lf) n e' σ') (some (x,e',σ')))=some (x,e',σ')from h)
   have m1:=gw hm _ _ _ _ _ _ h1
   rcases jC h2 with⟨rfl,h3⟩|⟨hne,h3⟩
   ·have m2:=qY (fun e σ x e' σ' h=>gw hm c e σ x e' σ' h) n _ _ _ _ _ h3
    refine ih hok e σ .normal e1 σ1 h1 hlow π δ D H w a (hp.first m1 m2) he hg _ fun π' D' w' a' he' hpo=>?_
    have hs:=hpo.lv (hp.first m1 m2)
    exact⟨e1,σ1,π',_,D',h3,Nat.le_trans m1.low (Nat.le_trans hlow m1.next),hp.second hpo m2,he',hg.mono hs,fun π2 D2 w2 a2 he2 hpo2=>hq π2 D2 w2 a2 he2 (Post.trans hp hpo hpo2)⟩
   ·cases h3
    refine ih hok e σ x e' σ' h1 hlow π δ D H w a hp he hg _ fun π' D' w' a' he' hpo=>?_
    cases x with
    |normal=>exact absurd rfl hne
    |exit id=>exact hq π' D' w' a' he' hpo
    |ret=>exact hq π' D' w' a' he' hpo
 |rangeFunc=>intro _ e σ x e' σ' h;cases (show none=some (x,e',σ')from h)
 |exit id=>
  intro _ e σ x e' σ' h hlow π δ D H w a hp he hg Q hq
  cases (show some (gn.exit id,e,σ)=some (x,e',σ')from h)
  exact wp_exit (hq π D w a he (.refl hp))
 |scope c ih=>
  intro hok e σ x e' σ' h hlow π δ D H w a hp he hg Q hq
  apply wp_scope_straight
  refine ih hok e σ x e' σ' h hlow π δ D H w a hp he hg _ fun π' D' w' a' he' hpo=>?_
  have hq':=hq π' D' w' a' he' hpo
  cases x<;>exact hq'
 |label=>
  intro _ e σ x e' σ' h hlow π δ D H w a hp he hg Q hq
  cases (show some (gn.normal,e,σ)=some (x,e',σ')from h)
  exact wp_label (hq π D w a he (.refl hp))
 |goto=>intro _ e σ x e' σ' h;cases (show none=some (x,e',σ')from h)
 |ret=>
  intro _ e σ x e' σ' h hlow π δ D H w a hp he hg Q hq
  cases (show some (gn.ret,e,σ)=some (x,e',σ')from h)
  exact wp_ret (hq π D w a he (.refl hp))
 |refuse=>intro _ e σ x e' σ' h;cases (show none=some (x,e',σ')from h)
end
end Go.az
namespace Go.az
section
variable {P:Program} {T:ew} {G:bP}
theorem BK{N N':Nat}(h:N≤N'){o:Oper}(ho:qV G N o=true):qV G N' o=true:=by
 unfold qV at ho ⊢
 rw [Bool.and_eq_true]at ho ⊢
 refine⟨ho.1,?_⟩
 have h2:=ho.2
 cases hd:o.dst with
 |none=>rfl
 |some d=>rw [hd]at h2;exact(bK _ _).2 (Nat.lt_of_lt_of_le ((bK _ _).1 h2) h)
theorem sx{N N':Nat}(h:N≤N'):∀c,codeOk G N c=true→codeOk G N' c=true:=by
 intro c
 induction c with
 |region id ops draw=>
  intro hc
  simp only [codeOk,ki,Bool.and_eq_true,List.all_eq_true]at hc ⊢
  exact⟨⟨fun o ho=>BK h (hc.1.1 o ho),hc.1.2⟩,hc.2⟩
 |seq a b iha ihb=>
  intro hc
  simp only [codeOk,Bool.and_eq_true]at hc ⊢
  exact⟨iha hc.1,ihb hc.2⟩
 |cond c a b iha ihb=>
  intro hc
  simp only [codeOk,Bool.and_eq_true]at hc ⊢
  exact⟨hc.1,iha hc.2.1,ihb hc.2.2⟩
 |block id c ih=>intro hc;exact ih hc
 |loop c ih=>intro hc;exact ih hc
 |scope c ih=>intro hc;exact ih hc
 |rangeFunc g ps a c iha ihc=>
  intro hc
  simp only [codeOk,Bool.and_eq_true,List.all_eq_true]at hc ⊢
  exact⟨⟨hc.1.1,fun t ht=>(bK _ _).2 (Nat.lt_of_lt_of_le ((bK _ _).1 (hc.1.2 t ht)) h)⟩,hc.2.1,iha hc.2.2.1,ihc hc.2.2.2⟩
 |_=>intro _;rfl
theorem sy:∀(l:List Value)(i:Nat)(e:Env)(t:Nat),(eG l i e).get t=if i≤t∧t<i+l.length then l[t-i]? else e.get t
 | [],i,e,t=>by
  rw [if_neg (by intro h;simp at h;omega)];rfl
 |v::l,i,e,t=>by
  show(eG l (i+1) (e.set i v)).get t=_
  rw [sy l (i+1)]
  by_cases h1:i+1≤t∧t<i+1+l.length
  ·rw [if_pos h1,if_pos (by simp;omega)]
   have:t-i=(t-(i+1))+1:=by omega
   rw [this,List.getElem?_cons_succ]
  ·rw [if_neg h1,Tr.dm]
   by_cases h2:t=i
   ·subst h2
    rw [if_pos rfl,if_pos (by simp)]
    simp
   ·rw [if_neg h2,if_neg (by simp at h1 ⊢;omega)]
theorem jJ.start{π:aK}{D:Nat→Prop}{args args':List Value}(h:aR π D args args')(n:Nat):
  jJ (args'.length+(n-args'.length)) π D (eG args 0 .leaf) {tmps:=(⟨args'⟩:Array Value)++Array.replicate (n-args'.length) undef,defers:=[]}:=by
 refine⟨by simp,fun t=>?_,rfl⟩
 rw [sy]
 by_cases ht:t<args.length
 ·rw [if_pos (by omega),Nat.sub_zero]
  obtain⟨v',h1,h2⟩:=h.get (List.getElem?_eq_getElem ht)
  rw [List.getElem?_eq_getElem ht]
  have h3:((⟨args'⟩:Array Value)++Array.replicate (n-args'.length) undef).getD t undef=v':=by
   rw [Array.getD_eq_getD_getElem?,Array.getElem?_append_left (by simp;have:=h.1;omega)]
   have:(⟨args'⟩:Array Value)[t]? =some v':=by simpa using h1
   rw [this];rfl
  show VR π D args[t] _
  rw [h3];exact h2
 ·rw [if_neg (by omega)]
  have h3:((⟨args'⟩:Array Value)++Array.replicate (n-args'.length) undef).getD t undef=undef:=by
   rw [Array.getD_eq_getD_getElem?,Array.getElem?_append_right (by simp;have:=h.1;omega)]
   rw [Array.getElem?_replicate]
   split<;>rfl
  show VR π D I4 _
  exact .any _
def FG(tmps:Array Value):ResultVar→Sem Value
 | .tmp t=>pure (tmps.getD t undef)
 | .cell a t=>do loadVar t (←asAddr (tmps.getD a undef))
theorem DP(fn:Func)(tmps:Array Value):Go.results fn tmps=(do let vs←fn.results.mapM (FG tmps);pure (if h:vs.size=1 then vs[0]else .tuple vs)):=by
 unfold Go.results
 congr 1
variable {σ:aD} {π:aK} {δ D:Nat→Prop} {H:Nat→Option aN} {w:World} {N:Nat} {e:Env} {a:Act}
theorem zF(hT:bw P T)(hp:cC σ σ π δ D H w)(he:jJ N π D e a):∀(rs:List ResultVar)(vs:List Value),bq T σ e rs=some vs→
  ∃vs',(rs.mapM (FG a.tmps)).run P w= .ok vs' w∧aR π D vs vs'
 | [],vs,h=>by
  cases (show some []=some vs from h)
  exact⟨[],rfl,.nil⟩
 | .tmp t::rs,vs,h=>by
  obtain⟨us,h1,h2⟩:=aa (show andThen (bq T σ e rs) (fun vs=>some (env e (.tmp t)::vs))=some vs from h)
  cases h2
  obtain⟨vs',h3,h4⟩:=zF hT hp he rs us h1
  refine⟨a.tmps.getD t undef::vs',?_,.cons (he.tmp t) h4⟩
  simp only [List.mapM_cons,FG,Sem.run_bind,Sem.run_pure,Result.andThen_ok,h3]
 | .cell c t::rs,vs,h=>by
  obtain⟨k,off,h1,h2⟩:=ae (show ak (fN (env e (.tmp c))) (fun k off=>andThen (jU T σ t k off) fun v=>andThen (bq T σ e rs) fun vs=>some (v::vs))=some vs from h)
  obtain⟨v,h3,h4⟩:=aa h2
  obtain⟨us,h5,h6⟩:=aa h4
  cases h6
  obtain⟨vs',h7,h8⟩:=zF hT hp he rs us h5
  have hv:=he.tmp c
  have hpt:fM (e.get c)= .pointer (some ⟨k,off,none⟩):=iN h1
  rw [hpt]at hv
  obtain⟨a',h9,h10⟩:=hv.js
  obtain⟨v',h11,h12⟩:=Br (P:=P) hT hp h3 h10
  refine⟨v'::vs',?_,.cons h12 h8⟩
  simp only [List.mapM_cons,FG,Sem.run_bind,Sem.run_pure,Result.andThen_ok,h9,asAddr,h11,h7]
theorem mi(hT:bw P T)(hp:cC σ σ π δ D H w)(he:jJ N π D e a){fn:Func}{vs:List Value}(h:bq T σ e fn.results.toList=some vs):
  ∃v',(Go.results fn a.tmps).run P w= .ok v' w∧VR π D (ar vs) v':=by
 obtain⟨vs',h1,h2⟩:=zF hT hp he fn.results.toList vs h
 rw [DP]
 refine⟨ar vs',?_,?_⟩
 ·rw [Array.mapM_eq_mapM_toList]
  simp only [Sem.run_bind,Sem.run_map,h1,Result.andThen_ok,Sem.run_pure]
  congr 1
  cases vs' with
  |nil=>rfl
  |cons v vs'=>
   cases vs' with
   |nil=>rfl
   |cons u vs'=>rfl
 ·cases vs with
  |nil=>rw [h2.empty];exact aR.tuple rfl aR.nil
  |cons v vs=>
   obtain⟨v',r,rfl,h3,h4⟩:=h2.split
   cases vs with
   |nil=>rw [h4.empty];exact h3
   |cons u vs=>
    obtain⟨u',r',rfl,h5,h6⟩:=h4.split
    exact aR.tuple rfl h2
theorem zG{π π':aK}{D D':Nat→Prop}{v v':Value}(h:bare v=true)(hv:VR π D v v'):VR π' D' v v':=by
 cases hv
 case any=>cases (show false=true from h)
 case data=>cases (show false=true from h)
 case dataP=>cases (show false=true from h)
 all_goals simp only [bare,reduceCtorEq]at h
 case bool b=>exact .bool b
 case int k n=>exact .int k n
 case string s=>exact .string s
 case ptr0=>exact .ptr0
 case sl0 n c hn=>exact .sl0 n c hn
 case map0=>exact .map0
 case nilFunc=>exact .nilFunc
 case nilIface=>exact .nilIface
theorem uP{π π':aK}{D D':Nat→Prop}:∀{l l':List Value},oU l=true→aR π D l l'→aR π' D' l l'
 | [],l',_,hv=>by rw [hv.empty];exact .nil
 |v::l,l',h,hv=>by
  have h':iff (bare v) (oU l) false=true:=h
  rw [iff_eq]at h'
  split at h'
  ·rename_i hb
   obtain⟨v',r,rfl,h1,h2⟩:=hv.split
   exact .cons (zG hb h1) (uP h' h2)
  ·cases h'
theorem BL{π π':aK}{D D':Nat→Prop}{v v':Value}(h:oV v=true)(hv:VR π D v v'):VR π' D' v v':=by
 cases v with
 |agg cs=>
  obtain⟨cs⟩:=cs
  obtain⟨c',rfl,h1,h2⟩:=aR.iK hv
  exact(uP h h1).agg h2
 |_=>exact zG h hv
theorem sA{π π':aK}{D D':Nat→Prop}:∀{l l':List Value},jX l=true→aR π D l l'→aR π' D' l l'
 | [],l',_,hv=>by rw [hv.empty];exact .nil
 |v::l,l',h,hv=>by
  have h':iff (oV v) (jX l) false=true:=h
  rw [iff_eq]at h'
  split at h'
  ·rename_i hb
   obtain⟨v',r,rfl,h1,h2⟩:=hv.split
   exact .cons (BL hb h1) (sA h' h2)
  ·cases h'
theorem JK{π π':aK}{D D':Nat→Prop}{v v':Value}(h:xp v=true)(hv:VR π D v v'):VR π' D' v v':=by
 cases v with
 |tuple cs=>
  obtain⟨cs⟩:=cs
  have h':iff (dF cs) false (jX cs)=true:=h
  rw [iff_eq]at h'
  split at h'
  ·cases h'
  ·rename_i hd
   cases hv with
   |tuple h1 hc hcs=>exact aR.tuple h1 (sA (l:=cs) h' ⟨hc,hcs⟩)
   |any=>exact .any _
   |data=>exact absurd rfl hd
   |dataP=>exact absurd rfl hd
 |agg cs=>exact BL (v:= .agg cs) h hv
 |_=>exact zG h hv
def fx(σ:aD):aD:=⟨σ.heap,σ.next,σ.next,σ.next⟩
def bump(σ:aD)(n:Nat):aD:=⟨σ.heap,n,σ.low,σ.bp⟩
def kM(σ σ':aD):aD:=⟨σ'.heap,σ'.next,jh σ.low σ'.low,jh σ.bp σ'.bp⟩
theorem xO{σ σ1:aD}{k:Nat}(hm:cm (fx σ) σ1)(h1:σ.next≤σ1.low)(h2:σ.next≤σ1.bp)(hk:k<σ.next)(horg:∀c e aA ro d,σ.obj k=some (.cells c e aA ro d)→aA≤k):σ1.obj k=σ.obj k:=by
 have hs:ea k σ1.low σ1.bp (σ.obj k) (σ1.obj k):=hm.step k hk
 generalize ho:σ.obj k=o at hs horg
 generalize σ1.obj k=o1 at hs
 cases hs with
 |none=>rfl
 |cells hl hd hr hlow hk2=>
  have:=horg _ _ _ _ _ rfl
  rcases hlow with h3|h3
  ·omega
  ·rcases hk2 with h4|h4
   ·omega
   ·rw [h3,h4]
 |other h h0 hlow=>
  rcases hlow with h3|h3
  ·omega
  ·rw [h3]
theorem AR.conv{π π2 π':aK}{D D2 D':Nat→Prop}{fresh:Nat→Prop}(hf:∀k,fresh k→π k=none∧¬D k)(hn:∀k,¬fresh k→π' k=π2 k∧(D2 k→D' k)){a a0 a2:Addr}(h:AR π D a a0)(h2:AR π2 D2 a a2):AR π' D' a a2:=by
 refine⟨h2.1,?_⟩
 by_cases hfr:fresh a.block
 ·obtain⟨h3,h4⟩:=hf _ hfr
  rcases h.2 with⟨i,h5,_⟩|⟨_,h5⟩
  ·rw [h3]at h5;cases h5
  ·exact absurd h5 h4
 ·obtain⟨h3,h4⟩:=hn _ hfr
  rcases h2.2 with⟨i,h5,h6⟩|⟨h5,h6⟩
  ·exact .inl ⟨i,h3.trans h5,h6⟩
  ·exact .inr ⟨h3.trans h5,h4 h6⟩
theorem VR.conv{π π2 π':aK}{D D2 D':Nat→Prop}{fresh:Nat→Prop}(hf:∀k,fresh k→π k=none∧¬D k)(hn:∀k,¬fresh k→π' k=π2 k∧(D2 k→D' k))(hg:∀B cc,π2.fr B=some cc→π'.fr B=some cc){v v0 v2:Value}(h:VR π D v v0)(h2:VR π2 D2 v v2):VR π' D' v v2:=by
 induction h generalizing v2 with
 |bool b=>cases h2;exact .bool b
 |int k n=>cases h2;exact .int k n
 |float k b=>cases h2;exact .float k b
 |complex k x y=>cases h2;exact .complex k x y
 |string s=>cases h2;exact .string s
 |ptr0=>cases h2;exact .ptr0
 |ptr hs ha=>
  cases h2 with
  |ptr hs2 ha2=>exact .ptr hs2 (ha.conv hf hn ha2)
 |sl0 n c hle=>cases h2;exact .sl0 n c hle
 |sl n c hle hs ha=>
  cases h2 with
  |sl _ _ _ hs2 ha2=>exact .sl n c hle hs2 (ha.conv hf hn ha2)
  |slz _ _ hs2=>exact .slz _ _ hs2
  |slo _ _ _ _ hs2 _=>rw [hs]at hs2;cases hs2
 |slz a a' hs=>
  cases h2 with
  |sl _ _ _ hs2 ha2=>exact .slz _ _ hs2
  |slz _ _ hs2=>exact .slz _ _ hs2
  |slo _ _ _ _ hs2 _=>rw [hs]at hs2;cases hs2
 | @slo a a0 s n c c' hle hs ha=>
  cases h2 with
  |sl _ _ _ hs2 ha2=>rw [hs]at hs2;cases hs2
  |slz _ _ hs2=>rw [hs]at hs2;cases hs2
  |slo _ _ c2 hn2 hs2 ha2=>
   refine .slo n c c2 hn2 hs2 ⟨ha2.1,ha2.2.1,?_⟩
   by_cases hfr:fresh a.block
   ·obtain⟨h3,h4⟩:=hf _ hfr
    rcases ha.2.2 with⟨i,h5,_⟩|⟨_,h5⟩
    ·rw [h3]at h5;cases h5
    ·exact absurd h5 h4
   ·obtain⟨h3,h4⟩:=hn _ hfr
    rcases ha2.2.2 with⟨i,h5,h6⟩|⟨h5,h6⟩
    ·exact .inl ⟨i,h3.trans h5,h6⟩
    ·exact .inr ⟨h3.trans h5,h4 h6⟩
 |map0=>cases h2;exact .map0
 |map hr=>
  cases h2 with
  |map hr2=>
   rename_i r _ _
   refine .map ?_
   by_cases hfr:fresh r
   ·obtain⟨h3,h4⟩:=hf _ hfr
    rcases hr with⟨i,h5,_⟩|⟨_,h5⟩
    ·rw [h3]at h5;cases h5
    ·exact absurd h5 h4
   ·obtain⟨h3,h4⟩:=hn _ hfr
    rcases hr2 with⟨i,h5,h6⟩|⟨h5,h6⟩
    ·exact .inl ⟨i,h3.trans h5,h6⟩
    ·exact .inr ⟨h3.trans h5,h4 h6⟩
 |func fn hf1 hfs1 hc1 hcs1 ih1 ih2=>
  cases h2 with
  |func _ hf2 hfs2 hc2 hcs2=>
   refine .func fn hf2 (fun i v v' h3 h4=>?_) hc2 (fun i v v' h3 h4=>?_)
   ·have hi:=(List.getElem?_eq_some_iff.1 h3).1
    obtain⟨u,hu⟩:∃u,_=some u:=⟨_,List.getElem?_eq_getElem (hf1▸hi)⟩
    exact ih1 i v u h3 hu (hfs2 i v v' h3 h4)
   ·have hi:=(List.getElem?_eq_some_iff.1 h3).1
    obtain⟨u,hu⟩:∃u,_=some u:=⟨_,List.getElem?_eq_getElem (hc1▸hi)⟩
    exact ih2 i v u h3 hu (hcs2 i v v' h3 h4)
 |nilFunc=>cases h2;exact .nilFunc
 |iface t _ ih=>
  cases h2 with
  |iface _ h3=>exact .iface t (ih h3)
 |nilIface=>cases h2;exact .nilIface
 |agg hc1 ho1 hcs1 ih=>
  cases h2 with
  |agg hc2 ho2 hcs2=>
   refine .agg hc2 ho1 (fun i v v' h3 h4=>?_)
   have hi:=(List.getElem?_eq_some_iff.1 h3).1
   obtain⟨u,hu⟩:∃u,_=some u:=⟨_,List.getElem?_eq_getElem (hc1▸hi)⟩
   exact ih i v u h3 hu (hcs2 i v v' h3 h4)
 |any=>exact .any _
 |data hd=>exact .data (h2.uj.mono hg)
 |dataP hs hfz hd=>
  obtain⟨cs2',a2',cc,rfl,hs2,hf2,hw2,ho2,hv2,hr2⟩:=h2.j4
  exact .dataP hs2 ⟨cc,hg _ _ hf2,hw2⟩ (hr2.mono hg)
 |tuple hd1 hc1 hcs1 ih=>
  cases h2 with
  |any=>exact .any _
  |data=>cases hd1
  |dataP=>cases hd1
  |tuple hd2 hc2 hcs2=>
   refine .tuple hd2 hc2 (fun i v v' h3 h4=>?_)
   have hi:=(List.getElem?_eq_some_iff.1 h3).1
   obtain⟨u,hu⟩:∃u,_=some u:=⟨_,List.getElem?_eq_getElem (hc1▸hi)⟩
   exact ih i v u h3 hu (hcs2 i v v' h3 h4)
theorem aR.conv{π π2 π':aK}{D D2 D':Nat→Prop}{fresh:Nat→Prop}(hf:∀k,fresh k→π k=none∧¬D k)(hn:∀k,¬fresh k→π' k=π2 k∧(D2 k→D' k))(hg:∀B cc,π2.fr B=some cc→π'.fr B=some cc){l l0 l2:List Value}(h:aR π D l l0)(h2:aR π2 D2 l l2):aR π' D' l l2:=
 ⟨h2.1,fun i v v' h3 h4=>by
  have hi:=(List.getElem?_eq_some_iff.1 h3).1
  exact VR.conv hf hn hg (h.2 i v _ h3 (List.getElem?_eq_getElem (h.1▸hi))) (h2.2 i v v' h3 h4)⟩
theorem fK.conv{π π2 π':aK}{D D2 D':Nat→Prop}{fresh:Nat→Prop}(hf:∀k,fresh k→π k=none∧¬D k)(hn:∀k,¬fresh k→π' k=π2 k∧(D2 k→D' k))(hg:∀B cc,π2.fr B=some cc→π'.fr B=some cc){i:PI}{w w2:World}{o:aN}(h:fK π D i w o)(h2:fK π2 D2 i w2 o):fK π' D' i w2 o:=by
 cases o with
 |cells c e aA ro d=>
  obtain⟨cc0,elem0,fz0,_,_,_,_,g5,_⟩:=h
  obtain⟨cc,elem,fz,a1,a2,a3,a4,a5,a6⟩:=h2
  exact⟨cc,elem,fz,a1,a2,a3,a4,g5.conv hf hn hg a5,a6⟩
 |map es clock=>
  obtain⟨es0,_,⟨g1,g2⟩,_⟩:=h
  obtain⟨es2,a1,⟨a2,a3⟩,a4⟩:=h2
  refine⟨es2,a1,⟨a2,fun j e e' h3 h4=>?_⟩,a4⟩
  have hj:=(List.getElem?_eq_some_iff.1 h3).1
  obtain⟨u,hu⟩:∃u,_=some u:=⟨_,List.getElem?_eq_getElem (g1▸hj)⟩
  obtain⟨b1,b2,_⟩:=g2 j e u h3 hu
  obtain⟨c1,c2,c3⟩:=a3 j e e' h3 h4
  exact⟨b1.conv hf hn hg c1,b2.conv hf hn hg c2,c3⟩
 |iter s p=>exact h2
theorem cC.RE{σ1:aD}(hm:cm (fx σ) σ1)(hlow:σ.low≤σ.next)(h1:σ.next≤σ1.low)(h2:σ.next≤σ1.bp)(hp:cC σ (bump σ σ1.next) π δ D H w):cC (fx σ) σ1 π δ D H w:=by
 refine⟨hp.rel,hp.wf,hm.next,hp.fresh,hp.Ng,fun k i hd hk=>?_,fun k i hk h3=>?_,hp.dead⟩
 ·rcases hp.Ju k i hd hk with h3|⟨h3,h4⟩
  ·exact .inl h3
  ·refine .inr ⟨h3,?_⟩
   rcases h4 with h4|⟨h4,h5⟩
   ·exact .inl h4
   ·refine .inr ⟨fun hx=>h4 ?_,by omega⟩
    obtain⟨o,ho,hdead⟩:=hx
    obtain⟨o0,ho0,hr⟩:=hp.rel.obj k i hk
    have h6:ext σ H k=σ.obj k:=by unfold ext;rw [if_pos h3]
    rw [h6]at ho0
    have:=xO hm h1 h2 h3 (fun c e aA ro d hc=>by
     rw [hc]at ho0;cases ho0
     have:=hr.N4
     have:=(hp.rel.lF k i hk).1
     omega)
    rw [this]at ho
    exact⟨o,ho,hdead⟩
 ·rcases hp.Nh k i hk h3 with h4|h4
  ·exact .inl (by have h5:i.aA<σ.low:=h4;omega)
  ·exact .inr h4
theorem Post.dropped{σ1:aD}{π2:aK}{D2:Nat→Prop}{w2:World}(hlow:σ.low≤σ.next)(h1:σ.next≤σ1.low)(h2:σ.next≤σ1.bp)(hp:cC σ (bump σ σ1.next) π δ D H w)(hpo:Post (fx σ) σ1 π δ D H w π2 D2 w2):
  ∃π',Post σ (bump σ σ1.next) π δ D H w π' D w2:=by
 have hm:=hpo.mono
 have hnext:σ.next≤σ1.next:=hm.next
 let fresh:Nat→Prop:=fun k=>σ.next≤k∧k<σ1.next
 let π':aK:=⟨fun k=>if σ.next≤k∧k<σ1.next then none else π2 k,π2.fr⟩
 have hf:∀k,fresh k→π k=none∧¬D k:=fun k ⟨a,b⟩=>⟨hp.fresh k a b,fun hd=>by
  rcases hp.dead k hd with h3|h3
  ·have:=cI hp.wf h3;omega
  ·have h4:σ1.next≤k:=h3;omega⟩
 have hD2:∀k,¬fresh k→D2 k→D k:=fun k hk hd=>by
  rcases hpo.o8 k hd with h3|⟨h3,h4⟩
  ·exact h3
  ·have:=cI (hm.wf hp.wf) h3
   exact absurd (show fresh k from⟨by omega,this⟩) hk
 have hn:∀k,¬fresh k→π' k=π2 k∧(D2 k→D k):=fun k hk=>⟨if_neg hk,hD2 k hk⟩
 have hp':∀{k i},π' k=some i→¬fresh k∧π2 k=some i∧π k=some i:=fun{k i} h=>by
  by_cases hk:fresh k
  ·have:π' k=none:=if_pos hk
   rw [this]at h;cases h
  ·have:π' k=π2 k:=if_neg hk
   rw [this]at h
   refine⟨hk,h,?_⟩
   rcases hpo.sub k i h with h3|⟨_,h3,h4⟩
   ·exact h3
   ·exact absurd (show fresh k from⟨h3,h4⟩) hk
 have same:∀k i,k<σ.next→π k=some i→σ1.obj k=σ.obj k:=fun k i hk hi=>by
  obtain⟨o0,ho0,hr⟩:=hp.rel.obj k i hi
  have h6:ext σ H k=σ.obj k:=by unfold ext;rw [if_pos hk]
  rw [h6]at ho0
  exact xO hm h1 h2 hk (fun c e aA ro d hc=>by
   rw [hc]at ho0;cases ho0
   have:=hr.N4
   have:=(hp.rel.lF k i hi).1
   omega)
 refine⟨π',⟨⟨hnext,Nat.le_refl _,Nat.le_refl _,fun hw k hk=>hw k (Nat.le_trans hnext hk),fun k _=> .refl _ _ _ _⟩,⟨fun k i hk=>?_,fun k i hk=>hpo.rel.lF k i (hp' hk).2.1,hpo.rel.uh,fun k i hk hro=>hpo.rel.AS k i (hp' hk).2.1 hro,fun k₁ k₂ i₁ i₂ hne hk1 hk2 hb=>?_⟩,fun k i hk=> .inl (hp' hk).2.2,fun k i hk=>?_,
  fun k hd=>hd,fun k hd=> .inl hd,fun k _ hd hnd=>absurd hd hnd,fun k i hk=> .inr ⟨k,i,(hp' hk).2.2,rfl⟩,fun k i hk hro=> .inl ⟨k,i,(hp' hk).2.2,hro,rfl⟩,hpo.Fw,⟨hpo.fr.os,hpo.fr.tape,hpo.fr.output,hpo.fr.size,hpo.fr.kF⟩⟩⟩
 ·obtain⟨hfr,hk2,hk0⟩:=hp' hk
  obtain⟨o2,ho2,hr2⟩:=hpo.rel.obj k i hk2
  obtain⟨o0,ho0,hr0⟩:=hp.rel.obj k i hk0
  have heq:ext σ1 H k=ext (bump σ σ1.next) H k∧ext σ H k=ext (bump σ σ1.next) H k:=by
   by_cases hkn:k<σ.next
   ·have e1:ext σ1 H k=σ1.obj k:=by unfold ext;rw [if_pos (by omega)]
    have e2:ext σ H k=σ.obj k:=by unfold ext;rw [if_pos hkn]
    have e3:ext (bump σ σ1.next) H k=σ.obj k:=by unfold ext;rw [if_pos (show k<(bump σ σ1.next).next from Nat.lt_of_lt_of_le hkn hnext)];rfl
    rw [e1,e2,e3]
    exact⟨same k i hkn hk0,rfl⟩
   ·have hkn2:¬k<σ1.next:=fun h=>hfr ⟨by omega,h⟩
    have e1:ext σ1 H k=H k:=by unfold ext;rw [if_neg hkn2]
    have e2:ext σ H k=H k:=by unfold ext;rw [if_neg hkn]
    have e3:ext (bump σ σ1.next) H k=H k:=by unfold ext;rw [if_neg (show¬k<(bump σ σ1.next).next from hkn2)]
    rw [e1,e2,e3]
    exact⟨rfl,rfl⟩
  rw [heq.1]at ho2
  rw [heq.2,ho2]at ho0
  cases ho0
  exact⟨o2,ho2,hr0.conv hf hn (fun _ _ h=>h) hr2⟩
 ·have hdead:∀k i,π' k=some i→grow (fx σ) σ1 δ k→grow σ (bump σ σ1.next) δ k:=fun k i hk hg=>by
   obtain⟨hfr,_,hk0⟩:=hp' hk
   rcases hg with hg|⟨h3,h4⟩
   ·exact .inl hg
   ·have hlt:=cI (hm.wf hp.wf) h3
    have hkn:k<σ.next:=Nat.lt_of_not_le fun h=>hfr ⟨h,hlt⟩
    obtain⟨o,ho,hd⟩:=h3
    rw [same k i hkn hk0]at ho
    exact absurd ⟨o,ho,hd⟩ h4
  rcases hpo.rel.sep k₁ k₂ i₁ i₂ hne (hp' hk1).2.1 (hp' hk2).2.1 hb with h3|⟨h3,h4,h5,h6⟩
  ·exact .inl h3
  ·exact .inr ⟨h3,h4,h5,h6.imp (fun h=>⟨hdead _ _ hk1 h.1,h.2⟩) (fun h=>⟨hdead _ _ hk2 h.1,h.2⟩)⟩
 ·have hfr:¬fresh k:=fun h=>by rw [(hf k h).1]at hk;cases hk
  rcases hpo.kept k i hk with h3|⟨h3,h4,h5,h6⟩
  ·exact .inl ((if_neg hfr).trans h3)
  ·refine .inr ⟨(if_neg hfr).trans h3,hD2 k hfr h4,?_,h6⟩
   show σ.low≤i.aA
   omega
theorem cC.zH{σ1:aD}(hn:σ.next≤σ1.next)(hp:cC σ (kM σ σ1) π δ D H w):cC (fx σ) σ1 π δ D H w:=by
 have hlow:(kM σ σ1).low≤σ1.low:=by show jh _ _≤_;rw [eO];exact Nat.min_le_right _ _
 refine⟨hp.rel,hp.wf,hn,hp.fresh,hp.Ng,fun k i hd hk=>?_,fun k i hk h3=>?_,hp.dead⟩
 ·rcases hp.Ju k i hd hk with h3|⟨h3,h4⟩
  ·exact .inl h3
  ·refine .inr ⟨h3,?_⟩
   rcases h4 with h4|⟨h4,h5⟩
   ·exact .inl h4
   ·exact .inr ⟨h4,Nat.lt_of_lt_of_le h5 hlow⟩
 ·rcases hp.Nh k i hk h3 with h4|h4
  ·exact .inl (Nat.lt_of_lt_of_le h4 hlow)
  ·exact .inr h4
theorem sB{σ1:aD}(hm:cm (fx σ) σ1):cm σ (kM σ σ1):=by
 have h1:(kM σ σ1).low=min σ.low σ1.low:=eO _ _
 have h2:(kM σ σ1).bp=min σ.bp σ1.bp:=eO _ _
 refine⟨hm.next,by rw [h1];exact Nat.min_le_left _ _,by rw [h2];exact Nat.min_le_left _ _,hm.wf,fun k hk=>?_⟩
 exact .trans (by rw [h1];exact Nat.min_le_right _ _) (by rw [h2];exact Nat.min_le_right _ _) (hm.step k hk) (.refl _ _ _ _)
theorem Post.zH{σ1:aD}{π2:aK}{D2:Nat→Prop}{w2:World}(hpo:Post (fx σ) σ1 π δ D H w π2 D2 w2):Post σ (kM σ σ1) π δ D H w π2 D2 w2:=by
 have hlow:(kM σ σ1).low≤σ1.low:=by show jh _ _≤_;rw [eO];exact Nat.min_le_right _ _
 refine⟨sB hpo.mono,hpo.rel,hpo.sub,fun k i hk=>?_,hpo.lu,fun k hd=>?_,hpo.Ni,hpo.lF,hpo.bm,hpo.Fw,hpo.fr⟩
 ·rcases hpo.kept k i hk with h3|⟨h3,h4,h5,h6⟩
  ·exact .inl h3
  ·exact .inr ⟨h3,h4,Nat.le_trans hlow h5,h6⟩
 ·rcases hpo.o8 k hd with h3|⟨h3,h4⟩
  ·exact .inl h3
  ·exact .inr ⟨h3,Nat.le_trans hlow h4⟩
theorem Hr{v u:Value}{σ1 σ':aD}(h:settle σ v σ1=some (u,σ')):u=v∧((σ'=bump σ σ1.next∧σ.next≤σ1.low∧σ.next≤σ1.bp∧xp v=true)∨σ'=kM σ σ1):=by
 unfold settle at h
 rw [iff_eq]at h
 split at h
 ·rename_i hc
  rw [Bool.and_eq_true,Bool.and_eq_true,bk,bk]at hc
  cases h
  exact⟨rfl,.inl ⟨rfl,hc.1.1,hc.1.2,hc.2⟩⟩
 ·cases h
  exact⟨rfl,.inr rfl⟩
def JL(P:Program)(T:ew)(G:bP):Prop:=P.follows .mixedOrders=true∧∀f fn,T.F.get f=some fn→P.funcs[f]? =some fn∧(fn.name== "runtime.NumGoroutine")=false∧∀c,fn.body=some c→codeOk G fn.ntmps c=true
theorem JM{fn:Func}{o:Out}{v:Value}{σ':aD}(h:ended T fn o=some (v,σ')):∃x e vs,o=some (x,e,σ')∧(x= .normal∨x= .ret)∧bq T σ' e fn.results.toList=some vs∧v=ar vs:=by
 obtain⟨x,e,σ1,h1,h2⟩:=aq h
 have h3:(x= .normal∨x= .ret)∧andThen (bq T σ1 e fn.results.toList) (fun vs=>some (ar vs,σ1))=some (v,σ'):=by
  cases x with
  |normal=>exact⟨.inl rfl,h2⟩
  |exit id=>cases (show none=some (v,σ')from h2)
  |ret=>exact⟨.inr rfl,h2⟩
 obtain⟨vs,h4,h5⟩:=aa h3.2
 cases h5
 exact⟨x,e,vs,h1,h3.1,h4,rfl⟩
theorem BM{lf n:Nat}{f:FuncId}{args:List Value}{v:Value}{σ':aD}(h:nD T lf (n+1) f args σ=some (v,σ')):
  ∃fn c x e vs σ1,T.F.get f=some fn∧fn.body=some c∧cz c T (nD T lf n) lf (eG args 0 .leaf) (fx σ)=some (x,e,σ1)∧(x= .normal∨x= .ret)∧
   bq T σ1 e fn.results.toList=some vs∧v=ar vs∧((σ'=bump σ σ1.next∧σ.next≤σ1.low∧σ.next≤σ1.bp∧xp v=true)∨σ'=kM σ σ1):=by
 obtain⟨fn,h1,h2⟩:=aa (show andThen (T.F.get f) (fun fn=>andThen fn.body fun c=>ak (ended T fn (cz c T (nD T lf n) lf (eG args 0 .leaf) (fx σ))) fun v σ'=>settle σ v σ')=some (v,σ')from h)
 obtain⟨c,h3,h4⟩:=aa h2
 obtain⟨u,σ1,h5,h6⟩:=ae h4
 obtain⟨x,e,vs,h7,h8,h9,h10⟩:=JM h5
 obtain⟨rfl,h11⟩:=Hr h6
 exact⟨fn,c,x,e,vs,σ1,h1,h3,h7,h8,h9,h10,h11⟩
theorem od{lf:Nat}:∀n,iR (nD T lf n)
 |0=>fun f args σ v σ' h=>by cases (show none=some (v,σ')from h)
 |n+1=>fun f args σ v σ' h=>by
  obtain⟨fn,c,x,e,vs,σ1,h1,h2,h3,h4,h5,h6,h7⟩:=BM h
  have hm:cm (fx σ) σ1:=gw (od n) c _ _ _ _ _ h3
  rcases h7 with⟨rfl,_⟩|rfl
  ·exact⟨hm.next,Nat.le_refl _,Nat.le_refl _,fun hw k hk=>hw k (Nat.le_trans hm.next hk),fun k _=> .refl _ _ _ _⟩
  ·exact sB hm
theorem xP{lf:Nat}(hT:bw P T)(hF:JL P T G):∀n,pw P G (nD T lf n)
 |0=>fun f args σ v σ' h=>by cases (show none=some (v,σ')from h)
 |n+1=>fun f args σ v σ' h=>by
  obtain⟨fn,c,x,e,vs,σ1,h1,h2,h3,h4,h5,h6,h7⟩:=BM h
  obtain⟨g1,g2,g3⟩:=hF.2 f fn h1
  have hm:cm (fx σ) σ1:=gw (od n) c _ _ _ _ _ h3
  refine⟨⟨fn,g1,g2,by rw [h2];rfl⟩,fun hlow π δ D H w args' hg ha hp=>?_⟩
  have hpre:cC (fx σ) σ1 π δ D H w:=by
   rcases h7 with⟨rfl,h8,h9,_⟩|rfl
   ·exact hp.RE hm hlow h8 h9
   ·exact hp.zH hm.next
  refine calls_of_wp g1 h2 ?_
  have hsz:(⟨args'⟩:Array Value).size=args'.length:=rfl
  rw [hsz]
  refine JJ (N:=args'.length+(fn.ntmps-args'.length)) hF.1 hT (xP hT hF n).Zq (od n) c (sx (by omega) c (g3 c h2)) (eG args 0 .leaf) (fx σ) x e σ1 h3 (Nat.le_refl _) π δ D H w _ hpre (jJ.start ha fn.ntmps) hg _ fun π' D' w' a' he hpo=>?_
  have hp2:cC σ1 σ1 π' (grow (fx σ) σ1 δ) D' H w':=hpre.second hpo (.refl σ1)
  obtain⟨v',hv1,hv2⟩:=mi hT hp2 he h5
  have hb:nu σ σ' π δ D H w v (.returned v') w':=by
   rw [←h6]at hv2
   rcases h7 with⟨rfl,h8,h9,h10⟩|rfl
   ·obtain⟨π'',hpo2⟩:=hpo.dropped hlow h8 h9 hp
    exact⟨v',π'',D,rfl,JK h10 hv2,hpo2⟩
   ·exact⟨v',π',D',rfl,hv2,hpo.zH⟩
  rcases h4 with rfl|rfl
  ·exact⟨he.defers,v',hv1,hb⟩
  ·exact⟨he.defers,v',hv1,hb⟩
end
end Go.az
namespace Go.az
section
variable {H:Type}
def oe(T:ew):List Field→Nat→Nat→Bool
 | [],off,sz=>Nat.beq off sz
 |f::fs,off,sz=>match size T f.type with|some z=>and (Nat.beq f.offset off) (oe T fs (off+z) sz)|none=>false
end
def kN(π:aK)(D:Nat→Prop)(w:World)(n:Nat)(bs:List (List Value)):Prop:=
 ∀i c,bs[i]? =some c→∃p,π (n+i)=some p∧p.aA=n+i∧p.ro=true∧p.s4=none∧fK π D p w (.cells c none (n+i) true false)
theorem kN.nil{π:aK}{D:Nat→Prop}{w:World}{n:Nat}:kN π D w n []:=fun i c h=>by simp at h
theorem kN.append{π:aK}{D:Nat→Prop}{w:World}{n:Nat}{a b:List (List Value)}(ha:kN π D w n a)(hb:kN π D w (n+a.length) b):kN π D w n (a++b):=by
 intro i c h
 by_cases hi:i<a.length
 ·rw [List.getElem?_append_left hi]at h
  exact ha i c h
 ·rw [List.getElem?_append_right (by omega)]at h
  obtain⟨p,h1,h2,h3,h4,h5⟩:=hb _ c h
  have:n+a.length+(i-a.length)=n+i:=by omega
  rw [this]at h1 h2 h5
  exact⟨p,h1,h2,h3,h4,h5⟩
def sC(w:World)(D:Nat→Prop)(n:Nat)(acs:List Value)(bs:List (List Value))(cs:List Value):Prop:=
 (∀v∈acs,bH v=true)∧∃f:Nat→Option PI,∀π:aK,(∀k,n≤k→k<n+bs.length→π k=f k)→aR π D acs cs∧kN π D w n bs
section
variable {P:Program} {T:ew} {H:Type} {enc:TypeId×Value→H} {w:World} {base:Nat} {spare:Nat→Bool} {held:Bool} {D:Nat→Prop}
theorem sC.nil{n:Nat}:sC w D n [] [] []:=⟨fun v h=>by simp at h,fun _=>none,fun _ _=>⟨.nil,.nil⟩⟩
theorem sC.append{n:Nat}{a a' c c':List Value}{b b':List (List Value)}(h:sC w D n a b c)(h':sC w D (n+b.length) a' b' c'):sC w D n (a++a') (b++b') (c++c'):=by
 obtain⟨h1,f,h2⟩:=h
 obtain⟨h3,f',h4⟩:=h'
 refine⟨fun v hv=>(List.mem_append.1 hv).elim (h1 v) (h3 v),fun k=>if k<n+b.length then f k else f' k,fun π hπ=>?_⟩
 obtain⟨g1,g2⟩:=h2 π fun k hk hk2=>(hπ k hk (by simp;omega)).trans (if_pos hk2)
 obtain⟨g3,g4⟩:=h4 π fun k hk hk2=>(hπ k (by omega) (by simp;omega)).trans (if_neg (by omega))
 exact⟨g1.append g3,g2.append g4⟩
theorem sC.const{n:Nat}{v v':Value}(h1:v.oneCell'=true)(h:∀π,VR π D v v'):sC w D n [v] [] [v']:=
 ⟨fun u hu=>by simp at hu;rw [hu];exact Fy h1,fun _=>none,fun π _=>⟨.one (h π),.nil⟩⟩
theorem pz{a:Addr}{n:Nat}{cs:List Value}(hn:0<n)(h:w.cells? base a n=some cs):∃cc elem fz,a.spot=none∧w.heap[a.block]? =some (.cells cc elem fz)∧a.off+n≤cc.size∧(cc.toList.drop a.off).take n=cs:=by
 unfold World.cells? at h
 split at h
 case isFalse=>cases h
 have hl:cs.length=n:=by have:=Lib.mapM_length h;simpa using this
 have each:∀i,i<n→w.cell? (a.add i)=cs[i]? :=fun i hi=>by
  obtain⟨b,h1,h2⟩:=Lib.mapM_at h i i (by simp [hi])
  rw [h1,h2]
 have h0:=each 0 hn
 rw [List.getElem?_eq_getElem (by omega)]at h0
 unfold World.cell? at h0
 split at h0
 case h_2=>cases h0
 rename_i cc elem fz hB
 split at h0
 ·cases h0
 rename_i hs
 have e0:a.add 0=a:=by unfold Addr.add;rw [if_pos rfl]
 have hs':a.spot=none:=by
  cases hsp:a.spot with
  |none=>rfl
  |some s=>exact absurd (by rw [e0,hsp];rfl) hs
 have hB':w.heap[a.block]? =some (.cells cc elem fz):=by rw [e0]at hB;exact hB
 have each2:∀i,i<n→cc[a.off+i]? =cs[i]? :=fun i hi=>by
  have:=each i hi
  unfold World.cell? at this
  have e1:(a.add i).block=a.block:=by unfold Addr.add;split<;>rfl
  have e2:(a.add i).spot=none:=by unfold Addr.add;split<;>first|exact hs'|rfl
  have e3:(a.add i).off=a.off+i:=by unfold Addr.add;split<;>simp_all
  rw [e1,hB']at this
  simp only at this
  rw [if_neg (by rw [e2];simp),e3]at this
  exact this
 have hsz:a.off+n≤cc.size:=by
  have:=each2 (n-1) (by omega)
  rw [List.getElem?_eq_getElem (by omega)]at this
  have:=(Array.getElem?_eq_some_iff.1 this).1
  omega
 refine⟨cc,elem,fz,hs',hB',hsz,?_⟩
 apply List.ext_getElem?
 intro i
 rw [List.getElem?_take]
 by_cases hi:i<n
 ·rw [if_pos hi,List.getElem?_drop,Array.getElem?_toList,each2 i hi]
 ·rw [if_neg hi,List.getElem?_eq_none (by omega)]
theorem kO{cc:List Value}{sz:Nat}:∀(css:List (List Value))(off:Nat),(∀i c,css[i]? =some c→(cc.drop (off+i*sz)).take sz=c)→(cc.drop off).take (css.length*sz)=css.flatten
 | [],off,_=>by simp
 |c::css,off,h=>by
  have h0:=h 0 c rfl
  simp only [Nat.zero_mul,Nat.add_zero]at h0
  have ih:=kO css (off+sz) fun i c' hc=>by
   have:=h (i+1) c' (by simpa using hc)
   rw [←this];congr 2;rw [Nat.add_mul];omega
  have hm:(c::css).length*sz=sz+css.length*sz:=by simp [Nat.add_mul];omega
  rw [hm,List.take_add,h0,List.drop_drop,ih,List.flatten_cons]
theorem iS(hT:bw P T){t:TypeId}{z:Nat}(h:size T t=some z):P.cellsOf t=z:=by
 obtain⟨i,h1,h2⟩:=size_eq h
 unfold Program.cellsOf
 rw [(hT t i h1).info]
 show i.info.size=z
 rw [←(hT t i h1).size,h2]
theorem nJ{sz:Nat}:∀(fs:List Field)(off:Nat)(cs:List Value),oe T fs off sz=true→cs.length=sz→off≤sz→
  ∃css:List (List Value),css.length=fs.length∧css.flatten=cs.drop off∧∀(i:Nat) f,fs[i]? =some f→∃z,size T f.type=some z∧css[i]? =some ((cs.drop f.offset).take z)
 | [],off,cs,h,hl,_=>by
  have:off=sz:=(beq_iff _ _).1 h
  subst this
  exact⟨[],rfl,by rw [←hl];simp,fun i f h=>by simp at h⟩
 |f::fs,off,cs,h,hl,hoff=>by
  simp only [oe]at h
  cases hz:size T f.type with
  |none=>rw [hz]at h;cases h
  |some z=>
   rw [hz]at h
   rw [Bool.and_eq_true,beq_iff]at h
   obtain⟨h1,h2⟩:=h
   have hle:off+z≤sz:=by
    clear hl hoff
    have:∀(fs:List Field)(o:Nat),oe T fs o sz=true→o≤sz:=by
     intro fs
     induction fs with
     |nil=>intro o h;exact Nat.le_of_eq ((beq_iff _ _).1 h)
     |cons g fs ih=>
      intro o h
      simp only [oe]at h
      cases hg:size T g.type with
      |none=>rw [hg]at h;cases h
      |some y=>
       rw [hg,Bool.and_eq_true]at h
       have:=ih _ h.2;omega
    exact this fs _ h2
   obtain⟨css,g1,g2,g3⟩:=nJ fs (off+z) cs h2 hl hle
   refine⟨(cs.drop f.offset).take z::css,by simp [g1],?_,fun i g hg=>?_⟩
   ·rw [List.flatten_cons,g2,h1,←List.drop_drop,List.take_append_drop]
   ·cases i with
    |zero=>simp at hg;subst hg;exact⟨z,hz,rfl⟩
    |succ i=>exact g3 i g (by simpa using hg)
end
end Go.az
end
