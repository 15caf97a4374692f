/- What the card of ReportBack leans on, part 13: written with few blanks and short names by a program out of longer texts. Conditions: those of each lemma. -/
import Derived.Test.YtdmpneafeadbbaaGreatDoorPal
import Derived.Lib.IndexBytes
import Derived.Lib.AtoiAllCases
set_option maxRecDepth 100000
set_option linter.unusedVariables false
set_option linter.unusedSimpArgs false
noncomputable section
namespace Go.Proofs.YtdmpneafeadbbaaGreatDoor
section
open Go Go.az Go.RowKit
namespace Pa
open L Td Te Vl Ad
def W6(z:List UInt8):List Int:=(List.range 32).map fun j=>((Ui.ub z j 2:Nat):Int)
theorem GK(z:List UInt8):(W6 z).length=32:=by simp [W6]
def AW(z:List UInt8):El t91:=⟨W6 z,GK z⟩
theorem rN(z:List UInt8):ah t91 (AW z)=Ui.row z 32 0:=by
 have h:=Gw (cR (AW z))
 have h2:ah t91 (AW z)=(cR (AW z)).map (Value.int .u8):=h
 rw [h2]
 show((List.range 32).map fun j=>((Ui.ub z j 2:Nat):Int)).map (Value.int .u8)=_
 rw [List.map_map]
 unfold Ui.row
 apply List.map_congr_left
 intro j hj
 have hj:j<32:=List.mem_range.1 hj
 simp [hj]
theorem AJ(z:List UInt8):Ax (cR (AW z)):=by
 intro n hn
 obtain⟨j,_,rfl⟩:=List.mem_map.1 (show n∈(List.range 32).map fun j=>((Ui.ub z j 2:Nat):Int)from hn)
 have:=Ui.LZ z j 2
 omega
def EP(t:List UInt8×List UInt8):El t93:=(t.1,AW t.2,())
def ER(r:List UInt8×(Int×Int×Nat×List UInt8)×Nat×List UInt8):El t95:=(r.1,(r.2.1.1,r.2.1.2.1,(r.2.1.2.2.1:Int),r.2.1.2.2.2,()),(r.2.2.1:Int),AW r.2.2.2,())
def jQ(st:St):El t47:=(st.dQ,(st.tags.map EP,()),(st.cT.map ER,()),st.cy.map AW,())
theorem ES(t:List UInt8×List UInt8):ah t93 (EP t)=EM t:=by
 show Value.string ⟨⟨t.1⟩⟩::(ah t91 (AW t.2)++[])=_
 rw [List.append_nil,rN]
 rfl
theorem ET(r:List UInt8×(Int×Int×Nat×List UInt8)×Nat×List UInt8):ah t95 (ER r)=Ad.Al r:=by
 show Value.string ⟨⟨r.1⟩⟩:: .int .u8 r.2.1.1:: .int .i64 r.2.1.2.1:: .int .u64 (r.2.1.2.2.1:Int):: .string ⟨⟨r.2.1.2.2.2⟩⟩:: .int .u64 (r.2.2.1:Int)::(ah t91 (AW r.2.2.2)++[])=_
 rw [List.append_nil,rN]
 rfl
theorem Mn{w:World}{st:St}{v:Value}(h:wA w st v):cQ w t47 (jQ st) v:=by
 obtain⟨tv,rv,hv,rfl,h1,h2,h3⟩:=h
 refine LW (x:=jQ st) ?_ ?_ ?_
 ·refine Lo.wy (t:=t93) (xs:=st.tags.map EP) rfl rfl (by simp) (e:=93) (base:=0) (size:=33) (n:=st.tags.length) ?_
  rw [List.map_map,show ah t93∘EP=EM from funext ES]
  exact h1
 ·refine Lo.wy (t:=t95) (xs:=st.cT.map ER) rfl rfl (by simp) (e:=95) (base:=0) (size:=38) (n:=st.cT.length) ?_
  rw [List.map_map,show ah t95∘ER=Ad.Al from funext ET]
  exact h2
 ·refine Lo.wy (t:=t91) (xs:=st.cy.map AW) rfl rfl (by simp) (e:=91) (base:=0) (size:=32) (n:=st.cy.length) ?_
  rw [List.map_map,show ah t91∘AW=fun z=>Ui.row z 32 0 from funext rN]
  exact h3
end Pa
end
section
open Go Go.az
namespace Pa
def dX:List UInt8→List (List UInt8)
 | []=>[[]]
 |c::l=>if c=32 then []::dX l else match dX l with
  | []=>[[c]]
  |a::r=>(c::a)::r
theorem Mo:∀l,dX l≠[]
 | []=>by simp [dX]
 |c::l=>by
  unfold dX
  split
  ·simp
  ·split<;>simp
theorem wC:∀(s:List UInt8),Lib.indexByte s 32= -1→dX s=[s]
 | [],_=>rfl
 |c::l,h=>by
  unfold Lib.indexByte at h
  by_cases hc:(c==32)=true
  ·rw [if_pos hc]at h;exact absurd h (by decide)
  ·rw [if_neg hc]at h
   have hc':c≠32:=fun e=>hc (by rw [e];rfl)
   by_cases h1:(Lib.indexByte l 32== -1)=true
   ·rw [dX,if_neg hc',wC l (eq_of_beq h1)]
   ·rw [if_neg h1]at h
    have:=Lib.indexByte_ge l 32
    omega
theorem wD:∀(s:List UInt8)(i:Nat),Lib.indexByte s 32=i→dX s=s.take i::dX (s.drop (i+1))
 | [],i,h=>by
  unfold Lib.indexByte at h
  omega
 |c::l,i,h=>by
  unfold Lib.indexByte at h
  by_cases hc:(c==32)=true
  ·rw [if_pos hc]at h
   obtain rfl:i=0:=by omega
   have hc':c=32:=eq_of_beq hc
   rw [dX,if_pos hc']
   simp
  ·rw [if_neg hc]at h
   have hc':c≠32:=fun e=>hc (by rw [e];rfl)
   by_cases h1:(Lib.indexByte l 32== -1)=true
   ·rw [if_pos h1]at h;omega
   ·rw [if_neg h1]at h
    have:=Lib.indexByte_ge l 32
    have h2:Lib.indexByte l 32≠ -1:=fun e=>h1 (by rw [e];rfl)
    obtain⟨j,rfl⟩:∃j,i=j+1:=⟨i-1,by omega⟩
    have h3:=wD l j (by omega)
    rw [dX,if_neg hc',h3]
    simp
theorem AK(s:ByteArray):Lib.indexB s ⟨#[32]⟩=Lib.indexByte s.data.toList 32:=Lib.one s ⟨#[32]⟩ rfl
theorem IH:∀(k:Nat)(s:ByteArray),Lib.countB s ⟨#[32]⟩=k→(Lib.splitB ⟨#[32]⟩ 0 k s).map (·.data.toList)=dX s.data.toList:=by
 intro k
 induction k with
 |zero=>
  intro s h
  have h1:Lib.indexByte s.data.toList 32= -1:=by
   by_cases e:Lib.indexByte s.data.toList 32= -1
   ·exact e
   ·have hge:=Lib.indexByte_ge s.data.toList 32
    have:=Lib.countB_hit s ⟨#[32]⟩ (Lib.indexByte s.data.toList 32).toNat (by decide) (by rw [AK];omega)
    omega
  rw [wC _ h1]
  rfl
 |succ k ih=>
  intro s h
  by_cases e:Lib.indexByte s.data.toList 32= -1
  ·have:=Lib.countB_miss s ⟨#[32]⟩ (by rw [AK];exact e)
   omega
  ·have hge:=Lib.indexByte_ge s.data.toList 32
   obtain⟨i,hi⟩:∃i:Nat,Lib.indexByte s.data.toList 32=i:=⟨(Lib.indexByte s.data.toList 32).toNat,by omega⟩
   have hiB:Lib.indexB s ⟨#[32]⟩=i:=by rw [AK];exact hi
   have h2:=Lib.countB_hit s ⟨#[32]⟩ i (by decide) hiB
   rw [Lib.splitB_hit _ _ _ _ i hiB,List.map_cons,ih _ (by omega),wD _ i hi,Lib.extract_to_end,Nat.add_zero,Lib.extract_from_zero]
   rfl
theorem C4(x:List UInt8):words x=dX (Lib.trimSuffix x [10]):=IH _ _ rfl
theorem wE:∀(w:List UInt8),(32:UInt8)∉w→dX w=[w]
 | [],_=>rfl
 |c::w,h=>by
  have hc:c≠32:=fun e=>h (by rw [e];exact List.mem_cons_self ..)
  rw [dX,if_neg hc,wE w fun e=>h (List.mem_cons_of_mem _ e)]
theorem wF:∀(w:List UInt8)(l:List UInt8),(32:UInt8)∉w→dX (w++32::l)=w::dX l
 | [],l,_=>by rw [List.nil_append,dX,if_pos rfl]
 |c::w,l,h=>by
  have hc:c≠32:=fun e=>h (by rw [e];exact List.mem_cons_self ..)
  rw [List.cons_append,dX,if_neg hc,wF w l fun e=>h (List.mem_cons_of_mem _ e)]
open Td in
theorem qs:∀(ws:List (List UInt8)),ws≠[]→(∀w∈ws,(32:UInt8)∉w)→dX (Jn.cd ws)=ws
 | [],h,_=>absurd rfl h
 | [a],_,h=>wE a (h a (by simp))
 |a::b::l,_,h=>by
  show dX (a++32::Jn.cd (b::l))=_
  rw [wF a _ (h a (by simp)),qs (b::l) (by simp) fun w hw=>h w (List.mem_cons_of_mem _ hw)]
theorem II(l:List UInt8):Lib.trimSuffix (l++[10]) [10]=l:=by
 unfold Lib.trimSuffix
 rw [if_pos (by simp [Lib.hasSuffix,List.isSuffixOf])]
 simp
theorem wG(ws:List (List UInt8))(h0:ws≠[])(h:∀w∈ws,(32:UInt8)∉w):words (Td.cj ws)=ws:=by
 rw [C4]
 unfold Td.cj
 rw [II,qs ws h0 h]
theorem C5:∀(b l:List UInt8),(10:UInt8)∉b→Ln.cut (b++10::l)=(b++[10])::Ln.cut l
 | [],l,_=>by rw [List.nil_append,Ln.cut,if_pos rfl];rfl
 |c::b,l,h=>by
  have hc:c≠10:=fun e=>h (by rw [e];exact List.mem_cons_self ..)
  rw [List.cons_append,Ln.cut,if_neg hc,C5 b l fun e=>h (List.mem_cons_of_mem _ e)]
  rfl
theorem yE:∀(bs:List (List UInt8)),(∀b∈bs,(10:UInt8)∉b)→Ln.cut ((bs.map fun b=>b++[10]).flatten)=bs.map fun b=>b++[10]
 | [],_=>rfl
 |b::bs,h=>by
  rw [List.map_cons,List.flatten_cons,show b++[10]++(bs.map fun b=>b++[10]).flatten=b++10::(bs.map fun b=>b++[10]).flatten by simp,C5 b _ (h b (by simp)),yE bs fun c hc=>h c (List.mem_cons_of_mem _ hc)]
theorem rO:∀(ws:List (List UInt8)),(∀w∈ws,(10:UInt8)∉w)→(10:UInt8)∉Jn.cd ws
 | [],_=>by simp [Jn.cd]
 | [a],h=>h a (by simp)
 |a::b::l,h=>by
  show(10:UInt8)∉a++32::Jn.cd (b::l)
  have h1:=h a (by simp)
  have h2:=rO (b::l) fun w hw=>h w (List.mem_cons_of_mem _ hw)
  simp only [List.mem_append,List.mem_cons,not_or]
  exact⟨h1,by decide,h2⟩
theorem C6(x:El L.t47)(h:∀ws∈Td.nO x,∀w∈ws,(10:UInt8)∉w):Ln.cut (Td.eX x)=(Td.nO x).map Td.cj:=by
 have:=yE ((Td.nO x).map Jn.cd) fun b hb=>by
  obtain⟨ws,hws,rfl⟩:=List.mem_map.1 hb
  exact rO ws (h ws hws)
 rw [List.map_map]at this
 exact this
theorem sX:∀(l:List UInt8),(dX l).length≤l.length+1∧∀w∈dX l,w.length≤l.length
 | []=>by simp [dX]
 |c::l=>by
  obtain⟨h1,h2⟩:=sX l
  unfold dX
  split
  ·refine⟨by simp;omega,fun w hw=>?_⟩
   rcases List.mem_cons.1 hw with rfl|hw
   ·simp
   ·have:=h2 w hw;simp;omega
  ·cases h:dX l with
   |nil=>exact absurd h (Mo l)
   |cons a r=>
    rw [h]at h1 h2
    refine⟨by simp at h1 ⊢;omega,fun w hw=>?_⟩
    rcases List.mem_cons.1 hw with rfl|hw
    ·have:=h2 a (by simp);simp;omega
    ·have:=h2 w (by simp [hw]);simp;omega
theorem sY(x:List UInt8):(words x).length≤x.length+1∧∀w∈words x,w.length≤x.length:=by
 rw [C4]
 have h:=sX (Lib.trimSuffix x [10])
 have h3:=C3 x
 exact⟨by omega,fun w hw=>Nat.le_trans (h.2 w hw) h3⟩
open Ad in
theorem AL(s s':St)(ws:List (List UInt8))(h:bB s ws=some s'):s'.tags.length≤s.tags.length+1∧s'.cT.length≤s.cT.length+1∧s'.cy.length≤s.cy.length+ws.length:=by
 match ws,h with
 | [],h=>cases h
 |a::r,h=>
  rw [cG]at h
  split at h
  ·cases h
   simp
  ·split at h
   ·split at h
    ·split at h
     ·cases h;simp
     ·cases h
    ·cases h
   ·split at h
    ·cases h;simp
    ·cases h
   ·split at h
    ·split at h
     ·cases h;simp
     ·cases h
    ·cases h
   ·cases h
open Ad in
theorem nP:∀(ls:List (List UInt8))(s st:St),aS s ls=some st→st.tags.length≤s.tags.length+ls.length∧st.cT.length≤s.cT.length+ls.length∧st.cy.length≤s.cy.length+(ls.map List.length).sum+ls.length
 | [],s,st,h=>by
  cases h
  simp
 |l::ls,s,st,h=>by
  have h:(match bB s (words l)with|none=>none|some s'=>aS s' ls)=some st:=h
  cases hc:bB s (words l)with
  |none=>rw [hc]at h;cases h
  |some s'=>
   rw [hc]at h
   obtain⟨h1,h2,h3⟩:=AL s s' _ hc
   obtain⟨k1,k2,k3⟩:=nP ls s' st h
   have:=(sY l).1
   simp only [List.length_cons,List.map_cons,List.sum_cons]
   omega
theorem yF:∀s:List UInt8,(Ln.cut s).length≤s.length
 | []=>Nat.le_refl _
 |c::l=>by
  have ih:=yF l
  unfold Ln.cut
  split
  ·simpa using ih
  ·cases h:Ln.cut l with
   |nil=>simp
   |cons a r=>rw [h]at ih;simp at ih ⊢;omega
theorem Qc(s:List UInt8):((Ln.cut s).map List.length).sum=s.length:=by
 rw [←List.length_flatten,wz]
theorem C7:∀(l:List Nat)(k:Nat),(l.take k).sum≤l.sum
 | [],k=>by simp
 |a::l,0=>by simp
 |a::l,k+1=>by
  have:=C7 l k
  simp only [List.take_succ_cons,List.sum_cons]
  omega
open Ad in
theorem EU(S:List UInt8)(hS:S.length≤30000)(k:Nat)(st:St)(h:aS St.nil ((Ln.cut S).take k)=some st):st.tags.length≤100000∧st.cT.length≤100000∧st.cy.length≤100000:=by
 obtain⟨h1,h2,h3⟩:=nP _ _ _ h
 have h4:=yF S
 have h5:((Ln.cut S).take k).length≤(Ln.cut S).length:=by rw [List.length_take];omega
 have h6:=C7 ((Ln.cut S).map List.length) k
 rw [Qc,←List.map_take]at h6
 have e1:St.nil.tags.length=0:=rfl
 have e2:St.nil.cT.length=0:=rfl
 have e3:St.nil.cy.length=0:=rfl
 omega
end Pa
end
section
open Go Go.az
namespace Pa
open L Td
theorem Mq:∀n:Fin 16,Ui.nb (Bd.AU n.1)=n.1:=by decide
theorem Mr:∀(l:List UInt8)(j:Nat)(b:UInt8),l[j]? =some b→(Bd.hex l)[2*j]? =some (Bd.AU (b.toNat / 16))∧(Bd.hex l)[2*j+1]? =some (Bd.AU (b.toNat % 16))
 | [],j,b,h=>by simp at h
 |a::l,0,b,h=>by
  simp at h
  subst h
  exact⟨rfl,rfl⟩
 |a::l,j+1,b,h=>by
  have:=Mr l j b (by simpa using h)
  rw [show 2*(j+1)=2*j+1+1 by omega]
  exact this
theorem Ti(l:List UInt8)(j:Nat)(b:UInt8)(h:l[j]? =some b):Ui.ub (Bd.hex l) j 2=b.toNat:=by
 obtain⟨h1,h2⟩:=Mr l j b h
 have hb:=b.toNat_lt
 have hl:2*j+1<(Bd.hex l).length:=(List.getElem?_eq_some_iff.1 h2).1
 have n1:=Mq ⟨b.toNat / 16,by omega⟩
 have n2:=Mq ⟨b.toNat % 16,by omega⟩
 simp only at n1 n2
 have g1:(Bd.hex l).getD (2*j+0) 0=Bd.AU (b.toNat / 16):=by simp [List.getD,h1]
 have g2:(Bd.hex l).getD (2*j+1) 0=Bd.AU (b.toNat % 16):=by simp [List.getD,h2]
 unfold Ui.ub
 rw [if_pos hl,g2,n2]
 unfold Ui.ub
 rw [if_pos (show 2*j+0<(Bd.hex l).length by omega),g1,n1]
 unfold Ui.ub
 omega
theorem AM(y:El t91)(h:Ax (cR y)):AW (fL y)=y:=by
 apply Subtype.ext
 show W6 (fL y)=cR y
 have hlen:(cR y).length=32:=wj y
 apply List.ext_getElem
 ·rw [GK,hlen]
 ·intro i h1 h2
  have hu:(AV (cR y))[i]? =some (UInt8.ofNat ((cR y)[i]).toNat):=by
   simp [AV,List.getElem?_eq_getElem h2]
  have:=Ti (AV (cR y)) i _ hu
  have hB:=h _ (List.getElem_mem h2)
  simp only [W6,List.getElem_map,List.getElem_range]
  unfold fL
  rw [this,UInt8.toNat_ofNat']
  omega
end Pa
end
section
open Go Go.az Go.RowKit
namespace L
open Vl
theorem iD{u:Nat}(h:u<10):Lib.decDigits u=[UInt8.ofNat (48+u)]:=by rw [Lib.decDigits,dif_pos h]
theorem tM{u:Nat}(h:¬u<10):Lib.decDigits u=Lib.decDigits (u / 10)++[UInt8.ofNat (48+u % 10)]:=by rw [Lib.decDigits,dif_neg h]
def W7(l:List UInt8):List Int:=l.map fun c=>Int.ofNat c.toNat
theorem wH{k m:Nat}(h:k≤m):oQ (Int.ofNat k) m=some k:=by
 show iff (Nat.ble k m) (some k) none=_
 rw [gP h];rfl
theorem Qd(m:Int)(b:Nat)(l:List UInt8):lK 1 m b l=110::Lib.itoa m:=rfl
theorem Tj(m:Int)(b:Nat)(l:List UInt8):lK 2 m b l=102::Bd.hex (sQ b):=rfl
theorem Tk(m:Int)(b:Nat)(l:List UInt8):lK 3 m b l=116::Es.iC l:=rfl
theorem ni(u:Nat)(hu:u<18446744073709551616):(Lib.decDigits u).length≤20:=by
 have key:∀(f u:Nat),u<10^(f+1)→(Lib.decDigits u).length≤f+1:=by
  intro f
  induction f with
  |zero=>intro u h;rw [iD (by simpa using h)];simp
  |succ f ih=>
   intro u h
   by_cases h1:u<10
   ·rw [iD h1];simp
   ·rw [tM h1,List.length_append,List.length_singleton]
    have:=ih (u / 10) (by rw [Nat.pow_succ]at h;omega)
    omega
 exact key 19 u (by omega)
theorem wI{k m:Int}{b:Nat}{l:List UInt8}(h:ga k m b l=true):k=1∨k=2∨(k=3∧l.length≤30):=by
 unfold ga at h
 by_cases h1:k=1
 ·exact .inl h1
 ·by_cases h2:k=2
  ·exact .inr (.inl h2)
  ·by_cases h3:k=3
   ·rw [if_neg h1,if_neg h2,if_pos h3]at h
    simp only [Bool.and_eq_true,decide_eq_true_eq]at h
    exact .inr (.inr ⟨h3,h.1.2⟩)
   ·rw [if_neg h1,if_neg h2,if_neg h3]at h;cases h
theorem eN(u:Nat)(h:u<10):(UInt8.ofNat (48+u)).toNat=48+u:=by simp;omega
theorem AN(u:Nat):Lib.decDigits u≠[]:=by
 by_cases h:u<10
 ·rw [iD h];simp
 ·rw [tM h];simp
def hv(c:UInt8):Nat:=if 48≤c.toNat∧c.toNat≤57 then c.toNat-48 else if 97≤c.toNat∧c.toNat≤102 then c.toNat-87 else 16
def up{α:Type}(o:Option (List α))(x:α):Option (List α):=some (match o with|none=>[x]|some l=>l++[x])
end L
end
section
open Go Go.az Go.RowKit
namespace L
open Vl Rv
theorem GL:∀t:List UInt8,Wg.lL (Es.iC t)=t
 | []=>rfl
 |c::t=>by
  show Wg.lL (Es.lJ c++Es.iC t)=_
  have ih:=GL t
  unfold Es.lJ
  by_cases h:c=32
  ·rw [if_pos h,h]
   show Wg.lL (92::115::Es.iC t)=_
   rw [Wg.lL,if_neg (by decide),if_pos ⟨rfl,rfl⟩,ih]
  ·rw [if_neg h]
   by_cases h2:c=92
   ·rw [if_pos h2,h2]
    show Wg.lL (92::92::Es.iC t)=_
    rw [Wg.lL,if_pos ⟨rfl,rfl⟩,ih]
   ·rw [if_neg h2]
    show Wg.lL (c::Es.iC t)=_
    rw [Wg.CW c _ (.inl h2),ih]
abbrev V4:Type:=Int×Int×Nat×List UInt8
def In(v:V4):Prop:= -9223372036854775808≤v.2.1∧v.2.1≤9223372036854775807∧v.2.2.1<18446744073709551616
def Reads(s:List UInt8)(v:V4):Prop:=In v∧ga v.1 v.2.1 v.2.2.1 v.2.2.2=true∧lK v.1 v.2.1 v.2.2.1 v.2.2.2=s
theorem z0:(-9223372036854775808:Int)≤0:=by decide
theorem z1:(0:Int)≤9223372036854775807:=by decide
theorem zb:(0:Nat)<18446744073709551616:=by decide
theorem yG:∀(l:List UInt8)(a v:Nat)(c:UInt8),Lib.parseUint10 a l= .ok v→48≤c.toNat→c.toNat≤57→v*10+(c.toNat-48)<18446744073709551616→Lib.parseUint10 a (l++[c])= .ok (v*10+(c.toNat-48))
 | [],a,v,c,h,h1,h2,h3=>by
  have hv:a=v:=by injection h
  subst hv
  show Lib.parseUint10 a [c]=_
  rw [Lib.parseUint10,if_pos ⟨h1,h2⟩,if_neg (by omega),if_neg (by omega)];rfl
 |d::l,a,v,c,h,h1,h2,h3=>by
  rw [Lib.parseUint10]at h
  show Lib.parseUint10 a (d::(l++[c]))=_
  rw [Lib.parseUint10]
  split at h
  ·rename_i hd
   rw [if_pos hd]
   split at h
   ·cases h
   ·rename_i h4
    rw [if_neg h4]
    split at h
    ·cases h
    ·rename_i h5
     rw [if_neg h5]
     exact yG l _ v c h h1 h2 h3
  ·cases h
theorem EV:∀(u:Nat),u<18446744073709551616→Lib.parseUint10 0 (Lib.decDigits u)= .ok u:=by
 intro u
 induction u using Nat.strongRecOn with
 |_ u ih=>
  intro hu
  by_cases h:u<10
  ·rw [iD h,Lib.parseUint10,eN u h,if_pos (by omega),if_neg (by omega),if_neg (by omega),Lib.parseUint10]
   congr 1
   omega
  ·rw [tM h,yG _ _ (u / 10) _ (ih (u / 10) (by omega) (by omega)) (by rw [eN _ (by omega)];omega) (by rw [eN _ (by omega)];omega) (by rw [eN _ (by omega)];omega)]
   congr 1
   rw [eN _ (by omega)];omega
theorem GM:∀(u:Nat),∀c∈Lib.decDigits u,48≤c.toNat∧c.toNat≤57:=by
 intro u
 induction u using Nat.strongRecOn with
 |_ u ih=>
  intro c hc
  by_cases h:u<10
  ·rw [iD h,List.mem_singleton]at hc
   rw [hc,eN u h];omega
  ·rw [tM h,List.mem_append,List.mem_singleton]at hc
   rcases hc with hc|hc
   ·exact ih (u / 10) (by omega) c hc
   ·rw [hc,eN _ (by omega)];omega
theorem wJ(m:Int)(h0: -9223372036854775808≤m)(h1:m≤9223372036854775807):Lib.parseIntB 64 (Lib.itoa m)= .ok m:=by
 rw [Lib.parseIntB_64]
 unfold Lib.itoa
 by_cases hm:m<0
 ·rw [if_pos hm,Lib.atoiAll_minus]
  unfold Lib.parseMag
  rw [if_neg (AN _),EV _ (by omega),Lib.signed,if_neg (by omega)]
  congr 1
  omega
 ·rw [if_neg hm]
  have hp:Lib.atoiAll (Lib.decDigits m.toNat)=Lib.signless (Lib.parseMag (Lib.decDigits m.toNat)):=by
   have ha:=GM m.toNat
   cases hd:Lib.decDigits m.toNat with
   |nil=>exact absurd hd (AN _)
   |cons c r=>
    rw [hd]at ha
    have:=ha c (List.mem_cons_self ..)
    exact Lib.atoiAll_plain c r (by omega) (by omega)
  rw [hp]
  unfold Lib.parseMag
  rw [if_neg (AN _),EV _ (by omega),Lib.signless,if_neg (by omega)]
  congr 1
  omega
theorem Ms(i:Nat)(h:i<16):Ph.dv (Bd.AU i)=i:=by
 have:∀i:Fin 16,Ph.dv (Bd.AU i.1)=i.1:=by decide
 exact this ⟨i,h⟩
def num:Nat→List UInt8→Nat
 |a,[]=>a
 |a,c::l=>num (a*256+c.toNat) l
theorem GN:∀(bs:List UInt8)(a:Nat),(a+1)*256^bs.length≤18446744073709551616→Ph.lM a (Bd.hex bs)=some (num a bs)
 | [],a,_=>rfl
 |c::bs,a,h=>by
  have hc:=c.toNat_lt
  have hp:0<256^bs.length:=Nat.pow_pos (by decide)
  have h2:(a+1)*256*256^bs.length≤18446744073709551616:=by
   rw [List.length_cons,Nat.pow_succ,Nat.mul_comm (256^bs.length) 256,←Nat.mul_assoc]at h
   exact h
  have h1:(a+1)*256≤18446744073709551616:=Nat.le_trans (Nat.le_mul_of_pos_right _ hp) h2
  show Ph.lM a (Bd.AU (c.toNat / 16)::Bd.AU (c.toNat % 16)::Bd.hex bs)=_
  rw [Ph.lM,Ms _ (by omega),if_pos ⟨by omega,by omega⟩,Ph.lM,Ms _ (by omega),if_pos ⟨by omega,by omega⟩]
  have e:(a*16+c.toNat / 16)*16+c.toNat % 16=a*256+c.toNat:=by omega
  rw [e]
  exact GN bs (a*256+c.toNat) (Nat.le_trans (Nat.mul_le_mul_right _ (by omega)) h2)
theorem Qe(b:Nat)(hb:b<18446744073709551616):num 0 (sQ b)=b:=by
 unfold sQ
 simp only [num,UInt8.toNat_ofNat']
 omega
theorem Qf(b:Nat)(hb:b<18446744073709551616):Ph.lM 0 (Bd.hex (sQ b))=some b:=by
 rw [GN (sQ b) 0 (show(0+1)*256^8≤18446744073709551616 by decide),Qe b hb]
theorem YF{m:Int}{b:Nat}{l:List UInt8}(h:ga 1 m b l=true):b=0∧l=[]:=by
 unfold ga at h
 rw [if_pos rfl]at h
 simpa using h
theorem YG{m:Int}{b:Nat}{l:List UInt8}(h:ga 2 m b l=true):m=0∧l=[]:=by
 unfold ga at h
 rw [if_neg (by decide),if_pos rfl]at h
 simp only [Bool.and_eq_true,decide_eq_true_eq]at h
 exact h.1
theorem YH{m:Int}{b:Nat}{l:List UInt8}(h:ga 3 m b l=true):m=0∧b=0∧l.length≤30:=by
 unfold ga at h
 rw [if_neg (by decide),if_neg (by decide),if_pos rfl]at h
 simp only [Bool.and_eq_true,decide_eq_true_eq]at h
 exact⟨h.1.1.1,h.1.1.2,h.1.2⟩
theorem Mt(v:V4)(h:In v)(ho:ga v.1 v.2.1 v.2.2.1 v.2.2.2=true):jg (lK v.1 v.2.1 v.2.2.1 v.2.2.2)=some v:=by
 obtain⟨k,m,b,l⟩:=v
 obtain⟨h0,h1,hb⟩:=h
 simp only at*
 rcases wI ho with rfl|rfl|⟨rfl,_⟩
 ·obtain⟨rfl,rfl⟩:=YF ho
  rw [Qd,jg,if_pos rfl,wJ m h0 h1]
 ·obtain⟨rfl,rfl⟩:=YG ho
  have hne:Bd.hex (sQ b)≠[]:=fun h=>by
   have:=congrArg List.length h
   rw [Bd.jb]at this
   cases this
  rw [Tj,jg,if_neg (by decide),if_pos rfl,if_neg hne,Qf b hb]
 ·obtain⟨rfl,rfl,_⟩:=YH ho
  rw [Tk,jg,if_neg (by decide),if_neg (by decide),if_pos rfl,GL]
theorem Qg{s:List UInt8}{v:V4}(h:jg s=some v):In v:=by
 cases s with
 |nil=>cases h
 |cons c l=>
  rw [jg]at h
  split at h
  ·split at h
   ·rename_i m hm
    cases h
    obtain⟨h0,h1⟩:=Lib.parseIntB_bounds hm
    exact⟨h0,Int.le_of_lt_add_one h1,zb⟩
   ·cases h
  ·split at h
   ·split at h
    ·rename_i b hb
     cases h
     by_cases hn:l=[]
     ·rw [if_pos hn]at hb;cases hb
     ·rw [if_neg hn]at hb
      exact⟨z0,z1,EK _ _ _ (by decide) hb⟩
    ·cases h
   ·split at h
    ·cases h;exact⟨z0,z1,zb⟩
    ·cases h;exact⟨z0,z1,zb⟩
theorem EW(s:List UInt8)(v:V4):rd s=some v↔Reads s v:=by
 unfold rd Reads
 constructor
 ·intro h
  cases hc:jg s with
  |none=>rw [hc]at h;cases h
  |some u=>
   rw [hc]at h
   obtain⟨k,m,b,l⟩:=u
   simp only at h
   split at h
   ·rename_i h2
    cases h
    exact⟨Qg hc,h2⟩
   ·cases h
 ·rintro⟨h1,h2,h3⟩
  have hc:=Mt v h1 h2
  rw [h3]at hc
  rw [hc]
  obtain⟨k,m,b,l⟩:=v
  simp only at*
  rw [if_pos ⟨h2,h3⟩]
theorem Mu(m:Int)(h0: -9223372036854775808≤m)(h1:m≤9223372036854775807):(Lib.itoa m).length≤21:=Lib.itoa_length_le m h0 h1
def ir(c:UInt8):Prop:=32<c.toNat∧c.toNat≤126
theorem C8(i:Nat)(h:i<16):ir (Bd.AU i):=by
 have:∀i:Fin 16,32<(Bd.AU i.1).toNat∧(Bd.AU i.1).toNat≤126:=by decide
 exact this ⟨i,h⟩
theorem wK:∀(bs:List UInt8),∀c∈Bd.hex bs,ir c
 | [],c,h=>by cases h
 |d::bs,c,h=>by
  have hd:=d.toNat_lt
  rcases List.mem_cons.1 h with rfl|h
  ·exact C8 _ (by omega)
  ·rcases List.mem_cons.1 h with rfl|h
   ·exact C8 _ (by omega)
   ·exact wK bs c h
theorem qt(u:Nat):∀c∈Lib.decDigits u,ir c:=fun c h=>by
 have:=GM u c h
 exact⟨by omega,by omega⟩
theorem IJ(m:Int):∀c∈Lib.itoa m,ir c:=fun c h=>by
 unfold Lib.itoa at h
 split at h
 ·rcases List.mem_cons.1 h with rfl|h
  ·exact⟨by decide,by decide⟩
  ·exact qt _ c h
 ·exact qt _ c h
theorem C9:∀(l:List UInt8),Tx.dh l=true→∀c∈Es.iC l,ir c
 | [],_,c,h=>by cases h
 |d::l,hp,c,h=>by
  have hp':(!Tx.pr d.toNat&&Tx.dh l)=true:=by
   unfold Tx.dh at hp
   rw [List.all_cons]at hp
   exact hp
  rw [Bool.and_eq_true]at hp'
  have hd:32≤d.toNat∧d.toNat≤126:=by
   have:=hp'.1
   unfold Tx.pr at this
   simp at this
   omega
  have h:c∈Es.lJ d++Es.iC l:=h
  rcases List.mem_append.1 h with h|h
  ·unfold Es.lJ at h
   split at h
   ·rcases List.mem_cons.1 h with rfl|h
    ·exact⟨by decide,by decide⟩
    ·rw [List.mem_singleton.1 h];exact⟨by decide,by decide⟩
   ·rename_i h32
    split at h
    ·rcases List.mem_cons.1 h with rfl|h
     ·exact⟨by decide,by decide⟩
     ·rw [List.mem_singleton.1 h];exact⟨by decide,by decide⟩
    ·rw [List.mem_singleton.1 h]
     have:d.toNat≠32:=fun e=>h32 (UInt8.toNat_inj.1 e)
     exact⟨by omega,hd.2⟩
  ·exact C9 l hp'.2 c h
theorem W8{m:Int}{b:Nat}{l:List UInt8}(h:ga 3 m b l=true):Tx.dh l=true:=by
 unfold ga at h
 rw [if_neg (by decide),if_neg (by decide),if_pos rfl]at h
 simp only [Bool.and_eq_true]at h
 exact h.2
theorem Mv(v:V4)(ho:ga v.1 v.2.1 v.2.2.1 v.2.2.2=true):∀c∈lK v.1 v.2.1 v.2.2.1 v.2.2.2,ir c:=by
 obtain⟨k,m,b,l⟩:=v
 simp only at*
 intro c hc
 rcases wI ho with rfl|rfl|⟨rfl,hl⟩
 ·rw [Qd]at hc
  rcases List.mem_cons.1 hc with rfl|hc
  ·exact⟨by decide,by decide⟩
  ·exact IJ m c hc
 ·rw [Tj]at hc
  rcases List.mem_cons.1 hc with rfl|hc
  ·exact⟨by decide,by decide⟩
  ·exact wK _ c hc
 ·rw [Tk]at hc
  rcases List.mem_cons.1 hc with rfl|hc
  ·exact⟨by decide,by decide⟩
  ·exact C9 l (W8 ho) c hc
theorem rP(v:V4)(h:In v)(ho:ga v.1 v.2.1 v.2.2.1 v.2.2.2=true):1≤(lK v.1 v.2.1 v.2.2.1 v.2.2.2).length∧(lK v.1 v.2.1 v.2.2.1 v.2.2.2).length≤61:=by
 obtain⟨k,m,b,l⟩:=v
 obtain⟨h0,h1,hb⟩:=h
 simp only at*
 rcases wI ho with rfl|rfl|⟨rfl,hl⟩
 ·have:=Mu m h0 h1
  rw [Qd,List.length_cons];omega
 ·rw [Tj,List.length_cons,Bd.jb]
  have:(sQ b).length=8:=rfl
  omega
 ·rw [Tk,List.length_cons,Es.oE]
  have:=Es.Ap l
  omega
end L
end
section
open Go Go.az
namespace Pa
open L Td Ad Rv Vl
theorem Mw(u:Nat)(h:u≤9223372036854775807):Lib.atoiAll (Lib.decDigits u)= .ok (u:Int):=by
 have h1:=wJ (u:Int) (by omega) (by omega)
 rw [Lib.parseIntB_64,Lib.itoa_nonneg]at h1
 exact h1
theorem GO:∀(l:List UInt8)(acc v:Nat),Lib.parseUint10 acc l= .ok v→Lib.parseUintM (2^64-1) acc l= .ok v
 | [],acc,v,h=>h
 |c::r,acc,v,h=>by
  unfold Lib.parseUint10 at h
  unfold Lib.parseUintM
  split at h
  ·rename_i hc
   rw [if_pos hc]
   split at h
   ·cases h
   ·rename_i h1
    rw [if_neg h1]
    split at h
    ·cases h
    ·rename_i h2
     rw [if_neg (by omega)]
     exact GO r _ v h
  ·cases h
theorem Mx(u:Nat)(h:u<18446744073709551616):Lib.parseUintB 64 (Lib.decDigits u)= .ok u:=by
 unfold Lib.parseUintB
 rw [if_neg (AN u)]
 exact GO _ _ _ (EV u h)
theorem qv{l:List UInt8}(h:∀c∈l,ir c):(32:UInt8)∉l∧(10:UInt8)∉l:=
 ⟨fun e=>by have:=(h _ e).1;revert this;decide,fun e=>by have:=(h _ e).1;revert this;decide⟩
structure nu(x:El t47):Prop where
 fits:Fits x
 tk:∀y∈cK x,∀c∈rE y,ir c
 rk:∀y∈cv x,∀c∈rF y,ir c
theorem rQ(y:El t91):∀c∈fL y,ir c:=wK _
theorem rR{x:El t47}(h:nu x):∀ws∈nO x,ws≠[]∧∀w∈ws,∀c∈w,ir c:=by
 have hv:∀c∈bt,ir c:=by unfold ir;decide
 have hh:∀c∈di,ir c:=by unfold ir;decide
 have ht:∀c∈lg,ir c:=by unfold ir;decide
 have hr:∀c∈nz,ir c:=by unfold ir;decide
 intro ws hws
 rcases List.mem_cons.1 hws with rfl|hws
 ·refine⟨by simp,fun w hw=>?_⟩
  simp only [List.mem_cons,List.not_mem_nil,or_false]at hw
  rcases hw with rfl|rfl
  ·exact hv
  ·exact qt _
 rcases List.mem_cons.1 hws with rfl|hws
 ·refine⟨by simp,fun w hw=>?_⟩
  rcases List.mem_cons.1 hw with rfl|hw
  ·exact hh
  ·obtain⟨y,_,rfl⟩:=List.mem_map.1 hw
   exact rQ y
 rcases List.mem_append.1 hws with hws|hws
 ·obtain⟨y,hy,rfl⟩:=List.mem_map.1 hws
  refine⟨by simp [jP],fun w hw=>?_⟩
  simp only [jP,List.mem_cons,List.not_mem_nil,or_false]at hw
  rcases hw with rfl|rfl|rfl
  ·exact ht
  ·exact h.tk y hy
  ·exact rQ _
 ·obtain⟨y,hy,rfl⟩:=List.mem_map.1 hws
  refine⟨by simp [je],fun w hw=>?_⟩
  simp only [je,List.mem_cons,List.not_mem_nil,or_false]at hw
  rcases hw with rfl|rfl|rfl|rfl|rfl
  ·exact hr
  ·exact h.rk y hy
  ·exact Mv (vK (bh y),vM (bh y),(vB (bh y)).toNat,vT (bh y)) (h.fits.cT y hy).2.2.2.2.2.2.2.2
  ·exact qt _
  ·exact rQ _
theorem Da(s:St):∀(a b:List (List UInt8)),aS s (a++b)=(aS s a).bind fun s'=>aS s' b:=by
 intro a
 induction a generalizing s with
 |nil=>intro b;rfl
 |cons l a ih=>
  intro b
  show(match bB s (words l)with|none=>none|some s'=>aS s' (a++b))=(match bB s (words l)with|none=>none|some s'=>aS s' a).bind _
  cases bB s (words l)with
  |none=>rfl
  |some s'=>exact ih s' b
theorem iu(s s':St)(ws:List (List UInt8))(ls:List (List UInt8))(h0:ws≠[])(hd:∀w∈ws,∀c∈w,ir c)(h:bB s ws=some s'):aS s (cj ws::ls)=aS s' ls:=by
 show(match bB s (words (cj ws))with|none=>none|some s'=>aS s' ls)=_
 rw [wG ws h0 fun w hw=>(qv (hd w hw)).1,h]
def My(t:El t93):List UInt8×List UInt8:=(rE t,fL (Gy t))
def rA(r:El t95):List UInt8×(Int×Int×Nat×List UInt8)×Nat×List UInt8:=(rF r,(vK (bh r),vM (bh r),(vB (bh r)).toNat,vT (bh r)),(ep r).toNat,fL (Dj r))
def Tl(x:El t47):St:=⟨gy x,(cK x).map My,(cv x).map rA,(cf x).map fL⟩
theorem yH:∀(ts:List (El t93))(s:St),(∀y∈ts,∀w∈jP y,∀c∈w,ir c)→aS s ((ts.map jP).map cj)=some {s with tags:=s.tags++ts.map My}
 | [],s,_=>by simp [aS]
 |t::ts,s,h=>by
  have h1:bB s (jP t)=some {s with tags:=s.tags++[My t]}:=by
   unfold jP
   rw [cG,if_neg Q8]
   exact if_pos rfl
  rw [List.map_cons,List.map_cons,iu s _ _ _ (by simp [jP]) (h t (by simp)) h1,yH ts _ fun y hy=>h y (List.mem_cons_of_mem _ hy)]
  simp
theorem yI:∀(rs:List (El t95))(s:St),(∀y∈rs,(∀w∈je y,∀c∈w,ir c)∧rd (Aw (bh y))=some (vK (bh y),vM (bh y),(vB (bh y)).toNat,vT (bh y))∧(ep y).toNat<18446744073709551616)→aS s ((rs.map je).map cj)=some {s with cT:=s.cT++rs.map rA}
 | [],s,_=>by simp [aS]
 |t::ts,s,h=>by
  obtain⟨g1,g2,g3⟩:=h t (by simp)
  have h1:bB s (je t)=some {s with cT:=s.cT++[rA t]}:=by
   unfold je
   rw [cG,if_neg Q9]
   refine(if_pos rfl).trans ?_
   rw [g2,Mx _ g3]
   rfl
  rw [List.map_cons,List.map_cons,iu s _ _ _ (by simp [je]) g1 h1,yI ts _ fun y hy=>h y (List.mem_cons_of_mem _ hy)]
  simp
theorem IK{x:El t47}(h:nu x):aS St.nil (Ln.cut (eX x))=some (Tl x):=by
 have hd:=rR h
 have hf:=h.fits
 have v0:=hf.P5
 have v1:=hf.IC
 rw [C6 x fun ws hws w hw=>(qv ((hd ws hws).2 w hw)).2]
 unfold nO at hd ⊢
 rw [List.map_cons,List.map_cons,List.map_append]
 have h1:bB St.nil [bt,Lib.decDigits (gy x).toNat]=some {St.nil with dQ:=gy x}:=by
  rw [cG,if_neg Q7]
  refine(if_pos rfl).trans ?_
  rw [Mw _ (by omega)]
  show some ({St.nil with dQ:=(((gy x).toNat:Nat):Int)}:St)=_
  rw [Int.toNat_of_nonneg v0]
 rw [iu _ _ _ _ (by simp) (hd _ (by simp)).2 h1]
 have h2:bB {St.nil with dQ:=gy x} (di::(cf x).map fL)=some {St.nil with dQ:=gy x,cy:=(cf x).map fL}:=by
  rw [cG,if_pos rfl]
  rfl
 rw [iu _ _ _ _ (by simp) (hd _ (by simp)).2 h2,Da,yH _ _ fun y hy=>(hd (jP y) (by simp only [List.mem_cons,List.mem_append,List.mem_map];exact .inr (.inr (.inl ⟨y,hy,rfl⟩)))).2]
 show aS _ _=_
 rw [yI _ _ fun y hy=>?_]
 ·simp [Tl,St.nil]
 ·obtain⟨g1,g2,g3,g4,g5,g6,g7,g8,g9⟩:=hf.cT y hy
  refine⟨(hd (je y) (by simp only [List.mem_cons,List.mem_append,List.mem_map];exact .inr (.inr (.inr ⟨y,hy,rfl⟩)))).2,?_,by omega⟩
  exact(EW _ (vK (bh y),vM (bh y),(vB (bh y)).toNat,vT (bh y))).2 ⟨⟨g5,g6,by show(vB (bh y)).toNat<_;omega⟩,g9,rfl⟩
theorem Qh{x:El t47}(h:nu x):jQ (Tl x)=x:=by
 have hf:=h.fits
 have e1:((cK x).map My).map EP=cK x:=by
  rw [List.map_map]
  conv=>rhs;rw [←List.map_id (cK x)]
  apply List.map_congr_left
  intro t ht
  show((rE t,AW (fL (Gy t)),()):El t93)=t
  rw [AM _ (hf.tags t ht).2]
  rfl
 have e2:((cv x).map rA).map ER=cv x:=by
  rw [List.map_map]
  conv=>rhs;rw [←List.map_id (cv x)]
  apply List.map_congr_left
  intro r hr
  obtain⟨g1,g2,g3,g4,g5,g6,g7,g8,g9⟩:=hf.cT r hr
  show((rF r,(vK (bh r),vM (bh r),(((vB (bh r)).toNat:Nat):Int),vT (bh r),()),(((ep r).toNat:Nat):Int),AW (fL (Dj r)),()):El t95)=r
  rw [AM _ g2,Int.toNat_of_nonneg g7,Int.toNat_of_nonneg g3]
  rfl
 have e3:((cf x).map fL).map AW=cf x:=by
  rw [List.map_map]
  conv=>rhs;rw [←List.map_id (cf x)]
  apply List.map_congr_left
  intro y hy
  exact AM y (hf.cy y hy)
 show((gy x,(((cK x).map My).map EP,()),(((cv x).map rA).map ER,()),((cf x).map fL).map AW,()):El t47)=x
 rw [e1,e2,e3]
 rfl
theorem qw(ws:List (List UInt8)):(cj ws).length≤(ws.map List.length).sum+ws.length+1:=by
 unfold cj
 have:=Jn.qe ws
 rw [List.length_append]
 simp only [List.length_cons,List.length_nil]
 omega
theorem iU{α:Type}(f:α→List UInt8)(n:Nat):∀l:List α,(∀a∈l,(f a).length≤n)→((l.map f).flatten).length≤l.length*n
 | [],_=>by simp
 |a::l,h=>by
  have h1:=h a (by simp)
  have h2:=iU f n l fun b hb=>h b (List.mem_cons_of_mem _ hb)
  simp only [List.map_cons,List.flatten_cons,List.length_append,List.length_cons]
  rw [Nat.add_mul]
  omega
theorem IL(l:List (El t91)):((l.map fL).map List.length).sum=l.length*64:=by
 induction l with
 |nil=>rfl
 |cons a l ih=>
  simp only [List.map_cons,List.sum_cons,List.length_cons]
  rw [ih,Te.jf]
  omega
theorem Db{x:El t47}(h:nu x):(eX x).length≤30000:=by
 have hf:=h.fits
 have v0:=hf.P5
 have v1:=hf.IC
 have l1:(cj [bt,Lib.decDigits (gy x).toNat]).length≤31:=by
  have:=qw [bt,Lib.decDigits (gy x).toNat]
  have hd:=Te.ni (u:=(gy x).toNat) (by omega)
  have e:bt.length=7:=rfl
  simp at this
  omega
 have l2:(cj (di::(cf x).map fL)).length≤4000:=by
  have:=qw (di::(cf x).map fL)
  have e:di.length=5:=rfl
  have hl:=hf.EG
  rw [List.map_cons,List.sum_cons,IL,List.length_cons,List.length_map]at this
  omega
 have l3:(((cK x).map jP).map cj).flatten.length≤(cK x).length*100:=by
  rw [List.map_map]
  refine iU _ 100 _ fun t ht=>?_
  have:=qw (jP t)
  have hk:=(hf.tags t ht).1
  have e:lg.length=3:=rfl
  have hx:=Te.jf (Gy t)
  show(cj (jP t)).length≤100
  simp [jP]at this ⊢
  omega
 have l4:(((cv x).map je).map cj).flatten.length≤(cv x).length*200:=by
  rw [List.map_map]
  refine iU _ 200 _ fun r hr=>?_
  have:=qw (je r)
  obtain⟨g1,g2,g3,g4,g5,g6,g7,g8,g9⟩:=hf.cT r hr
  have e:nz.length=3:=rfl
  have hx:=Te.jf (Dj r)
  have hd:=Te.ni (u:=(ep r).toNat) (by omega)
  have hv:=(rP (vK (bh r),vM (bh r),(vB (bh r)).toNat,vT (bh r)) ⟨g5,g6,by show(vB (bh r)).toNat<_;omega⟩ g9).2
  have hv:(Aw (bh r)).length≤61:=hv
  show(cj (je r)).length≤200
  simp [je]at this ⊢
  omega
 have h3:=hf.Q3
 have h4:=hf.Q4
 unfold eX nO
 rw [List.map_cons,List.map_cons,List.map_append,List.flatten_cons,List.flatten_cons,List.flatten_append,List.length_append,List.length_append,List.length_append]
 omega
end Pa
end
section
open Go Go.az
namespace L
def EX(n:Nat)(x0:List UInt8)(x1:Int)(x2:Bool):Option ((List UInt8×Int×Unit)×Unit×Unit⊕Unit×Unit×Unit⊕Bool×Unit):=
 iff x2 (some (Sum.inr (Sum.inr (false,()))))
 (some (Sum.inl ((x0,aP Go.IntKind.i64 (Int.add x1 (Int.ofNat 1)),()),(),())))
def oF(n:Nat)(x0:List UInt8)(x1:Int):Option ((List UInt8×Int×Unit)×Unit×Unit⊕Unit×Unit×Unit⊕Bool×Unit):=
 iff (!bD (Int.ofNat (aY x0)) x1)
 (andThen
  (andThen (an x1 (aY x0)) fun(j5:Nat)=>
   andThen (aU j5 x0) fun(y6:UInt8)=>
    iff (!bD (Int.ofNat 33) (Int.ofNat y6.toNat))
     (some (Sum.inl ((x0,x1,true,()),(),())))
     (andThen (an x1 (aY x0)) fun(j7:Nat)=>
      andThen (aU j7 x0) fun(y8:UInt8)=>
       some (Sum.inl ((x0,x1,!bD (Int.ofNat y8.toNat) (Int.ofNat 126),()),(),()))))
  (cq fun(x:(List UInt8×Int×Bool×Unit)×Unit×Unit)=>
   EX n x.1.1 x.1.2.1 x.1.2.2.1))
 (some (Sum.inr (Sum.inl ((),(),()))))
def Tm(n:Nat):Option (Bool×Unit):=
 some (true,())
def EY(n:Nat)(x0:List UInt8)(x1:Bool):Option (Bool×Unit):=
 iff x1 (some (false,()))
 (andThen
  (cp (fun(x:(List UInt8×Int×Unit)×Unit×Unit)=>oF n x.1.1 x.1.2.1) n
   ((x0,Int.ofNat 0,()),(),()))
  (cq fun(x:Unit×Unit×Unit)=>Tm n))
def Tn(n:Nat)(x0:List UInt8):Option (Bool×Unit):=
 andThen
 (iff (!bD (Int.ofNat 1) (Int.ofNat (aY x0))) (some (Sum.inl ((x0,true,()),(),())))
  (some (Sum.inl ((x0,!bD (Int.ofNat (aY x0)) (Int.ofNat 20),()),(),()))))
 (cq fun(x:(List UInt8×Bool×Unit)×Unit×Unit)=>EY n x.1.1 x.1.2.1)
def Rf(n:Nat)(a:bg [t9]):Option (bg [t4]):=Tn n (a.1)
def YI:dU:=⟨[(4,Cut.mk [(0,bj.d Ty.str),(3,bj.d (Ty.int Go.IntKind.i64))] [] [] 0)],[(2,Cut.mk [(0,bj.d Ty.str),(11,bj.d Ty.bool)] [] [] 0),(8,Cut.mk [] [] [] 0),(7,Cut.mk [(0,bj.d Ty.str),(3,bj.d (Ty.int Go.IntKind.i64)),(27,bj.d Ty.bool)] [] [] 0)],[]⟩
def Mz(n:Nat):bu:=⟨81,[t9],[t4],Rf n,false,none⟩
theorem MA(n:Nat):aJ Tryz.prog fg 81 (bu.spec (Mz n)):=
 bc (tab:=[]) (fn:=Tryz.f81) YI n mix Tb.bT (fun _ h=>by cases h) Tryz.func81 rfl (by kernel_rfl) (fun h=>by cases h) (fun⟨x0,_⟩=>by kernel_rfl)
def EZ(n:Nat)(x0:Int)(x1:Bool)(x2:El t44):Option ((Unit×Int×Unit)×Unit×El t44×Unit⊕Unit×Unit×Unit⊕Int×Unit):=
 iff x1 (some (Sum.inr (Sum.inr (Int.ofNat 8,()))))
 (some (Sum.inl (((),aP Go.IntKind.i64 (Int.add x0 (Int.ofNat 1)),()),(),x2,())))
def oG(n:Nat)(x0:Int)(x1:El t44):Option ((Unit×Int×Unit)×Unit×El t44×Unit⊕Unit×Unit×Unit⊕Int×Unit):=
 iff (!bD (Int.ofNat (List.length x1.1)) x0)
 (andThen (an x0 (List.length x1.1)) fun(j3:Nat)=>
  andThen (aU j3 x1.1) fun(y4:El t95)=>
   andThen
    (andThen (Rf n (y4.1,()))
     fun(y5:bg (bu.B (Mz n)))=>
     iff (!y5.1) (some (Sum.inl (((),x0,true,()),(),x1,())))
      (andThen (UQ n (y4.2.1,()))
       fun(y6:bg (bu.B (S0 n)))=>
       iff (!cB y6.1 (Int.ofNat 0))
        (some (Sum.inl (((),x0,true,()),(),x1,())))
        (iff (!bD y4.2.2.1 (Int.ofNat 1000000000000))
         (some (Sum.inl (((),x0,true,()),(),x1,())))
         (iff (!bD x0 (Int.ofNat 0))
          (andThen (an (aP Go.IntKind.i64 (Int.sub x0 (Int.ofNat 1))) (List.length x1.1))
           fun(j7:Nat)=>
           andThen (aU j7 x1.1) fun(y8:El t95)=>
            some (Sum.inl (((),x0,!Go.Op.bytesLess y8.1 y4.1,()),(),x1,())))
          (some (Sum.inl (((),x0,false,()),(),x1,())))))))
    (cq fun(x:(Unit×Int×Bool×Unit)×Unit×El t44×Unit)=>
     EZ n x.1.2.1 x.1.2.2.1 x.2.2.1))
 (some (Sum.inr (Sum.inl ((),(),()))))
def To(n:Nat):Option (Int×Unit):=
 some (Int.ofNat 0,())
def Tp(n:Nat)(x0:El t44):Option (Int×Unit):=
 iff (!bD (Int.ofNat (List.length x0.1)) (Int.ofNat 60)) (some (Int.ofNat 4,()))
 (andThen
  (cp
   (fun(x:(Unit×Int×Unit)×Unit×El t44×Unit)=>
    oG n x.1.2.1 x.2.2.1)
   n (((),Int.ofNat 0,()),(),x0,()))
  (cq fun(x:Unit×Unit×Unit)=>To n))
def XL(n:Nat)(a:bg [t44]):Option (bg [t3]):=Tp n (a.1)
def YJ:dU:=⟨[(4,Cut.mk [(1,bj.at 0 0),(3,bj.d (Ty.int Go.IntKind.i64))] []
 [(0,bj.d t44)] 1)],[(9,Cut.mk [] [] [] 0),(8,Cut.mk [(1,bj.at 0 0),(3,bj.d (Ty.int Go.IntKind.i64)),(51,bj.d Ty.bool)] []
 [(0,bj.d t44)] 1)],[]⟩
def Tq(n:Nat):bu:=⟨50,[t44],[t3],XL n,false,none⟩
theorem Ts(n:Nat):aJ Tryz.prog fg 50 (bu.spec (Tq n)):=
 bc (tab:=[S0 n,Mz n]) (fn:=Tryz.f50) YJ n mix Tb.bT (Cons.all (.cons (S1 n) (.cons (MA n) .nil))) Tryz.func50 rfl (by kernel_rfl) (fun h=>by cases h) (fun⟨x0,_⟩=>by kernel_rfl)
def AO(n:Nat)(x0:Int)(x1:El t91)(x2:El t91):Option
 ((Unit×Unit×Int×Unit)×
   Unit×El t91×El t91×Unit⊕
  Unit×Unit×Unit⊕Int×Unit):=
 iff (!bD (Int.ofNat 32) x0)
 (andThen (an x0 32) fun(j5:Nat)=>
  andThen (aU j5 x1.1) fun(y6:Int)=>
   andThen (an x0 32) fun(j7:Nat)=>
    andThen (aU j7 x2.1) fun(y8:Int)=>
     iff (!bD y8 y6) (some (Sum.inr (Sum.inr (Int.negSucc 0,()))))
      (andThen (an x0 32) fun(j9:Nat)=>
       andThen (aU j9 x1.1) fun(Tt:Int)=>
        andThen (an x0 32) fun(j11:Nat)=>
         andThen (aU j11 x2.1) fun(YK:Int)=>
          iff (!bD Tt YK) (some (Sum.inr (Sum.inr (Int.ofNat 1,()))))
           (some
            (Sum.inl
             (((),(),aP Go.IntKind.i64 (Int.add x0 (Int.ofNat 1)),()),(),x1,x2,
              ())))))
 (some (Sum.inr (Sum.inl ((),(),()))))
def Tu(n:Nat):Option (Int×Unit):=
 some (Int.ofNat 0,())
def Tv(n:Nat)(x0:El t91)(x1:El t91):Option (Int×Unit):=
 andThen
 (cp
  (fun
    (x:
     (Unit×Unit×Int×Unit)×
      Unit×El t91×El t91×Unit)=>
   AO n x.1.2.2.1 x.2.2.1 x.2.2.2.1)
  n (((),(),Int.ofNat 0,()),(),x0,x1,()))
 (cq fun(x:Unit×Unit×Unit)=>Tu n)
def Tw(n:Nat)(a:bg [t91,t91]):Option (bg [t3]):=Tv n (a.1) (a.2.1)
def YL:dU:=⟨[(2,Cut.mk [(2,bj.at 0 0),(3,bj.at 1 0),(5,bj.d (Ty.int Go.IntKind.i64))] []
 [(0,bj.d t91),(1,bj.d t91)] 2)],[(8,Cut.mk [] [] [] 0)],[]⟩
def MB(n:Nat):bu:=⟨80,[t91,t91],[t3],Tw n,false,none⟩
theorem MC(n:Nat):aJ Tryz.prog fg 80 (bu.spec (MB n)):=
 bc (tab:=[]) (fn:=Tryz.f80) YL n mix Tb.bT (fun _ h=>by cases h) Tryz.func80 rfl (by kernel_rfl) (fun h=>by cases h) (fun⟨x0,x1,_⟩=>by kernel_rfl)
def Tz(n:Nat)(x0:El t93)(x1:El t93):Option (Bool×Unit):=
 iff (!aQ x0.1 x1.1) (some (Go.Op.bytesLess x0.1 x1.1,()))
 (andThen (Tw n (x0.2.1,x1.2.1,()))
  fun(y2:bg (bu.B (MB n)))=>some (!bD (Int.ofNat 0) y2.1,()))
def W9(n:Nat)(a:bg [t93,t93]):Option (bg [t4]):=Tz n (a.1) (a.2.1)
def YM:dU:=⟨[],[],[]⟩
def TA(n:Nat):bu:=⟨82,[t93,t93],[t4],W9 n,false,none⟩
theorem TD(n:Nat):aJ Tryz.prog fg 82 (bu.spec (TA n)):=
 bc (tab:=[MB n]) (fn:=Tryz.f82) YM n mix Tb.bT (Cons.all (.cons (MC n) .nil)) Tryz.func82 rfl (by kernel_rfl) (fun h=>by cases h) (fun⟨x0,x1,_⟩=>by kernel_rfl)
def E0(n:Nat)(x0:Int)(x1:Bool)(x2:El t41):Option ((Unit×Int×Unit)×Unit×El t41×Unit⊕Unit×Unit×Unit⊕Int×Unit):=
 iff x1 (some (Sum.inr (Sum.inr (Int.ofNat 8,()))))
 (some (Sum.inl (((),aP Go.IntKind.i64 (Int.add x0 (Int.ofNat 1)),()),(),x2,())))
def oH(n:Nat)(x0:Int)(x1:El t41):Option ((Unit×Int×Unit)×Unit×El t41×Unit⊕Unit×Unit×Unit⊕Int×Unit):=
 iff (!bD (Int.ofNat (List.length x1.1)) x0)
 (andThen
  (andThen (an x0 (List.length x1.1)) fun(j3:Nat)=>
   andThen (aU j3 x1.1) fun(y4:El t93)=>
    andThen (Rf n (y4.1,()))
     fun(y5:bg (bu.B (Mz n)))=>
     iff (!y5.1) (some (Sum.inl (((),x0,true,()),(),x1,())))
      (iff (!bD x0 (Int.ofNat 0))
       (andThen (an (aP Go.IntKind.i64 (Int.sub x0 (Int.ofNat 1))) (List.length x1.1)) fun(j6:Nat)=>
        andThen (aU j6 x1.1) fun(y7:El t93)=>
         andThen (an x0 (List.length x1.1)) fun(j8:Nat)=>
          andThen (aU j8 x1.1) fun(y9:El t93)=>
           andThen (W9 n (y7,y9,()))
            fun(Tt:bg (bu.B (TA n)))=>
            some (Sum.inl (((),x0,!Tt.1,()),(),x1,())))
       (some (Sum.inl (((),x0,false,()),(),x1,())))))
  (cq fun(x:(Unit×Int×Bool×Unit)×Unit×El t41×Unit)=>
   E0 n x.1.2.1 x.1.2.2.1 x.2.2.1))
 (some (Sum.inr (Sum.inl ((),(),()))))
def TE(n:Nat):Option (Int×Unit):=
 some (Int.ofNat 0,())
def TF(n:Nat)(x0:El t41):Option (Int×Unit):=
 iff (!bD (Int.ofNat (List.length x0.1)) (Int.ofNat 60)) (some (Int.ofNat 4,()))
 (andThen
  (cp
   (fun(x:(Unit×Int×Unit)×Unit×El t41×Unit)=>
    oH n x.1.2.1 x.2.2.1)
   n (((),Int.ofNat 0,()),(),x0,()))
  (cq fun(x:Unit×Unit×Unit)=>TE n))
def XM(n:Nat)(a:bg [t41]):Option (bg [t3]):=TF n (a.1)
def YN:dU:=⟨[(4,Cut.mk [(1,bj.at 0 0),(3,bj.d (Ty.int Go.IntKind.i64))] []
 [(0,bj.d t41)] 1)],[(8,Cut.mk [] [] [] 0),(7,Cut.mk [(1,bj.at 0 0),(3,bj.d (Ty.int Go.IntKind.i64)),(41,bj.d Ty.bool)] []
 [(0,bj.d t41)] 1)],[]⟩
def TG(n:Nat):bu:=⟨49,[t41],[t3],XM n,false,none⟩
theorem TH(n:Nat):aJ Tryz.prog fg 49 (bu.spec (TG n)):=
 bc (tab:=[TA n,Mz n]) (fn:=Tryz.f49) YN n mix Tb.bT (Cons.all (.cons (TD n) (.cons (MA n) .nil))) Tryz.func49 rfl (by kernel_rfl) (fun h=>by cases h) (fun⟨x0,_⟩=>by kernel_rfl)
def oI(n:Nat)(x0:List (El t91))(x1:Int):Option ((List (El t91)×Int×Unit)×Unit×Unit⊕Unit×Unit×Unit⊕Bool×Unit):=
 iff (!bD (Int.ofNat (List.length x0)) x1)
 (andThen (an (aP Go.IntKind.i64 (Int.sub x1 (Int.ofNat 1))) (List.length x0)) fun(j3:Nat)=>
  andThen (aU j3 x0) fun(y4:El t90)=>
   andThen (an x1 (List.length x0)) fun(j5:Nat)=>
    andThen (aU j5 x0) fun(y6:El t90)=>
     andThen (Tw n (y4,y6,()))
      fun(y7:bg (bu.B (MB n)))=>
      iff (bD (Int.ofNat 0) y7.1) (some (Sum.inr (Sum.inr (false,()))))
       (some (Sum.inl ((x0,aP Go.IntKind.i64 (Int.add x1 (Int.ofNat 1)),()),(),()))))
 (some (Sum.inr (Sum.inl ((),(),()))))
def TJ(n:Nat):Option (Bool×Unit):=
 some (true,())
def TK(n:Nat)(x0:List (El t91)):Option (Bool×Unit):=
 andThen
 (cp
  (fun(x:(List (El t91)×Int×Unit)×Unit×Unit)=>
   oI n x.1.1 x.1.2.1)
  n ((x0,Int.ofNat 1,()),(),()))
 (cq fun(x:Unit×Unit×Unit)=>TJ n)
def Xa(n:Nat)(a:bg [t45]):Option (bg [t4]):=TK n (a.1)
def YO:dU:=⟨[(2,Cut.mk [(0,bj.d (Ty.slice t91)),(3,bj.d (Ty.int Go.IntKind.i64))] [] []
 0)],[(6,Cut.mk [] [] [] 0)],[]⟩
def Qi(n:Nat):bu:=⟨48,[t45],[t4],Xa n,false,none⟩
theorem TL(n:Nat):aJ Tryz.prog fg 48 (bu.spec (Qi n)):=
 bc (tab:=[MB n]) (fn:=Tryz.f48) YO n mix Tb.bT (Cons.all (.cons (MC n) .nil)) Tryz.func48 rfl (by kernel_rfl) (fun h=>by cases h) (fun⟨x0,_⟩=>by kernel_rfl)
def E1(n:Nat)(x0:Bool):Option (Int×Unit):=
 iff x0 (some (Int.ofNat 8,())) (some (Int.ofNat 0,()))
def rS(n:Nat)(x0:Bool)(x1:El t47):Option (Int×Unit):=
 iff x0 (some (Int.ofNat 8,()))
 (andThen
  (andThen (XM n (x1.2.1,()))
   fun(y5:bg (bu.B (TG n)))=>
   iff (!cB y5.1 (Int.ofNat 0)) (some (Sum.inl ((true,()),(),())))
    (andThen (XL n (x1.2.2.1,()))
     fun(y6:bg (bu.B (Tq n)))=>
     some (Sum.inl ((!cB y6.1 (Int.ofNat 0),()),(),()))))
  (cq fun(x:(Bool×Unit)×Unit×Unit)=>E1 n x.1.1))
def TM(n:Nat)(x0:El t47):Option (Int×Unit):=
 andThen
 (iff (!bD (Int.ofNat 0) x0.1) (some (Sum.inl (((),true,()),(),x0,())))
  (iff (!bD x0.1 (Int.ofNat 60)) (some (Sum.inl (((),true,()),(),x0,())))
   (iff (!bD (Int.ofNat (List.length x0.2.2.2.1)) x0.1)
    (some (Sum.inl (((),true,()),(),x0,())))
    (iff (cB (Int.ofNat (List.length x0.2.2.2.1)) (Int.ofNat 0))
     (iff (!bD x0.1 (Int.ofNat 0)) (some (Sum.inl (((),true,()),(),x0,())))
      (andThen (Xa n (x0.2.2.2.1,()))
       fun(y1:bg (bu.B (Qi n)))=>
       some (Sum.inl (((),!y1.1,()),(),x0,()))))
     (andThen (Xa n (x0.2.2.2.1,()))
      fun(y2:bg (bu.B (Qi n)))=>
      some (Sum.inl (((),!y2.1,()),(),x0,())))))))
 (cq fun(x:(Unit×Bool×Unit)×Unit×El t47×Unit)=>
  rS n x.1.2.1 x.2.2.1)
def ZY(n:Nat)(a:bg [t47]):Option (bg [t3]):=TM n (a.1)
def YP:dU:=⟨[],[(2,Cut.mk [(1,bj.at 0 0),(35,bj.d Ty.bool)] [] [(0,bj.d t47)] 1),(4,Cut.mk [(45,bj.d Ty.bool)] [] [] 0)],[]⟩
def YQ(n:Nat):bu:=⟨16,[t47],[t3],ZY n,false,none⟩
theorem TN(n:Nat):aJ Tryz.prog fg 16 (bu.spec (YQ n)):=
 bc (tab:=[Tq n,TG n,Qi n]) (fn:=Tryz.f16) YP n mix Tb.bT (Cons.all (.cons (Ts n) (.cons (TH n) (.cons (TL n) .nil)))) Tryz.func16 rfl (by kernel_rfl) (fun h=>by cases h) (fun⟨x0,_⟩=>by kernel_rfl)
def TO(n:Nat)(x0:El t91)(x1:El t91):Option (Int×Unit):=
 iff (Nat.beq 32 (List.length x0.1))
 (iff (Nat.beq 32 (List.length x1.1))
  (some
   (Go.Lib.compareBytes (List.map (fun(n:Int)=>UInt8.ofNat (Int.toNat n)) x0.1) (List.map (fun(n:Int)=>UInt8.ofNat (Int.toNat n)) x1.1),
    ()))
  none)
 none
def Xb(n:Nat)(a:bg [t91,t91]):Option (bg [t3]):=TO n (a.1) (a.2.1)
def YR:dU:=⟨[],[],[]⟩
def TP(n:Nat):bu:=⟨47,[t91,t91],[t3],Xb n,false,none⟩
theorem TQ(n:Nat):aJ Tryz.prog fg 47 (bu.spec (TP n)):=
 bc (tab:=[SM n]) (fn:=Tryz.f47) YR n mix Tb.bT (Cons.all (.cons (LO n) .nil)) Tryz.func47 rfl (by kernel_rfl) (fun h=>by cases h) (fun⟨x0,x1,_⟩=>by kernel_rfl)
end L
end
section
open Go Go.az Go.RowKit
namespace L
def kr(x:Nat):Bool:=decide (x<33)||decide (126<x)
def gY(l:List UInt8):Bool:=l.all fun b=> !kr b.toNat
theorem MD(s:ByteArray):∀f pos,s.size≤f+pos→(0≤Lib.idxFuncFrom kr true s f pos↔gY (s.data.toList.drop pos)=false)
 |0,pos,h=>by
  have hl:s.data.toList.length=s.size:=rfl
  rw [List.drop_eq_nil_of_le (by omega)]
  simp [Lib.idxFuncFrom,gY]
 |f+1,pos,h=>by
  have hl:s.data.toList.length=s.size:=rfl
  unfold Lib.idxFuncFrom
  by_cases hp:pos<s.size
  ·rw [if_pos hp,List.drop_eq_getElem_cons (by omega:pos<s.data.toList.length)]
   have hb:s.data.toList[pos]'(by omega)=s[pos]'hp:=rfl
   rw [hb]
   by_cases ha:(s[pos]'hp).toNat<128
   ·rw [Go.decode_ascii s pos hp ha]
    cases hq:kr (s[pos]'hp).toNat with
    |true=>simp [gY,hq]
    |false=>
     rw [if_neg (by simp [hq])]
     have:=MD s f (pos+1) (by omega)
     rw [this]
     simp [gY,hq]
   ·have hh:=Go.decode_high s pos hp (by omega)
    have h1:kr (Utf8.decode s pos).1=true:=by simp [kr];omega
    have h2:kr (s[pos]'hp).toNat=true:=by simp [kr];omega
    simp [h1,h2,gY]
  ·rw [if_neg hp,List.drop_eq_nil_of_le (by omega)]
   simp [gY]
theorem ME(s:ByteArray):0≤Lib.idxFunc kr true s↔gY s.data.toList=false:=by
 have:=MD s s.size 0 (by omega)
 rwa [List.drop_zero]at this
theorem Xc(x:Nat)(w:World):Calls Tryz.prog 136 #[.int .i32 x] w fun e w'=>e= .returned (.bool (kr x))∧w'=w:=by
 have mixed:=mix
 by_cases h1:x<33
 ·have e:kr x=true:=by simp [kr,h1]
  rw [e]
  have h2:decide ((x:Int)<33)=true:=decide_eq_true (by omega)
  go_enter Tryz.func136,Tryz.ntmps136
  go_wp2
  go_ret
  exact⟨rfl,rfl⟩
 ·have h2:decide ((x:Int)<33)=false:=decide_eq_false (by omega)
  by_cases h3:126<x
  ·have e:kr x=true:=by simp [kr,h3]
   rw [e]
   have h4:decide ((x:Int)>126)=true:=decide_eq_true (by omega)
   have h5:decide (126<(x:Int))=true:=decide_eq_true (by omega)
   go_enter Tryz.func136,Tryz.ntmps136
   go_wp2
   go_ret
   exact⟨rfl,rfl⟩
  ·have e:kr x=false:=by simp [kr,h1,h3]
   rw [e]
   have h5:decide (126<(x:Int))=false:=decide_eq_false (by omega)
   go_enter Tryz.func136,Tryz.ntmps136
   go_wp2
   go_ret
   exact⟨rfl,rfl⟩
theorem GP(w:World):PredAt Tryz.prog 136 #[] encR kr w:=fun W x _=>(Xc x W).mono fun e w' ⟨h1,h2⟩=>⟨h1,0,h2⟩
def jm(l:List UInt8):Bool:=decide (1≤l.length)&&decide (l.length≤20)&&gY l
set_option maxHeartbeats 1000000 in
theorem TR(s:ByteArray)(w:World):Calls Tryz.prog 109 #[.string s] w fun e w'=>e= .returned (.bool (jm s.data.toList))∧Below w.heap.size w w':=by
 have mixed:=mix
 have hl:s.data.toList.length=s.size:=rfl
 unfold jm
 rw [hl]
 by_cases h1:1≤s.size
 ·by_cases h2:s.size≤20
  ·have hI:=ME s
   have hR:=Tryz.strings_IndexFunc 136 #[] (enters_of Tryz.func136 (by kernel_rfl) rfl) kr s
   rw [decide_eq_true h1,decide_eq_true h2,Bool.true_and,Bool.true_and]
   have c1:decide ((s.size:Int)≥1)=true:=decide_eq_true (by omega)
   have c2:decide ((s.size:Int)≤20)=true:=decide_eq_true (by omega)
   generalize Lib.idxFunc kr true s=i at hI hR
   cases hd:gY s.data.toList with
   |true=>
    have h3:i<0:=by
     rw [hd]at hI
     have:¬0≤i:=fun h=>by cases hI.1 h
     omega
    have c3:decide (i<0)=true:=decide_eq_true h3
    clear hI hd
    go_enter Tryz.func109,Tryz.ntmps109
    go_wp2_with (go_at_call 72;refine(hR _ (GP _)).mono ?_)
    rintro e w1 ⟨rfl,hw1⟩
    go_wp2
    go_ret
    exact⟨rfl,hw1⟩
   |false=>
    have h3:0≤i:=hI.2 hd
    have c3:decide (i<0)=false:=decide_eq_false (by omega)
    clear hI hd
    go_enter Tryz.func109,Tryz.ntmps109
    go_wp2_with (go_at_call 72;refine(hR _ (GP _)).mono ?_)
    rintro e w1 ⟨rfl,hw1⟩
    go_wp2
    go_ret
    exact⟨rfl,hw1⟩
  ·rw [decide_eq_false h2,Bool.and_false,Bool.false_and]
   have c1:decide ((s.size:Int)≥1)=true:=decide_eq_true (by omega)
   have c2:decide ((s.size:Int)≤20)=false:=decide_eq_false (by omega)
   go_enter Tryz.func109,Tryz.ntmps109
   go_wp2
   go_ret
   exact⟨rfl,Below.refl _ _⟩
 ·rw [decide_eq_false h1,Bool.false_and,Bool.false_and]
  have c1:decide ((s.size:Int)≥1)=false:=decide_eq_false (by omega)
  go_enter Tryz.func109,Tryz.ntmps109
  go_wp2
  go_ret
  exact⟨rfl,Below.refl _ _⟩
theorem IM:Go.az.Enters Tryz.prog 109:=⟨_,Tryz.func109,by kernel_rfl,by kernel_rfl⟩
def YS(_:Nat)(a:bg [t9]):Option (bg [t4]):=some (jm a.1,())
def Rh(n:Nat):bu:=⟨109,[t9],[t4],YS n,false,none⟩
theorem Qj(n:Nat):aJ Tryz.prog fg 109 (bu.spec (Rh n)):=
 qc IM rfl rfl fun a r h w=>by
  obtain⟨l,_⟩:=a
  cases h
  exact TR ⟨⟨l⟩⟩ w
end L
end
section
open Go Go.az
namespace L
def TS(n:Nat)(x0:Bool)(x1:Int)(x2:Bool)(x3:El t145):Option ((Bool×Unit)×Unit×Unit⊕Int×Unit):=
 iff x2
 (iff (jm x3.2.1)
  (some
   (Sum.inl
    ((gV
       (Ty.pair (Ty.int Go.IntKind.u8)
        (Ty.pair (Ty.int Go.IntKind.i64)
         (Ty.pair (Ty.int Go.IntKind.u64) (Ty.pair Ty.str Ty.unit))))
       x3.2.2.1 (Int.ofNat 0,Int.ofNat 0,Int.ofNat 0,[],()),
      ()),
     (),())))
  (some (Sum.inl ((false,()),(),()))))
 (iff (cB x1 (Int.ofNat 4))
  (iff (jm x3.2.1)
   (andThen (SJ n (x3.2.2.1,()))
    fun(y5:bg (bu.B (LI n)))=>
    some (Sum.inl ((cB y5.1 (Int.ofNat 0),()),(),())))
   (some (Sum.inl ((false,()),(),()))))
  (some (Sum.inl ((x0,()),(),()))))
def GQ(n:Nat)(x0:Bool):Option (Int×Unit):=
 iff (!x0) (some (Int.ofNat 8,())) (some (Int.ofNat 0,()))
def YT(n:Nat)(x0:El t145):Option (Int×Unit):=
 andThen
 (iff (cB x0.1 (Int.ofNat 1))
  (some
   (Sum.inl
    ((gV
       (Ty.pair (Ty.int Go.IntKind.u8)
        (Ty.pair Ty.str
         (Ty.pair
          (Ty.pair (Ty.int Go.IntKind.u8)
           (Ty.pair (Ty.int Go.IntKind.i64)
            (Ty.pair (Ty.int Go.IntKind.u64) (Ty.pair Ty.str Ty.unit))))
          Ty.unit)))
       x0 (Int.ofNat 1,[],(Int.ofNat 0,Int.ofNat 0,Int.ofNat 0,[],()),()),
      ()),
     (),())))
  (andThen
   (iff (cB x0.1 (Int.ofNat 2))
    (some (Sum.inl (((),false,x0.1,true,()),(),x0,())))
    (some (Sum.inl (((),false,x0.1,cB x0.1 (Int.ofNat 3),()),(),x0,()))))
   (cq fun(x:(Unit×Bool×Int×Bool×Unit)×Unit×El t145×Unit)=>
    TS n x.1.2.1 x.1.2.2.1
     x.1.2.2.2.1 x.2.2.1)))
 (cq fun(x:(Bool×Unit)×Unit×Unit)=>GQ n x.1.1)
def TT(n:Nat)(a:bg [t145]):Option (bg [t25]):=YT n (a.1)
def YU:dU:=⟨[],[(10,Cut.mk [(3,bj.d Ty.bool)] [] [] 0),(7,Cut.mk
 [(1,bj.at 0 0),(3,bj.d Ty.bool),(5,bj.d (Ty.int Go.IntKind.u8)),(11,bj.d Ty.bool)] []
 [(0,bj.d t145)] 1)],[]⟩
def MF(n:Nat):bu:=⟨77,[t145],[t25],TT n,false,none⟩
theorem MG(n:Nat):aJ Tryz.prog fg 77 (bu.spec (MF n)):=
 bc (tab:=[LI n,Rh n]) (fn:=Tryz.f77) YU n mix Tb.bT (Cons.all (.cons (ED n) (.cons (Qj n) .nil))) Tryz.func77 rfl (by kernel_rfl) (fun h=>by cases h) (fun⟨x0,_⟩=>by kernel_rfl)
def E2(n:Nat)(x0:List (El t95))(x1:Int)(x2:Int)(x3:Bool)(x4:El t44):Option
 ((Unit×List (El t95)×Int×Int×Unit)×
   Unit×El t44×Unit⊕
  Unit×Unit×Unit⊕Int×Unit):=
 iff x3 (some (Sum.inr (Sum.inr (Int.ofNat 8,()))))
 (some
  (Sum.inl (((),x0,x1,aP Go.IntKind.i64 (Int.add x2 (Int.ofNat 1)),()),(),x4,())))
def oJ(n:Nat)(x0:List (El t95))(x1:Int)(x2:Int)(x3:El t44):Option
 ((Unit×List (El t95)×Int×Int×Unit)×
   Unit×El t44×Unit⊕
  Unit×Unit×Unit⊕Int×Unit):=
 iff (!bD x1 x2)
 (andThen (an x2 (List.length x0)) fun(j5:Nat)=>
  andThen (aU j5 x0) fun(y6:El t95)=>
   andThen
    (andThen
     (TT n
      ((Int.ofNat 2,y6.1,(Int.ofNat 0,Int.ofNat 0,Int.ofNat 0,[],()),()),()))
     fun(y7:bg (bu.B (MF n)))=>
     iff (!cB y7.1 (Int.ofNat 0))
      (some (Sum.inl (((),x0,x1,x2,true,()),(),x3,())))
      (andThen (SJ n (y6.2.1,()))
       fun(y8:bg (bu.B (LI n)))=>
       iff (!cB y8.1 (Int.ofNat 0))
        (some (Sum.inl (((),x0,x1,x2,true,()),(),x3,())))
        (iff (!bD y6.2.2.1 (Int.ofNat 1000000000000))
         (some (Sum.inl (((),x0,x1,x2,true,()),(),x3,())))
         (iff (!bD x2 (Int.ofNat 0))
          (andThen (an (aP Go.IntKind.i64 (Int.sub x2 (Int.ofNat 1))) (List.length x3.1))
           fun(j9:Nat)=>
           andThen (aU j9 x3.1) fun(Tt:El t95)=>
            some
             (Sum.inl (((),x0,x1,x2,!Go.Op.bytesLess Tt.1 y6.1,()),(),x3,())))
          (some (Sum.inl (((),x0,x1,x2,false,()),(),x3,())))))))
    (cq
     fun
      (x:
       (Unit×List (El t95)×Int×Int×Bool×Unit)×
        Unit×El t44×Unit)=>
     E2 n x.1.2.1 x.1.2.2.1
      x.1.2.2.2.1 x.1.2.2.2.2.1
      x.2.2.1))
 (some (Sum.inr (Sum.inl ((),(),()))))
def MH(n:Nat):Option (Int×Unit):=
 some (Int.ofNat 0,())
def TU(n:Nat)(x0:El t44):Option (Int×Unit):=
 iff (!bD (Int.ofNat (List.length x0.1)) (Int.ofNat 60)) (some (Int.ofNat 4,()))
 (andThen
  (cp
   (fun
     (x:
      (Unit×List (El t95)×Int×Int×Unit)×
       Unit×El t44×Unit)=>
    oJ n x.1.2.1 x.1.2.2.1
     x.1.2.2.2.1 x.2.2.1)
   n (((),x0.1,Int.ofNat (List.length x0.1),Int.ofNat 0,()),(),x0,()))
  (cq fun(x:Unit×Unit×Unit)=>MH n))
def UR(n:Nat)(a:bg [t44]):Option (bg [t25]):=TU n (a.1)
def YV:dU:=⟨[(4,Cut.mk
 [(1,bj.at 0 0),(10,bj.d (Ty.slice t95)),
  (11,bj.d (Ty.int Go.IntKind.i64)),(12,bj.d (Ty.int Go.IntKind.i64))]
 [] [(0,bj.d t44)] 1)],[(9,Cut.mk [] [] [] 0),(7,Cut.mk
 [(1,bj.at 0 0),(10,bj.d (Ty.slice t95)),
  (11,bj.d (Ty.int Go.IntKind.i64)),(12,bj.d (Ty.int Go.IntKind.i64)),(48,bj.d Ty.bool)]
 [] [(0,bj.d t44)] 1)],[]⟩
def MI(n:Nat):bu:=⟨46,[t44],[t25],UR n,false,none⟩
theorem TV(n:Nat):aJ Tryz.prog fg 46 (bu.spec (MI n)):=
 bc (tab:=[LI n,MF n]) (fn:=Tryz.f46) YV n mix Tb.bT (Cons.all (.cons (ED n) (.cons (MG n) .nil))) Tryz.func46 rfl (by kernel_rfl) (fun h=>by cases h) (fun⟨x0,_⟩=>by kernel_rfl)
def Qk(n:Nat)(x0:Int)(x1:List Int)(x2:Int)(x3:Int):Option ((Int×List Int×Int×Int×Unit)×Unit×Unit⊕(Int×Unit)×Unit×Unit⊕Int×Unit):=
 iff (!bD x2 x3)
 (andThen (an x3 (List.length x1)) fun(j5:Nat)=>
  andThen (aU j5 x1) fun(y6:Int)=>
   iff (!cB y6 x0) (some (Sum.inr (Sum.inr (y6,()))))
    (some
     (Sum.inl ((x0,x1,x2,aP Go.IntKind.i64 (Int.add x3 (Int.ofNat 1)),()),(),()))))
 (some (Sum.inr (Sum.inl ((x0,()),(),()))))
def Ql(n:Nat)(x0:Int):Option (Int×Unit):=
 some (x0,())
def MJ(n:Nat)(x0:List Int):Option (Int×Unit):=
 andThen
 (cp
  (fun(x:(Int×List Int×Int×Int×Unit)×Unit×Unit)=>
   Qk n x.1.1 x.1.2.1 x.1.2.2.1
    x.1.2.2.2.1)
  n ((Int.ofNat 0,x0,Int.ofNat (List.length x0),Int.ofNat 0,()),(),()))
 (cq fun(x:(Int×Unit)×Unit×Unit)=>Ql n x.1.1)
def IN(n:Nat)(a:bg [t199]):Option (bg [t3]):=MJ n (a.1)
def Xd:dU:=⟨[(3,Cut.mk
 [(3,bj.d (Ty.int Go.IntKind.i64)),(6,bj.d (Ty.slice t3)),
  (7,bj.d (Ty.int Go.IntKind.i64)),(8,bj.d (Ty.int Go.IntKind.i64))]
 [] [] 0)],[(8,Cut.mk [(3,bj.d (Ty.int Go.IntKind.i64))] [] [] 0)],[]⟩
def MK(n:Nat):bu:=⟨110,[t199],[t3],IN n,true,none⟩
theorem Qm(n:Nat):aJ Tryz.prog fg 110 (bu.spec (MK n)):=
 bc (tab:=[]) (fn:=Tryz.f110) Xd n mix Tb.bT (fun _ h=>by cases h) Tryz.func110 rfl (by kernel_rfl) (fun _=>rfl) (fun⟨x0,_⟩=>by kernel_rfl)
def Xe(n:Nat)(x0:List UInt8):Option (Bool×Unit):=
 some (!aQ x0 x0,())
def YW(n:Nat)(a:bg [t9]):Option (bg [t4]):=Xe n (a.1)
def Xf:dU:=⟨[],[],[]⟩
def Ri(n:Nat):bu:=⟨137,[t9],[t4],YW n,false,none⟩
theorem Qn(n:Nat):aJ Tryz.prog fg 137 (bu.spec (Ri n)):=
 bc (tab:=[]) (fn:=Tryz.f137) Xf n mix Tb.bT (fun _ h=>by cases h) Tryz.func137 rfl (by kernel_rfl) (fun h=>by cases h) (fun⟨x0,_⟩=>by kernel_rfl)
def ML(n:Nat)(x0:List UInt8)(x1:List UInt8):Option (Int×Unit):=
 iff (!aQ x0 x0)
 (iff (!aQ x1 x1) (some (Int.ofNat 0,())) (some (Int.negSucc 0,())))
 (iff (!aQ x1 x1) (some (Int.ofNat 1,()))
  (iff (Go.Op.bytesLess x0 x1) (some (Int.negSucc 0,()))
   (iff (!(Go.Op.bytesLess x0 x1||aQ x0 x1)) (some (Int.ofNat 1,()))
    (some (Int.ofNat 0,())))))
def Qo(n:Nat)(a:bg [t9,t9]):Option (bg [t3]):=ML n (a.1) (a.2.1)
def Xg:dU:=⟨[],[],[]⟩
def MM(n:Nat):bu:=⟨111,[t9,t9],[t3],Qo n,false,none⟩
theorem Qp(n:Nat):aJ Tryz.prog fg 111 (bu.spec (MM n)):=
 bc (tab:=[Ri n]) (fn:=Tryz.f111) Xg n mix Tb.bT (Cons.all (.cons (Qn n) .nil)) Tryz.func111 rfl (by kernel_rfl) (fun h=>by cases h) (fun⟨x0,x1,_⟩=>by kernel_rfl)
def TW(n:Nat)(x0:El t93)(x1:El t93):Option (Int×Unit):=
 andThen (Qo n (x0.1,x1.1,()))
 fun(y2:bg (bu.B (MM n)))=>
 iff (Nat.beq 32 (List.length x0.2.1.1))
  (iff (Nat.beq 32 (List.length x1.2.1.1))
   (andThen
    (IN n
     ([y2.1,
       Go.Lib.compareBytes (List.map (fun(n:Int)=>UInt8.ofNat (Int.toNat n)) x0.2.1.1)
        (List.map (fun(n:Int)=>UInt8.ofNat (Int.toNat n)) x1.2.1.1)],
      ()))
    fun(y3:bg (bu.B (MK n)))=>some (y3.1,()))
   none)
  none
def Xh(n:Nat)(a:bg [t93,t93]):Option (bg [t3]):=TW n (a.1) (a.2.1)
def YX:dU:=⟨[],[],[]⟩
def TX(n:Nat):bu:=⟨78,[t93,t93],[t3],Xh n,false,none⟩
theorem TY(n:Nat):aJ Tryz.prog fg 78 (bu.spec (TX n)):=
 bc (tab:=[MK n,SM n,MM n]) (fn:=Tryz.f78) YX n mix Tb.bT (Cons.all (.cons (Qm n) (.cons (LO n) (.cons (Qp n) .nil)))) Tryz.func78 rfl (by kernel_rfl) (fun h=>by cases h) (fun⟨x0,x1,_⟩=>by kernel_rfl)
def E3(n:Nat)(x0:List (El t93))(x1:Int)(x2:Int)(x3:Bool)(x4:El t41):Option
 ((Unit×List (El t93)×Int×Int×Unit)×
   Unit×El t41×Unit⊕
  Unit×Unit×Unit⊕Int×Unit):=
 iff x3 (some (Sum.inr (Sum.inr (Int.ofNat 8,()))))
 (some
  (Sum.inl (((),x0,x1,aP Go.IntKind.i64 (Int.add x2 (Int.ofNat 1)),()),(),x4,())))
def oK(n:Nat)(x0:List (El t93))(x1:Int)(x2:Int)(x3:El t41):Option
 ((Unit×List (El t93)×Int×Int×Unit)×
   Unit×El t41×Unit⊕
  Unit×Unit×Unit⊕Int×Unit):=
 iff (!bD x1 x2)
 (andThen (an x2 (List.length x0)) fun(j5:Nat)=>
  andThen (aU j5 x0) fun(y6:El t93)=>
   andThen
    (andThen
     (TT n
      ((Int.ofNat 2,y6.1,(Int.ofNat 0,Int.ofNat 0,Int.ofNat 0,[],()),()),()))
     fun(y7:bg (bu.B (MF n)))=>
     iff (!cB y7.1 (Int.ofNat 0))
      (some (Sum.inl (((),x0,x1,x2,true,()),(),x3,())))
      (iff (!bD x2 (Int.ofNat 0))
       (andThen (an (aP Go.IntKind.i64 (Int.sub x2 (Int.ofNat 1))) (List.length x3.1)) fun(j8:Nat)=>
        andThen (aU j8 x3.1) fun(y9:El t93)=>
         andThen (Xh n (y9,y6,()))
          fun(Tt:bg (bu.B (TX n)))=>
          some
           (Sum.inl (((),x0,x1,x2,bD (Int.ofNat 0) Tt.1,()),(),x3,())))
       (some (Sum.inl (((),x0,x1,x2,false,()),(),x3,())))))
    (cq
     fun
      (x:
       (Unit×List (El t93)×Int×Int×Bool×Unit)×
        Unit×El t41×Unit)=>
     E3 n x.1.2.1 x.1.2.2.1
      x.1.2.2.2.1 x.1.2.2.2.2.1
      x.2.2.1))
 (some (Sum.inr (Sum.inl ((),(),()))))
def MN(n:Nat):Option (Int×Unit):=
 some (Int.ofNat 0,())
def TZ(n:Nat)(x0:El t41):Option (Int×Unit):=
 iff (!bD (Int.ofNat (List.length x0.1)) (Int.ofNat 60)) (some (Int.ofNat 4,()))
 (andThen
  (cp
   (fun
     (x:
      (Unit×List (El t93)×Int×Int×Unit)×
       Unit×El t41×Unit)=>
    oK n x.1.2.1 x.1.2.2.1
     x.1.2.2.2.1 x.2.2.1)
   n (((),x0.1,Int.ofNat (List.length x0.1),Int.ofNat 0,()),(),x0,()))
  (cq fun(x:Unit×Unit×Unit)=>MN n))
def US(n:Nat)(a:bg [t41]):Option (bg [t25]):=TZ n (a.1)
def YY:dU:=⟨[(4,Cut.mk
 [(1,bj.at 0 0),(10,bj.d (Ty.slice t93)),
  (11,bj.d (Ty.int Go.IntKind.i64)),(12,bj.d (Ty.int Go.IntKind.i64))]
 [] [(0,bj.d t41)] 1)],[(9,Cut.mk [] [] [] 0),(7,Cut.mk
 [(1,bj.at 0 0),(10,bj.d (Ty.slice t93)),
  (11,bj.d (Ty.int Go.IntKind.i64)),(12,bj.d (Ty.int Go.IntKind.i64)),(36,bj.d Ty.bool)]
 [] [(0,bj.d t41)] 1)],[]⟩
def MO(n:Nat):bu:=⟨45,[t41],[t25],US n,false,none⟩
theorem T0(n:Nat):aJ Tryz.prog fg 45 (bu.spec (MO n)):=
 bc (tab:=[TX n,MF n]) (fn:=Tryz.f45) YY n mix Tb.bT (Cons.all (.cons (TY n) (.cons (MG n) .nil))) Tryz.func45 rfl (by kernel_rfl) (fun h=>by cases h) (fun⟨x0,_⟩=>by kernel_rfl)
def mH(n:Nat)(x0:Int)(x1:Int)(x2:El t47):Option ((Unit×Int×Int×Unit)×Unit×El t47×Unit⊕Unit×Unit×Unit⊕Int×Unit):=
 iff (!bD x0 x1)
 (andThen (an (aP Go.IntKind.i64 (Int.sub x1 (Int.ofNat 1))) (List.length x2.2.2.2.1)) fun(j11:Nat)=>
  andThen (aU j11 x2.2.2.2.1) fun(YK:El t90)=>
   andThen (an x1 (List.length x2.2.2.2.1)) fun(j13:Nat)=>
    andThen (aU j13 x2.2.2.2.1) fun(y14:El t90)=>
     andThen (Xb n (YK,y14,()))
      fun(y15:bg (bu.B (TP n)))=>
      iff (bD (Int.ofNat 0) y15.1) (some (Sum.inr (Sum.inr (Int.ofNat 8,()))))
       (some
        (Sum.inl
         (((),x0,aP Go.IntKind.i64 (Int.add x1 (Int.ofNat 1)),()),(),x2,()))))
 (some (Sum.inr (Sum.inl ((),(),()))))
def T4(n:Nat):Option (Int×Unit):=
 some (Int.ofNat 0,())
def AP(n:Nat)(x0:Int)(x1:Bool)(x2:El t47):Option (Int×Unit):=
 iff x1 (some (Int.ofNat 8,()))
 (andThen
  (cp
   (fun(x:(Unit×Int×Int×Unit)×Unit×El t47×Unit)=>
    mH n x.1.2.1 x.1.2.2.1 x.2.2.1)
   n (((),x0,Int.ofNat 1,()),(),x2,()))
  (cq fun(x:Unit×Unit×Unit)=>T4 n))
def T5(n:Nat)(x0:El t47):Option (Int×Unit):=
 andThen
 (iff (!bD (Int.ofNat 0) x0.1)
  (some (Sum.inl (((),Int.ofNat (List.length x0.2.2.2.1),true,()),(),x0,())))
  (iff (!bD x0.1 (Int.ofNat 60))
   (some (Sum.inl (((),Int.ofNat (List.length x0.2.2.2.1),true,()),(),x0,())))
   (iff (!bD (Int.ofNat (List.length x0.2.2.2.1)) x0.1)
    (some (Sum.inl (((),Int.ofNat (List.length x0.2.2.2.1),true,()),(),x0,())))
    (iff (cB (Int.ofNat (List.length x0.2.2.2.1)) (Int.ofNat 0))
     (iff (!bD x0.1 (Int.ofNat 0))
      (some (Sum.inl (((),Int.ofNat (List.length x0.2.2.2.1),true,()),(),x0,())))
      (andThen (US n (x0.2.1,()))
       fun(y1:bg (bu.B (MO n)))=>
       iff (!cB y1.1 (Int.ofNat 0))
        (some (Sum.inl (((),Int.ofNat (List.length x0.2.2.2.1),true,()),(),x0,())))
        (andThen (UR n (x0.2.2.1,()))
         fun(y2:bg (bu.B (MI n)))=>
         some
          (Sum.inl
           (((),Int.ofNat (List.length x0.2.2.2.1),!cB y2.1 (Int.ofNat 0),()),(),x0,())))))
     (andThen (US n (x0.2.1,()))
      fun(y3:bg (bu.B (MO n)))=>
      iff (!cB y3.1 (Int.ofNat 0))
       (some (Sum.inl (((),Int.ofNat (List.length x0.2.2.2.1),true,()),(),x0,())))
       (andThen (UR n (x0.2.2.1,()))
        fun(y4:bg (bu.B (MI n)))=>
        some
         (Sum.inl
          (((),Int.ofNat (List.length x0.2.2.2.1),!cB y4.1 (Int.ofNat 0),()),(),x0,()))))))))
 (cq fun(x:(Unit×Int×Bool×Unit)×Unit×El t47×Unit)=>
  AP n x.1.2.1 x.1.2.2.1 x.2.2.1)
def ZZ(n:Nat)(a:bg [t47]):Option (bg [t25]):=T5 n (a.1)
def YZ:dU:=⟨[(5,Cut.mk [(1,bj.at 0 0),(3,bj.d (Ty.int Go.IntKind.i64)),(4,bj.d (Ty.int Go.IntKind.i64))] []
 [(0,bj.d t47)] 1)],[(3,Cut.mk [(1,bj.at 0 0),(3,bj.d (Ty.int Go.IntKind.i64)),(42,bj.d Ty.bool)] []
 [(0,bj.d t47)] 1),(9,Cut.mk [] [] [] 0)],[]⟩
def Y0(n:Nat):bu:=⟨15,[t47],[t25],ZZ n,false,none⟩
theorem T6(n:Nat):aJ Tryz.prog fg 15 (bu.spec (Y0 n)):=
 bc (tab:=[TP n,MI n,MO n]) (fn:=Tryz.f15) YZ n mix Tb.bT (Cons.all (.cons (TQ n) (.cons (TV n) (.cons (T0 n) .nil)))) Tryz.func15 rfl (by kernel_rfl) (fun h=>by cases h) (fun⟨x0,_⟩=>by kernel_rfl)
theorem MP(n:Nat)(a b:Int):(IN (n+3) ([a,b],()):Option (Int×Unit))=some ((if a=0 then b else a),()):=by
 show MJ (n+3) [a,b]=_
 unfold MJ
 by_cases ha:a=0
 ·subst ha
  rw [iB (x':=(((0:Int),[(0:Int),b],(2:Int),(1:Int),()),(),())) rfl]
  by_cases hb:b=0
  ·subst hb
   rfl
  ·have h:cB b (Int.ofNat 0)=false:=by rw [fZ];simpa using hb
   rw [dP (r:= .inr (b,())) (by
    show iff (!cB b (Int.ofNat 0)) _ _=_
    rw [h]
    rfl)]
   rw [if_pos rfl]
   rfl
 ·rw [if_neg ha]
  have h:cB a (Int.ofNat 0)=false:=by rw [fZ];simpa using ha
  rw [dP (r:= .inr (a,())) (by
   show iff (!cB a (Int.ofNat 0)) _ _=_
   rw [h]
   rfl)]
  rfl
def Dd(a b:List UInt8):Int:=if Go.Op.bytesLess a b=true then-1 else if(Go.Op.bytesLess a b||aQ a b)=true then 0 else 1
theorem yJ(a:List UInt8):aQ a a=true:=by
 unfold aQ
 exact beq_self_eq_true a
theorem Qq(n:Nat)(a b:List UInt8):(Qo n (a,b,()):Option (Int×Unit))=some (Dd a b,()):=by
 show ML n a b=_
 unfold ML Dd
 rw [yJ,yJ]
 cases h1:Go.Op.bytesLess a b
 ·cases h2:aQ a b<;>rfl
 ·rfl
def E4(x y:El t93):Int:=if Dd x.1 y.1=0 then Go.Lib.compareBytes (List.map (fun(n:Int)=>UInt8.ofNat (Int.toNat n)) x.2.1.1) (List.map (fun(n:Int)=>UInt8.ofNat (Int.toNat n)) y.2.1.1)else Dd x.1 y.1
theorem T7(n:Nat)(x y:El t93):(Xh (n+3) (x,y,()):Option (Int×Unit))=some (E4 x y,()):=by
 show TW (n+3) x y=_
 unfold TW
 rw [show(Qo (n+3) (x.1,y.1,()):Option (Int×Unit))=some (Dd x.1 y.1,())from Qq _ _ _]
 have l1:Nat.beq 32 (List.length x.2.1.1)=true:=by rw [x.2.1.2];rfl
 have l2:Nat.beq 32 (List.length y.2.1.1)=true:=by rw [y.2.1.2];rfl
 show iff (Nat.beq 32 (List.length x.2.1.1)) (iff (Nat.beq 32 (List.length y.2.1.1)) (andThen (IN (n+3) _) _) _) _=_
 rw [l1,l2]
 show(andThen (IN (n+3) ([Dd x.1 y.1,_],())) _:Option (Int×Unit))=_
 rw [show(IN (n+3) ([Dd x.1 y.1,Go.Lib.compareBytes (List.map (fun(n:Int)=>UInt8.ofNat (Int.toNat n)) x.2.1.1) (List.map (fun(n:Int)=>UInt8.ofNat (Int.toNat n)) y.2.1.1)],()):Option (Int×Unit))=_ from MP n _ _]
 rfl
theorem GR(n:Nat)(k:List UInt8):(TT n ((Int.ofNat 2,k,(Int.ofNat 0,Int.ofNat 0,Int.ofNat 0,[],()),()),()):Option (Int×Unit))=some ((if jm k=true then(0:Int)else 8),()):=by
 have e:(TT n ((Int.ofNat 2,k,(Int.ofNat 0,Int.ofNat 0,Int.ofNat 0,[],()),()),()):Option (Int×Unit))=
   andThen (iff (jm k) (some (Sum.inl ((true,()),(),()))) (some (Sum.inl ((false,()),(),())))) (cq fun(x:(Bool×Unit)×Unit×Unit)=>GQ n x.1.1):=by
  rfl
 rw [e]
 cases jm k<;>rfl
def cU(l:List (El t93))(k:Nat)(y:El t93):Bool:= !jm y.1||(decide (0<k)&&decide (0≤E4 (l.getD (k-1) y) y))
theorem MQ(n:Nat)(l:List (El t93))(k:Nat)(y:El t93)(hy:l[k]? =some y)(hl:l.length≤60):
  oK (n+3) l (Int.ofNat l.length) (Int.ofNat k) (l,())=some (if cU l k y=true then .inr (.inr ((8:Int),()))else .inl (((),l,Int.ofNat l.length,Int.ofNat (k+1),()),(),(l,()),())):=by
 have hk:=(List.getElem?_eq_some_iff.1 hy).1
 have h1:bD (Int.ofNat l.length) (Int.ofNat k)=false:=by rw [eB];simp;omega
 unfold oK
 rw [h1]
 show andThen (an (Int.ofNat k) l.length) _=_
 rw [show an (Int.ofNat k) l.length=some k from aV hk]
 show andThen (aU k l) _=_
 rw [show aU k l=some y from by rw [bW];exact hy]
 show andThen (andThen (TT (n+3) _) _) _=_
 rw [GR (n+3) y.1]
 have hw:aP IntKind.i64 (Int.add (Int.ofNat k) (Int.ofNat 1))=Int.ofNat (k+1):=by
  rw [ll]<;>simp<;>omega
 cases hkB:jm y.1
 ·have:cU l k y=true:=by simp [cU,hkB]
  rw [this]
  rfl
 ·show andThen (iff (!bD (Int.ofNat k) (Int.ofNat 0)) _ _) _=_
  by_cases hk0:k=0
  ·subst hk0
   have:cU l 0 y=false:=by simp [cU,hkB]
   rw [this]
   show some (Sum.inl (((),l,Int.ofNat l.length,aP IntKind.i64 (Int.add (Int.ofNat 0) (Int.ofNat 1)),()),(),(l,()),()))=_
   rw [hw]
   rfl
  ·have h2:bD (Int.ofNat k) (Int.ofNat 0)=false:=by rw [eB];simp;omega
   rw [h2]
   show andThen (andThen (an (aP IntKind.i64 ((Int.ofNat k).sub (Int.ofNat 1))) l.length) _) _=_
   have hw2:aP IntKind.i64 ((Int.ofNat k).sub (Int.ofNat 1))=Int.ofNat (k-1):=by
    have e:(Int.ofNat k).sub (Int.ofNat 1)=Int.ofNat (k-1):=by
     show(k:Int)-1=((k-1:Nat):Int)
     omega
    rw [e,ll]<;>simp<;>omega
   rw [hw2,show an (Int.ofNat (k-1)) l.length=some (k-1)from aV (by omega)]
   have hk1:k-1<l.length:=by omega
   show andThen (andThen (aU (k-1) l) _) _=_
   rw [show aU (k-1) l=some (l[k-1])from by rw [bW];exact List.getElem?_eq_getElem hk1]
   show andThen (andThen (Xh (n+3) (l[k-1],y,())) _) _=_
   rw [show(Xh (n+3) (l[k-1],y,()):Option (Int×Unit))=_ from T7 n _ _]
   have hg:l.getD (k-1) y=l[k-1]:=by simp [List.getD,List.getElem?_eq_getElem hk1]
   show E3 (n+3) l (Int.ofNat l.length) (Int.ofNat k) (bD (Int.ofNat 0) (E4 l[k-1] y)) (l,())=_
   unfold E3
   rw [hw]
   cases hc:bD (Int.ofNat 0) (E4 l[k-1] y)
   ·have:cU l k y=false:=by
     rw [eB]at hc
     simp only [cU,hkB,hg]
     simpa using fun _=>by simpa using hc
    rw [this]
    rfl
   ·have:cU l k y=true:=by
     rw [eB]at hc
     simp only [cU,hkB,hg]
     simp at hc ⊢
     exact⟨by omega,hc⟩
    rw [this]
    rfl
def gC(l:List (El t93)):Nat→List (El t93)→Bool
 |_,[]=>false
 |k,y::r=>cU l k y||gC l (k+1) r
theorem wL(l:List (El t93)):∀(r:List (El t93))(k:Nat),
  lC (R:=(Unit×Unit×Unit)⊕(Int×Unit)) (fun k (_:Unit) (y:El t93)=>if cU l k y=true then .inr (.inr ((8:Int),()))else .inl ()) (fun _=> .inl ((),(),())) r k ()=if gC l k r=true then .inr ((8:Int),())else .inl ((),(),())
 | [],k=>rfl
 |y::r,k=>by
  unfold lC gC
  cases h:cU l k y
  ·simp only [Bool.false_or]
   exact wL l r (k+1)
  ·rfl
theorem T8(n:Nat)(hn:60≤n)(l:List (El t93)):(US (n+3) ((l,()),()):Option (Int×Unit))=some (((if l.length≤60 then(if gC l 0 l=true then(8:Int)else 0)else 4):Int),()):=by
 show TZ (n+3) (l,())=_
 unfold TZ
 by_cases hl:l.length≤60
 ·have h1:bD (Int.ofNat l.length) (Int.ofNat 60)=true:=by rw [eB];simp;omega
  show iff (!bD (Int.ofNat l.length) (Int.ofNat 60)) _ _=_
  rw [h1,if_pos hl]
  have hf:=fB (body:=fun(x:(Unit×List (El t93)×Int×Int×Unit)×Unit×El t41×Unit)=>oK (n+3) x.1.2.1 x.1.2.2.1 x.1.2.2.2.1 x.2.2.1)
   l (fun k (_:Unit)=>(((),l,Int.ofNat l.length,Int.ofNat k,()),(),(l,()),())) (fun k (_:Unit) (y:El t93)=>if cU l k y=true then .inr (.inr ((8:Int),()))else .inl ()) (fun _=> .inl ((),(),())) (fun _ _=>True)
   (fun k y s hy _=>⟨by
    show oK (n+3) l (Int.ofNat l.length) (Int.ofNat k) (l,())=_
    rw [MQ n l k y hy hl]
    cases cU l k y<;>rfl,fun _ _=>trivial⟩)
   (fun s _=>by
    show oK (n+3) l (Int.ofNat l.length) (Int.ofNat l.length) (l,())=_
    unfold oK
    have h2:bD (Int.ofNat l.length) (Int.ofNat l.length)=true:=by rw [eB];simp
    rw [h2]
    rfl) (n+3) () trivial (by omega)
  rw [wL]at hf
  show andThen (cp _ (n+3) (((),l,Int.ofNat l.length,Int.ofNat 0,()),(),(l,()),())) _=_
  refine(congrArg (fun z=>andThen z (cq fun(x:Unit×Unit×Unit)=>MN (n+3))) hf).trans ?_
  cases gC l 0 l<;>rfl
 ·have h1:bD (Int.ofNat l.length) (Int.ofNat 60)=false:=by rw [eB];simp;omega
  show iff (!bD (Int.ofNat l.length) (Int.ofNat 60)) _ _=_
  rw [h1,if_neg hl]
  rfl
def T9(v:El t24):Int:=v.2.2.1
def Rj(y:El t95):Int:=y.2.2.1
def AT(v:El t24):Bool:=ga v.1 v.2.1 (T9 v).toNat v.2.2.2.1
def MR(v:El t24):Prop:=0≤T9 v∧T9 v<18446744073709551616∧v.2.2.2.1.length≤1000000
theorem Xi(n:Nat)(v:El t24)(h:MR v):(SJ n (v,()):Option (Int×Unit))=some ((if AT v=true then(0:Int)else 8),()):=by
 obtain⟨k,m,b,l,u⟩:=v
 obtain⟨h0,h1,h2⟩:=h
 obtain⟨c,hc⟩:∃c:Nat,T9 (k,m,b,l,u)=Int.ofNat c:=⟨(T9 (k,m,b,l,u)).toNat,(Int.toNat_of_nonneg h0).symm⟩
 have hb:b=Int.ofNat c:=hc
 subst hb
 have:=LU n k m c l (by rw [hc]at h1;exact Int.ofNat_lt.1 h1) h2
 exact this
def bS(l:List (El t95))(k:Nat)(y:El t95):Bool:= !jm y.1|| !AT y.2.1|| !decide (Rj y≤1000000000000)||(decide (0<k)&& !Go.Op.bytesLess (l.getD (k-1) y).1 y.1)
theorem MS(n:Nat)(l:List (El t95))(k:Nat)(y:El t95)(hy:l[k]? =some y)(hl:l.length≤60)(hv:MR y.2.1):
  oJ n l (Int.ofNat l.length) (Int.ofNat k) (l,())=some (if bS l k y=true then .inr (.inr ((8:Int),()))else .inl (((),l,Int.ofNat l.length,Int.ofNat (k+1),()),(),(l,()),())):=by
 have hk:=(List.getElem?_eq_some_iff.1 hy).1
 have h1:bD (Int.ofNat l.length) (Int.ofNat k)=false:=by rw [eB];simp;omega
 unfold oJ
 rw [h1]
 show andThen (an (Int.ofNat k) l.length) _=_
 rw [show an (Int.ofNat k) l.length=some k from aV hk]
 show andThen (aU k l) _=_
 rw [show aU k l=some y from by rw [bW];exact hy]
 show andThen (andThen (TT n _) _) _=_
 rw [GR n y.1]
 have hw:aP IntKind.i64 (Int.add (Int.ofNat k) (Int.ofNat 1))=Int.ofNat (k+1):=by
  rw [ll]<;>simp<;>omega
 cases hkB:jm y.1
 ·have:bS l k y=true:=by simp [bS,hkB]
  rw [this]
  rfl
 ·show andThen (andThen (SJ n (y.2.1,())) _) _=_
  rw [show(SJ n (y.2.1,()):Option (Int×Unit))=_ from Xi n y.2.1 hv]
  cases hoE:AT y.2.1
  ·have:bS l k y=true:=by simp [bS,hoE]
   rw [this]
   rfl
  ·show andThen (iff (!bD (Rj y) (Int.ofNat 1000000000000)) _ _) _=_
   cases hs:bD (Rj y) (Int.ofNat 1000000000000)
   ·have:bS l k y=true:=by
     rw [eB]at hs
     simp at hs
     simp [bS]
     exact .inl (.inr (by omega))
    rw [this]
    rfl
   ·rw [eB]at hs
    simp at hs
    show andThen (iff (!bD (Int.ofNat k) (Int.ofNat 0)) _ _) _=_
    by_cases hk0:k=0
    ·subst hk0
     have:bS l 0 y=false:=by simp [bS,hkB,hoE];exact hs
     rw [this]
     show some (Sum.inl (((),l,Int.ofNat l.length,aP IntKind.i64 (Int.add (Int.ofNat 0) (Int.ofNat 1)),()),(),(l,()),()))=_
     rw [hw]
     rfl
    ·have h2:bD (Int.ofNat k) (Int.ofNat 0)=false:=by rw [eB];simp;omega
     rw [h2]
     show andThen (andThen (an (aP IntKind.i64 ((Int.ofNat k).sub (Int.ofNat 1))) l.length) _) _=_
     have hw2:aP IntKind.i64 ((Int.ofNat k).sub (Int.ofNat 1))=Int.ofNat (k-1):=by
      have e:(Int.ofNat k).sub (Int.ofNat 1)=Int.ofNat (k-1):=by
       show(k:Int)-1=((k-1:Nat):Int)
       omega
      rw [e,ll]<;>simp<;>omega
     rw [hw2,show an (Int.ofNat (k-1)) l.length=some (k-1)from aV (by omega)]
     have hk1:k-1<l.length:=by omega
     show andThen (andThen (aU (k-1) l) _) _=_
     rw [show aU (k-1) l=some (l[k-1])from by rw [bW];exact List.getElem?_eq_getElem hk1]
     have hg:l.getD (k-1) y=l[k-1]:=by simp [List.getD,List.getElem?_eq_getElem hk1]
     show E2 n l (Int.ofNat l.length) (Int.ofNat k) (!Go.Op.bytesLess l[k-1].1 y.1) (l,())=_
     unfold E2
     rw [hw]
     cases hc:Go.Op.bytesLess l[k-1].1 y.1
     ·have:bS l k y=true:=by
       simp only [bS,hg,hc]
       simp
       exact .inr (by omega)
      rw [this]
      rfl
     ·have:bS l k y=false:=by
       simp only [bS,hkB,hoE,hg,hc]
       simp
       exact hs
      rw [this]
      rfl
def eT(l:List (El t95)):Nat→List (El t95)→Bool
 |_,[]=>false
 |k,y::r=>bS l k y||eT l (k+1) r
theorem rT(l:List (El t95)):∀(r:List (El t95))(k:Nat),
  lC (R:=(Unit×Unit×Unit)⊕(Int×Unit)) (fun k (_:Unit) (y:El t95)=>if bS l k y=true then .inr (.inr ((8:Int),()))else .inl ()) (fun _=> .inl ((),(),())) r k ()=if eT l k r=true then .inr ((8:Int),())else .inl ((),(),())
 | [],k=>rfl
 |y::r,k=>by
  unfold lC eT
  cases h:bS l k y
  ·simp only [Bool.false_or]
   exact rT l r (k+1)
  ·rfl
theorem Ua(n:Nat)(hn:60≤n)(l:List (El t95))(hI:∀y∈l,MR y.2.1):(UR (n+3) ((l,()),()):Option (Int×Unit))=some (((if l.length≤60 then(if eT l 0 l=true then(8:Int)else 0)else 4):Int),()):=by
 show TU (n+3) (l,())=_
 unfold TU
 by_cases hl:l.length≤60
 ·have h1:bD (Int.ofNat l.length) (Int.ofNat 60)=true:=by rw [eB];simp;omega
  show iff (!bD (Int.ofNat l.length) (Int.ofNat 60)) _ _=_
  rw [h1,if_pos hl]
  have hf:=fB (body:=fun(x:(Unit×List (El t95)×Int×Int×Unit)×Unit×El t44×Unit)=>oJ (n+3) x.1.2.1 x.1.2.2.1 x.1.2.2.2.1 x.2.2.1)
   l (fun k (_:Unit)=>(((),l,Int.ofNat l.length,Int.ofNat k,()),(),(l,()),())) (fun k (_:Unit) (y:El t95)=>if bS l k y=true then .inr (.inr ((8:Int),()))else .inl ()) (fun _=> .inl ((),(),())) (fun _ _=>True)
   (fun k y s hy _=>⟨by
    show oJ (n+3) l (Int.ofNat l.length) (Int.ofNat k) (l,())=_
    rw [MS (n+3) l k y hy hl (hI y (List.mem_of_getElem? hy))]
    cases bS l k y<;>rfl,fun _ _=>trivial⟩)
   (fun s _=>by
    show oJ (n+3) l (Int.ofNat l.length) (Int.ofNat l.length) (l,())=_
    unfold oJ
    have h2:bD (Int.ofNat l.length) (Int.ofNat l.length)=true:=by rw [eB];simp
    rw [h2]
    rfl) (n+3) () trivial (by omega)
  rw [rT]at hf
  show andThen (cp _ (n+3) (((),l,Int.ofNat l.length,Int.ofNat 0,()),(),(l,()),())) _=_
  refine(congrArg (fun z=>andThen z (cq fun(x:Unit×Unit×Unit)=>MH (n+3))) hf).trans ?_
  cases eT l 0 l<;>rfl
 ·have h1:bD (Int.ofNat l.length) (Int.ofNat 60)=false:=by rw [eB];simp;omega
  show iff (!bD (Int.ofNat l.length) (Int.ofNat 60)) _ _=_
  rw [h1,if_neg hl]
  rfl
def mI(x y:El t91):Int:=Go.Lib.compareBytes (List.map (fun(n:Int)=>UInt8.ofNat (Int.toNat n)) x.1) (List.map (fun(n:Int)=>UInt8.ofNat (Int.toNat n)) y.1)
theorem Ub(n:Nat)(x y:El t91):(Xb n (x,y,()):Option (Int×Unit))=some (mI x y,()):=by
 show TO n x y=_
 unfold TO
 have l1:Nat.beq 32 (List.length x.1)=true:=by rw [x.2];rfl
 have l2:Nat.beq 32 (List.length y.1)=true:=by rw [y.2];rfl
 show iff (Nat.beq 32 (List.length x.1)) (iff (Nat.beq 32 (List.length y.1)) _ _) _=_
 rw [l1,l2]
 rfl
def bC(x:El t47):List (El t91):=x.2.2.2.1
theorem MT(n:Nat)(x:El t47)(k:Nat)(u v:El t91)(hk0:1≤k)(hu:(bC x)[k-1]? =some u)(hv:(bC x)[k]? =some v)(hl:(bC x).length≤1000):
  mH n (Int.ofNat (bC x).length) (Int.ofNat k) x=some (if decide (0≤mI u v)=true then .inr (.inr ((8:Int),()))else .inl (((),Int.ofNat (bC x).length,Int.ofNat (k+1),()),(),x,())):=by
 have hk:=(List.getElem?_eq_some_iff.1 hv).1
 have h1:bD (Int.ofNat (bC x).length) (Int.ofNat k)=false:=by rw [eB];simp;omega
 have hw:aP IntKind.i64 (Int.add (Int.ofNat k) (Int.ofNat 1))=Int.ofNat (k+1):=by
  rw [ll]<;>simp<;>omega
 have hw2:aP IntKind.i64 ((Int.ofNat k).sub (Int.ofNat 1))=Int.ofNat (k-1):=by
  have e:(Int.ofNat k).sub (Int.ofNat 1)=Int.ofNat (k-1):=by
   show(k:Int)-1=((k-1:Nat):Int)
   omega
  rw [e,ll]<;>simp<;>omega
 unfold mH
 rw [h1,hw2]
 show andThen (an (Int.ofNat (k-1)) (bC x).length) _=_
 rw [show an (Int.ofNat (k-1)) (bC x).length=some (k-1)from aV (by omega)]
 show andThen (aU (k-1) (bC x)) _=_
 rw [show aU (k-1) (bC x)=some u from by rw [bW];exact hu]
 show andThen (an (Int.ofNat k) (bC x).length) _=_
 rw [show an (Int.ofNat k) (bC x).length=some k from aV hk]
 show andThen (aU k (bC x)) _=_
 rw [show aU k (bC x)=some v from by rw [bW];exact hv]
 show andThen (Xb n (u,v,())) _=_
 rw [show(Xb n (u,v,()):Option (Int×Unit))=_ from Ub n u v]
 show iff (bD (Int.ofNat 0) (mI u v)) _ _=_
 rw [eB,hw]
 cases h:decide ((0:Int)≤mI u v)<;>rfl
def iv(l:List (El t91))(k:Nat)(y:El t91):Bool:=decide (0≤mI (l.getD k y) y)
def fu(l:List (El t91)):Nat→List (El t91)→Bool
 |_,[]=>false
 |k,y::r=>iv l k y||fu l (k+1) r
theorem rU(R:Type)(bad:R)(fin:R)(l:List (El t91)):∀(r:List (El t91))(k:Nat),
  lC (R:=R) (fun k (_:Unit) (y:El t91)=>if iv l k y=true then .inr bad else .inl ()) (fun _=>fin) r k ()=if fu l k r=true then bad else fin
 | [],k=>rfl
 |y::r,k=>by
  unfold lC fu
  cases h:iv l k y
  ·simp only [Bool.false_or]
   exact rU R bad fin l r (k+1)
  ·rfl
theorem IP(n:Nat)(x:El t47)(hl:(bC x).length≤1000)(hn:(bC x).length<n):
  cp (fun(y:(Unit×Int×Int×Unit)×Unit×El t47×Unit)=>mH n y.1.2.1 y.1.2.2.1 y.2.2.1) n (((),Int.ofNat (bC x).length,Int.ofNat 1,()),(),x,())=
   some (if fu (bC x) 0 (bC x).tail=true then .inr ((8:Int),())else .inl ((),(),())):=by
 have ht:(bC x).tail.length=(bC x).length-1:=List.length_tail
 have hf:=fB (body:=fun(y:(Unit×Int×Int×Unit)×Unit×El t47×Unit)=>mH n y.1.2.1 y.1.2.2.1 y.2.2.1)
  (bC x).tail (fun k (_:Unit)=>(((),Int.ofNat (bC x).length,Int.ofNat (k+1),()),(),x,())) (fun k (_:Unit) (y:El t91)=>if iv (bC x) k y=true then .inr (.inr ((8:Int),()))else .inl ()) (fun _=> .inl ((),(),())) (fun _ _=>True)
  (fun k y s hy _=>⟨by
   have hy':(bC x)[k+1]? =some y:=by rw [List.getElem?_tail]at hy;exact hy
   have hk:=(List.getElem?_eq_some_iff.1 hy').1
   have hu:(bC x)[k]? =some ((bC x)[k]'(by omega)):=List.getElem?_eq_getElem (by omega)
   show mH n (Int.ofNat (bC x).length) (Int.ofNat (k+1)) x=_
   rw [MT n x (k+1) _ y (by omega) (by rw [Nat.add_sub_cancel];exact hu) hy' hl]
   have e:iv (bC x) k y=decide (0≤mI ((bC x)[k]'(by omega)) y):=by
    unfold iv
    rw [List.getD,hu]
    rfl
   rw [e]
   cases decide (0≤mI ((bC x)[k]'(by omega)) y)<;>rfl,fun _ _=>trivial⟩)
  (fun s _=>by
   show mH n (Int.ofNat (bC x).length) (Int.ofNat ((bC x).tail.length+1)) x=_
   unfold mH
   rw [show bD (Int.ofNat (bC x).length) (Int.ofNat ((bC x).tail.length+1))=true from le_true (by omega)]
   rfl) n () trivial (by omega)
 rw [rU]at hf
 exact hf
def lN(x:El t47):List (El t93):=x.2.1.1
def kx(x:El t47):List (El t95):=x.2.2.1.1
def fJ(x:El t47):Int:=x.1
def ln(x:El t47):Bool:=decide ((lN x).length≤60)&& !gC (lN x) 0 (lN x)&&decide ((kx x).length≤60)&& !eT (kx x) 0 (kx x)
def GS(x:El t47):Bool:=decide (0≤fJ x)&&decide (fJ x≤60)&&decide (((bC x).length:Int)≤fJ x)&&(!decide ((bC x).length=0)||decide (fJ x≤0))
def eY(x:El t47):Bool:=GS x&&ln x&& !fu (bC x) 0 (bC x).tail
theorem IQ(n:Nat)(hn:60≤n)(x:El t47)(hI:∀y∈kx x,MR y.2.1):
  (andThen (US (n+3) (x.2.1,()))
   fun(y1:bg (bu.B (MO (n+3))))=>
   iff (!cB y1.1 (Int.ofNat 0))
    (some (Sum.inl ((((),Int.ofNat (List.length x.2.2.2.1),true,()),(),x,()):(Unit×Int×Bool×Unit)×Unit×El t47×Unit)))
    (andThen (UR (n+3) (x.2.2.1,()))
     fun(y2:bg (bu.B (MI (n+3))))=>
     some
      (Sum.inl
       (((),Int.ofNat (List.length x.2.2.2.1),!cB y2.1 (Int.ofNat 0),()),(),x,()))):Option (((Unit×Int×Bool×Unit)×Unit×El t47×Unit)⊕(Int×Unit)))=
   some (.inl (((),Int.ofNat (bC x).length,!ln x,()),(),x,())):=by
 have h45:(US (n+3) (x.2.1,()):Option (Int×Unit))=_:=T8 n hn (lN x)
 have h46:(UR (n+3) (x.2.2.1,()):Option (Int×Unit))=_:=Ua n hn (kx x) hI
 refine(aF h45).trans ?_
 unfold ln
 by_cases h1:(lN x).length≤60
 ·rw [if_pos h1,decide_eq_true h1]
  cases h2:gC (lN x) 0 (lN x)
  ·refine(aF h46).trans ?_
   by_cases h3:(kx x).length≤60
   ·rw [if_pos h3,decide_eq_true h3]
    cases h4:eT (kx x) 0 (kx x)<;>rfl
   ·rw [if_neg h3,decide_eq_false h3]
    rfl
  ·rfl
 ·rw [if_neg h1,decide_eq_false h1]
  rfl
theorem IS(n:Nat)(x:El t47)(b:Bool)(hl:(bC x).length≤1000)(hn:(bC x).length<n):
  AP n (Int.ofNat (bC x).length) b x=some (if(!b&& !fu (bC x) 0 (bC x).tail)=true then(0:Int)else 8,()):=by
 unfold AP
 cases b
 ·refine(aF (IP n x hl hn)).trans ?_
  cases fu (bC x) 0 (bC x).tail<;>rfl
 ·rfl
theorem Uc(n:Nat)(hn:60≤n)(x:El t47)(hI:∀y∈kx x,MR y.2.1):(ZZ (n+3) (x,()):Option (Int×Unit))=some (if eY x=true then(0:Int)else 8,()):=by
 have hp:=IQ n hn x hI
 have hb:(bC x).length≤1000→(bC x).length<n+3→AP (n+3) (Int.ofNat (bC x).length) (!ln x) x=some (if(ln x&& !fu (bC x) 0 (bC x).tail)=true then(0:Int)else 8,()):=fun h1 h2=>by
  rw [IS (n+3) x _ h1 h2,Bool.not_not]
 show T5 (n+3) x=_
 unfold T5 eY GS
 have q1:bD (Int.ofNat 0) x.1=decide (0≤fJ x):=eJ _ _
 have q2:bD x.1 (Int.ofNat 60)=decide (fJ x≤60):=eJ _ _
 have q3:bD (Int.ofNat (List.length x.2.2.2.1)) x.1=decide (((bC x).length:Int)≤fJ x):=eJ _ _
 have q4:cB (Int.ofNat (List.length x.2.2.2.1)) (Int.ofNat 0)=decide ((bC x).length=0):=ej _ _
 have q5:bD x.1 (Int.ofNat 0)=decide (fJ x≤0):=eJ _ _
 rw [q1,q2,q3,q4,q5]
 by_cases h1:0≤fJ x
 ·rw [decide_eq_true h1]
  by_cases h2:fJ x≤60
  ·rw [decide_eq_true h2]
   by_cases h3:((bC x).length:Int)≤fJ x
   ·rw [decide_eq_true h3]
    have hl:(bC x).length≤60:=by omega
    by_cases h4:(bC x).length=0
    ·rw [decide_eq_true h4]
     by_cases h5:fJ x≤0
     ·rw [decide_eq_true h5]
      exact(aF hp).trans (hb (by omega) (by omega))
     ·rw [decide_eq_false h5]
      rfl
    ·rw [decide_eq_false h4]
     exact(aF hp).trans (hb (by omega) (by omega))
   ·rw [decide_eq_false h3];rfl
  ·rw [decide_eq_false h2];rfl
 ·rw [decide_eq_false h1];rfl
theorem MU(n:Nat)(l:List UInt8)(k:Nat)(y:UInt8)(hy:l[k]? =some y)(hl:l.length≤1000):
  oF n l (Int.ofNat k)=some (if kr y.toNat=true then .inr (.inr (false,()))else .inl ((l,Int.ofNat (k+1),()),(),())):=by
 have hk:=(List.getElem?_eq_some_iff.1 hy).1
 unfold oF
 rw [aC,dO (br hk),show an (Int.ofNat k) l.length=some k from aV hk]
 show andThen (andThen (aU k l) _) _=_
 rw [bf hy]
 have hw:aP IntKind.i64 (Int.add (Int.ofNat k) (Int.ofNat 1))=Int.ofNat (k+1):=cX (by omega)
 show andThen (iff (!bD (Int.ofNat 33) (Int.ofNat y.toNat)) _ _) _=_
 by_cases h1:y.toNat<33
 ·rw [dO (br h1)]
  have:kr y.toNat=true:=by simp [kr,h1]
  rw [this]
  rfl
 ·rw [dI (le_true (by omega))]
  show andThen (andThen (aU k l) _) _=_
  rw [bf hy]
  show EX n l (Int.ofNat k) (!bD (Int.ofNat y.toNat) (Int.ofNat 126))=_
  unfold EX
  rw [hw]
  by_cases h2:126<y.toNat
  ·rw [br h2]
   have:kr y.toNat=true:=by simp [kr,h2]
   rw [this]
   rfl
  ·rw [le_true (by omega)]
   have:kr y.toNat=false:=by simp [kr];omega
   rw [this]
   rfl
theorem Qr(l:List UInt8):∀(k:Nat),
  lC (R:=(Unit×Unit×Unit)⊕(Bool×Unit)) (fun k (_:Unit) (y:UInt8)=>if kr y.toNat=true then .inr (.inr (false,()))else .inl ()) (fun _=> .inl ((),(),())) l k ()=if gY l=true then .inl ((),(),())else .inr (false,()):=by
 induction l with
 |nil=>intro k;rfl
 |cons y r ih=>
  intro k
  unfold lC
  cases h:kr y.toNat
  ·have:gY (y::r)=gY r:=by simp [gY,h]
   rw [this]
   exact ih (k+1)
  ·have:gY (y::r)=false:=by simp [gY,h]
   rw [this]
   rfl
theorem MV(n:Nat)(hn:20<n)(l:List UInt8):(Rf n (l,()):Option (Bool×Unit))=some (jm l,()):=by
 show Tn n l=_
 unfold Tn jm
 rw [aC]
 by_cases h1:1≤l.length
 ·rw [dI (le_true h1),decide_eq_true h1]
  show EY n l (!bD (Int.ofNat l.length) (Int.ofNat 20))=_
  unfold EY
  by_cases h2:l.length≤20
  ·rw [dI (le_true h2),decide_eq_true h2]
   have hf:=fB (body:=fun(x:(List UInt8×Int×Unit)×Unit×Unit)=>oF n x.1.1 x.1.2.1)
    l (fun k (_:Unit)=>((l,Int.ofNat k,()),(),())) (fun k (_:Unit) (y:UInt8)=>if kr y.toNat=true then .inr (.inr (false,()))else .inl ()) (fun _=> .inl ((),(),())) (fun _ _=>True)
    (fun k y s hy _=>⟨by
     show oF n l (Int.ofNat k)=_
     rw [MU n l k y hy (by omega)]
     cases kr y.toNat<;>rfl,fun _ _=>trivial⟩)
    (fun s _=>by
     show oF n l (Int.ofNat l.length)=_
     unfold oF
     rw [aC,dI (le_true (Nat.le_refl _))]) n () trivial (by omega)
   rw [Qr]at hf
   refine(aF hf).trans ?_
   cases gY l<;>rfl
  ·rw [dO (br (by omega)),decide_eq_false h2]
   rfl
 ·rw [dO (br (by omega)),decide_eq_false h1]
  rfl
def i91(x:El t91):List Int:=x.1
def IT(x:El t91):Prop:=∀n∈i91 x,0≤n∧n<256
def us(l:List Int):List UInt8:=List.map (fun(n:Int)=>UInt8.ofNat (Int.toNat n)) l
theorem GU{a b:Int}(ha:0≤a∧a<256)(hb:0≤b∧b<256):UInt8.ofNat a.toNat<UInt8.ofNat b.toNat↔a<b:=by
 rw [UInt8.lt_iff_toNat_lt,UInt8.toNat_ofNat',UInt8.toNat_ofNat']
 omega
def Ud(c:Int):(Unit×Unit×Unit)⊕(Int×Unit):=if c=0 then .inl ((),(),())else .inr (c,())
theorem Ue(n:Nat)(x y:El t91)(hx:IT x)(hy:IT y):∀(d k m:Nat),k+d=32→d<m→
  cp (fun(z:(Unit×Unit×Int×Unit)×Unit×El t91×El t91×Unit)=>AO n z.1.2.2.1 z.2.2.1 z.2.2.2.1) m (((),(),Int.ofNat k,()),(),x,y,())=
   some (Ud (Go.Lib.compareBytes ((us (i91 x)).drop k) ((us (i91 y)).drop k))):=by
 have lx:(i91 x).length=32:=x.2
 have ly:(i91 y).length=32:=y.2
 have ux:(us (i91 x)).length=32:=by unfold us;rw [List.length_map];exact lx
 have uy:(us (i91 y)).length=32:=by unfold us;rw [List.length_map];exact ly
 intro d
 induction d with
 |zero=>
  intro k m hk hm
  obtain rfl:k=32:=by omega
  obtain⟨m,rfl⟩:∃m',m=m'+1:=⟨m-1,by omega⟩
  rw [List.drop_eq_nil_of_le (by omega),List.drop_eq_nil_of_le (by omega)]
  exact dP rfl
 |succ d ih=>
  intro k m hk hm
  obtain⟨m,rfl⟩:∃m',m=m'+1:=⟨m-1,by omega⟩
  have hkx:k<(i91 x).length:=by omega
  have hky:k<(i91 y).length:=by omega
  have hxa:(i91 x)[k]? =some ((i91 x)[k]):=List.getElem?_eq_getElem hkx
  have hya:(i91 y)[k]? =some ((i91 y)[k]):=List.getElem?_eq_getElem hky
  have ha:=hx _ (List.getElem_mem hkx)
  have hb:=hy _ (List.getElem_mem hky)
  have e1:(us (i91 x)).drop k=UInt8.ofNat ((i91 x)[k]).toNat::(us (i91 x)).drop (k+1):=by
   rw [List.drop_eq_getElem_cons (by omega)]
   simp [us]
  have e2:(us (i91 y)).drop k=UInt8.ofNat ((i91 y)[k]).toNat::(us (i91 y)).drop (k+1):=by
   rw [List.drop_eq_getElem_cons (by omega)]
   simp [us]
  have hir:an (Int.ofNat k) 32=some k:=aV (by omega)
  have hw:aP IntKind.i64 (Int.add (Int.ofNat k) (Int.ofNat 1))=Int.ofNat (k+1):=cX (by omega)
  have step:AO n (Int.ofNat k) x y=some (if(i91 x)[k]<(i91 y)[k]then .inr (.inr ((-1:Int),()))else if(i91 y)[k]<(i91 x)[k]then .inr (.inr ((1:Int),()))else .inl (((),(),Int.ofNat (k+1),()),(),x,y,())):=by
   unfold AO
   rw [dO (br (show k<32 by omega)),hir]
   show andThen (aU k (i91 x)) _=_
   rw [bf hxa]
   show andThen (aU k (i91 y)) _=_
   rw [bf hya]
   show iff (!bD ((i91 y)[k]) ((i91 x)[k])) _ _=_
   rw [eJ]
   by_cases h1:(i91 x)[k]<(i91 y)[k]
   ·rw [if_pos h1,decide_eq_false (by omega)]
    rfl
   ·rw [if_neg h1,decide_eq_true (by omega)]
    show andThen (aU k (i91 x)) _=_
    rw [bf hxa]
    show andThen (aU k (i91 y)) _=_
    rw [bf hya]
    show iff (!bD ((i91 x)[k]) ((i91 y)[k])) _ _=_
    rw [eJ,hw]
    by_cases h2:(i91 y)[k]<(i91 x)[k]
    ·rw [if_pos h2,decide_eq_false (by omega)]
     rfl
    ·rw [if_neg h2,decide_eq_true (by omega)]
     rfl
  rw [e1,e2]
  unfold Go.Lib.compareBytes
  by_cases h1:(i91 x)[k]<(i91 y)[k]
  ·rw [if_pos ((GU ha hb).2 h1)]
   rw [if_pos h1]at step
   exact dP step
  ·rw [if_neg (fun h=>h1 ((GU ha hb).1 h))]
   rw [if_neg h1]at step
   by_cases h2:(i91 y)[k]<(i91 x)[k]
   ·rw [if_pos ((GU hb ha).2 h2)]
    rw [if_pos h2]at step
    exact dP step
   ·rw [if_neg (fun h=>h2 ((GU hb ha).1 h))]
    rw [if_neg h2]at step
    rw [iB step]
    exact ih (k+1) m (by omega) (by omega)
theorem MW(n:Nat)(hn:32<n)(x y:El t91)(hx:IT x)(hy:IT y):(Tw n (x,y,()):Option (Int×Unit))=some (mI x y,()):=by
 show Tv n x y=_
 unfold Tv
 have h:=Ue n x y hx hy 32 0 n rfl hn
 rw [List.drop_zero,List.drop_zero]at h
 refine(aF h).trans ?_
 show cq _ (Ud (mI x y))=_
 unfold Ud
 by_cases h0:mI x y=0
 ·rw [if_pos h0,h0];rfl
 ·rw [if_neg h0];rfl
theorem De:∀l:List UInt8,Go.Op.bytesLess l l=false
 | []=>rfl
 |a::l=>by
  unfold Go.Op.bytesLess
  rw [De l]
  simp
theorem Uf(n:Nat)(hn:32<n)(x y:El t93)(hx:IT x.2.1)(hy:IT y.2.1):(W9 n (x,y,()):Option (Bool×Unit))=some (!decide (0≤E4 x y),()):=by
 show Tz n x y=_
 unfold Tz
 have h80:(Tw n (x.2.1,y.2.1,()):Option (Int×Unit))=_:=MW n hn x.2.1 y.2.1 hx hy
 unfold E4 Dd
 cases hs:aQ x.1 y.1
 ·cases hl:Go.Op.bytesLess x.1 y.1<;>rfl
 ·have he:(x.1:List UInt8)=(y.1:List UInt8):=eq_of_beq (α:=List UInt8) hs
  have hl:Go.Op.bytesLess x.1 y.1=false:=by rw [he];exact De _
  refine(aF h80).trans ?_
  rw [hl]
  show some (!bD (Int.ofNat 0) (mI x.2.1 y.2.1),())=some (!decide (0≤mI x.2.1 y.2.1),())
  rw [eJ]
  rfl
theorem sub_one{k:Nat}(h0:k≠0)(h:k≤1000):aP IntKind.i64 ((Int.ofNat k).sub (Int.ofNat 1))=Int.ofNat (k-1):=by
 have e:(Int.ofNat k).sub (Int.ofNat 1)=Int.ofNat (k-1):=by
  show(k:Int)-1=((k-1:Nat):Int)
  omega
 rw [e,ll]<;>simp<;>omega
theorem MX(n:Nat)(hn:32<n)(l:List (El t93))(k:Nat)(y:El t93)(hy:l[k]? =some y)(hl:l.length≤60)(hb:∀z∈l,IT z.2.1):
  oH n (Int.ofNat k) (l,())=some (if cU l k y=true then .inr (.inr ((8:Int),()))else .inl (((),Int.ofNat (k+1),()),(),(l,()),())):=by
 have hk:=(List.getElem?_eq_some_iff.1 hy).1
 have h81:(Rf n (y.1,()):Option (Bool×Unit))=some (jm y.1,()):=MV n (by omega) y.1
 have hw:aP IntKind.i64 (Int.add (Int.ofNat k) (Int.ofNat 1))=Int.ofNat (k+1):=cX (by omega)
 have hj:∀b:Bool,E0 n (Int.ofNat k) b (l,())=some (if b=true then .inr (.inr ((8:Int),()))else .inl (((),Int.ofNat (k+1),()),(),(l,()),())):=fun b=>by
  unfold E0
  rw [hw]
  cases b<;>rfl
 unfold oH
 show iff (!bD (Int.ofNat l.length) (Int.ofNat k)) _ _=_
 rw [dO (br hk)]
 show andThen (andThen (an (Int.ofNat k) l.length) _) _=_
 rw [show an (Int.ofNat k) l.length=some k from aV hk]
 show andThen (andThen (aU k l) _) _=_
 rw [bf hy]
 show andThen (andThen (Rf n (y.1,())) _) _=_
 rw [h81]
 cases hkB:jm y.1
 ·have:cU l k y=true:=by simp [cU,hkB]
  rw [this]
  exact hj true
 ·show andThen (iff (!bD (Int.ofNat k) (Int.ofNat 0)) _ _) _=_
  by_cases hk0:k=0
  ·subst hk0
   have:cU l 0 y=false:=by simp [cU,hkB]
   rw [this]
   exact hj false
  ·rw [dO (br (show 0<k by omega))]
   show andThen (andThen (an (aP IntKind.i64 ((Int.ofNat k).sub (Int.ofNat 1))) l.length) _) _=_
   rw [sub_one hk0 (by omega),show an (Int.ofNat (k-1)) l.length=some (k-1)from aV (by omega)]
   have hk1:k-1<l.length:=by omega
   show andThen (andThen (aU (k-1) l) _) _=_
   rw [bf (List.getElem?_eq_getElem hk1)]
   show andThen (andThen (aU k l) _) _=_
   rw [bf hy]
   show andThen (andThen (W9 n (l[k-1],y,())) _) _=_
   rw [show(W9 n (l[k-1],y,()):Option (Bool×Unit))=_ from Uf n hn l[k-1] y (hb _ (List.getElem_mem hk1)) (hb y (List.mem_of_getElem? hy))]
   have hg:l.getD (k-1) y=l[k-1]:=by simp [List.getD,List.getElem?_eq_getElem hk1]
   have e:cU l k y= !!decide (0≤E4 l[k-1] y):=by
    unfold cU
    rw [hg,hkB,decide_eq_true (show 0<k by omega)]
    simp
   rw [e]
   exact hj _
theorem Ug(n:Nat)(hn:60<n)(l:List (El t93))(hb:∀z∈l,IT z.2.1):(XM n ((l,()),()):Option (Int×Unit))=some (((if l.length≤60 then(if gC l 0 l=true then(8:Int)else 0)else 4):Int),()):=by
 show TF n (l,())=_
 unfold TF
 by_cases hl:l.length≤60
 ·have h1:bD (Int.ofNat l.length) (Int.ofNat 60)=true:=le_true hl
  show iff (!bD (Int.ofNat l.length) (Int.ofNat 60)) _ _=_
  rw [h1,if_pos hl]
  have hf:=fB (body:=fun(x:(Unit×Int×Unit)×Unit×El t41×Unit)=>oH n x.1.2.1 x.2.2.1)
   l (fun k (_:Unit)=>(((),Int.ofNat k,()),(),(l,()),())) (fun k (_:Unit) (y:El t93)=>if cU l k y=true then .inr (.inr ((8:Int),()))else .inl ()) (fun _=> .inl ((),(),())) (fun _ _=>True)
   (fun k y s hy _=>⟨by
    show oH n (Int.ofNat k) (l,())=_
    rw [MX n (by omega) l k y hy hl hb]
    cases cU l k y<;>rfl,fun _ _=>trivial⟩)
   (fun s _=>by
    show oH n (Int.ofNat l.length) (l,())=_
    unfold oH
    show iff (!bD (Int.ofNat l.length) (Int.ofNat l.length)) _ _=_
    rw [dI (le_true (Nat.le_refl _))]) n () trivial (by omega)
  rw [wL]at hf
  refine(aF hf).trans ?_
  cases gC l 0 l<;>rfl
 ·have h1:bD (Int.ofNat l.length) (Int.ofNat 60)=false:=br (by omega)
  show iff (!bD (Int.ofNat l.length) (Int.ofNat 60)) _ _=_
  rw [h1,if_neg hl]
  rfl
theorem Xj(n:Nat)(v:El t24)(h:MR v)(hn:v.2.2.2.1.length<n):(UQ n (v,()):Option (Int×Unit))=some ((if AT v=true then(0:Int)else 8),()):=by
 obtain⟨k,m,b,l,u⟩:=v
 obtain⟨h0,h1,h2⟩:=h
 obtain⟨c,hc⟩:∃c:Nat,T9 (k,m,b,l,u)=Int.ofNat c:=⟨(T9 (k,m,b,l,u)).toNat,(Int.toNat_of_nonneg h0).symm⟩
 have hb:b=Int.ofNat c:=hc
 subst hb
 have:=S6 n k m c l (by rw [hc]at h1;exact Int.ofNat_lt.1 h1) hn h2
 exact this
theorem MY(n:Nat)(hn:32<n)(l:List (El t95))(k:Nat)(y:El t95)(hy:l[k]? =some y)(hl:l.length≤60)(hv:MR y.2.1)(hx:y.2.1.2.2.2.1.length<n):
  oG n (Int.ofNat k) (l,())=some (if bS l k y=true then .inr (.inr ((8:Int),()))else .inl (((),Int.ofNat (k+1),()),(),(l,()),())):=by
 have hk:=(List.getElem?_eq_some_iff.1 hy).1
 have h81:(Rf n (y.1,()):Option (Bool×Unit))=some (jm y.1,()):=MV n (by omega) y.1
 have hw:aP IntKind.i64 (Int.add (Int.ofNat k) (Int.ofNat 1))=Int.ofNat (k+1):=cX (by omega)
 have hj:∀b:Bool,EZ n (Int.ofNat k) b (l,())=some (if b=true then .inr (.inr ((8:Int),()))else .inl (((),Int.ofNat (k+1),()),(),(l,()),())):=fun b=>by
  unfold EZ
  rw [hw]
  cases b<;>rfl
 unfold oG
 show iff (!bD (Int.ofNat l.length) (Int.ofNat k)) _ _=_
 rw [dO (br hk)]
 show andThen (an (Int.ofNat k) l.length) _=_
 rw [show an (Int.ofNat k) l.length=some k from aV hk]
 show andThen (aU k l) _=_
 rw [bf hy]
 show andThen (andThen (Rf n (y.1,())) _) _=_
 rw [h81]
 cases hkB:jm y.1
 ·have:bS l k y=true:=by simp [bS,hkB]
  rw [this]
  exact hj true
 ·show andThen (andThen (UQ n (y.2.1,())) _) _=_
  rw [show(UQ n (y.2.1,()):Option (Int×Unit))=_ from Xj n y.2.1 hv hx]
  cases hoE:AT y.2.1
  ·have:bS l k y=true:=by simp [bS,hoE]
   rw [this]
   exact hj true
  ·show andThen (iff (!bD (Rj y) (Int.ofNat 1000000000000)) _ _) _=_
   rw [eJ]
   by_cases hs:Rj y≤1000000000000
   ·rw [show decide (Rj y≤Int.ofNat 1000000000000)=true from decide_eq_true hs]
    show andThen (iff (!bD (Int.ofNat k) (Int.ofNat 0)) _ _) _=_
    by_cases hk0:k=0
    ·subst hk0
     have:bS l 0 y=false:=by simp [bS,hkB,hoE];exact hs
     rw [this]
     exact hj false
    ·rw [dO (br (show 0<k by omega))]
     show andThen (andThen (an (aP IntKind.i64 ((Int.ofNat k).sub (Int.ofNat 1))) l.length) _) _=_
     rw [sub_one hk0 (by omega),show an (Int.ofNat (k-1)) l.length=some (k-1)from aV (by omega)]
     have hk1:k-1<l.length:=by omega
     show andThen (andThen (aU (k-1) l) _) _=_
     rw [bf (List.getElem?_eq_getElem hk1)]
     have hg:l.getD (k-1) y=l[k-1]:=by simp [List.getD,List.getElem?_eq_getElem hk1]
     have e:bS l k y= !Go.Op.bytesLess l[k-1].1 y.1:=by
      unfold bS
      rw [hg,hkB,hoE,decide_eq_true hs,decide_eq_true (show 0<k by omega)]
      simp
     rw [e]
     exact hj _
   ·rw [show decide (Rj y≤Int.ofNat 1000000000000)=false from decide_eq_false hs]
    have:bS l k y=true:=by simp [bS];exact .inl (.inr (by omega))
    rw [this]
    exact hj true
theorem Uh(n:Nat)(hn:60<n)(l:List (El t95))(hI:∀y∈l,MR y.2.1∧y.2.1.2.2.2.1.length<n):(XL n ((l,()),()):Option (Int×Unit))=some (((if l.length≤60 then(if eT l 0 l=true then(8:Int)else 0)else 4):Int),()):=by
 show Tp n (l,())=_
 unfold Tp
 by_cases hl:l.length≤60
 ·have h1:bD (Int.ofNat l.length) (Int.ofNat 60)=true:=le_true hl
  show iff (!bD (Int.ofNat l.length) (Int.ofNat 60)) _ _=_
  rw [h1,if_pos hl]
  have hf:=fB (body:=fun(x:(Unit×Int×Unit)×Unit×El t44×Unit)=>oG n x.1.2.1 x.2.2.1)
   l (fun k (_:Unit)=>(((),Int.ofNat k,()),(),(l,()),())) (fun k (_:Unit) (y:El t95)=>if bS l k y=true then .inr (.inr ((8:Int),()))else .inl ()) (fun _=> .inl ((),(),())) (fun _ _=>True)
   (fun k y s hy _=>⟨by
    show oG n (Int.ofNat k) (l,())=_
    rw [MY n (by omega) l k y hy hl (hI y (List.mem_of_getElem? hy)).1 (hI y (List.mem_of_getElem? hy)).2]
    cases bS l k y<;>rfl,fun _ _=>trivial⟩)
   (fun s _=>by
    show oG n (Int.ofNat l.length) (l,())=_
    unfold oG
    show iff (!bD (Int.ofNat l.length) (Int.ofNat l.length)) _ _=_
    rw [dI (le_true (Nat.le_refl _))]) n () trivial (by omega)
  rw [rT]at hf
  refine(aF hf).trans ?_
  cases eT l 0 l<;>rfl
 ·have h1:bD (Int.ofNat l.length) (Int.ofNat 60)=false:=br (by omega)
  show iff (!bD (Int.ofNat l.length) (Int.ofNat 60)) _ _=_
  rw [h1,if_neg hl]
  rfl
theorem MZ(n:Nat)(hn:32<n)(l:List (El t91))(k:Nat)(u v:El t91)(hk0:1≤k)(hu:l[k-1]? =some u)(hv:l[k]? =some v)(hl:l.length≤1000)(hb:∀z∈l,IT z):
  oI n l (Int.ofNat k)=some (if decide (0≤mI u v)=true then .inr (.inr (false,()))else .inl ((l,Int.ofNat (k+1),()),(),())):=by
 have hk:=(List.getElem?_eq_some_iff.1 hv).1
 have hw:aP IntKind.i64 (Int.add (Int.ofNat k) (Int.ofNat 1))=Int.ofNat (k+1):=cX (by omega)
 unfold oI
 rw [dO (br hk),sub_one (by omega) (by omega),show an (Int.ofNat (k-1)) l.length=some (k-1)from aV (by omega)]
 show andThen (aU (k-1) l) _=_
 rw [bf hu]
 show andThen (an (Int.ofNat k) l.length) _=_
 rw [show an (Int.ofNat k) l.length=some k from aV hk]
 show andThen (aU k l) _=_
 rw [bf hv]
 show andThen (Tw n (u,v,())) _=_
 rw [show(Tw n (u,v,()):Option (Int×Unit))=_ from MW n hn u v (hb u (List.mem_of_getElem? hu)) (hb v (List.mem_of_getElem? hv))]
 show iff (bD (Int.ofNat 0) (mI u v)) _ _=_
 rw [eJ,hw]
 cases h:decide ((0:Int)≤mI u v)
 ·rfl
 ·rfl
theorem Uj(n:Nat)(l:List (El t91))(hl:l.length≤1000)(hn:l.length<n)(hn2:32<n)(hb:∀z∈l,IT z):(Xa n (l,()):Option (Bool×Unit))=some (!fu l 0 l.tail,()):=by
 show TK n l=_
 unfold TK
 have ht:l.tail.length=l.length-1:=List.length_tail
 have hf:=fB (body:=fun(x:(List (El t91)×Int×Unit)×Unit×Unit)=>oI n x.1.1 x.1.2.1)
  l.tail (fun k (_:Unit)=>((l,Int.ofNat (k+1),()),(),())) (fun k (_:Unit) (y:El t91)=>if iv l k y=true then .inr (.inr (false,()))else .inl ()) (fun _=> .inl ((),(),())) (fun _ _=>True)
  (fun k y s hy _=>⟨by
   have hy':l[k+1]? =some y:=by rw [List.getElem?_tail]at hy;exact hy
   have hk:=(List.getElem?_eq_some_iff.1 hy').1
   have hu:l[k]? =some (l[k]'(by omega)):=List.getElem?_eq_getElem (by omega)
   show oI n l (Int.ofNat (k+1))=_
   rw [MZ n hn2 l (k+1) _ y (by omega) (by rw [Nat.add_sub_cancel];exact hu) hy' hl hb]
   have e:iv l k y=decide (0≤mI (l[k]'(by omega)) y):=by
    unfold iv
    rw [List.getD,hu]
    rfl
   rw [e]
   cases decide (0≤mI (l[k]'(by omega)) y)<;>rfl,fun _ _=>trivial⟩)
  (fun s _=>by
   show oI n l (Int.ofNat (l.tail.length+1))=_
   unfold oI
   rw [dI (le_true (show l.length≤l.tail.length+1 by omega))]) n () trivial (by omega)
 rw [rU]at hf
 refine(aF hf).trans ?_
 cases fu l 0 l.tail<;>rfl
theorem IU(n:Nat)(hn:60<n)(x:El t47)(b:Bool)(hI:∀y∈kx x,MR y.2.1∧y.2.1.2.2.2.1.length<n)(ht:∀z∈lN x,IT z.2.1):
  rS n b x=some ((if(!b&&ln x)=true then(0:Int)else 8),()):=by
 have h49:(XM n (x.2.1,()):Option (Int×Unit))=_:=Ug n hn (lN x) ht
 have h50:(XL n (x.2.2.1,()):Option (Int×Unit))=_:=Uh n hn (kx x) hI
 unfold rS
 cases b
 ·refine(congrArg (fun z=>andThen z (cq fun(x:(Bool×Unit)×Unit×Unit)=>E1 n x.1.1)) (aF h49)).trans ?_
  unfold ln
  by_cases h1:(lN x).length≤60
  ·rw [if_pos h1,decide_eq_true h1]
   cases h2:gC (lN x) 0 (lN x)
   ·refine(congrArg (fun z=>andThen z (cq fun(x:(Bool×Unit)×Unit×Unit)=>E1 n x.1.1)) (aF h50)).trans ?_
    by_cases h3:(kx x).length≤60
    ·rw [if_pos h3,decide_eq_true h3]
     cases h4:eT (kx x) 0 (kx x)<;>rfl
    ·rw [if_neg h3,decide_eq_false h3]
     rfl
   ·rfl
  ·rw [if_neg h1,decide_eq_false h1]
   rfl
 ·rfl
theorem Uk(n:Nat)(hn:60<n)(x:El t47)(hI:∀y∈kx x,MR y.2.1∧y.2.1.2.2.2.1.length<n)(ht:∀z∈lN x,IT z.2.1)(hh:∀z∈bC x,IT z):(ZY n (x,()):Option (Int×Unit))=some (if eY x=true then(0:Int)else 8,()):=by
 have hp:=fun b=>IU n hn x b hI ht
 show TM n x=_
 unfold TM eY GS
 have q1:bD (Int.ofNat 0) x.1=decide (0≤fJ x):=eJ _ _
 have q2:bD x.1 (Int.ofNat 60)=decide (fJ x≤60):=eJ _ _
 have q3:bD (Int.ofNat (List.length x.2.2.2.1)) x.1=decide (((bC x).length:Int)≤fJ x):=eJ _ _
 have q4:cB (Int.ofNat (List.length x.2.2.2.1)) (Int.ofNat 0)=decide ((bC x).length=0):=ej _ _
 have q5:bD x.1 (Int.ofNat 0)=decide (fJ x≤0):=eJ _ _
 rw [q1,q2,q3,q4,q5]
 by_cases h1:0≤fJ x
 ·rw [decide_eq_true h1]
  by_cases h2:fJ x≤60
  ·rw [decide_eq_true h2]
   by_cases h3:((bC x).length:Int)≤fJ x
   ·rw [decide_eq_true h3]
    have hl:(bC x).length≤60:=by omega
    have h48:(Xa n (x.2.2.2.1,()):Option (Bool×Unit))=_:=Uj n (bC x) (by omega) (by omega) (by omega) hh
    have fin:rS n (!(!fu (bC x) 0 (bC x).tail)) x=some ((if(ln x&& !fu (bC x) 0 (bC x).tail)=true then(0:Int)else 8),()):=by
     rw [hp,Bool.not_not,Bool.and_comm]
    by_cases h4:(bC x).length=0
    ·rw [decide_eq_true h4]
     by_cases h5:fJ x≤0
     ·rw [decide_eq_true h5]
      exact(congrArg (fun z=>andThen z (cq fun(x:(Unit×Bool×Unit)×Unit×El t47×Unit)=>rS n x.1.2.1 x.2.2.1)) (aF h48)).trans fin
     ·rw [decide_eq_false h5]
      exact(hp true)
    ·rw [decide_eq_false h4]
     exact(congrArg (fun z=>andThen z (cq fun(x:(Unit×Bool×Unit)×Unit×El t47×Unit)=>rS n x.1.2.1 x.2.2.1)) (aF h48)).trans fin
   ·rw [decide_eq_false h3];exact hp true
  ·rw [decide_eq_false h2];exact hp true
 ·rw [decide_eq_false h1];exact hp true
end L
end
section
open Go Go.az Go.RowKit
namespace Pa
open L Td Ad Rv Vl
theorem rV(l:List (El t93)):∀(r:List (El t93))(k:Nat),gC l k r=false→∀y∈r,jm (rE y)=true
 | [],_,_,y,hy=>by cases hy
 |z::r,k,h,y,hy=>by
  unfold gC at h
  rw [Bool.or_eq_false_iff]at h
  rcases List.mem_cons.1 hy with rfl|hy
  ·have h1:=h.1
   unfold cU at h1
   rw [Bool.or_eq_false_iff]at h1
   simpa [rE]using h1.1
  ·exact rV l r (k+1) h.2 y hy
theorem oL(l:List (El t95)):∀(r:List (El t95))(k:Nat),eT l k r=false→∀y∈r,jm (rF y)=true∧AT (bh y)=true∧ep y≤1000000000000
 | [],_,_,y,hy=>by cases hy
 |z::r,k,h,y,hy=>by
  unfold eT at h
  rw [Bool.or_eq_false_iff]at h
  rcases List.mem_cons.1 hy with rfl|hy
  ·have h1:=h.1
   unfold bS at h1
   rw [Bool.or_eq_false_iff,Bool.or_eq_false_iff,Bool.or_eq_false_iff]at h1
   obtain⟨⟨⟨g1,g2⟩,g3⟩,_⟩:=h1
   refine⟨by simpa [rF]using g1,by simpa [bh]using g2,?_⟩
   have:decide (Rj y≤1000000000000)=true:=by simpa using g3
   exact of_decide_eq_true this
  ·exact oL l r (k+1) h.2 y hy
theorem Df(k m:Int)(b:Nat)(l:List UInt8)(h:ga k m b l=true):l.length≤30:=by
 unfold ga at h
 split at h
 ·rw [Bool.and_eq_true]at h
  rw [of_decide_eq_true h.2]
  simp
 ·split at h
  ·rw [Bool.and_eq_true,Bool.and_eq_true]at h
   rw [of_decide_eq_true h.1.2]
   simp
  ·split at h
   ·rw [Bool.and_eq_true,Bool.and_eq_true,Bool.and_eq_true]at h
    exact of_decide_eq_true h.1.2
   ·cases h
theorem qy{l:List UInt8}(h:jm l=true):l.length≤20∧∀c∈l,ir c:=by
 unfold jm at h
 rw [Bool.and_eq_true,Bool.and_eq_true]at h
 obtain⟨⟨_,h2⟩,h3⟩:=h
 refine⟨of_decide_eq_true h2,fun c hc=>?_⟩
 have:=List.all_eq_true.1 h3 c hc
 unfold kr at this
 unfold ir
 simp at this
 omega
structure lB(x:El t47):Prop where
 cy:∀y∈cf x,Ax (cR y)
 tags:∀y∈cK x,Ax (cR (Gy y))
 cT:∀y∈cv x,Ax (cR (Dj y))∧0≤ep y∧ -9223372036854775808≤vM (bh y)∧vM (bh y)≤9223372036854775807∧MR (bh y)
theorem E5{x:El t47}(h:eY x=true):(0≤gy x∧gy x≤60∧((cf x).length:Int)≤gy x)∧((cK x).length≤60∧gC (cK x) 0 (cK x)=false)∧((cv x).length≤60∧eT (cv x) 0 (cv x)=false):=by
 unfold eY GS ln at h
 simp only [Bool.and_eq_true,decide_eq_true_iff,Bool.not_eq_true']at h
 obtain⟨⟨⟨⟨⟨h1,h2⟩,h3⟩,_⟩,⟨⟨⟨h4,h5⟩,h6⟩,h7⟩⟩,_⟩:=h
 exact⟨⟨h1,h2,h3⟩,⟨h4,h5⟩,⟨h6,h7⟩⟩
theorem rW{x:El t47}(hN:lB x)(h:eY x=true):nu x:=by
 obtain⟨⟨h1,h2,h3⟩,⟨h4,h5⟩,⟨h6,h7⟩⟩:=E5 h
 refine⟨⟨h1,h2,by omega,hN.cy,h4,fun y hy=>⟨(qy (rV _ _ _ h5 y hy)).1,hN.tags y hy⟩,h6,fun y hy=>?_⟩,fun y hy=>(qy (rV _ _ _ h5 y hy)).2,fun y hy=>(qy (oL _ _ _ h7 y hy).1).2⟩
 obtain⟨g1,g2,g3⟩:=oL _ _ _ h7 y hy
 obtain⟨k1,k2,k3,k4,k5,k6,k7⟩:=hN.cT y hy
 exact⟨(qy g1).1,k1,k2,g3,k3,k4,k5,k6,g2⟩
theorem np(x:El t47)(hN:lB x)(w:World)(v':Value)(hl:cQ w t47 x v'):Calls Tryz.prog 15 #[v'] w fun e w'=>e= .returned (.int .i64 (if eY x=true then 0 else 8))∧Below w.heap.size w w':=by
 refine(fm (T6 63) (Uc 60 (Nat.le_refl _) x fun y hy=>(hN.cT y hy).2.2.2.2) (args':=[v']) (aR.cons hl .nil)).mono fun e w' ⟨v,h1,h2,h3⟩=>⟨?_,h3⟩
 rw [h1,jc [t25] _ rfl h2]
 cases eY x<;>rfl
theorem Qs(x:El t47)(hN:lB x)(hn:∀y∈cv x,(vT (bh y)).length≤100)(w:World)(v':Value)(hl:cQ w t47 x v'):Calls Tryz.prog 16 #[v'] w fun e w'=>e= .returned (.int .i64 (if eY x=true then 0 else 8))∧Below w.heap.size w w':=by
 refine(fm (TN 200) (Uk 200 (by decide) x (fun y hy=>⟨(hN.cT y hy).2.2.2.2,Nat.lt_of_le_of_lt (hn y hy) (by decide)⟩) hN.tags hN.cy) (args':=[v']) (aR.cons hl .nil)).mono fun e w' ⟨v,h1,h2,h3⟩=>⟨?_,h3⟩
 rw [h1,jc [t3] _ rfl h2]
 cases eY x<;>rfl
def TB(x:El t47):ByteArray:=if eY x=true then⟨(eX x).toArray⟩else⟨#[]⟩
def TC(x:El t47):Int:=if eY x=true then 0 else 8
theorem M0(x:El t47)(hN:lB x)(w:World)(hv:cZ w)(v':Value)(hl:cQ w t47 x v'):Calls Tryz.prog 14 #[v'] w fun e w'=>e= .returned (.tuple #[.string (TB x),.int .i64 (TC x)])∧Below w.heap.size w w':=by
 unfold TB TC
 cases hg:eY x
 ·have h15:=fun w v' hl=>np x hN w v' hl
  rw [hg]at h15
  exact Te.Ml x 8 (by decide) h15 w v' hl
 ·have h15:=fun w v' hl=>np x hN w v' hl
  rw [hg]at h15
  have hb:=rW hN hg
  refine Te.text x hb.fits h15 (fun y hy=>?_) w hv v' hl
  obtain⟨g1,g2,g3,g4,g5,g6,g7,g8,g9⟩:=hb.fits.cT y hy
  have hlen:=(hN.cT y hy).2.2.2.2.2.2
  have hB:(vB (bh y)).toNat<18446744073709551616:=by omega
  have h61:=(rP (vK (bh y),vM (bh y),(vB (bh y)).toNat,vT (bh y)) ⟨g5,g6,hB⟩ g9).2
  have h61:(Aw (bh y)).length≤61:=h61
  refine⟨by omega,fun w hv=>?_⟩
  have ht:(vT (bh y)).length≤4000:=by
   have:=Df (vK (bh y)) (vM (bh y)) (vB (bh y)).toNat (vT (bh y)) g9
   omega
  have h6:=value (vK (bh y)) (vM (bh y)) (vB (bh y)).toNat (vT (bh y)) hB g5 g6 ht w hv
  rw [g9,if_pos rfl,if_pos rfl]at h6
  unfold vV at h6
  rw [Int.toNat_of_nonneg g7]at h6
  exact h6
def SN(s:St):Prop:=∀r∈s.cT,In r.2.1∧r.2.1.2.2.2.length≤30
theorem IV(s s':St)(ws:List (List UInt8))(h:bB s ws=some s')(hs:SN s):SN s':=by
 match ws,h with
 | [],h=>cases h
 |a::r,h=>
  rw [cG]at h
  split at h
  ·cases h
   exact hs
  ·split at h
   ·split at h
    ·split at h
     ·cases h;exact hs
     ·cases h
    ·cases h
   ·split at h
    ·cases h;exact hs
    ·cases h
   ·split at h
    ·split at h
     ·rename_i v u hv hu
      cases h
      intro r hr
      rcases List.mem_append.1 hr with hr|hr
      ·exact hs r hr
      ·rw [List.mem_singleton.1 hr]
       obtain⟨g1,g2,_⟩:=(EW _ _).1 hv
       exact⟨g1,Df _ _ _ _ g2⟩
     ·cases h
    ·cases h
   ·cases h
theorem wM:∀(ls:List (List UInt8))(s st:St),aS s ls=some st→SN s→SN st
 | [],s,st,h,hs=>by
  cases h
  exact hs
 |l::ls,s,st,h,hs=>by
  have h:(match bB s (words l)with|none=>none|some s'=>aS s' ls)=some st:=h
  cases hc:bB s (words l)with
  |none=>rw [hc]at h;cases h
  |some s'=>
   rw [hc]at h
   exact wM ls s' st h (IV s s' _ hc hs)
theorem Ul(st:St)(h:SN st):lB (jQ st) where
 cy:=fun y hy=>by
  obtain⟨z,_,rfl⟩:=List.mem_map.1 (show y∈st.cy.map AW from hy)
  exact AJ z
 tags:=fun y hy=>by
  obtain⟨z,_,rfl⟩:=List.mem_map.1 (show y∈st.tags.map EP from hy)
  exact AJ z.2
 cT:=fun y hy=>by
  obtain⟨r,hr,rfl⟩:=List.mem_map.1 (show y∈st.cT.map ER from hy)
  obtain⟨⟨g1,g2,g3⟩,g4⟩:=h r hr
  refine⟨AJ r.2.2.2,Int.natCast_nonneg _,g1,g2,Int.natCast_nonneg _,?_,?_⟩
  ·show((r.2.1.2.2.1:Nat):Int)<18446744073709551616
   omega
  ·show r.2.1.2.2.2.length≤1000000
   omega
theorem Dg{ls:List (List UInt8)}{st:St}(h:aS St.nil ls=some st):lB (jQ st):=Ul st (wM ls St.nil st h fun r hr=>by cases hr)
theorem M1(S:List UInt8)(hS:S.length≤30000)(hwd:∀x∈Ln.cut S,(words x).length≤30001∧∀z∈words x,z.length≤4000)(m:Int)(w:World)(hv:cZ w)(hm:w.cell? ⟨3,0,none⟩=some (.int .i64 m)):
    Calls Tryz.prog 17 #[.string ⟨⟨S⟩⟩] w fun e w'=>Below w.heap.size w w'∧
      ((∃st v,aS St.nil (Ln.cut S)=some st∧eY (jQ st)=true∧eX (jQ st)=S∧e= .returned (.tuple #[v,.int .i64 0])∧cQ w' t47 (jQ st) v)∨
       ((∀st,aS St.nil (Ln.cut S)=some st→¬(eY (jQ st)=true∧eX (jQ st)=S))∧e= .returned (.tuple #[ZS,.int .i64 12]))):=by
  refine(parse S hS hwd (fun k st h=>EU S hS k st h) (fun st=>(TB (jQ st),TC (jQ st))) (fun st hst w' v' hv' hl=>M0 (jQ st) (Dg hst) w' hv' v' (Mn hl)) m w hv hm).mono fun e w' ⟨h1,h2⟩=>⟨h1,?_⟩
  rcases h2 with⟨st,v,g1,g2,g3,g4,g5⟩|⟨g1,g2⟩
  · refine .inl ⟨st,v,g1,?_,?_,g4,Mn g5⟩
    · cases hg:eY (jQ st)with
      |true=>rfl
      |false=>
        have g2:TC (jQ st)=0:=g2
        unfold TC at g2
        rw [hg]at g2
        exact absurd g2 (by decide)
    · have g3:TB (jQ st)=⟨⟨S⟩⟩:=g3
      unfold TB at g3
      cases hg:eY (jQ st)with
      |true=>
        rw [hg,if_pos rfl]at g3
        exact congrArg (fun b:ByteArray=>b.data.toList) g3
      |false=>
        have g2:TC (jQ st)=0:=g2
        unfold TC at g2
        rw [hg]at g2
        exact absurd g2 (by decide)
  · refine .inr ⟨fun st hst ⟨k1,k2⟩=>g1 st hst ⟨?_,?_⟩,g2⟩
    · show TC (jQ st)=0
      unfold TC
      rw [k1,if_pos rfl]
    · show TB (jQ st)=⟨⟨S⟩⟩
      unfold TB
      rw [k1,if_pos rfl,k2]
theorem Dh(S:List UInt8)(hS:S.length≤3000):∀x∈Ln.cut S,(words x).length≤30001∧∀z∈words x,z.length≤4000:=fun x hx=>by
 have h1:=GH hx
 obtain⟨h2,h3⟩:=sY x
 exact⟨by omega,fun z hz=>by have:=h3 z hz;omega⟩
theorem E6{x:El t47}(h:nu x):∀l∈Ln.cut (eX x),(words l).length≤30001∧∀z∈words l,z.length≤4000:=fun l hl=>by
 have hd:=rR h
 have hf:=h.fits
 have v0:=hf.P5
 have v1:=hf.IC
 rw [C6 x fun ws hws w hw=>(qv ((hd ws hws).2 w hw)).2]at hl
 obtain⟨ws,hws,rfl⟩:=List.mem_map.1 hl
 rw [wG ws (hd ws hws).1 fun w hw=>(qv ((hd ws hws).2 w hw)).1]
 rcases List.mem_cons.1 hws with rfl|hws
 ·refine⟨by simp,fun w hw=>?_⟩
  simp only [List.mem_cons,List.not_mem_nil,or_false]at hw
  have hdl:=Te.ni (u:=(gy x).toNat) (by omega)
  rcases hw with rfl|rfl
  ·decide
  ·omega
 rcases List.mem_cons.1 hws with rfl|hws
 ·have hl:=hf.EG
  refine⟨by simp;omega,fun w hw=>?_⟩
  rcases List.mem_cons.1 hw with rfl|hw
  ·decide
  ·obtain⟨y,_,rfl⟩:=List.mem_map.1 hw
   rw [Te.jf]
   decide
 rcases List.mem_append.1 hws with hws|hws
 ·obtain⟨y,hy,rfl⟩:=List.mem_map.1 hws
  refine⟨by simp [jP],fun w hw=>?_⟩
  have:=Te.AB (hf.tags y hy).1 w hw
  omega
 ·obtain⟨r,hr,rfl⟩:=List.mem_map.1 hws
  obtain⟨g1,g2,g3,g4,g5,g6,g7,g8,g9⟩:=hf.cT r hr
  have h61:=(rP (vK (bh r),vM (bh r),(vB (bh r)).toNat,vT (bh r)) ⟨g5,g6,by show(vB (bh r)).toNat<_;omega⟩ g9).2
  have h61:(Aw (bh r)).length≤61:=h61
  refine⟨by simp [je],fun w hw=>?_⟩
  have:=Te.AE g1 (by omega) g4 w hw
  omega
theorem IW{x:El t47}(hN:lB x)(hg:eY x=true)(m:Int)(w:World)(hv:cZ w)(hm:w.cell? ⟨3,0,none⟩=some (.int .i64 m)):
  Calls Tryz.prog 17 #[.string ⟨⟨eX x⟩⟩] w fun e w'=>Below w.heap.size w w'∧∃v,e= .returned (.tuple #[v,.int .i64 0])∧cQ w' t47 x v:=by
 have hb:=rW hN hg
 have ht:=IK hb
 have he:=Qh hb
 refine(M1 (eX x) (Db hb) (E6 hb) m w hv hm).mono fun e w' ⟨h1,h2⟩=>⟨h1,?_⟩
 rcases h2 with⟨st,v,g1,g2,g3,g4,g5⟩|⟨g1,g2⟩
 ·rw [ht]at g1
  cases g1
  rw [he]at g5
  exact⟨v,g4,g5⟩
 ·exact absurd ⟨by rw [he];exact hg,by rw [he]⟩ (g1 _ ht)
theorem E7(s:ByteArray)(hs:s.size≤3000)(m:Int)(w:World)(hv:cZ w)(hm:w.cell? ⟨3,0,none⟩=some (.int .i64 m)):
  Calls Tryz.prog 17 #[.string s] w fun e w'=>Below w.heap.size w w'∧
   ((∃z v,lB z∧eY z=true∧eX z=s.data.toList∧e= .returned (.tuple #[v,.int .i64 0])∧cQ w' t47 z v)∨e= .returned (.tuple #[ZS,.int .i64 12])):=by
 obtain⟨⟨S⟩⟩:=s
 have hs:S.length≤3000:=hs
 refine(M1 S (by omega) (Dh S hs) m w hv hm).mono fun e w' ⟨h1,h2⟩=>⟨h1,?_⟩
 rcases h2 with⟨st,v,g1,g2,g3,g4,g5⟩|⟨_,g2⟩
 ·exact .inl ⟨jQ st,v,Dg g1,g2,g3,g4,g5⟩
 ·exact .inr g2
theorem wN:∀(ls:List (List (List UInt8))),(∀ws∈ls,∀w∈ws,(10:UInt8)∉w)→((ls.map cj).flatten).count 10=ls.length
 | [],_=>rfl
 |ws::ls,h=>by
  have h1:(Jn.cd ws).count 10=0:=List.count_eq_zero.2 (rO ws (h ws (by simp)))
  have h2:=wN ls fun v hv=>h v (List.mem_cons_of_mem _ hv)
  rw [List.map_cons,List.flatten_cons,List.count_append,h2]
  unfold cj
  rw [List.count_append,h1]
  simp
  omega
theorem E8{x:El t47}(h:nu x):(eX x).count 10=2+(cK x).length+(cv x).length:=by
 have hd:=rR h
 unfold eX
 rw [wN (nO x) fun ws hws w hw=>(qv ((hd ws hws).2 w hw)).2]
 simp [nO]
 omega
end Pa
end
end Go.Proofs.YtdmpneafeadbbaaGreatDoor
end
