/- What the card of ReportBack leans on, part 11: written with few blanks and short names by a program out of longer texts. Conditions: those of each lemma. -/
import Derived.Test.YtdmpneafeadbbaaGreatDoorPaj
import Derived.Handy
import Derived.RangeFuncBox
import Derived.Stop.Asserts
import Derived.OwnWalk
import Derived.Lib.ConvBytes
import Derived.Lib.AtoiAllMem
import Derived.Lib.AtoiErrMem
import Derived.Lib.Hide
import Derived.Laws.Strings3
import Derived.Laws.Closers25
import Derived.Laws.Closers25b
import Derived.BigCall
import Derived.BigGuard
import Derived.Lib.ParseIntBTie
import Derived.Great.BuildSlice
import Derived.OrdersHeld
set_option maxRecDepth 100000
set_option linter.unusedVariables false
set_option linter.unusedSimpArgs false
noncomputable section
namespace Go.Proofs.YtdmpneafeadbbaaGreatDoor
section
open Go Go.az Go.RowKit
namespace Te
open L Td Vl
def Az(w:World)(t:Ty)(x:List (El t))(b o:Nat):Prop:=b<w.heap.size∧∀(i:Nat)(y:El t),x[i]? =some y→∀(j:Nat)(v:Value),(ah t y)[j]? =some v→w.cell? ⟨b,o+i*al t+j,none⟩=some v
theorem cx{w:World}{t:Ty}(hp:cn t=true){x:List (El t)}{v':Value}(h:cQ w (.slice t) x v'):∃(oa:Option Addr)(c:Nat),v'= .slice oa x.length c∧(x.length≠0→x.length≤c∧∃b o,oa=some ⟨b,o,none⟩∧Az w t x b o):=by
 rcases IB hp h with⟨rfl,⟨c,rfl⟩|⟨a,c,rfl⟩⟩|⟨b,o,c,rfl,h1,h2,h3⟩
 ·exact⟨none,c,rfl,fun h=>absurd rfl h⟩
 ·exact⟨some a,c,rfl,fun h=>absurd rfl h⟩
 ·exact⟨_,c,rfl,fun _=>⟨h1,b,o,rfl,h2,h3⟩⟩
theorem Az.below{w w':World}{t:Ty}{x:List (El t)}{b o:Nat}(h:Az w t x b o)(hb:Below w.heap.size w w'):Az w' t x b o:=
 ⟨Nat.lt_of_lt_of_le h.1 hb.size,fun i y hy j v hv=>(hb.cell (p:=⟨b,o+i*al t+j,none⟩) h.1).trans (h.2 i y hy j v hv)⟩
def strs(l:List (List UInt8)):List Value:=l.map fun s=> .string ⟨⟨s⟩⟩
theorem bU{w:World}{b:Nat}{o:Obj}(h:w.heap[b]? =some o):b<w.heap.size:=az.aB h
theorem cV{w:World}{M T:Nat}{a b c d:Value}(h:w.heap[M]? =some (.cells #[a,b,c,d] T (0,0))):(w.cell? ⟨M,0,none⟩=some a∧w.cell? ⟨M,1,none⟩=some b∧w.cell? ⟨M,2,none⟩=some c∧w.cell? ⟨M,3,none⟩=some d)∧
  w.frozen? ⟨M,0,none⟩=false∧w.frozen? ⟨M,1,none⟩=false∧w.frozen? ⟨M,2,none⟩=false∧w.frozen? ⟨M,3,none⟩=false:=
 ⟨⟨(Lib.cell_of_heap h 0).trans rfl,(Lib.cell_of_heap h 1).trans rfl,(Lib.cell_of_heap h 2).trans rfl,(Lib.cell_of_heap h 3).trans rfl⟩,Lib.frozen_of_heap h 0,Lib.frozen_of_heap h 1,Lib.frozen_of_heap h 2,Lib.frozen_of_heap h 3⟩
theorem qh{B b:Nat}{p:Value}{bs:List Value}{w w':World}(h:Lib.BuilderAt 84 5 B b p bs w)(hb:Below w.heap.size w w'):Lib.BuilderAt 84 5 B b p bs w':=by
 obtain⟨h1,v,h2,h3,h4⟩:=h
 refine⟨h1,v,(hb.block _ (bU h2)).trans h2,⟨h3.1,?_⟩,h4⟩
 rcases h3.2 with h|⟨g,cap,cur,rfl,k1,k2,k3⟩
 ·exact .inl h
 ·exact .inr ⟨g,cap,cur,rfl,k1,(hb.block _ (bU k2)).trans k2,k3⟩
theorem AA{B b:Nat}{bs:List Value}{w w':World}(h:Lib.IsBuilder 84 5 B b bs w)(hb:Below w.heap.size w w'):Lib.IsBuilder 84 5 B b bs w':=by
 rcases h with h|h
 ·exact .inl (qh h hb)
 ·exact .inr (qh h hb)
theorem WR{B b T:Nat}{p:Value}{bs:List Value}{w w':World}{v:Value}(h:Lib.BuilderAt 84 5 B b p bs w)(hg:w.grownBy w' v.ownBlock)(hT:∀g,v.ownBlock=some g→∃cs,w.heap[g]? =some (.cells cs T (0,0)))(h5:T≠5)(h84:T≠84):Lib.BuilderAt 84 5 B b p bs w':=by
 obtain⟨h1,u,h2,h3,h4⟩:=h
 have hne:∀(k T':Nat)(cs:Array Value),w.heap[k]? =some (.cells cs T' (0,0))→T'≠T→some k≠v.ownBlock:=fun k T' cs hk hn e=>by
  obtain⟨cs2,hc⟩:=hT k e.symm
  rw [hk]at hc
  cases hc
  exact hn rfl
 refine⟨h1,u,(hg.block _ (bU h2) (hne _ _ _ h2 (Ne.symm h84))).trans h2,⟨h3.1,?_⟩,h4⟩
 rcases h3.2 with h|⟨g,cap,cur,rfl,k1,k2,k3⟩
 ·exact .inl h
 ·exact .inr ⟨g,cap,cur,rfl,k1,(hg.block _ (bU k2) (hne _ _ _ k2 (Ne.symm h5))).trans k2,k3⟩
theorem aE{base e size n:Nat}{v:Value}{xs:List Value}{w w':World}(h:w.ownsRow base e size v n xs)(hb:Below w.heap.size w w'):w'.ownsRow base e size v n xs:=by
 refine⟨h.1,?_⟩
 rcases h.2 with h|⟨g,cap,cur,rfl,k1,k2,k3⟩
 ·exact .inl h
 ·exact .inr ⟨g,cap,cur,rfl,k1,(hb.block _ (bU k2)).trans k2,k3⟩
theorem da{base e size n:Nat}{v:Value}{xs:List Value}{w:World}(h:w.ownsRow base e size v n xs):∀g,v.ownBlock=some g→base≤g∧∃cs,w.heap[g]? =some (.cells cs e (0,0)):=by
 rcases h.2 with⟨rfl,_⟩|⟨g,cap,cur,rfl,k1,k2,k3⟩
 ·intro g hg;cases hg
 ·intro g' hg
  cases hg
  exact⟨k1,cur,k2⟩
theorem An:(Tryz.prog.info? 9).map (fun i=>(i.zero,i.size,i.bytes))=some (some (.string ⟨#[]⟩),1,16):=by kernel_rfl
theorem wm(y:El t91)(hy:Ax (cR y))(k off cap:Nat)(w:World)(hk:k<w.heap.size)(hc:∀(j:Nat)(v:Value),(ah t91 y)[j]? =some v→w.cell? ⟨k,off+j,none⟩=some v):
  Calls Tryz.prog 21 #[.slice (some ⟨k,off,none⟩) 32 cap] w fun e w'=>e= .returned (.string ⟨(fL y).toArray⟩)∧Below w.heap.size w w':=by
 have hl:(AV (cR y)).length=32:=(Gz _).trans (wj y)
 have h:=Bd.QY k off cap (AV (cR y)) w (by omega) hk (fun j hj=>by
  refine hc j _ ?_
  rw [ng y hy]
  simp [Lib.byteCells,List.getD,List.getElem?_eq_getElem hj])
 rw [hl]at h
 exact h
theorem jf(y:El t91):(fL y).length=64:=by
 unfold fL
 rw [Bd.jb,Gz,wj]
def kq(x:El t47)(i:Nat):List (List UInt8):=di::((cf x).take i).map fL
theorem EH{x:El t47}{i:Nat}{y:El t91}(hy:(cf x)[i]? =some y):strs (kq x i)++[.string ⟨(fL y).toArray⟩]=strs (kq x (i+1)):=by
 obtain⟨h1,h2⟩:=List.getElem?_eq_some_iff.1 hy
 unfold kq
 rw [List.take_succ_eq_append_getElem h1,h2]
 simp [strs]
theorem rG{x:El t47}{i:Nat}(h:i≤(cf x).length):(kq x i).length=i+1:=by
 unfold kq
 rw [List.length_cons,List.length_map,List.length_take]
 omega
theorem wo{x:El t47}{i:Nat}:∀z∈kq x i,z.length≤64:=fun z hz=>by
 rcases List.mem_cons.1 hz with rfl|hz
 ·decide
 ·obtain⟨y,_,rfl⟩:=List.mem_map.1 hz
  rw [jf]
  exact Nat.le_refl _
set_option maxHeartbeats 800000 in
theorem line(sl:Value)(j:ByteArray)(hj1:j.size≤1000000)(B b:Nat)(bs:List Value)(hbs:bs.length≤100000000)(w:World)(hj:Calls Tryz.prog 41 #[sl,.string ⟨#[32]⟩] w fun e w'=>e= .returned (.string j)∧Below w.heap.size w w')(h:Lib.IsBuilder 84 5 B b bs w)(hB:B≤w.heap.size):
  Calls Tryz.prog 39 #[sl,.pointer (some ⟨b,0,none⟩)] w fun e w'=>e= .returned (.tuple #[])∧(Lib.BuilderAt 84 5 B b (.pointer (some ⟨b,0,none⟩)) (bs++Lib.strCells (j++⟨#[10]⟩)) w'∧Below B w w'):=by
 have mixed:=mix
 have hjs:(j++⟨#[10]⟩:ByteArray).size=j.size+1:=by rw [ByteArray.size_append];rfl
 go_enter Tryz.func39,Tryz.ntmps39
 go_wp2_with (go_at_call 41;refine hj.mono ?_)
 rintro e w1 ⟨rfl,b1⟩
 have k1:=AA h b1
 have b1:=b1.mono hB
 go_wp2_with (go_at_call 40;refine(Bu.writeString B b bs _ w1 k1 (by omega) (Nat.le_trans hB b1.size)).mono ?_)
 rintro e w2 ⟨rfl,k2,b2⟩
 have b2:=b1.trans b2
 go_wp2
 go_end0
 exact⟨rfl,k2,b2⟩
set_option maxHeartbeats 800000 in
theorem L3(bm cap:Nat)(a sep:ByteArray)(w:World)(h0:w.cell? ⟨bm,0,none⟩=some (.string a)):
  Calls Tryz.prog 41 #[.slice (some ⟨bm,0,none⟩) 1 cap,.string sep] w fun e w'=>e= .returned (.string a)∧Below w.heap.size w w':=by
 have mixed:=mix
 go_enter Tryz.func41,Tryz.ntmps41
 go_wp2
 go_ret
 exact⟨rfl,Below.refl _ _⟩
theorem GB(l:List (List UInt8))(j:Nat)(h:j<l.length):(strs l)[j]? =some (.string (Jn.wB l j)):=by
 unfold strs Jn.wB
 rw [Jn.CS h,List.getElem?_map,List.getElem?_eq_getElem h]
 rfl
theorem P8{base k:Nat}{v:Value}{ws:List (List UInt8)}{w:World}(h:w.ownsRow base 9 1 v (k+1) (strs ws))(hl:ws.length=k+1)(hk:k<900)(hm:∀z∈ws,z.length≤1000):
  Calls Tryz.prog 41 #[v,.string ⟨#[32]⟩] w fun e w'=>e= .returned (.string ⟨(Jn.cd ws).toArray⟩)∧Below w.heap.size w w':=by
 rcases h.2 with⟨_,h0⟩|⟨g,cap,cur,rfl,k1,k2,k3,k4,k5,k6⟩
 ·omega
 have hc:∀j,j<ws.length→w.cell? ⟨g,0+j,none⟩=some (.string (Jn.wB ws j)):=fun j hj=>by
  rw [Nat.zero_add,Lib.cell_of_heap k2,←GB ws j hj,←k6,List.getElem?_take,if_pos (by omega),Array.getElem?_toList]
 by_cases h1:k=0
 ·subst h1
  match ws,hl with
  | [a],_=>exact L3 g cap ⟨⟨a⟩⟩ ⟨#[32]⟩ w (hc 0 (by show 0<1;omega))
 ·have:=Jn.join g 0 cap ws w (by omega) (by omega) hm (by omega) (bU k2) hc
  rw [hl]at this
  exact this
def ku(w:World)(N:Nat)(box:Obj)(T:List UInt8)(w':World):Prop:=
 Lib.BuilderAt 84 5 N N (.pointer (some ⟨N,0,none⟩)) (Lib.byteCells T) w'∧w'.heap[w.heap.size]? =some box∧Below w.heap.size w w'∧N≤w'.heap.size
theorem ku.below{w:World}{N:Nat}{box:Obj}{T:List UInt8}{w' w'':World}(h:ku w N box T w')(hb:Below w'.heap.size w' w''):ku w N box T w'':=by
 obtain⟨h1,h2,h3,h4⟩:=h
 exact⟨qh h1 hb,(hb.block _ (bU h2)).trans h2,h3.trans (hb.mono h3.size),Nat.le_trans h4 hb.size⟩
theorem ku.alloc{w:World}{N:Nat}{box:Obj}{T:List UInt8}{w':World}(h:ku w N box T w')(o:Obj):ku w N box T (w'.alloc o):=h.below ((Below.refl _ _).alloc (Nat.le_refl _) o)
theorem ku.drew{w:World}{N:Nat}{box:Obj}{T:List UInt8}{w':World}(h:ku w N box T w'):ku w N box T w'.drew:=h.below (Below.refl _ _).drew
theorem ku.line{w:World}{N:Nat}{box:Obj}{T:List UInt8}{W:World}(h:ku w N box T W)(hN:w.heap.size<N)(hT:T.length≤1000000)(sl:Value)(ws:List (List UInt8))(hl:(Jn.cd ws).length≤1000000)
  (hj:Calls Tryz.prog 41 #[sl,.string ⟨#[32]⟩] W fun e w'=>e= .returned (.string ⟨(Jn.cd ws).toArray⟩)∧Below W.heap.size W w'):
  Calls Tryz.prog 39 #[sl,.pointer (some ⟨N,0,none⟩)] W fun e w'=>e= .returned (.tuple #[])∧ku w N box (T++cj ws) w':=by
 obtain⟨h1,h2,h3,h4⟩:=h
 refine(Te.line sl ⟨(Jn.cd ws).toArray⟩ hl N N (Lib.byteCells T) (by rw [Lib.byteCells_length];omega) W hj (.inr h1) h4).mono ?_
 rintro e w' ⟨rfl,k,b⟩
 refine⟨rfl,?_,(b.block _ hN).trans h2,h3.trans (b.mono (by omega)),Nat.le_trans h4 b.size⟩
 have e:Lib.byteCells T++Lib.strCells (⟨(Jn.cd ws).toArray⟩++⟨#[10]⟩)=Lib.byteCells (T++cj ws):=by simp [Lib.strCells,Lib.byteCells,cj]
 rw [←e]
 exact k
theorem join_le{ws:List (List UInt8)}{M:Nat}(hm:∀z∈ws,z.length≤M):(Jn.cd ws).length≤ws.length*(M+1):=by
 have h1:=Jn.qe ws
 have h2:=Jn.Ao ws M hm ws.length (Nat.le_refl _)
 unfold Jn.qd at h2
 rw [List.take_length]at h2
 rw [Nat.mul_succ]
 omega
def rH(x:El t47)(j:Nat):List UInt8:=(((cK x).take j).map fun t=>cj (jP t)).flatten
theorem yy{x:El t47}{j:Nat}{y:El t93}(hy:(cK x)[j]? =some y):rH x (j+1)=rH x j++cj (jP y):=by
 obtain⟨h1,h2⟩:=List.getElem?_eq_some_iff.1 hy
 unfold rH
 rw [List.take_succ_eq_append_getElem h1,h2]
 simp
theorem AB{y:El t93}(h:(rE y).length≤20):∀z∈jP y,z.length≤64:=fun z hz=>by
 rcases List.mem_cons.1 hz with rfl|hz
 ·decide
 rcases List.mem_cons.1 hz with rfl|hz
 ·omega
 rw [List.mem_singleton.1 hz,jf]
 exact Nat.le_refl _
theorem EI{y:El t93}(h:(rE y).length≤20):(cj (jP y)).length≤200:=by
 have:=join_le (AB h)
 have e:(jP y).length=3:=rfl
 unfold cj
 rw [List.length_append]
 rw [e]at this
 simp
 omega
theorem AD{x:El t47}(h:∀y∈cK x,(rE y).length≤20∧Ax (cR (Gy y))):∀j,(rH x j).length≤j*200
 |0=>by simp [rH]
 |j+1=>by
  have ih:=AD h j
  by_cases hj:j<(cK x).length
  ·have hy:(cK x)[j]? =some _:=List.getElem?_eq_getElem hj
   rw [yy hy,List.length_append]
   have:=EI (h _ (List.mem_of_getElem? hy)).1
   omega
  ·have:rH x (j+1)=rH x j:=by
    unfold rH
    rw [List.take_of_length_le (by omega),List.take_of_length_le (by omega)]
   rw [this]
   omega
theorem ku.laid{w:World}{N:Nat}{box:Obj}{T:List UInt8}{W:World}(h:ku w N box T W)(hN:w.heap.size<N)(hT:T.length≤1000000)(ws:List (List UInt8))(n:Nat)(hn:ws.length=n)(h2:2≤n)(h3:n≤10)(hm:∀z∈ws,z.length≤64)(cs:Array Value)(hcs:cs=(strs ws).toArray):
  Calls Tryz.prog 39 #[.slice (some ⟨W.heap.size,0,none⟩) n n,.pointer (some ⟨N,0,none⟩)] (W.alloc (.cells cs 9)) fun e w'=>e= .returned (.tuple #[])∧ku w N box (T++cj ws) w':=by
 subst hcs
 have hj:=Jn.join W.heap.size 0 n ws (W.alloc (.cells (strs ws).toArray 9)) (by omega) (by omega) (fun z hz=>Nat.le_trans (hm z hz) (by decide)) (by omega) (by simp) (fun j hj=>by
  rw [Nat.zero_add,Lib.cell_of_heap (Tx.aw _ _),←GB ws j hj]
  simp)
 rw [hn]at hj
 have hl:=join_le hm
 have hl2:ws.length*(64+1)≤10*65:=Nat.mul_le_mul_right _ (by omega)
 exact(h.alloc (.cells (strs ws).toArray 9)).line hN hT _ ws (by omega) hj
theorem sS(y:El t93):(ah t93 y).length=33:=aH t93 y
theorem sU(y:El t95):(ah t95 y).length=38:=aH t95 y
theorem WT(y:El t93)(h:Ax (cR (Gy y))):∀v∈ah t93 y,v.oneCell'=true:=by
 rw [Ay y h]
 intro v hv
 rcases List.mem_cons.1 hv with rfl|hv
 ·rfl
 ·obtain⟨q,_,rfl⟩:=List.mem_map.1 hv
  rfl
def nA(x:El t47)(j:Nat):List UInt8:=(((cv x).take j).map fun t=>cj (je t)).flatten
theorem yz{x:El t47}{j:Nat}{y:El t95}(hy:(cv x)[j]? =some y):nA x (j+1)=nA x j++cj (je y):=by
 obtain⟨h1,h2⟩:=List.getElem?_eq_some_iff.1 hy
 unfold nA
 rw [List.take_succ_eq_append_getElem h1,h2]
 simp
def ID(w:World)(R o:Nat)(y:El t91):Prop:=R<w.heap.size∧∀(k:Nat)(v:Value),(ah t91 y)[k]? =some v→w.cell? ⟨R,o+k,none⟩=some v
theorem ID.below{w w':World}{R o:Nat}{y:El t91}(h:ID w R o y)(hb:Below w.heap.size w w'):ID w' R o y:=
 ⟨Nat.lt_of_lt_of_le h.1 hb.size,fun k v hv=>(hb.cell (p:=⟨R,o+k,none⟩) h.1).trans (h.2 k v hv)⟩
theorem WU(y:El t95)(h:Ax (cR (Dj y))):∀v∈ah t95 y,v.oneCell'=true:=by
 rw [GA y h]
 intro v hv
 rcases List.mem_cons.1 hv with rfl|hv
 ·rfl
 rcases List.mem_cons.1 hv with rfl|hv
 ·rfl
 rcases List.mem_cons.1 hv with rfl|hv
 ·rfl
 rcases List.mem_cons.1 hv with rfl|hv
 ·rfl
 rcases List.mem_cons.1 hv with rfl|hv
 ·rfl
 rcases List.mem_cons.1 hv with rfl|hv
 ·rfl
 obtain⟨q,_,rfl⟩:=List.mem_map.1 hv
 rfl
theorem ni{u:Nat}(h:u<18446744073709551616):(Lib.decDigits u).length≤20:=by
 by_cases h0:1≤u
 ·rw [Lib.decDigits_length]
  have:=Lib.numDigits_eq u h0 h
  split at this<;>omega
 ·obtain rfl:u=0:=by omega
  rw [Lib.decDigits,dif_pos (by decide)]
  decide
theorem AE{y:El t95}(h:(rF y).length≤20)(hv:(Aw (bh y)).length≤64)(hs:ep y≤1000000000000):∀z∈je y,z.length≤64:=fun z hz=>by
 rcases List.mem_cons.1 hz with rfl|hz
 ·decide
 rcases List.mem_cons.1 hz with rfl|hz
 ·omega
 rcases List.mem_cons.1 hz with rfl|hz
 ·exact hv
 rcases List.mem_cons.1 hz with rfl|hz
 ·have:=ni (u:=(ep y).toNat) (by omega)
  omega
 rw [List.mem_singleton.1 hz,jf]
 exact Nat.le_refl _
theorem GC{x:El t47}(h:∀y∈cv x,∀z∈je y,z.length≤64):∀j,(nA x j).length≤j*400
 |0=>by simp [nA]
 |j+1=>by
  have ih:=GC h j
  by_cases hj:j<(cv x).length
  ·have hy:(cv x)[j]? =some _:=List.getElem?_eq_getElem hj
   rw [yz hy,List.length_append]
   have:=join_le (h _ (List.mem_of_getElem? hy))
   have e:(je (cv x)[j]).length=5:=rfl
   unfold cj
   rw [List.length_append]
   rw [e]at this
   simp
   omega
  ·have:nA x (j+1)=nA x j:=by
    unfold nA
    rw [List.take_of_length_le (by omega),List.take_of_length_le (by omega)]
   rw [this]
   omega
set_option maxHeartbeats 8000000 in
theorem text(x:El t47)(hf:Fits x)(h15:∀w v',cQ w t47 x v'→Calls Tryz.prog 15 #[v'] w fun e w'=>e= .returned (.int .i64 0)∧Below w.heap.size w w')(h6:∀y∈cv x,(Aw (bh y)).length≤64∧∀w,cZ w→Calls Tryz.prog 6 #[.agg #[.int .u8 (vK (bh y)),.int .i64 (vM (bh y)),.int .u64 (vB (bh y)),.string ⟨⟨vT (bh y)⟩⟩]] w fun e w'=>e= .returned (.tuple #[.string ⟨(Aw (bh y)).toArray⟩,.int .i64 0])∧Below w.heap.size w w')
    (w:World) (hv:cZ w) (v':Value) (hl:cQ w t47 x v'):
    Calls Tryz.prog 14 #[v'] w fun e w'=>e= .returned (.tuple #[.string ⟨(eX x).toArray⟩,.int .i64 0])∧Below w.heap.size w w':=by
  have mixed:=mix
  have hmf:∀(fn:Fn)(first cap:Array Value)(w:World),(Instr.makeFunc fn first cap).run Tryz.prog w= .ok (.func fn first cap) w:=fun _ _ _ _=>rfl
  have hl1:=jd hl ((Below.refl _ w).alloc (Nat.le_refl _) (.cells v'.cells 47))
  obtain⟨tv,rv,hdv,rfl,ht,hr,hh⟩:=nf hl
  obtain⟨ot,ct,rfl,htt⟩:=cx rfl ht
  obtain⟨or',cr,rfl,hrr⟩:=cx rfl hr
  have HT:=Lib.hid htt
  have HR:=Lib.hid hrr
  obtain⟨nt,hnt⟩:∃nt,nt=(cK x).length:=⟨_,rfl⟩
  obtain⟨nr,hnr⟩:∃nr,nr=(cv x).length:=⟨_,rfl⟩
  rw [←hnt,←hnr]at hl1 ⊢
  have hntL:=hf.Q3
  have hnrL:=hf.Q4
  rw [←hnt]at hntL HT
  rw [←hnr]at hnrL HR
  have HNT:=Lib.hid hnt
  have HNR:=Lib.hid hnr
  clear htt hrr ht hr hnt hnr
  have hv0:=hf.P5
  have hv1:=hf.IC
  obtain⟨dQ,hver⟩:∃n:Nat,gy x=(n:Int):=⟨(gy x).toNat,by omega⟩
  rw [hver]at hl1 ⊢
  have h15:=h15 _ _ hl1
  have n42:=fun w1 (h1:cZ w1)=>Fu.LJ dQ (by omega) w1 h1
  have hdl:(Lib.decDigits dQ).length≤20:=ni (by omega)
  clear hl hv0 hv1
  go_enter Tryz.func14,Tryz.ntmps14
  go_wp2_with (go_at_call 15;refine h15.mono ?_)
  rintro e w1 ⟨rfl,hb1⟩
  have g1:w1.heap[w.heap.size]? =some (.cells #[.int .i64 dQ,.slice ot nt ct,.slice or' nr cr,hdv] 47 (0,0)):=(hb1.block _ (by simp)).trans (Tx.aw _ _)
  have hb1:=((Below.refl _ w).alloc (Nat.le_refl _) (.cells #[.int .i64 dQ,.slice ot nt ct,.slice or' nr cr,hdv] 47)).trans (hb1.mono (by simp))
  obtain⟨⟨a0,a1,a2,a3⟩,_,_,_,_⟩:=cV g1
  have hlt1:=bU g1
  go_wp2_with (go_at_call 42;refine(n42 _ (hv.below (hb1.alloc hb1.size _))).mono ?_)
  rintro e w2 ⟨rfl,hb2⟩
  have gB:w2.heap[w1.heap.size]? =some (.cells #[.pointer none,.slice none 0 0] 84 (0,0)):=(hb2.block _ (by simp)).trans (Tx.aw _ _)
  have g2:=(hb2.block w.heap.size (by simp;omega)).trans ((Below.heap_alloc _ _ _ hlt1).trans g1)
  have hs2:w1.heap.size≤w2.heap.size:=Nat.le_of_lt (bU gB)
  have hb2:=(hb1.alloc hb1.size (.cells #[.pointer none,.slice none 0 0] 84)).trans (hb2.mono (by simp;omega))
  obtain⟨D,hD⟩:∃D,D=Lib.decDigits dQ:=⟨_,rfl⟩
  rw [←hD]at hdl
  have hDt:=Lib.hid hD
  rw [←hD]
  clear hD n42
  have kB:Lib.IsBuilder 84 5 w1.heap.size w1.heap.size [] (w2.alloc (.cells #[.string ⟨#[118,101,114,115,105,111,110]⟩,.string ⟨D.toArray⟩] 9)):= .inl ⟨Nat.le_refl _,.slice none 0 0,(Below.heap_alloc _ _ _ (bU gB)).trans gB,⟨rfl,.inl ⟨rfl,rfl⟩⟩,by simp [Value.ownBlock]⟩
  have hj:Calls Tryz.prog 41 #[.slice (some ⟨w2.heap.size,0,none⟩) 2 2,.string ⟨#[32]⟩] (w2.alloc (.cells #[.string ⟨#[118,101,114,115,105,111,110]⟩,.string ⟨D.toArray⟩] 9)) _:=
    Jn.join w2.heap.size 0 2 [bt,D] (w2.alloc (.cells #[.string ⟨#[118,101,114,115,105,111,110]⟩,.string ⟨D.toArray⟩] 9)) (by show 2≤2;omega) (by show 2≤1000;omega) (fun z hz=>by
      rcases List.mem_cons.1 hz with rfl|hz
      · decide
      · rw [List.mem_singleton.1 hz];omega) (by show 2≤2;omega) (by simp) (fun j hj=>by
      match j,hj with
      |0,_=>exact(Lib.cell_of_heap (Tx.aw _ _) 0).trans rfl
      |1,_=>exact(Lib.cell_of_heap (Tx.aw _ _) 1).trans rfl)
  have hb3:=hb2.alloc hb2.size (.cells #[.string ⟨#[118,101,114,115,105,111,110]⟩,.string ⟨D.toArray⟩] 9)
  have g3:=(Below.heap_alloc w2 (.cells #[.string ⟨#[118,101,114,115,105,111,110]⟩,.string ⟨D.toArray⟩] 9) _ (bU g2)).trans g2
  have hJl:(⟨(Jn.cd [bt,D]).toArray⟩:ByteArray).size≤1000000:=by
    show(Jn.cd [bt,D]).length≤_
    simp [Jn.cd,bt]
    omega
  go_wp2_with (go_at_call 39;refine(line _ _ hJl w1.heap.size w1.heap.size [] (by decide) _ hj kB (by simp;omega)).mono ?_)
  rintro e w3 ⟨rfl,k3,b3⟩
  have g4:=(b3.block w.heap.size hlt1).trans g3
  have hs3:w1.heap.size≤w3.heap.size:=Nat.le_trans hs2 (by have:=b3.size;simp at this;omega)
  have hb4:=hb3.trans (b3.mono hb1.size)
  have k3:Lib.BuilderAt 84 5 w1.heap.size w1.heap.size (.pointer (some ⟨w1.heap.size,0,none⟩)) (Lib.byteCells (cj [bt,D])) w3:=by
    have e: []++Lib.strCells (⟨(Jn.cd [bt,D]).toArray⟩++⟨#[10]⟩)=Lib.byteCells (cj [bt,D]):=by simp [Lib.strCells,Lib.byteCells,cj]
    rw [←e];exact k3
  clear a0 a1 a2 a3 g1 g2 g3 gB kB hj hb3 b3 hb2 hs2
  obtain⟨⟨c0,c1,c2,c3⟩,_,_,_,_⟩:=cV g4
  have hlt3:=bU g4
  obtain⟨oh,ch,rfl,hho⟩:=cx rfl hh
  obtain⟨n,hn⟩:∃n,n=(cf x).length:=⟨_,rfl⟩
  have hnL:=hf.EG
  rw [←hn]at hnL
  rw [←hn]at g4
  rw [←hn]at hho
  have hle:(cf x).length=n:=hn.symm
  rw [hle]
  have HH:=Lib.hid hho
  have HN:=Lib.hid hn
  clear hho hh hle
  go_wp2
  go_loopw [7,32] (fun v7 v32 wr=>∃i:Nat,v32= .int .i64 i∧i≤n∧wr.ownsRow w1.heap.size 9 1 v7 (i+1) (strs (kq x i))∧Lib.BuilderAt 84 5 w1.heap.size w1.heap.size (.pointer (some ⟨w1.heap.size,0,none⟩)) (Lib.byteCells (cj [bt,D])) wr∧wr.heap[w.heap.size]? =some (.cells #[.int .i64 dQ,.slice ot nt ct,.slice or' nr cr,.slice oh n ch] 47 (0,0))∧Below w.heap.size w wr∧w1.heap.size≤wr.heap.size) (fun _ v32 _=>n-(intOf v32).toNat)
  case atStart=>
    refine⟨0,rfl,Nat.zero_le _,⟨rfl,.inr ⟨w3.heap.size,1,#[.string ⟨#[104,101,97,100,115]⟩],rfl,hs3,Tx.aw _ _,Nat.le_refl _,by decide,rfl,rfl⟩⟩,qh k3 ((Below.refl _ _).alloc (Nat.le_refl _) _),(Below.heap_alloc _ _ _ hlt3).trans g4,hb4.alloc hb4.size _,by simp;omega⟩
  case round=>
    obtain⟨i,rfl,hi,ho,kb,gs,hbw,hsw⟩:=hrel
    by_cases hlt:i<n
    · obtain⟨hcn,b,o,rfl,hR⟩:=HH.out (by omega)
      have hR:=hR.below hbw
      obtain⟨y,hy⟩:∃y,(cf x)[i]? =some y:=⟨_,List.getElem?_eq_getElem (by rw [←HN.out];exact hlt)⟩
      have hyB:=hf.cy y (List.mem_of_getElem? hy)
      have hload:∀(j:Nat)(v:Value),(ah t91 y)[j]? =some v→wr.cell? ((⟨b,o+i*32,none⟩:Addr).add j)=some v:=fun j v h=>by
        rw [Lib.add_plain]
        exact hR.2 i y hy j v h
      have hone:∀v∈ah t91 y,v.oneCell'=true:=by
        rw [ng y hyB]
        intro v hv
        obtain⟨q,_,rfl⟩:=List.mem_map.1 hv
        rfl
      go_wp2_with (first|(refine Bg.load 91 32 Bg.t91 rfl _ rfl ⟨b,o+i*32,none⟩ rfl (ah t91 y) (sR y) ?lc ?_;(case lc=>exact hload))|(refine Bg.qg 91 32 Bg.t91 rfl _ _ rfl ?s5 ?s6 (ah t91 y) ?s8 (sR y) hone ?s15;(case s5=>rfl);(case s6=>rfl);(case s8=>rfl)))
      refine(wm y hyB wr.heap.size 0 32 _ (by simp) (fun j v h=>?_)).mono ?_
      · rw [Lib.cell_of_heap (Tx.aw _ _)]
        simpa using h
      rintro e w5 ⟨rfl,b5⟩
      have ho5:=aE (ho.alloc (.cells ⟨ah t91 y⟩ 91)) b5
      have kb5:=qh kb (((Below.refl _ wr).alloc (Nat.le_refl _) (.cells ⟨ah t91 y⟩ 91)).trans (b5.mono (by simp)))
      have gs5:=(b5.block w.heap.size (by simp;omega)).trans ((Below.heap_alloc _ _ _ (bU gs)).trans gs)
      have bw5:=(hbw.alloc hbw.size (.cells ⟨ah t91 y⟩ 91)).trans (b5.mono (by simp;have:=hbw.size;omega))
      have sw5:w1.heap.size≤w5.heap.size:=Nat.le_trans hsw (by have:=b5.size;simp at this;omega)
      obtain⟨i0,hi0,hz0,hz1,hz2⟩:=info_parts An
      clear hload hone ho kb gs hbw hR b5
      go_wp2_with (at_builtin;refine wpList_append_own _ rfl _ _ 55 rfl w1.heap.size 9 i0 (.string ⟨#[]⟩) 1 16 Tryz.underlying55 hi0 hz0 hz1 hz2 rfl (by decide) _ _ _ rfl (ho5.alloc _) ⟨w5.heap.size,0,none⟩ 1 1 [.string ⟨(fL y).toArray⟩] rfl rfl ?c1 ?c2 ?c3 ?c4 ?c5 ?_)
      case c1=>
        intro j u hj
        match j,hj with
        |0,hj=>simp at hj;subst hj;exact(Lib.cell_of_heap (Tx.aw _ _) 0).trans rfl
      case c2=>intro u hu;simp at hu;subst hu;rfl
      case c3=>unfold maxLen;omega
      case c4=>omega
      case c5=>simp;omega
      intro v' w6 hown' hgrow _
      obtain⟨g',cap',rfl⟩:=ownsRow_succ hown'
      have hown6:w6.ownsRow w1.heap.size 9 1 (.slice (some ⟨g',0,none⟩) (i+1+1) cap') (i+1+1) (strs (kq x (i+1))):=by rw [←EH hy];exact hown'
      have ho5':=ho5.alloc (.cells #[.string ⟨(fL y).toArray⟩] 9)
      have kb6:=WR (qh kb5 ((Below.refl _ w5).alloc (Nat.le_refl _) (.cells #[.string ⟨(fL y).toArray⟩] 9))) hgrow (T:=9) (fun g hg=>(da ho5' g hg).2) (by decide) (by decide)
      have gs6:=(hgrow.block w.heap.size (by simp;omega) (fun e=>by have:=(da ho5' _ e.symm).1;omega)).trans ((Below.heap_alloc _ _ _ (bU gs5)).trans gs5)
      have bw6:=(bw5.alloc bw5.size (.cells #[.string ⟨(fL y).toArray⟩] 9)).grown hgrow (by simp;omega) (fun k e=>by have:=(da ho5' _ e).1;omega)
      have sw6:w1.heap.size≤w6.heap.size:=Nat.le_trans sw5 (by have:=hgrow.size;simp at this;omega)
      clear hown' hgrow ho5 ho5' kb5 gs5 bw5 sw5
      go_wp2
      exact⟨⟨i+1,by go_num,by omega,hown6,kb6,gs6,bw6,sw6⟩,by simp [intOf];omega⟩
    · obtain rfl:i=n:=by omega
      obtain⟨T1,hT1⟩:∃T1,T1=cj [bt,D]:=⟨_,rfl⟩
      have hT1l:T1.length≤100:=by
        rw [hT1]
        simp [cj,Jn.cd,bt]
        omega
      rw [←hT1]at kb
      have hK:ku w w1.heap.size _ T1 wr:=⟨kb,gs,hbw,hsw⟩
      have hjo:=P8 ho (rG (by rw [←HN.out];exact Nat.le_refl _)) (by omega) (fun z hz=>Nat.le_trans (wo z hz) (by decide))
      have hJl:(Jn.cd (kq x i)).length≤1000000:=by
        have:=join_le (wo (x:=x) (i:=i))
        rw [rG (by rw [←HN.out];exact Nat.le_refl _)]at this
        omega
      have hline:=hK.line hlt1 (by omega) u7 (kq x i) hJl hjo
      clear kb gs hbw hsw hK hjo ho
      go_wp2_with (go_at_call 39;refine hline.mono ?_)
      rintro e w4 ⟨rfl,K4⟩
      obtain⟨T2,hT2⟩:∃T2,T2=T1++cj (kq x i):=⟨_,rfl⟩
      have hT2l:T2.length≤10000:=by
        have:=join_le (wo (x:=x) (i:=i))
        rw [rG (by rw [←HN.out];exact Nat.le_refl _)]at this
        rw [hT2,List.length_append]
        unfold cj
        rw [List.length_append]
        simp
        omega
      rw [←hT2]at K4
      have HT2:=Lib.hid hT2
      clear hT2 hline hJl
      obtain⟨⟨c0,c1,c2,c3⟩,_,_,_,_⟩:=cV K4.2.1
      go_wp2
      go_loopw [49] (fun v49 wr=>∃j:Nat,v49= .int .i64 j∧j≤nt∧ku w w1.heap.size (.cells #[.int .i64 dQ,.slice ot nt ct,.slice or' nr cr,.slice oh i ch] 47) (T2++rH x j) wr) (fun v49 _=>nt-(intOf v49).toNat)
      case atStart=>exact⟨0,rfl,Nat.zero_le _,by simpa [rH]using K4⟩
      case round=>
        obtain⟨j,rfl,hj,K5⟩:=hrel
        by_cases hlt:j<nt
        · obtain⟨hcn,b,o,rfl,hR⟩:=HT.out (by omega)
          have hR:=hR.below K5.2.2.1
          obtain⟨y,hy⟩:∃y,(cK x)[j]? =some y:=⟨_,List.getElem?_eq_getElem (by rw [←HNT.out];exact hlt)⟩
          obtain⟨hyk,hyB⟩:=hf.tags y (List.mem_of_getElem? hy)
          have hload:∀(k:Nat)(v:Value),(ah t93 y)[k]? =some v→wr.cell? ((⟨b,o+j*33,none⟩:Addr).add k)=some v:=fun k v h=>by
            rw [Lib.add_plain]
            exact hR.2 j y hy k v h
          have hone:=WT y hyB
          have hTl:=AD hf.tags j
          have KA:=(K5.alloc (.cells ⟨ah t93 y⟩ 93)).drew
          have hkey:(wr.alloc (.cells ⟨ah t93 y⟩ 93)).drew.cell? ⟨wr.heap.size,0,none⟩=some (.string ⟨⟨rE y⟩⟩):=by
            rw [World.cell?_drew,Lib.cell_of_heap (Tx.aw _ _),Ay y hyB]
            rfl
          have hids:∀(k:Nat)(v:Value),(ah t91 (Gy y))[k]? =some v→(wr.alloc (.cells ⟨ah t93 y⟩ 93)).drew.cell? ⟨wr.heap.size,1+k,none⟩=some v:=fun k v h=>by
            rw [World.cell?_drew,Lib.cell_of_heap (Tx.aw _ _),Ay y hyB,←ng _ hyB]
            rw [Nat.add_comm]
            simpa using h
          have h21:=wm (Gy y) hyB wr.heap.size 1 32 (wr.alloc (.cells ⟨ah t93 y⟩ 93)).drew (by simp) hids
          go_wp2_with (first|(refine Bg.load 93 33 Bg.t93 rfl _ rfl ⟨b,o+j*33,none⟩ rfl (ah t93 y) (sS y) ?ld ?_;(case ld=>exact hload))|(refine Bg.qg 93 33 Bg.t93 rfl _ _ rfl ?t5 ?t6 (ah t93 y) ?t8 (sS y) hone ?t15;(case t5=>rfl);(case t6=>rfl);(case t8=>rfl)))
          go_region_with (first
            |(go_at_call 21;refine h21.mono ?_;rintro e w5 ⟨rfl,b5⟩;have K5':=KA.below b5;have key5:=(b5.cell (p:=⟨wr.heap.size,0,none⟩) (by simp)).trans hkey)
            |(go_at_call 39;refine(K5'.laid hlt1 (by rw [List.length_append];omega) (jP y) 3 rfl (by decide) (by decide) (AB hyk) _ rfl).mono ?_;rintro e w6 ⟨rfl,K6⟩))
          all_goals
            rw [List.append_assoc,←yy hy]at K6
            go_wp2
            exact⟨⟨j+1,by go_num,by omega,K6⟩,by simp [intOf];omega⟩
        · obtain rfl:j=nt:=by omega
          obtain⟨T3,hT3⟩:∃T3,T3=T2++rH x j:=⟨_,rfl⟩
          have hT3l:T3.length≤30000:=by
            have:=AD hf.tags j
            rw [hT3,List.length_append]
            omega
          rw [←hT3]at K5
          have HT3:=Lib.hid hT3
          clear hT3
          obtain⟨⟨c0,c1,c2,c3⟩,_,_,_,_⟩:=cV K5.2.1
          go_wp2
          go_loopw [66] (fun v66 wr=>∃q:Nat,v66= .int .i64 q∧q≤nr∧ku w w1.heap.size (.cells #[.int .i64 dQ,.slice ot j ct,.slice or' nr cr,.slice oh i ch] 47) (T3++nA x q) wr) (fun v66 _=>nr-(intOf v66).toNat)
          case atStart=>exact⟨0,rfl,Nat.zero_le _,by simpa [nA]using K5⟩
          case round=>
            obtain⟨q,rfl,hq,K6⟩:=hrel
            by_cases hlt:q<nr
            · obtain⟨hcn,b,o,rfl,hR⟩:=HR.out (by omega)
              have hR:=hR.below K6.2.2.1
              obtain⟨y,hy⟩:∃y,(cv x)[q]? =some y:=⟨_,List.getElem?_eq_getElem (by rw [←HNR.out];exact hlt)⟩
              obtain⟨hyk,hyB,hy0,hy1,_⟩:=hf.cT y (List.mem_of_getElem? hy)
              obtain⟨hvl,h6y⟩:=h6 y (List.mem_of_getElem? hy)
              have hload:∀(k:Nat)(v:Value),(ah t95 y)[k]? =some v→wr.cell? ((⟨b,o+q*38,none⟩:Addr).add k)=some v:=fun k v h=>by
                rw [Lib.add_plain]
                exact hR.2 q y hy k v h
              have hone:=WU y hyB
              have hTl:(T3++nA x q).length≤1000000:=by
                have:=GC (x:=x) (fun y hy z hz=>AE (hf.cT y hy).1 (h6 y hy).1 (hf.cT y hy).2.2.2.1 z hz) q
                rw [List.length_append]
                omega
              obtain⟨W,hW⟩:∃W,W=wr.alloc (.cells ⟨ah t95 y⟩ 95):=⟨_,rfl⟩
              have KW:ku w w1.heap.size (.cells #[.int .i64 dQ,.slice ot j ct,.slice (some ⟨b,o,none⟩) nr cr,.slice oh i ch] 47) (T3++nA x q) W:=by rw [hW];exact K6.alloc _
              have hcell:∀(k:Nat),W.cell? ⟨wr.heap.size,k,none⟩=(ah t95 y)[k]? :=fun k=>by
                rw [hW,Lib.cell_of_heap (Tx.aw _ _)]
                simp
              rw [GA y hyB]at hcell
              have e0:W.cell? ⟨wr.heap.size,0,none⟩=some (.string ⟨⟨rF y⟩⟩):=hcell 0
              have e1:W.cell? ⟨wr.heap.size,1,none⟩=some (.int .u8 (vK (bh y))):=hcell 1
              have e2:W.cell? ⟨wr.heap.size,2,none⟩=some (.int .i64 (vM (bh y))):=hcell 2
              have e3:W.cell? ⟨wr.heap.size,3,none⟩=some (.int .u64 (vB (bh y))):=hcell 3
              have e4:W.cell? ⟨wr.heap.size,4,none⟩=some (.string ⟨⟨vT (bh y)⟩⟩):=hcell 4
              have e5:W.cell? ⟨wr.heap.size,5,none⟩=some (.int .u64 (ep y)):=hcell 5
              have e6:ID W wr.heap.size 6 (Dj y):=⟨by rw [hW];simp,fun k v h=>by
                rw [hcell,Nat.add_comm]
                rw [ng _ hyB]at h
                simpa using h⟩
              have h6W:=h6y W (hv.below KW.2.2.1)
              have hlt6:=e6.1
              clear hcell K6
              rw [hW]at e1 e2 e3 e4 h6W
              go_wp2_with (first|(refine Bg.load 95 38 Bg.t95 rfl _ rfl ⟨b,o+q*38,none⟩ rfl (ah t95 y) (sU y) ?le ?_;(case le=>exact hload))|(refine Bg.qg 95 38 Bg.t95 rfl _ _ rfl ?u5 ?u6 (ah t95 y) ?u8 (sU y) hone ?u15;(case u5=>rfl);(case u6=>rfl);(case u8=>rfl))|(go_at_call 6;refine h6W.mono ?_))
              rw [←hW]
              rintro e w5 ⟨rfl,b5⟩
              have key0:w5.drew.cell? ⟨wr.heap.size,0,none⟩=some (.string ⟨⟨rF y⟩⟩):=by rw [World.cell?_drew];exact(b5.cell (p:=⟨wr.heap.size,0,none⟩) hlt6).trans e0
              have I2:w5.drew.cell? ⟨wr.heap.size,5,none⟩=some (.int .u64 (ep y)):=by rw [World.cell?_drew];exact(b5.cell (p:=⟨wr.heap.size,5,none⟩) hlt6).trans e5
              have id0:ID w5.drew wr.heap.size 6 (Dj y):=e6.below b5.drew
              have K0:=(KW.below b5).drew
              obtain⟨su,hsu⟩:∃su:Nat,ep y=(su:Int):=⟨(ep y).toNat,by omega⟩
              have hDs:Lib.decDigits (ep y).toNat=Lib.decDigits su:=by rw [hsu];rfl
              have h43:=fun w1 (h1:cZ w1)=>Fu.LK su (by omega) w1 h1
              have h21:=fun w1 (h1:ID w1 wr.heap.size 6 (Dj y))=>wm (Dj y) hyB wr.heap.size 6 32 w1 h1.1 h1.2
              rw [hsu]at I2
              have hrl:=AE hyk hvl hy1
              have hrw:strs (je y)=[.string ⟨#[114,101,103]⟩,.string ⟨⟨rF y⟩⟩,.string ⟨(Aw (bh y)).toArray⟩,.string ⟨(Lib.decDigits su).toArray⟩,.string ⟨(fL (Dj y)).toArray⟩]:=by
                unfold je
                rw [hDs]
                rfl
              clear e0 e1 e2 e3 e4 e5 e6 hlt6 h6W KW hload hone hR b5 hDs hsu h6y
              go_wp2
              go_region_with (first
                |(go_at_call 43;refine(h43 _ ?_).mono ?_;(first|exact hv.below K0.2.2.1|exact hv.below Kb.2.2.1);rintro e wa ⟨rfl,ba⟩;
                   first
                   |(have Ka:=K0.below ba;have keya:=(ba.cell (p:=⟨wr.heap.size,0,none⟩) id0.1).trans key0;have sta:=(ba.cell (p:=⟨wr.heap.size,5,none⟩) id0.1).trans I2;have ida:=id0.below ba)
                   |(have Ka:=Kb.below ba;have keya:=(ba.cell (p:=⟨wr.heap.size,0,none⟩) idb.1).trans keyb;have sta:=(ba.cell (p:=⟨wr.heap.size,5,none⟩) idb.1).trans stb;have ida:=idb.below ba))
                |(go_at_call 21;refine(h21 _ ?_).mono ?_;(first|exact id0|exact ida);rintro e wb ⟨rfl,bb⟩;
                   first
                   |(have Kb:=K0.below bb;have keyb:=(bb.cell (p:=⟨wr.heap.size,0,none⟩) id0.1).trans key0;have stb:=(bb.cell (p:=⟨wr.heap.size,5,none⟩) id0.1).trans I2;have idb:=id0.below bb)
                   |(have Kb:=Ka.below bb;have keyb:=(bb.cell (p:=⟨wr.heap.size,0,none⟩) ida.1).trans keya;have stb:=(bb.cell (p:=⟨wr.heap.size,5,none⟩) ida.1).trans sta;have idb:=ida.below bb))
                |(go_at_call 39;refine(ku.laid (w:=w) (box:= .cells #[.int .i64 dQ,.slice ot j ct,.slice (some ⟨b,o,none⟩) nr cr,.slice oh i ch] 47) (T:=T3++nA x q) ?_ hlt1 hTl (je y) 5 rfl (by decide) (by decide) hrl _ ?_).mono ?_;(first|exact Ka|exact Kb);(rw [hrw]);rintro e w6 ⟨rfl,K7⟩))
              all_goals
                rw [List.append_assoc,←yz hy]at K7
                go_wp2
                exact⟨⟨q+1,by go_num,by omega,K7⟩,by simp [intOf];omega⟩
            · obtain rfl:q=nr:=by omega
              have hfin:T3++nA x q=eX x:=by
                have e1:rH x j=((cK x).map fun t=>cj (jP t)).flatten:=by
                  unfold rH
                  rw [List.take_of_length_le (by rw [←HNT.out];exact Nat.le_refl _)]
                have e2:nA x q=((cv x).map fun t=>cj (je t)).flatten:=by
                  unfold nA
                  rw [List.take_of_length_le (by rw [←HNR.out];exact Nat.le_refl _)]
                have e3:kq x i=di::(cf x).map fL:=by
                  unfold kq
                  rw [List.take_of_length_le (by rw [←HN.out];exact Nat.le_refl _)]
                rw [HT3.out,HT2.out,hT1,hDt.out,e1,e2,e3]
                unfold eX nO
                rw [show(gy x).toNat=dQ by rw [hver];rfl]
                simp [List.map_map,Function.comp_def]
              rw [hfin]at K6
              go_wp2_with (go_at_call 44;refine(Tryz.Builder_String_any w1.heap.size w1.heap.size (eX x) wr (.inr K6.1) K6.2.2.2).mono ?_)
              rintro e w7 ⟨rfl,b7⟩
              have b8:=K6.2.2.1.trans (b7.mono (Nat.le_of_lt hlt1))
              go_wp2
              go_ret2
              exact⟨rfl,b8⟩
end Te
end
section
open Go Go.az Go.RowKit
namespace Rp
open Rb
def xs:List Value:=[str [92,92],str [92],str [92,115],str [32]]
def tab:List Value:=(List.range 256).map fun b=> .int .u8 (if b=92 then 0 else if b=115 then 1 else 2)
def gen:List Value:=[str [],.int .i64 0,str [],.pointer none,.slice (some ⟨3,0,none⟩) 2 2,.int .i64 2]++tab
def sF:aD:=
 ⟨(((((((Tr.leaf.set 0 (.cells [.int .u32 0,.int .i32 1,.int .u32 0,.iface 184 (.pointer (some ⟨2,0,none⟩)),.slice none 0 0] none 0 false false)).set 1 (.cells xs (some 1) 1 false false)).set 2 (.cells gen none 2 false false)).set 3 (.cells [.pointer (some ⟨4,0,none⟩),.pointer none] none 3 false false)).set 4
  (.cells [str [],.int .i64 0,str [],.pointer none,.slice (some ⟨7,0,none⟩) 2 2] none 4 false false)).set 5 (.cells [str [92],.int .i64 4,str [],.pointer none,.slice none 0 0] none 5 false false)).set 6 (.cells [str [32],.int .i64 2,str [],.pointer none,.slice none 0 0] none 6 false false)).set 7
  (.cells [.pointer (some ⟨5,0,none⟩),.pointer (some ⟨6,0,none⟩)] none 7 false false),8,0,2⟩
set_option maxHeartbeats 4000000 in
theorem run:nD Tb.T 300 12 62 [.pointer (some ⟨0,0,none⟩)] (I2 xs)=some (.tuple ⟨[]⟩,sF):=by kernel_rfl
theorem o0:sF.obj 0=some (.cells [.int .u32 0,.int .i32 1,.int .u32 0,.iface 184 (.pointer (some ⟨2,0,none⟩)),.slice none 0 0] none 0 false false):=by kernel_rfl
theorem o2:sF.obj 2=some (.cells gen none 2 false false):=by kernel_rfl
theorem o3:sF.obj 3=some (.cells [.pointer (some ⟨4,0,none⟩),.pointer none] none 3 false false):=by kernel_rfl
theorem o4:sF.obj 4=some (.cells [str [],.int .i64 0,str [],.pointer none,.slice (some ⟨7,0,none⟩) 2 2] none 4 false false):=by kernel_rfl
theorem o5:sF.obj 5=some (.cells [str [92],.int .i64 4,str [],.pointer none,.slice none 0 0] none 5 false false):=by kernel_rfl
theorem o6:sF.obj 6=some (.cells [str [32],.int .i64 2,str [],.pointer none,.slice none 0 0] none 6 false false):=by kernel_rfl
theorem o7:sF.obj 7=some (.cells [.pointer (some ⟨5,0,none⟩),.pointer (some ⟨6,0,none⟩)] none 7 false false):=by kernel_rfl
structure Node(w:World)(a:Addr)(val:List UInt8)(prio:Int)(tab:Value):Prop where
 v:w.cell? ⟨a.block,a.off,none⟩=some (str val)
 p:w.cell? ⟨a.block,a.off+1,none⟩=some (.int .i64 prio)
 f:w.cell? ⟨a.block,a.off+2,none⟩=some (str [])
 n:w.cell? ⟨a.block,a.off+3,none⟩=some (.pointer none)
 t:w.cell? ⟨a.block,a.off+4,none⟩=some tab
structure lE where
 (g t a u b c:Addr)
 (ct cu:Nat)
structure Body(w:World)(S:lE):Prop where
 root:Node w S.g [] 0 (.slice (some ⟨S.t.block,S.t.off,none⟩) 2 S.ct)
 size:w.cell? ⟨S.g.block,S.g.off+5,none⟩=some (.int .i64 2)
 map:∀b,b<256→w.cell? ⟨S.g.block,S.g.off+6+b,none⟩=some (.int .u8 (if b=92 then 0 else if b=115 then 1 else 2))
 t0:w.cell? ⟨S.t.block,S.t.off,none⟩=some (.pointer (some ⟨S.a.block,S.a.off,none⟩))
 t1:w.cell? ⟨S.t.block,S.t.off+1,none⟩=some (.pointer none)
 a:Node w S.a [] 0 (.slice (some ⟨S.u.block,S.u.off,none⟩) 2 S.cu)
 u0:w.cell? ⟨S.u.block,S.u.off,none⟩=some (.pointer (some ⟨S.b.block,S.b.off,none⟩))
 u1:w.cell? ⟨S.u.block,S.u.off+1,none⟩=some (.pointer (some ⟨S.c.block,S.c.off,none⟩))
 b:Node w S.b [92] 4 (.slice none 0 0)
 c:Node w S.c [32] 2 (.slice none 0 0)
def lE.all(S:lE)(f:Nat→Prop):Prop:=f S.g.block∧f S.t.block∧f S.a.block∧f S.u.block∧f S.b.block∧f S.c.block
theorem Node.kF{w w':World}{a:Addr}{val:List UInt8}{prio:Int}{tab:Value}(h:Node w a val prio tab)(hk:∀o,w'.cell? ⟨a.block,o,none⟩=w.cell? ⟨a.block,o,none⟩):Node w' a val prio tab:=
 ⟨(hk _).trans h.v,(hk _).trans h.p,(hk _).trans h.f,(hk _).trans h.n,(hk _).trans h.t⟩
theorem Body.kF{w w':World}{S:lE}(h:Body w S)(hk:S.all fun b=>∀o,w'.cell? ⟨b,o,none⟩=w.cell? ⟨b,o,none⟩):Body w' S:=
 ⟨h.root.kF hk.1,(hk.1 _).trans h.size,fun b hb=>(hk.1 _).trans (h.map b hb),(hk.2.1 _).trans h.t0,(hk.2.1 _).trans h.t1,h.a.kF hk.2.2.1,(hk.2.2.2.1 _).trans h.u0,(hk.2.2.2.1 _).trans h.u1,h.b.kF hk.2.2.2.2.1,h.c.kF hk.2.2.2.2.2⟩
theorem tL{σ σ':aD}{π:aK}{δ D:Nat→Prop}{H:Nat→Option aN}{w:World}(hp:cC σ σ' π δ D H w){k:Nat}{c:List Value}{a:Addr}(h:σ.row k=some c)(ha:AR π D ⟨k,0,none⟩ a){val:List UInt8}{prio:Int}{tab:Value}
  (e0:c[0]? =some (str val)) (e1:c[1]? =some (.int .i64 prio)) (e2:c[2]? =some (str [])) (e3:c[3]? =some (.pointer none)) (e4:c[4]? =some tab):∃tab',VR π D tab tab'∧Node w a val prio tab':=by
 obtain⟨_,g0,h0⟩:=hp.cell h ha (j:=0) (by rw [Nat.zero_add];exact e0)
 obtain⟨_,g1,h1⟩:=hp.cell h ha (j:=1) (by rw [Nat.zero_add];exact e1)
 obtain⟨_,g2,h2⟩:=hp.cell h ha (j:=2) (by rw [Nat.zero_add];exact e2)
 obtain⟨_,g3,h3⟩:=hp.cell h ha (j:=3) (by rw [Nat.zero_add];exact e3)
 obtain⟨t4,g4,h4⟩:=hp.cell h ha (j:=4) (by rw [Nat.zero_add];exact e4)
 rw [h0.bn]at g0
 rw [h1.aZ]at g1
 rw [h2.bn]at g2
 rw [h3.lY]at g3
 exact⟨t4,h4,g0,g1,g2,g3,g4⟩
theorem EC(b:Nat)(h:b<256):gen[6+b]? =some (.int .u8 (if b=92 then 0 else if b=115 then 1 else 2)):=by
 unfold gen
 rw [List.getElem?_append_right (by simp)]
 show tab[6+b-6]? =_
 rw [Nat.add_sub_cancel_left]
 unfold tab
 rw [List.getElem?_map,List.getElem?_range h];rfl
theorem rI{a:Addr}(h:a.spot=none):a=⟨a.block,a.off,none⟩:=by
 obtain⟨b,o,s⟩:=a
 simp only at h
 subst h;rfl
theorem facts{w w1:World}{N M:Nat}(h:Made sF w N M w1):On.Lt N 0 w1∧∃S,w1.cell? ⟨N,3,none⟩=some (.iface 184 (.pointer (some ⟨S.g.block,S.g.off,none⟩)))∧Body w1 S∧S.all (fun b=>b≠N)∧S.all (fun b=>b<w1.heap.size):=by
 obtain⟨π,δ,D,H,hp,ha,_,_⟩:=h
 have q0:=fq o0
 obtain⟨v,g0,_⟩:=hp.cell q0 ha (j:=0) rfl
 obtain⟨v1,g1,h1⟩:=hp.cell q0 ha (j:=1) rfl
 obtain⟨v3,g3,h3⟩:=hp.cell q0 ha (j:=3) rfl
 rw [h1.aZ]at g1
 obtain⟨u3,rfl,h4⟩:=h3.gu
 obtain⟨g,rfl,hg0,hG⟩:=h4.vX
 have f0:=hp.free o0 ha (j:=0) (by decide)
 have f1:=hp.free o0 ha (j:=1) (by decide)
 refine⟨⟨⟨v,g0⟩,g1,f0,f1⟩,?_⟩
 have q2:=fq o2
 have q3:=fq o3
 have q4:=fq o4
 have q5:=fq o5
 have q6:=fq o6
 have q7:=fq o7
 obtain⟨tab1,r1,n1⟩:=tL hp q2 hG (val:=[]) (prio:=0) rfl rfl rfl rfl rfl
 obtain⟨t,ct,rfl,_,st,hT⟩:=r1.mE (by decide)
 obtain⟨_,e5,s5⟩:=hp.cell q2 hG (j:=5) (v:= .int .i64 2) rfl
 rw [s5.aZ]at e5
 obtain⟨_,m0,k0⟩:=hp.cell q3 hT (j:=0) rfl
 obtain⟨_,m1,k1⟩:=hp.cell q3 hT (j:=1) rfl
 obtain⟨a,rfl,sa,hA⟩:=k0.vX
 rw [k1.lY]at m1
 obtain⟨tab2,r2,n2⟩:=tL hp q4 hA (val:=[]) (prio:=0) rfl rfl rfl rfl rfl
 obtain⟨u,cu,rfl,_,su,hU⟩:=r2.mE (by decide)
 obtain⟨_,m2,k2⟩:=hp.cell q7 hU (j:=0) rfl
 obtain⟨_,m3,k3⟩:=hp.cell q7 hU (j:=1) rfl
 obtain⟨b,rfl,sb,hB⟩:=k2.vX
 obtain⟨c,rfl,sc,hC⟩:=k3.vX
 obtain⟨tab3,r3,n3⟩:=tL hp q5 hB (val:=[92]) (prio:=4) rfl rfl rfl rfl rfl
 obtain⟨tab4,r4,n4⟩:=tL hp q6 hC (val:=[32]) (prio:=2) rfl rfl rfl rfl rfl
 rw [r3.ju]at n3
 rw [r4.ju]at n4
 refine⟨⟨g,t,a,u,b,c,ct,cu⟩,by rw [←rI hg0];exact g3,⟨by rw [←rI st];exact n1,e5,fun x hx=>?_,by rw [←rI sa];exact m0,m1,by rw [←rI su];exact n2,by rw [←rI sb];exact m2,by rw [←rI sc];exact m3,n3,n4⟩,
  ⟨hp.apart o2 o0 (by decide) (by decide) hG ha,hp.apart o3 o0 (by decide) (by decide) hT ha,hp.apart o4 o0 (by decide) (by decide) hA ha,hp.apart o7 o0 (by decide) (by decide) hU ha,hp.apart o5 o0 (by decide) (by decide) hB ha,hp.apart o6 o0 (by decide) (by decide) hC ha⟩,
  ⟨hp.aB q2 hG,hp.aB q3 hT,hp.aB q4 hA,hp.aB q7 hU,hp.aB q5 hB,hp.aB q6 hC⟩⟩
 obtain⟨_,y1,y2⟩:=hp.cell q2 hG (j:=6+x) (by rw [Nat.zero_add];exact EC x hx)
 rw [y2.aZ]at y1
 show w1.cell? ⟨g.block,g.off+6+x,none⟩=_
 rw [Nat.add_assoc]
 exact y1
end Rp
end
section
open Go Go.az Go.RowKit
namespace Lk
open Rp Rb
theorem nil(S:lE)(w:World)(h:Body w S):
  Calls Tryz.prog 200 #[.pointer (some ⟨S.g.block,S.g.off,none⟩),.string ⟨#[]⟩,.bool false] w fun e w'=>e= .returned (.tuple #[.string ⟨#[]⟩,.int .i64 0,.bool false])∧Below w.heap.size w w':=by
 have mixed:=mix
 obtain⟨⟨c0,c1,c2,c3,c4⟩,c5,c6,c7,c8,⟨d0,d1,d2,d3,d4⟩,e0,e1,⟨x0,x1,x2,x3,x4⟩,⟨y0,y1,y2,y3,y4⟩⟩:=h
 obtain⟨⟨gb,go,gs⟩,⟨tb,t_o,ts⟩,⟨ab,ao,a_s⟩,⟨ub,uo,us⟩,⟨bb,bo,bs⟩,⟨cb,co,cs⟩,ct,cu⟩:=S
 dsimp only at*
 replace c0:w.cell? ⟨gb,go,none⟩=some (.string ⟨#[]⟩):=c0
 replace c2:w.cell? ⟨gb,go+2,none⟩=some (.string ⟨#[]⟩):=c2
 replace d0:w.cell? ⟨ab,ao,none⟩=some (.string ⟨#[]⟩):=d0
 replace d2:w.cell? ⟨ab,ao+2,none⟩=some (.string ⟨#[]⟩):=d2
 replace x0:w.cell? ⟨bb,bo,none⟩=some (.string ⟨#[92]⟩):=x0
 replace x2:w.cell? ⟨bb,bo+2,none⟩=some (.string ⟨#[]⟩):=x2
 replace y0:w.cell? ⟨cb,co,none⟩=some (.string ⟨#[32]⟩):=y0
 replace y2:w.cell? ⟨cb,co+2,none⟩=some (.string ⟨#[]⟩):=y2
 go_enter Tryz.func200,Tryz.ntmps200
 go_wp2
 refine wp_loop_rounds 1 ?_
 rw [rounds_succ]
 go_wp2
 exact bodyPost_ret (by simp [results,Tryz.results200,go_sem]) rfl ⟨rfl,Below.refl _ _⟩
theorem cS(t:ByteArray)(n:Nat)(h:t.size=n):t.toList.isEmpty=decide (n=0):=by
 subst h
 rw [←decide_eq_emptyBytes]
 apply decide_eq_decide.2
 constructor
 ·intro h;rw [h];rfl
 ·intro h
  apply ByteArray.ext
  exact Array.eq_empty_of_size_eq_zero h
theorem second(u:ByteArray)(hu:2≤u.size):(u.extract 1 u.size)[0]'(by simp;omega)=u[1]'(by omega):=by
 simp [ByteArray.getElem_extract]
set_option maxHeartbeats 4000000 in
theorem one(S:lE)(u:ByteArray)(hu:u.size=1)(w:World)(h:Body w S)(h0:(u[0]'(by omega)).toNat=92):
  Calls Tryz.prog 200 #[.pointer (some ⟨S.g.block,S.g.off,none⟩),.string u,.bool false] w fun e w'=>e= .returned (.tuple #[.string ⟨#[]⟩,.int .i64 0,.bool false])∧Below w.heap.size w w':=by
 have mixed:=mix
 obtain⟨⟨c0,c1,c2,c3,c4⟩,c5,c6,c7,c8,⟨d0,d1,d2,d3,d4⟩,e0,e1,⟨x0,x1,x2,x3,x4⟩,⟨y0,y1,y2,y3,y4⟩⟩:=h
 obtain⟨⟨gb,go,gs⟩,⟨tb,t_o,ts⟩,⟨ab,ao,a_s⟩,⟨ub,uo,us⟩,⟨bb,bo,bs⟩,⟨cb,co,cs⟩,ct,cu⟩:=S
 dsimp only at*
 replace c0:w.cell? ⟨gb,go,none⟩=some (.string ⟨#[]⟩):=c0
 replace c2:w.cell? ⟨gb,go+2,none⟩=some (.string ⟨#[]⟩):=c2
 replace d0:w.cell? ⟨ab,ao,none⟩=some (.string ⟨#[]⟩):=d0
 replace d2:w.cell? ⟨ab,ao+2,none⟩=some (.string ⟨#[]⟩):=d2
 replace x0:w.cell? ⟨bb,bo,none⟩=some (.string ⟨#[92]⟩):=x0
 replace x2:w.cell? ⟨bb,bo+2,none⟩=some (.string ⟨#[]⟩):=x2
 replace y0:w.cell? ⟨cb,co,none⟩=some (.string ⟨#[32]⟩):=y0
 replace y2:w.cell? ⟨cb,co+2,none⟩=some (.string ⟨#[]⟩):=y2
 have m92:=c6 92 (by decide)
 have hemp:u.toList.isEmpty=false:=by rw [cS u 1 hu];rfl
 have hlt:0<u.size:=by omega
 have hn1:=fun w n c=>Go.run_neq_slice_nil_any (P:=Tryz.prog) w 212 211 (some ⟨tb,t_o,none⟩) n c 0 0 Tryz.underlying212
 have hn2:=fun w n c=>Go.run_neq_slice_nil_any (P:=Tryz.prog) w 212 211 (some ⟨ub,uo,none⟩) n c 0 0 Tryz.underlying212
 go_enter Tryz.func200,Tryz.ntmps200
 go_wp2
 refine wp_loop_rounds 3 ?_
 rw [rounds_succ]
 go_wp2
 go_region
 go_wp2
 rw [rounds_succ]
 go_wp2
 exact bodyPost_ret (by simp [results,Tryz.results200,go_sem]) rfl ⟨rfl,(Below.refl _ _).drew⟩
set_option maxHeartbeats 4000000 in
theorem two(S:lE)(u:ByteArray)(hu:2≤u.size)(w:World)(h:Body w S)(h0:(u[0]'(by omega)).toNat=92)(h1:(u[1]'(by omega)).toNat=92):
  Calls Tryz.prog 200 #[.pointer (some ⟨S.g.block,S.g.off,none⟩),.string u,.bool false] w fun e w'=>e= .returned (.tuple #[.string ⟨#[92]⟩,.int .i64 2,.bool true])∧Below w.heap.size w w':=by
 have mixed:=mix
 obtain⟨⟨c0,c1,c2,c3,c4⟩,c5,c6,c7,c8,⟨d0,d1,d2,d3,d4⟩,e0,e1,⟨x0,x1,x2,x3,x4⟩,⟨y0,y1,y2,y3,y4⟩⟩:=h
 obtain⟨⟨gb,go,gs⟩,⟨tb,t_o,ts⟩,⟨ab,ao,a_s⟩,⟨ub,uo,us⟩,⟨bb,bo,bs⟩,⟨cb,co,cs⟩,ct,cu⟩:=S
 dsimp only at*
 replace c0:w.cell? ⟨gb,go,none⟩=some (.string ⟨#[]⟩):=c0
 replace c2:w.cell? ⟨gb,go+2,none⟩=some (.string ⟨#[]⟩):=c2
 replace d0:w.cell? ⟨ab,ao,none⟩=some (.string ⟨#[]⟩):=d0
 replace d2:w.cell? ⟨ab,ao+2,none⟩=some (.string ⟨#[]⟩):=d2
 replace x0:w.cell? ⟨bb,bo,none⟩=some (.string ⟨#[92]⟩):=x0
 replace x2:w.cell? ⟨bb,bo+2,none⟩=some (.string ⟨#[]⟩):=x2
 replace y0:w.cell? ⟨cb,co,none⟩=some (.string ⟨#[32]⟩):=y0
 replace y2:w.cell? ⟨cb,co+2,none⟩=some (.string ⟨#[]⟩):=y2
 have m92:=c6 92 (by decide)
 have hx0:((u.extract 1 u.size)[0]'(by simp;omega)).toNat=92:=by rw [second u hu];exact h1
 have mc:=c6 92 (by decide)
 have hlt:0<u.size:=by omega
 have hlt1:(1:Int)≤(u.size:Int):=by omega
 have hemp:u.toList.isEmpty=false:=by rw [cS u _ rfl];exact decide_eq_false (by omega)
 have hn1:=fun w n c=>Go.run_neq_slice_nil_any (P:=Tryz.prog) w 212 211 (some ⟨tb,t_o,none⟩) n c 0 0 Tryz.underlying212
 have hn2:=fun w n c=>Go.run_neq_slice_nil_any (P:=Tryz.prog) w 212 211 (some ⟨ub,uo,none⟩) n c 0 0 Tryz.underlying212
 have hn3:=fun w n c=>Go.run_neq_slice_nil_any (P:=Tryz.prog) w 212 211 none n c 0 0 Tryz.underlying212
 have hxs:(u.extract 1 u.size).size=u.size-1:=by simp
 have hxe:(u.extract 1 u.size).toList.isEmpty=false:=by rw [cS _ _ rfl];exact decide_eq_false (by omega)
 have hgt:1<u.size:=by omega
 have hgt':0<u.size-1:=by omega
 have hempx:=fun v:ByteArray=>Lk.cS v _ rfl
 go_enter Tryz.func200,Tryz.ntmps200
 go_wp2
 refine wp_loop_rounds 3 ?_
 rw [rounds_succ]
 go_wp2
 go_region
 go_wp2
 rw [rounds_succ]
 go_wp2
 go_region
 go_wp2
 rw [rounds_succ]
 go_wp2
 all_goals exact bodyPost_ret (by simp [results,Tryz.results200,go_sem]) rfl ⟨rfl,(Below.refl _ _).drew.drew⟩
set_option maxHeartbeats 4000000 in
theorem blank(S:lE)(u:ByteArray)(hu:2≤u.size)(w:World)(h:Body w S)(h0:(u[0]'(by omega)).toNat=92)(h1:(u[1]'(by omega)).toNat=115):
  Calls Tryz.prog 200 #[.pointer (some ⟨S.g.block,S.g.off,none⟩),.string u,.bool false] w fun e w'=>e= .returned (.tuple #[.string ⟨#[32]⟩,.int .i64 2,.bool true])∧Below w.heap.size w w':=by
 have mixed:=mix
 obtain⟨⟨c0,c1,c2,c3,c4⟩,c5,c6,c7,c8,⟨d0,d1,d2,d3,d4⟩,e0,e1,⟨x0,x1,x2,x3,x4⟩,⟨y0,y1,y2,y3,y4⟩⟩:=h
 obtain⟨⟨gb,go,gs⟩,⟨tb,t_o,ts⟩,⟨ab,ao,a_s⟩,⟨ub,uo,us⟩,⟨bb,bo,bs⟩,⟨cb,co,cs⟩,ct,cu⟩:=S
 dsimp only at*
 replace c0:w.cell? ⟨gb,go,none⟩=some (.string ⟨#[]⟩):=c0
 replace c2:w.cell? ⟨gb,go+2,none⟩=some (.string ⟨#[]⟩):=c2
 replace d0:w.cell? ⟨ab,ao,none⟩=some (.string ⟨#[]⟩):=d0
 replace d2:w.cell? ⟨ab,ao+2,none⟩=some (.string ⟨#[]⟩):=d2
 replace x0:w.cell? ⟨bb,bo,none⟩=some (.string ⟨#[92]⟩):=x0
 replace x2:w.cell? ⟨bb,bo+2,none⟩=some (.string ⟨#[]⟩):=x2
 replace y0:w.cell? ⟨cb,co,none⟩=some (.string ⟨#[32]⟩):=y0
 replace y2:w.cell? ⟨cb,co+2,none⟩=some (.string ⟨#[]⟩):=y2
 have m92:=c6 92 (by decide)
 have hx0:((u.extract 1 u.size)[0]'(by simp;omega)).toNat=115:=by rw [second u hu];exact h1
 have mc:=c6 115 (by decide)
 have hlt:0<u.size:=by omega
 have hlt1:(1:Int)≤(u.size:Int):=by omega
 have hemp:u.toList.isEmpty=false:=by rw [cS u _ rfl];exact decide_eq_false (by omega)
 have hn1:=fun w n c=>Go.run_neq_slice_nil_any (P:=Tryz.prog) w 212 211 (some ⟨tb,t_o,none⟩) n c 0 0 Tryz.underlying212
 have hn2:=fun w n c=>Go.run_neq_slice_nil_any (P:=Tryz.prog) w 212 211 (some ⟨ub,uo,none⟩) n c 0 0 Tryz.underlying212
 have hn3:=fun w n c=>Go.run_neq_slice_nil_any (P:=Tryz.prog) w 212 211 none n c 0 0 Tryz.underlying212
 have hxs:(u.extract 1 u.size).size=u.size-1:=by simp
 have hxe:(u.extract 1 u.size).toList.isEmpty=false:=by rw [cS _ _ rfl];exact decide_eq_false (by omega)
 have hgt:1<u.size:=by omega
 have hgt':0<u.size-1:=by omega
 have hempx:=fun v:ByteArray=>Lk.cS v _ rfl
 go_enter Tryz.func200,Tryz.ntmps200
 go_wp2
 refine wp_loop_rounds 3 ?_
 rw [rounds_succ]
 go_wp2
 go_region
 go_wp2
 rw [rounds_succ]
 go_wp2
 go_region
 go_wp2
 rw [rounds_succ]
 go_wp2
 all_goals exact bodyPost_ret (by simp [results,Tryz.results200,go_sem]) rfl ⟨rfl,(Below.refl _ _).drew.drew⟩
set_option maxHeartbeats 4000000 in
theorem other(S:lE)(u:ByteArray)(hu:2≤u.size)(w:World)(h:Body w S)(h0:(u[0]'(by omega)).toNat=92)(h1:(u[1]'(by omega)).toNat≠92∧(u[1]'(by omega)).toNat≠115):
  Calls Tryz.prog 200 #[.pointer (some ⟨S.g.block,S.g.off,none⟩),.string u,.bool false] w fun e w'=>e= .returned (.tuple #[.string ⟨#[]⟩,.int .i64 0,.bool false])∧Below w.heap.size w w':=by
 have mixed:=mix
 obtain⟨⟨c0,c1,c2,c3,c4⟩,c5,c6,c7,c8,⟨d0,d1,d2,d3,d4⟩,e0,e1,⟨x0,x1,x2,x3,x4⟩,⟨y0,y1,y2,y3,y4⟩⟩:=h
 obtain⟨⟨gb,go,gs⟩,⟨tb,t_o,ts⟩,⟨ab,ao,a_s⟩,⟨ub,uo,us⟩,⟨bb,bo,bs⟩,⟨cb,co,cs⟩,ct,cu⟩:=S
 dsimp only at*
 replace c0:w.cell? ⟨gb,go,none⟩=some (.string ⟨#[]⟩):=c0
 replace c2:w.cell? ⟨gb,go+2,none⟩=some (.string ⟨#[]⟩):=c2
 replace d0:w.cell? ⟨ab,ao,none⟩=some (.string ⟨#[]⟩):=d0
 replace d2:w.cell? ⟨ab,ao+2,none⟩=some (.string ⟨#[]⟩):=d2
 replace x0:w.cell? ⟨bb,bo,none⟩=some (.string ⟨#[92]⟩):=x0
 replace x2:w.cell? ⟨bb,bo+2,none⟩=some (.string ⟨#[]⟩):=x2
 replace y0:w.cell? ⟨cb,co,none⟩=some (.string ⟨#[32]⟩):=y0
 replace y2:w.cell? ⟨cb,co+2,none⟩=some (.string ⟨#[]⟩):=y2
 have m92:=c6 92 (by decide)
 have hx0:((u.extract 1 u.size)[0]'(by simp;omega)).toNat=(u[1]'(by omega)).toNat:=by rw [second u hu]
 have hc256:(u[1]'(by omega)).toNat<256:=(u[1]'(by omega)).toNat_lt
 have mc:=c6 _ hc256
 rw [if_neg h1.1,if_neg h1.2]at mc
 have hlt:0<u.size:=by omega
 have hlt1:(1:Int)≤(u.size:Int):=by omega
 have hemp:u.toList.isEmpty=false:=by rw [cS u _ rfl];exact decide_eq_false (by omega)
 have hn1:=fun w n c=>Go.run_neq_slice_nil_any (P:=Tryz.prog) w 212 211 (some ⟨tb,t_o,none⟩) n c 0 0 Tryz.underlying212
 have hn2:=fun w n c=>Go.run_neq_slice_nil_any (P:=Tryz.prog) w 212 211 (some ⟨ub,uo,none⟩) n c 0 0 Tryz.underlying212
 have hn3:=fun w n c=>Go.run_neq_slice_nil_any (P:=Tryz.prog) w 212 211 none n c 0 0 Tryz.underlying212
 have hxs:(u.extract 1 u.size).size=u.size-1:=by simp
 have hxe:(u.extract 1 u.size).toList.isEmpty=false:=by rw [cS _ _ rfl];exact decide_eq_false (by omega)
 have hgt:1<u.size:=by omega
 have hgt':0<u.size-1:=by omega
 have hempx:=fun v:ByteArray=>Lk.cS v _ rfl
 go_enter Tryz.func200,Tryz.ntmps200
 go_wp2
 refine wp_loop_rounds 3 ?_
 rw [rounds_succ]
 go_wp2
 go_region
 go_wp2
 rw [rounds_succ]
 go_wp2
 go_region
 go_wp2
 exact bodyPost_ret (by simp [results,Tryz.results200,go_sem]) rfl ⟨rfl,(Below.refl _ _).drew.drew⟩
end Lk
end
section
open Go Go.az Go.RowKit
namespace Wr
def At(B b:Nat)(bs:List Value)(w:World):Prop:=B≤b∧∃v,w.heap[b]? =some (.cells #[v] 253 (0,0))∧w.ownsRow B 5 1 v bs.length bs∧v.ownBlock≠some b
set_option maxHeartbeats 2000000 in
theorem write(B b:Nat)(bs:List Value)(s:ByteArray)(w:World)(h:At B b bs w)(hlen:bs.length+s.size≤140737488355328)(hBw:B≤w.heap.size):
  Calls Tryz.prog 208 #[.pointer (some ⟨b,0,none⟩),.string s] w fun e w'=>e= .returned (.tuple #[.int .i64 s.size,.nilIface])∧(At B b (bs++Lib.strCells s) w'∧Below B w w'):=by
 obtain⟨i0,hi,hz0,hz1,hz2⟩:=info_parts Bu.infoByte
 have mixed:=mix
 obtain⟨hB,v,hbk,hown,hne⟩:=h
 have hbk:w.heap[b]? =some (.cells #[v] 253 (0,0)):=hbk
 have c0:w.cell? ⟨b,0,none⟩=some v:=by rw [Lib.cell_of_heap hbk];rfl
 go_enter Tryz.func208,Tryz.ntmps208
 go_wp2_with (at_builtin;refine Lib.wpList_append_own_string _ rfl _ _ 253 9 rfl B 5 i0 Tryz.underlying253 Tryz.underlying9 hi hz0 hz1 hz2 _ _ _ rfl hown s rfl ?c1 hlen hBw ?_)
 case c1=>unfold maxLen;omega
 intro v' w2 hown' hgrow _
 have hlt:b<w.heap.size:=by
  rcases Nat.lt_or_ge b w.heap.size with h'|h'
  ·exact h'
  ·simp [Array.getElem?_eq_none h']at hbk
 have hb2:w2.heap[b]? =some (.cells #[v] 253 (0,0)):=by
  rw [hgrow.block b hlt (fun e=>hne e.symm)]
  exact hbk
 have d0:w2.cell? ⟨b,0,none⟩=some v:=by rw [Lib.cell_of_heap hb2];rfl
 have f0:w2.frozen? ⟨b,0,none⟩=false:=Lib.frozen_of_heap hb2 0
 obtain⟨x,n,c,hx⟩:∃x n c,v'= .slice x n c:=by
  rcases hown'.2 with⟨h,_⟩|⟨g,cap,cur,h,_⟩<;>exact⟨_,_,_,h⟩
 have hwb:Below B w w2:=(Below.refl _ _).grown hgrow hBw (fun k hk=>(hown.lt k hk).1)
 have HA:Hid (At B b (bs++Lib.strCells s) (w2.setCell ⟨b,0,none⟩ v')):=by
  refine⟨hB,v',?_,?_,?_⟩
  ·simp [World.setCell,Array.getElem?_modify,hb2]
  ·have hne':=Lib.ownBlock_ne hown' hb2 (by decide)
   have:=hown'.kept (w':=w2.setCell ⟨b,0,none⟩ v') (row:=some b) ⟨rfl,rfl,rfl,by simp [World.setCell],fun k _ hk=>Below.heap_setCell _ _ _ _ (fun e=>hk (by simp [e]))⟩ (Or.inr hne')
   have hl:(bs++Lib.strCells s).length=bs.length+s.size:=by have:=hown'.1;simpa using this
   rw [hl]
   exact this
  ·exact Lib.ownBlock_ne hown' hb2 (by decide)
 clear hown' hgrow hown hbk hb2 hi hz0 hz1 hz2 hne c0
 subst hx
 go_wp2
 go_ret2
 exact⟨rfl,HA.out,hwb.setCell (p:=⟨b,0,none⟩) hB _⟩
end Wr
end
section
open Go Go.az Go.RowKit
namespace Wg
open Rp Rb
theorem IE(b:Nat)(w:World):Calls Tryz.prog 199 #[.iface 254 (.pointer (some ⟨b,0,none⟩))] w fun e w'=>e= .returned (.iface 254 (.pointer (some ⟨b,0,none⟩)))∧w'=w:=by
 have mixed:=mix
 have ha:=run_typeAssert_hasB (P:=Tryz.prog) (t:=254) (asserted:=258) Tryz.underlying258 (by kernel_rfl) (.pointer (some ⟨b,0,none⟩)) 256
 go_enter Tryz.func199,Tryz.ntmps199
 go_wp2
 go_ret
 exact⟨rfl,rfl⟩
def lL:List UInt8→List UInt8
 | []=>[]
 | [c]=>[c]
 |c::d::l=>if c=92∧d=92 then 92::lL l else if c=92∧d=115 then 32::lL l else c::lL (d::l)
theorem lh:∀l:List UInt8,(lL l).length≤l.length
 | []=>Nat.le_refl _
 | [c]=>Nat.le_refl _
 |c::d::l=>by
  unfold lL
  have h1:=lh l
  have h2:=lh (d::l)
  simp only [List.length_cons]at*
  split
  ·simp;omega
  ·split<;>simp<;>omega
theorem CW(c:UInt8)(l:List UInt8)(h:c≠92∨∀d,l.head? =some d→d≠92∧d≠115):lL (c::l)=c::lL l:=by
 cases l with
 |nil=>rfl
 |cons d l=>
  rcases h with h|h
  ·rw [lL,if_neg (fun x=>h x.1),if_neg (fun x=>h x.1)]
  ·have:=h d rfl
   rw [lL,if_neg (fun x=>this.1 x.2),if_neg (fun x=>this.2 x.2)]
def Inv(bs:List UInt8)(i last:Nat)(out:List UInt8):Prop:=last≤i∧last≤bs.length∧i≤bs.length+1∧lL bs=out++((bs.drop last).take (i-last)++lL (bs.drop i))
theorem Inv.start(bs:List UInt8):Inv bs 0 0 []:=⟨Nat.le_refl _,Nat.zero_le _,Nat.zero_le _,by simp⟩
theorem Inv.skip{bs out:List UInt8}{i last:Nat}(h:Inv bs i last out)(hi:i<bs.length)(hs:bs.getD i 0≠92∨∀d,bs[i+1]? =some d→d≠92∧d≠115):Inv bs (i+1) last out:=by
 obtain⟨h1,h2,h3,h4⟩:=h
 refine⟨by omega,h2,by omega,?_⟩
 have hg:bs.getD i 0=bs[i]:=by simp [List.getD,List.getElem?_eq_getElem hi]
 rw [hg]at hs
 rw [h4,List.drop_eq_getElem_cons hi,CW _ _ (by
  rcases hs with hs|hs
  ·exact .inl hs
  ·exact .inr (fun d hd=>hs d (by rw [←hd,List.head?_drop])))]
 have hd:i-last<(bs.drop last).length:=by rw [List.length_drop];omega
 have e:(bs.drop last).take (i+1-last)=(bs.drop last).take (i-last)++[bs[i]]:=by
  rw [show i+1-last=(i-last)+1 by omega,List.take_succ_eq_append_getElem hd]
  congr 2
  rw [List.getElem_drop]
  congr 1
  omega
 rw [e]
 simp
theorem Inv.past{bs out:List UInt8}{i last:Nat}(h:Inv bs i last out)(hi:i=bs.length):Inv bs (i+1) last out:=by
 obtain⟨h1,h2,h3,h4⟩:=h
 refine⟨by omega,h2,by omega,?_⟩
 rw [h4,List.drop_eq_nil_of_le (show bs.length≤i by omega),List.drop_eq_nil_of_le (show bs.length≤i+1 by omega),List.take_of_length_le (by rw [List.length_drop];omega),List.take_of_length_le (by rw [List.length_drop];omega)]
theorem Inv.hit{bs out:List UInt8}{i last:Nat}(h:Inv bs i last out)(hi:i+1<bs.length)(h0:bs.getD i 0=92){x:UInt8}(hx:(bs.getD (i+1) 0=92∧x=92)∨(bs.getD (i+1) 0=115∧x=32)):Inv bs (i+2) (i+2) (out++(bs.drop last).take (i-last)++[x]):=by
 obtain⟨h1,h2,h3,h4⟩:=h
 refine⟨Nat.le_refl _,by omega,by omega,?_⟩
 have hg:bs.getD i 0=bs[i]'(by omega):=by simp [List.getD,List.getElem?_eq_getElem (show i<bs.length by omega)]
 have hg1:bs.getD (i+1) 0=bs[i+1]:=by simp [List.getD,List.getElem?_eq_getElem hi]
 rw [hg]at h0
 rw [hg1]at hx
 rw [h4,List.drop_eq_getElem_cons (show i<bs.length by omega),List.drop_eq_getElem_cons hi,h0]
 rcases hx with⟨e,rfl⟩|⟨e,rfl⟩
 ·rw [e,lL,if_pos ⟨rfl,rfl⟩];simp
 ·rw [e,lL,if_neg (by decide),if_pos ⟨rfl,rfl⟩];simp
theorem Inv.done{bs out:List UInt8}{i last:Nat}(h:Inv bs i last out)(hi:i=bs.length+1):lL bs=out++bs.drop last:=by
 obtain⟨h1,h2,h3,h4⟩:=h
 rw [h4,List.drop_eq_nil_of_le (show bs.length≤i by omega),List.take_of_length_le (by rw [List.length_drop];omega)]
 simp [lL]
theorem Inv.len{bs out:List UInt8}{i last:Nat}(h:Inv bs i last out):out.length+((bs.drop last).take (i-last)).length≤bs.length:=by
 have h1:=lh bs
 rw [h.2.2.2]at h1
 simp only [List.length_append]at h1
 omega
theorem At.drew{B b:Nat}{bs:List Value}{w:World}(h:Wr.At B b bs w):Wr.At B b bs w.drew:=h
theorem wq{S:lE}{w w':World}{B:Nat}(h:Body w S)(hb:Below B w w')(hS:S.all (fun b=>b<B)):Body w' S:=
 h.kF ⟨fun o=>hb.cell (p:=⟨_,o,none⟩) hS.1,fun o=>hb.cell (p:=⟨_,o,none⟩) hS.2.1,fun o=>hb.cell (p:=⟨_,o,none⟩) hS.2.2.1,fun o=>hb.cell (p:=⟨_,o,none⟩) hS.2.2.2.1,fun o=>hb.cell (p:=⟨_,o,none⟩) hS.2.2.2.2.1,fun o=>hb.cell (p:=⟨_,o,none⟩) hS.2.2.2.2.2⟩
theorem lt_of_heap{w:World}{b:Nat}{o:Obj}(h:w.heap[b]? =some o):b<w.heap.size:=by
 rcases Nat.lt_or_ge b w.heap.size with h'|h'
 ·exact h'
 ·rw [Array.getElem?_eq_none h']at h;cases h
theorem qi{B b:Nat}{bs:List Value}{w w':World}(h:Wr.At B b bs w)(hb:Below w.heap.size w w'):Wr.At B b bs w':=by
 obtain⟨h1,v,h2,h3,h4⟩:=h
 refine⟨h1,v,(hb.block _ (lt_of_heap h2)).trans h2,⟨h3.1,?_⟩,h4⟩
 rcases h3.2 with h|⟨g,cap,cur,rfl,k1,k2,k3⟩
 ·exact .inl h
 ·exact .inr ⟨g,cap,cur,rfl,k1,(hb.block _ (lt_of_heap k2)).trans k2,k3⟩
theorem CX(s:ByteArray)(j:Nat):(s.extract j s.size).data.toList=s.data.toList.drop j:=by
 have h:(s.extract j s.size).data=s.data.extract j s.size:=by simp
 rw [h,Array.toList_extract,List.extract_eq_take_drop,List.take_of_length_le (by rw [List.length_drop];exact Nat.le_refl _)]
theorem CY(s:ByteArray)(j k:Nat):(s.extract j k).data.toList=(s.data.toList.drop j).take (k-j):=by
 have h:(s.extract j k).data=s.data.extract j k:=by simp
 rw [h,Array.toList_extract,List.extract_eq_take_drop]
set_option maxHeartbeats 8000000 in
theorem writeString(S:lE)(s:ByteArray)(bs:List UInt8)(hbs:bs=s.data.toList)(hs:s.size≤4000)(B b:Nat)(w:World)(hbody:Body w S)(hS:S.all (fun x=>x<B))(hAt:Wr.At B b [] w)(hBw:B≤w.heap.size):
  Calls Tryz.prog 198 #[.pointer (some ⟨S.g.block,S.g.off,none⟩),.iface 254 (.pointer (some ⟨b,0,none⟩)),.string s] w fun e w'=>(∃v,e= .returned v)∧Wr.At B b (Lib.byteCells (lL bs)) w'∧Below B w w':=by
 have mixed:=mix
 have hlen:bs.length=s.size:=by rw [hbs];rfl
 have hmt:∀w,(method 366 254 (.pointer (some ⟨b,0,none⟩)) "WriteString").run Tryz.prog w= .ok (208,.pointer (some ⟨b,0,none⟩)) w:=fun _=>by kernel_rfl
 have hmf:∀(fn:Fn)(first cap:Array Value)(w:World),(Instr.makeFunc fn first cap).run Tryz.prog w= .ok (.func fn first cap) w:=fun _ _ _ _=>rfl
 have hna:∀w,(nilAhead 366 254 (.pointer (some ⟨b,0,none⟩)) "WriteString").run Tryz.prog w= .ok (some false) w:=fun _=>by kernel_rfl
 have hgw:=IE b w
 have hget:∀j (hj:j<s.size),s[j]=bs.getD j 0:=fun j hj=>by
  subst hbs
  have:j<s.data.toList.length:=hj
  simp [List.getD,List.getElem?_eq_getElem this]
  rfl
 go_enter Tryz.func198,Tryz.ntmps198
 go_wp2_with (go_at_call 199;refine hgw.mono ?_;rintro e w1 ⟨rfl,rfl⟩)
 clear hgw
 go_loopw [6,7,9,11,12] (fun vn ve vl vp vi wr=>∃(i last:Nat)(z:Int)(out:List UInt8),vn= .int .i64 z∧ve= .nilIface∧vl= .int .i64 last∧vp= .bool false∧vi= .int .i64 i∧Hid (Inv bs i last out)∧Hid (Wr.At B b (Lib.byteCells out) wr)∧Below B w1 wr) (fun _ _ _ _ vi _=>s.size+1-(intOf vi).toNat)
 case atStart=>exact⟨0,0,0,[],rfl,rfl,rfl,rfl,rfl,Lib.hid (Inv.start bs),Lib.hid hAt,Below.refl _ _⟩
 case round=>
  obtain⟨i,last,z,out,rfl,rfl,rfl,rfl,rfl,hI,hA,hb⟩:=hrel
  have hi1:=hI.out.1
  have hi2:=hI.out.2.1
  have hi3:=hI.out.2.2.1
  rw [hlen]at hi2 hi3
  have hbd:=wq hbody hb hS
  have hsz:=hb.size
  by_cases hn:i≤s.size
  ·by_cases he:i=s.size
   ·subst he
    have hI2:=Lib.hid (hI.out.past hlen.symm)
    clear hI2
    go_wp2_with (go_at_call 200;refine(Lk.nil S wr hbd).mono ?_)
    rintro e w2 ⟨rfl,h2⟩
    have hA2:Hid (Wr.At B b (Lib.byteCells out) w2):=Lib.hid (qi hA.out h2)
    have hb2:=hb.trans (h2.mono (Nat.le_trans hBw hsz))
    have hI2:=Lib.hid (hI.out.past hlen.symm)
    go_wp2
    exact⟨⟨s.size+1,last,z,out,rfl,rfl,rfl,rfl,by go_num,hI2,hA2,hb2⟩,by simp [intOf]⟩
   ·have hlt:i<s.size:=by omega
    have hltI:(i:Int)≠(s.size:Int):=by omega
    have hne:((i:Int) !=(s.size:Int))=true:=by simpa using hltI
    have hg1:=hbd.root.p
    have hg5:=hbd.size
    have hg4:=hbd.root.t
    have ht0:=hbd.t0
    have ht1:=hbd.t1
    by_cases h92:bs.getD i 0=92
    ·have hc0:(s.data[i]'hlt).toNat=92:=by
      have:(s.data[i]'hlt).toNat=(bs.getD i 0).toNat:=congrArg UInt8.toNat (hget i hlt)
      rw [this,h92];rfl
     have hgt0:=hbd.map 92 (by decide)
     rw [if_pos rfl]at hgt0
     have hxs:(s.extract i s.size).size=s.size-i:=by simp
     have hx0:((s.extract i s.size)[0]'(by omega)).toNat=92:=by
      rw [ByteArray.getElem_extract]
      exact hc0
     have hdw:Body wr.drew S:=hbd.kF ⟨fun _=>rfl,fun _=>rfl,fun _=>rfl,fun _=>rfl,fun _=>rfl,fun _=>rfl⟩
     by_cases h1:i+1=s.size
     ·have hI2:=Lib.hid (hI.out.skip (by omega) (.inr (fun d hd=>by rw [List.getElem?_eq_none (by omega)]at hd;cases hd)))
      clear hI hn he hi1 hi2 hi3 h92
      go_wp2
      go_region
      go_wp2_with (go_at_call 200;refine(Lk.one S (s.extract i s.size) (by omega) wr.drew hdw hx0).mono ?_)
      rintro e w2 ⟨rfl,h2⟩
      have hA2:Hid (Wr.At B b (Lib.byteCells out) w2):=Lib.hid (qi (w:=wr.drew) hA.out h2)
      have hb2:=hb.drew.trans (h2.mono (Nat.le_trans hBw hsz))
      go_wp2
      exact⟨⟨i+1,last,z,out,rfl,rfl,rfl,rfl,by go_num,hI2,hA2,hb2⟩,by simp [intOf];omega⟩
     ·have hlt2:i+1<s.size:=by omega
      have hx1:(s.extract i s.size)[1]'(by omega)=bs.getD (i+1) 0:=by
       rw [ByteArray.getElem_extract]
       exact hget (i+1) hlt2
      by_cases hH:bs.getD (i+1) 0=92
      ·have hx1':((s.extract i s.size)[1]'(by omega)).toNat=92:=by rw [hx1,hH];rfl
       have hI2:=Lib.hid (hI.out.hit (by omega) h92 (x:=92) (by first|exact .inl ⟨hH,rfl⟩|exact .inr ⟨hH,rfl⟩))
       have hout:out.length≤4000:=by have:=hI.out.len;omega
       have hcells:Hid (Lib.byteCells out++Lib.strCells (s.extract last i)++Lib.strCells ⟨#[92]⟩=Lib.byteCells (out++(bs.drop last).take (i-last)++[92])):=Lib.hid (by
        rw [Lib.strCells_eq,Lib.strCells_eq,←Lib.byteCells_append,←Lib.byteCells_append]
        congr 3
        rw [hbs]
        exact CY s last i)
       have hl0:(0:Int)≤(last:Int):=by omega
       have hl1:(last:Int)≤(i:Int):=by omega
       have hl2:(i:Int)≤(s.size:Int):=by omega
       have hbl:(Lib.byteCells out).length≤4000:=by rw [Lib.byteCells_length];exact hout
       have hxl:(s.extract last i).size≤4000:=by simp;omega
       have hbl2:(Lib.byteCells out++Lib.strCells (s.extract last i)).length≤8000:=by rw [List.length_append,Lib.strCells_length];omega
       clear hI hn he hi1 hi2 hi3 h92 hH hx1
       go_wp2
       go_region
       go_wp2_with (go_at_call 200;refine(Lk.two S (s.extract i s.size) (by omega) wr.drew hdw hx0 hx1').mono ?_)
       rintro e w2 ⟨rfl,h2⟩
       have hA2:Hid (Wr.At B b (Lib.byteCells out) w2.drew):=Lib.hid (qi (w:=wr.drew) hA.out h2.drew)
       have hb2:=(hb.drew.trans (h2.mono (Nat.le_trans hBw hsz))).drew
       have hB2:B≤w2.drew.heap.size:=Nat.le_trans hBw hb2.size
       clear hA hx0 hx1' h2
       go_wp2
       go_region_held3 (fun _=>True) (trivial) (first|(go_at_call 208;refine(Wr.write B b _ _ _ hA2.out (by omega) hB2).mono ?_;rintro e w3 ⟨rfl,h3,h4⟩))
       have hb3:=hb2.trans h4
       have hB3:B≤w3.heap.size:=Nat.le_trans hBw hb3.size
       clear hb2 hB2 hA2 h4
       go_wp2_with (go_at_call 208;refine(Wr.write B b _ ⟨#[92]⟩ _ h3 (show _+1≤_ by omega) hB3).mono ?_)
       rintro e w4 ⟨rfl,h5,h6⟩
       have hb4:=hb3.trans h6
       rw [hcells.out]at h5
       have h5:=Lib.hid h5
       clear h3 hb3 h6
       go_wp2
       exact⟨⟨i+2,i+2,_,_,rfl,rfl,by go_num,rfl,by go_num,hI2,h5,hb4⟩,by simp [intOf];omega⟩
      ·have h2:=hH
       clear hH
       by_cases hH:bs.getD (i+1) 0=115
       ·have hx1':((s.extract i s.size)[1]'(by omega)).toNat=115:=by rw [hx1,hH];rfl
        have hI2:=Lib.hid (hI.out.hit (by omega) h92 (x:=32) (by first|exact .inl ⟨hH,rfl⟩|exact .inr ⟨hH,rfl⟩))
        have hout:out.length≤4000:=by have:=hI.out.len;omega
        have hcells:Hid (Lib.byteCells out++Lib.strCells (s.extract last i)++Lib.strCells ⟨#[32]⟩=Lib.byteCells (out++(bs.drop last).take (i-last)++[32])):=Lib.hid (by
         rw [Lib.strCells_eq,Lib.strCells_eq,←Lib.byteCells_append,←Lib.byteCells_append]
         congr 3
         rw [hbs]
         exact CY s last i)
        have hl0:(0:Int)≤(last:Int):=by omega
        have hl1:(last:Int)≤(i:Int):=by omega
        have hl2:(i:Int)≤(s.size:Int):=by omega
        have hbl:(Lib.byteCells out).length≤4000:=by rw [Lib.byteCells_length];exact hout
        have hxl:(s.extract last i).size≤4000:=by simp;omega
        have hbl2:(Lib.byteCells out++Lib.strCells (s.extract last i)).length≤8000:=by rw [List.length_append,Lib.strCells_length];omega
        clear hI hn he hi1 hi2 hi3 h92 hH hx1
        go_wp2
        go_region
        go_wp2_with (go_at_call 200;refine(Lk.blank S (s.extract i s.size) (by omega) wr.drew hdw hx0 hx1').mono ?_)
        rintro e w2 ⟨rfl,h2⟩
        have hA2:Hid (Wr.At B b (Lib.byteCells out) w2.drew):=Lib.hid (qi (w:=wr.drew) hA.out h2.drew)
        have hb2:=(hb.drew.trans (h2.mono (Nat.le_trans hBw hsz))).drew
        have hB2:B≤w2.drew.heap.size:=Nat.le_trans hBw hb2.size
        clear hA hx0 hx1' h2
        go_wp2
        go_region_held3 (fun _=>True) (trivial) (first|(go_at_call 208;refine(Wr.write B b _ _ _ hA2.out (by omega) hB2).mono ?_;rintro e w3 ⟨rfl,h3,h4⟩))
        have hb3:=hb2.trans h4
        have hB3:B≤w3.heap.size:=Nat.le_trans hBw hb3.size
        clear hb2 hB2 hA2 h4
        go_wp2_with (go_at_call 208;refine(Wr.write B b _ ⟨#[32]⟩ _ h3 (show _+1≤_ by omega) hB3).mono ?_)
        rintro e w4 ⟨rfl,h5,h6⟩
        have hb4:=hb3.trans h6
        rw [hcells.out]at h5
        have h5:=Lib.hid h5
        clear h3 hb3 h6
        go_wp2
        exact⟨⟨i+2,i+2,_,_,rfl,rfl,by go_num,rfl,by go_num,hI2,h5,hb4⟩,by simp [intOf];omega⟩
       ·have h3:=hH
        clear hH
        have h2':((s.extract i s.size)[1]'(by omega)).toNat≠92∧((s.extract i s.size)[1]'(by omega)).toNat≠115:=by
         rw [hx1]
         exact⟨fun e=>h2 (UInt8.toNat_inj.1 e),fun e=>h3 (UInt8.toNat_inj.1 e)⟩
        have hI2:=Lib.hid (hI.out.skip (by omega) (.inr (fun d hd=>by
         have:bs.getD (i+1) 0=d:=by simp [List.getD,hd]
         rw [←this]
         exact⟨h2,h3⟩)))
        clear hI hn he hi1 hi2 hi3 h92
        go_wp2
        go_region
        go_wp2_with (go_at_call 200;refine(Lk.other S (s.extract i s.size) (by omega) wr.drew hdw hx0 h2').mono ?_)
        rintro e w2 ⟨rfl,h2⟩
        have hA2:Hid (Wr.At B b (Lib.byteCells out) w2):=Lib.hid (qi (w:=wr.drew) hA.out h2)
        have hb2:=hb.drew.trans (h2.mono (Nat.le_trans hBw hsz))
        go_wp2
        exact⟨⟨i+1,last,z,out,rfl,rfl,rfl,rfl,by go_num,hI2,hA2,hb2⟩,by simp [intOf];omega⟩
    ·have hI2:=Lib.hid (hI.out.skip (by omega) (.inl h92))
     have h92n:(bs.getD i 0).toNat≠92:=fun e=>h92 (UInt8.toNat_inj.1 e)
     obtain⟨m,hm⟩:∃m,m=(bs.getD i 0).toNat:=⟨_,rfl⟩
     have hc0:(s.data[i]'hlt).toNat=m:=hm▸congrArg UInt8.toNat (hget i hlt)
     have hm256:m<256:=hm▸(bs.getD i 0).toNat_lt
     rw [←hm]at h92n
     have hgt0:=hbd.map m hm256
     rw [if_neg h92n]at hgt0
     clear hm h92 h92n
     by_cases h115:m=115
     ·rw [if_pos h115]at hgt0
      subst h115
      clear hI hn he hi1 hi2 hi3
      go_wp2
      go_region
      go_wp2
      exact⟨⟨i+1,last,z,out,rfl,rfl,rfl,rfl,by go_num,hI2,hA,hb.drew⟩,by simp [intOf];omega⟩
     ·rw [if_neg h115]at hgt0
      clear hI hn he hi1 hi2 hi3
      go_wp2
      go_region
      go_wp2
      exact⟨⟨i+1,last,z,out,rfl,rfl,rfl,rfl,by go_num,hI2,hA,hb.drew⟩,by simp [intOf];omega⟩
  ·have hi:i=s.size+1:=by omega
   subst hi
   have hfin:=Lib.hid (hI.out.done (by rw [hlen]))
   by_cases hl:last=s.size
   ·have hout:lL bs=out:=by rw [hfin.out,List.drop_eq_nil_of_le (by omega),List.append_nil]
    have hA2:Hid (Wr.At B b (Lib.byteCells (lL bs)) wr):=by rw [hout];exact hA
    subst hl
    clear hfin hout hI hA
    go_wp2
    go_ret2
    exact⟨⟨_,rfl⟩,hA2.out,hb⟩
   ·have hne:((last:Int) !=(s.size:Int))=true:=by
     have:(last:Int)≠(s.size:Int):=by omega
     simpa using this
    have hout:out.length≤4000:=by have:=hI.out.len;omega
    have hcells:Hid (Lib.byteCells out++Lib.strCells (s.extract last s.size)=Lib.byteCells (lL bs)):=Lib.hid (by
     rw [hfin.out,Lib.strCells_eq,←Lib.byteCells_append]
     congr 2
     rw [hbs]
     exact CX s last)
    have hl0:(0:Int)≤(last:Int):=by omega
    have hl1:(last:Int)≤(s.size:Int):=by omega
    have hbl:(Lib.byteCells out).length≤4000:=by rw [Lib.byteCells_length];exact hout
    have hxs:(s.extract last s.size).size≤4000:=by simp;omega
    have hAd:Hid (Wr.At B b (Lib.byteCells out) wr.drew):=hA
    have hBd:B≤wr.drew.heap.size:=Nat.le_trans hBw hsz
    clear hI hfin hi1 hi2 hi3 hA hn hl
    go_wp2
    go_region_held3 (fun _=>True) (trivial) (first|(go_at_call 208;refine(Wr.write B b _ _ _ hAd.out (by omega) hBd).mono ?_;rintro e w2 ⟨rfl,h2,h3⟩))
    go_wp2
    go_ret2
    refine⟨⟨_,rfl⟩,?_,hb.drew.trans h3⟩
    rw [←hcells.out]
    exact h2
theorem read{B b:Nat}{l:List UInt8}{w:World}(h:Wr.At B b (Lib.byteCells l) w):∃a n c,w.cell? ⟨b,0,none⟩=some (.slice a n c)∧∀w',w'.heap=w.heap→(convert 253 9 (.slice a n c)).run Tryz.prog w'= .ok (.string ⟨l.toArray⟩) w':=by
 obtain⟨h1,v,h2,h3,h4⟩:=h
 have hc:w.cell? ⟨b,0,none⟩=some v:=by rw [Lib.cell_of_heap h2];rfl
 rcases h3.2 with⟨rfl,h⟩|⟨g,cap,cur,rfl,k1,k2,k3,k4,k5,k6⟩
 ·have hl:l=[]:=List.length_eq_zero_iff.1 (by rw [←Lib.byteCells_length];exact h)
  subst hl
  exact⟨_,_,_,hc,fun w' _=>run_convert_bytes_back (P:=Tryz.prog) w' 253 9 5 ⟨0,0,none⟩ 0 [] Tryz.underlying253 Tryz.underlying5 Tryz.underlying9 (fun j hj=>absurd hj (Nat.not_lt_zero j))⟩
 ·rw [Lib.byteCells_length]at hc k3 k6
  refine⟨_,_,_,hc,fun w' hw=>run_convert_bytes_back (P:=Tryz.prog) w' 253 9 5 ⟨g,0,none⟩ cap l Tryz.underlying253 Tryz.underlying5 Tryz.underlying9 (fun j hj=>?_)⟩
  have ha:(⟨g,0,none⟩:Addr).add j=⟨g,j,none⟩:=by
   cases j with
   |zero=>rfl
   |succ j=>simp [Addr.add]
  rw [ha,Lib.cell_of_heap (by rw [hw];exact k2),←Array.getElem?_toList]
  have:(cur.toList.take (l.length*1))[j]? =(Lib.byteCells l)[j]? :=by rw [k6]
  rw [List.getElem?_take,if_pos (by omega)]at this
  rw [this]
  simp [Lib.byteCells,List.getElem?_eq_getElem hj]
set_option maxHeartbeats 2000000 in
theorem replace(S:lE)(s:ByteArray)(hs:s.size≤4000)(w:World)(hbody:Body w S)(hS:S.all (fun x=>x<w.heap.size)):
  Calls Tryz.prog 197 #[.pointer (some ⟨S.g.block,S.g.off,none⟩),.string s] w fun e w'=>e= .returned (.string ⟨(lL s.data.toList).toArray⟩)∧Below w.heap.size w w':=by
 obtain⟨i0,hi,hz0,hz1,hz2⟩:=info_parts Bu.infoByte
 have mixed:=mix
 obtain⟨w1,hmk,hown,hgr⟩:=run_make_own (P:=Tryz.prog) w w.heap.size 253 5 i0 (.int .u8 0) 1 Tryz.underlying253 hi hz0 hz1 .i64 .i64 s.size (by rw [hz2];omega) (by unfold maxLen;omega) (Nat.le_refl _)
 have hb1:Below w.heap.size w w1:=(Below.refl _ _).grown hgr (Nat.le_refl _) (fun k hk=>by cases hk)
 have hAt:Wr.At w.heap.size w1.heap.size [] (w1.alloc (.cells #[.slice (some ⟨w.heap.size,0,none⟩) 0 s.size] 253)):=by
  have hl:=hown.lt w.heap.size rfl
  refine⟨hb1.size,_,Tx.aw _ _,hown.alloc _,?_⟩
  intro e
  have:w.heap.size=w1.heap.size:=by simpa [Value.ownBlock]using e
  omega
 have hb2:=hb1.alloc hb1.size (.cells #[.slice (some ⟨w.heap.size,0,none⟩) 0 s.size] 253)
 have hw:=writeString S s _ rfl hs w.heap.size w1.heap.size _ (wq hbody hb2 hS) hS hAt hb2.size
 generalize lL s.data.toList=u at hw ⊢
 clear hi hz0 hz1 hz2 hown hgr hAt
 go_enter Tryz.func197,Tryz.ntmps197
 go_wp2_with (go_at_call 198;refine hw.mono ?_)
 rintro e w2 ⟨⟨v,rfl⟩,h1,h2⟩
 obtain⟨a,n,c,hc,hconv⟩:=read h1
 have hconv:=hconv w2 rfl
 have hb3:=hb2.trans h2
 clear h1 h2
 go_wp2
 go_ret
 exact⟨rfl,hb3⟩
set_option maxHeartbeats 2000000 in
theorem L4(s:ByteArray)(w0 w:World)(N:Nat)(h:Nr.SA xs w0 N w)(hs:s.size≤4000):
  Calls Tryz.prog 23 #[.pointer (some ⟨N,0,none⟩),.string s] w fun e w'=>e= .returned (.string ⟨(lL s.data.toList).toArray⟩)∧Below w0.heap.size w0 w':=by
 have mixed:=mix
 have ho:=Er.once (sF:=sF) rfl (fun v hv=>by
  simp only [xs,List.mem_cons,List.not_mem_nil,or_false]at hv
  rcases hv with rfl|rfl|rfl|rfl<;>rfl) run (by decide) (fun h=>(facts h).1) h
 have hmf:∀(fn:Fn)(first cap:Array Value)(w:World),(Instr.makeFunc fn first cap).run Tryz.prog w= .ok (.func fn first cap) w:=fun _ _ _ _=>rfl
 clear h
 go_enter Tryz.func23,Tryz.ntmps23
 go_wp2_with (go_at_call 61;refine ho.mono ?_)
 rintro e w' ⟨rfl,w1,M,hm,hw',hb,hlN⟩
 obtain⟨_,S,hr,hF,hne,hlt⟩:=facts hm
 have hr':w'.cell? ⟨N,3,none⟩=some (.iface 184 (.pointer (some ⟨S.g.block,S.g.off,none⟩))):=hw'▸Er.dJ (.inr (show 2≤3 by decide)) hr
 have hF':Body w' S:=by
  have k:∀b,b≠N→∀o,w'.cell? ⟨b,o,none⟩=w1.cell? ⟨b,o,none⟩:=fun b hbN o=>by
   rw [hw',World.cell?_setCell_other _ ⟨N,0+1,none⟩ _ _ (fun h=>hbN (congrArg Addr.block h).symm),World.cell?_setCell_other _ ⟨N,0,none⟩ _ _ (fun h=>hbN (congrArg Addr.block h).symm),World.cell?_drew]
  exact hF.kF ⟨k _ hne.1,k _ hne.2.1,k _ hne.2.2.1,k _ hne.2.2.2.1,k _ hne.2.2.2.2.1,k _ hne.2.2.2.2.2⟩
 have hb':Below w0.heap.size w0 w':=hw'▸(hb.drew.setCell (p:=⟨N,0,none⟩) hlN _).setCell (p:=⟨N,0+1,none⟩) hlN _
 have hsz:w'.heap.size=w1.heap.size:=by rw [hw'];simp [World.setCell]
 have hS':S.all (fun x=>x<w'.heap.size):=by rw [hsz];exact hlt
 have hR:=replace S s hs w' hF' hS'
 clear hm hw' hb hF hF' ho hr hne hlt hS' hsz
 have hmt:∀(w:World),(method 366 184 (.pointer (some ⟨S.g.block,S.g.off,none⟩)) "Replace").run Tryz.prog w= .ok (197,.pointer (some ⟨S.g.block,S.g.off,none⟩)) w:=fun _=>by kernel_rfl
 go_wp2_with (go_at_call 197;refine hR.mono ?_)
 rintro e w2 ⟨rfl,hw2⟩
 have hw2:=hb'.trans (hw2.mono hb'.size)
 go_wp2
 go_ret
 exact⟨rfl,hw2⟩
set_option maxHeartbeats 2000000 in
theorem plain(s:ByteArray)(w:World)(hs:s.size≤4000):Calls Tryz.prog 27 #[.string s] w fun e w'=>e= .returned (.string ⟨(lL s.data.toList).toArray⟩)∧Below w.heap.size w w':=by
 have mixed:=mix
 have hn:=Nr.sO xs w.heap.size 4 w (w.alloc (.cells #[.string ⟨#[92,92]⟩,.string ⟨#[92]⟩,.string ⟨#[92,115]⟩,.string ⟨#[32]⟩] 9)) rfl (fun v hv=>by
  simp only [xs,List.mem_cons,List.not_mem_nil,or_false]at hv
  rcases hv with rfl|rfl|rfl|rfl<;>rfl) (Nr.Lz (Tx.aw _ _)) ((Below.refl _ _).alloc (Nat.le_refl _) _)
 go_enter Tryz.func27,Tryz.ntmps27
 go_wp2_with (go_at_call 60;refine hn.mono ?_)
 rintro e w1 ⟨N,rfl,hN⟩
 have hN:=Lib.hid hN
 go_wp2_with (go_at_call 23;refine(L4 s w w1 N hN.out hs).mono ?_)
 rintro e w2 ⟨rfl,h2⟩
 go_wp2
 go_ret
 exact⟨rfl,h2⟩
end Wg
end
section
open Go Go.az Go.RowKit
namespace Ph
def dv(c:UInt8):Nat:=if 48≤c.toNat∧c.toNat≤57 then c.toNat-48 else if 97≤bits .or .u8 c.toNat 32∧bits .or .u8 c.toNat 32≤122 then(bits .or .u8 c.toNat 32).toNat-87 else 99
def lM(acc:Nat):List UInt8→Option Nat
 | []=>some acc
 |c::l=>if dv c<16∧acc<1152921504606846976 then lM (acc*16+dv c) l else none
def R(o:Option Nat)(v:Value):Prop:=match o with
 |some n=>v= .tuple #[.int .u64 n,.nilIface]
 |none=>∃u c,(c=1∨c=2)∧v= .tuple #[.int .u64 u,.iface 159 (.int .i64 c)]
set_option maxHeartbeats 32000000 in
theorem inner(t:ByteArray)(hne:t.size≠0)(hmax:t.size≤9223372036854775806)(w:World):
  Calls Tryz.prog 68 #[.string t,.int .i64 16,.int .i64 64] w fun e w'=>(∃v,e= .returned v∧R (lM 0 t.data.toList) v)∧w'=Lib.bytesWorld w 5 t:=by
 have mixed:=mix
 have hemp:t.toList.isEmpty=false:=by
  rw [←decide_eq_emptyBytes]
  exact decide_eq_false (fun h=>hne (by rw [h];rfl))
 have hcv:=Lib.run_convert_string_bytes (P:=Tryz.prog) w 9 61 5 t (u:= .string) Tryz.underlying9 Tryz.underlying61 Tryz.underlying5
 have hB:∀j,j<t.size→(Lib.bytesWorld w 5 t).cell? ⟨w.heap.size,j,none⟩=some (.int .u8 (t.data.toList.getD j 0).toNat):=fun j hj=>Lib.bytesWorld_cell w 5 t j hj
 obtain⟨W1,hW1⟩:∃W1,W1=Lib.bytesWorld w 5 t:=⟨_,rfl⟩
 rw [←hW1]at hcv hB ⊢
 clear hW1
 obtain⟨bs,hL⟩:∃bs,bs=t.data.toList:=⟨_,rfl⟩
 have hLn:bs.length=t.size:=by rw [hL,Lib.size_eq]
 rw [←hL]at hB ⊢
 clear hL
 have hmv:IntKind.u64.wrap (IntKind.u64.wrap 18446744073709551616-1)=18446744073709551615:=by
  rw [IntKind.wrap_u64,IntKind.wrap_u64]
  decide
 go_enter Tryz.func68,Tryz.ntmps68
 go_wp2
 go_loop [12,13,101] (fun vu vn vi=>∃(k acc:Nat)(a:Int),vu= .bool false∧vn= .int .u64 a∧vi= .int .i64 k∧k≤t.size∧Hid (a=(acc:Int)∧acc<18446744073709551616∧lM 0 bs=lM acc (bs.drop k)))
  (fun _ _ vi=>t.size-(intOf vi).toNat)
 case atStart=>exact⟨0,0,0,rfl,rfl,rfl,by omega,rfl,by omega,rfl⟩
 case round=>
  obtain⟨k,acc,a,rfl,rfl,rfl,hk,hh⟩:=hrel
  obtain⟨ha,hacc,hdec⟩:=hh.out
  clear hh
  have a0:0≤a:=by omega
  have a1:a<18446744073709551616:=by omega
  by_cases hkn:k<t.size
  ·have hc:=hB k hkn
   have hdrop:bs.drop k=bs[k]'(by omega)::bs.drop (k+1):=List.drop_eq_getElem_cons (by omega)
   have hget:bs.getD k 0=bs[k]'(by omega):=by simp [List.getD,List.getElem?_eq_getElem (show k<bs.length by omega)]
   rw [hdrop]at hdec
   rw [hget]at hc
   generalize bs[k]'(by omega)=c at hc hdec
   have hc256:c.toNat<256:=c.toNat_lt
   clear hB hdrop hget
   by_cases hdig:48≤c.toNat∧c.toNat≤57
   ·have hdv:dv c=c.toNat-48:=by unfold dv;rw [if_pos hdig]
    obtain⟨hd0,hd1⟩:=hdig
    by_cases hcut:acc<1152921504606846976
    ·have hF:lM acc (c::bs.drop (k+1))=lM (acc*16+(c.toNat-48)) (bs.drop (k+1)):=by rw [lM,if_pos ⟨by omega,hcut⟩,hdv]
     have HN:Hid (a*16+((c.toNat:Int)-48)=((acc*16+(c.toNat-48):Nat):Int)∧acc*16+(c.toNat-48)<18446744073709551616∧lM 0 bs=lM (acc*16+(c.toNat-48)) (bs.drop (k+1))):=Lib.hid ⟨by omega,by omega,hdec.trans hF⟩
     have icut:a<1152921504606846976:=by omega
     have iov:a*16+((c.toNat:Int)-48)<18446744073709551616:=by omega
     clear hcut hacc hF hdec ha hdv
     go_wp2
     refine⟨⟨k+1,acc*16+(c.toNat-48),a*16+((c.toNat:Int)-48),rfl,(by first|rfl|(congr 1;omega)),(by first|rfl|(congr 1;omega)),by omega,HN⟩,by simp [intOf];omega⟩
    ·have hF:lM acc (c::bs.drop (k+1))=none:=by rw [lM,if_neg (fun h=>hcut h.2)]
     rw [hF]at hdec
     have HD:=Lib.hid hdec
     have icut:1152921504606846976≤a:=by omega
     clear hcut hacc hF ha hdv hdec
     go_wp2
     go_ret2
     exact⟨⟨_,rfl,by rw [HD.out];exact⟨_,1,.inl rfl,rfl⟩⟩,rfl⟩
   ·have hv0:=bits_lo_u8 .or (c.toNat:Int) 32
    have hv1:=bits_hi_u8 .or (c.toNat:Int) 32
    have hdv:dv c=if 97≤bits .or .u8 c.toNat 32∧bits .or .u8 c.toNat 32≤122 then(bits .or .u8 c.toNat 32).toNat-87 else 99:=by unfold dv;rw [if_neg hdig]
    have hlow:=fun w1=>Tryz.internal_strconv_lower c.toNat w1
    have hdig':¬(48≤(c.toNat:Int)∧(c.toNat:Int)≤57):=by omega
    have h95:(c.toNat:Int)=95→bits .or .u8 (c.toNat:Int) 32=127:=fun h=>by rw [h];decide
    clear hdig
    generalize bits .or .u8 (c.toNat:Int) 32=z at hv0 hv1 hdv hlow h95
    by_cases hz:97≤z∧z≤122
    ·rw [if_pos hz]at hdv
     have hne95:((c.toNat:Int)==95)=false:=by
      have:(c.toNat:Int)≠95:=fun h=>by have:=h95 h;omega
      simpa using this
     clear h95
     have hz1:=hz.1
     have hzz:=hz.2
     clear hz
     by_cases hz2:z≤102
     ·by_cases hcut:acc<1152921504606846976
      ·have hF:lM acc (c::bs.drop (k+1))=lM (acc*16+(z.toNat-87)) (bs.drop (k+1)):=by rw [lM,if_pos ⟨by omega,hcut⟩,hdv]
       have HN:Hid (a*16+(z-97+10)=((acc*16+(z.toNat-87):Nat):Int)∧acc*16+(z.toNat-87)<18446744073709551616∧lM 0 bs=lM (acc*16+(z.toNat-87)) (bs.drop (k+1))):=Lib.hid ⟨by omega,by omega,hdec.trans hF⟩
       have icut:a<1152921504606846976:=by omega
       have iov:a*16+(z-97+10)<18446744073709551616:=by omega
       clear hcut hacc hF hdec ha hdv
       go_wp2_with (go_at_call 100;refine(hlow _).mono ?_;rintro e w' ⟨rfl,rfl⟩)
       all_goals refine⟨⟨k+1,acc*16+(z.toNat-87),a*16+(z-97+10),rfl,(by first|rfl|(congr 1;omega)),(by first|rfl|(congr 1;omega)),by omega,HN⟩,by simp [intOf];omega⟩
      ·have hF:lM acc (c::bs.drop (k+1))=none:=by rw [lM,if_neg (fun h=>hcut h.2)]
       rw [hF]at hdec
       have HD:=Lib.hid hdec
       have icut:1152921504606846976≤a:=by omega
       clear hcut hacc hF ha hdv hdec
       go_wp2_with (go_at_call 100;refine(hlow _).mono ?_;rintro e w' ⟨rfl,rfl⟩)
       all_goals go_ret2
       all_goals exact⟨⟨_,rfl,by rw [HD.out];exact⟨_,1,.inl rfl,rfl⟩⟩,rfl⟩
     ·have hF:lM acc (c::bs.drop (k+1))=none:=by rw [lM,if_neg (fun h=>by have:=h.1;omega)]
      rw [hF]at hdec
      have HD:=Lib.hid hdec
      clear hacc hF ha hdv hdec
      go_wp2_with (go_at_call 100;refine(hlow _).mono ?_;rintro e w' ⟨rfl,rfl⟩)
      all_goals go_ret2
      all_goals exact⟨⟨_,rfl,by rw [HD.out];exact⟨_,2,.inr rfl,rfl⟩⟩,rfl⟩
    ·rw [if_neg hz]at hdv
     have hF:lM acc (c::bs.drop (k+1))=none:=by rw [lM,if_neg (fun h=>by have:=h.1;omega)]
     by_cases hc95:(c.toNat:Int)=95
     ·rw [hF]at hdec
      have HD:=Lib.hid hdec
      have hlow95:=fun w1=>Tryz.internal_strconv_lower 95 w1
      have hb:bits .or .u8 95 32=127:=by decide
      rw [hb]at hlow95
      clear hlow h95
      rw [hc95]at hc
      clear hacc hF ha hdv hdec hz
      go_wp2_with (go_at_call 100;refine(hlow95 _).mono ?_;rintro e w' ⟨rfl,rfl⟩)
      all_goals go_ret2
      all_goals exact⟨⟨_,rfl,by rw [HD.out];exact⟨_,2,.inr rfl,rfl⟩⟩,rfl⟩
     ·rw [hF]at hdec
      have HD:=Lib.hid hdec
      have hne95:((c.toNat:Int)==95)=false:=by simpa using hc95
      clear hc95 h95
      have hz:z<97∨122<z:=by omega
      clear hacc hF ha hdv hdec
      rcases hz with hz|hz
      all_goals go_wp2_with (go_at_call 100;refine(hlow _).mono ?_;rintro e w' ⟨rfl,rfl⟩)
      all_goals go_ret2
      all_goals exact⟨⟨_,rfl,by rw [HD.out];exact⟨_,2,.inr rfl,rfl⟩⟩,rfl⟩
  ·have hkk:k=t.size:=by omega
   subst hkk
   have hF:lM acc (bs.drop t.size)=some acc:=by rw [List.drop_eq_nil_of_le (by omega)];rfl
   rw [hF]at hdec
   subst ha
   have HD:=Lib.hid hdec
   clear hacc hF a0 a1 hdec
   go_wp2
   go_ret2
   exact⟨⟨_,rfl,by rw [HD.out];rfl⟩,rfl⟩
set_option maxHeartbeats 4000000 in
theorem parse(s:ByteArray)(hlim:s.size≤281474976710656)(w:World)(hv:Vl.cZ w):
  Calls Tryz.prog 26 #[.string s,.int .i64 16,.int .i64 64] w fun e w'=>(match(if s.size=0 then none else lM 0 s.data.toList)with
   |some n=>e= .returned (.tuple #[.int .u64 n,.nilIface])
   |none=>∃u t p,e= .returned (.tuple #[.int .u64 u,.iface t p]))∧Below w.heap.size w w':=by
 have mixed:=mix
 have hI:Calls Tryz.prog 68 #[.string s,.int .i64 16,.int .i64 64] w fun e w'=>(∃v,e= .returned v∧R (if s.size=0 then none else lM 0 s.data.toList) v)∧Below w.heap.size w w':=by
  by_cases h0:s.size=0
  ·rw [if_pos h0]
   have hs:s=⟨#[]⟩:=by
    apply ByteArray.ext
    exact Array.eq_empty_of_size_eq_zero h0
   subst hs
   go_enter Tryz.func68,Tryz.ntmps68
   go_wp2
   go_ret2
   exact⟨⟨_,rfl,_,2,.inr rfl,rfl⟩,Below.refl _ _⟩
  ·rw [if_neg h0]
   exact(inner s h0 (by omega) w).mono fun e w' ⟨g1,g2⟩=>⟨g1,g2▸Lib.bytesWorld_below _ _ _⟩
 generalize (if s.size=0 then none else lM 0 s.data.toList)=o at hI ⊢
 obtain⟨ts,ps,hS⟩:=hv.WJ
 obtain⟨tr,pr,hR⟩:=hv.WK
 have hsz:=hv.size
 clear hv
 cases o with
 |some n=>
  have hI:Calls Tryz.prog 68 #[.string s,.int .i64 16,.int .i64 64] w fun e w'=>e= .returned (.tuple #[.int .u64 n,.nilIface])∧Below w.heap.size w w':=hI.mono fun e w' ⟨⟨v,g1,g2⟩,g3⟩=>⟨g1.trans (congrArg _ g2),g3⟩
  go_enter Tryz.func26,Tryz.ntmps26
  go_wp2_with (go_at_call 68;refine hI.mono ?_)
  rintro e w1 ⟨rfl,hb⟩
  go_wp2
  go_ret2
  exact⟨rfl,hb⟩
 |none=>
  go_enter Tryz.func26,Tryz.ntmps26
  go_wp2_with (go_at_call 68;refine hI.mono ?_)
  rintro e w1 ⟨⟨v,rfl,u,c,hc,rfl⟩,hb⟩
  have hS1:w1.cell? ⟨1,0,none⟩=some (.iface ts ps):=(hb.cell (p:=⟨1,0,none⟩) (show 1<w.heap.size by omega)).trans hS
  have hR1:w1.cell? ⟨2,0,none⟩=some (.iface tr pr):=(hb.cell (p:=⟨2,0,none⟩) (show 2<w.heap.size by omega)).trans hR
  rcases hc with rfl|rfl
  ·go_wp2_with (go_at_call 67;refine(Tryz.strconv_toError_range _ s 16 64 _ w1 hlim hR1 (.inr ⟨_,_,rfl⟩)).mono ?_)
   rintro e w2 ⟨N,rfl,_,_,h3⟩
   have hb:=hb.trans (h3.mono hb.size)
   go_wp2
   go_ret2
   exact⟨⟨_,_,_,rfl⟩,hb⟩
  ·go_wp2_with (go_at_call 67;refine(Tryz.strconv_toError_syntax _ s 16 64 _ w1 hlim hS1 (.inr ⟨_,_,rfl⟩)).mono ?_)
   rintro e w2 ⟨N,rfl,_,_,h3⟩
   have hb:=hb.trans (h3.mono hb.size)
   go_wp2
   go_ret2
   exact⟨⟨_,_,_,rfl⟩,hb⟩
end Ph
end
section
open Go Go.az Go.RowKit
namespace Rv
open Vl L
theorem value(k m:Int)(b:Nat)(l:List UInt8)(hb:b<18446744073709551616)(h0: -9223372036854775808≤m)(h1:m≤9223372036854775807)(hl:l.length≤4000)(w:World)(hv:cZ w):
  Calls Tryz.prog 6 #[vV k m b ⟨⟨l⟩⟩] w fun e w'=>e= .returned (.tuple #[.string ⟨(if ga k m b l=true then lK k m b l else []).toArray⟩,.int .i64 (if ga k m b l=true then 0 else 8)])∧Below w.heap.size w w':=by
 have hc:=fun w1=>check k m b l hb (by omega) w1
 cases ho:ga k m b l with
 |false=>
  rw [ho]at hc
  exact Ir k m b 8 ⟨⟨l⟩⟩ w hc (by decide)
 |true=>
  rw [ho]at hc
  have hsz:(⟨⟨l⟩⟩:ByteArray).size≤4000:=hl
  by_cases k1:k=1
  ·subst k1
   exact Is m b ⟨⟨l⟩⟩ w hv hc h0 h1
  ·by_cases k2:k=2
   ·subst k2
    exact Iu m b ⟨⟨l⟩⟩ w hb hc
   ·have h:=It k m b ⟨⟨l⟩⟩ w k1 k2 hsz hc
    unfold lK
    rw [if_pos rfl,if_pos rfl,if_neg k1,if_neg k2]
    exact h
def jg:List UInt8→Option (Int×Int×Nat×List UInt8)
 | []=>none
 |c::l=>if c=110 then(match Lib.parseIntB 64 l with| .ok v=>some (1,v,0,[])|_=>none)
  else if c=102 then(match(if l=[]then none else Ph.lM 0 l)with|some b=>some (2,0,b,[])|none=>none)
  else if c=116 then some (3,0,0,Wg.lL l)else some (0,0,0,[])
def rd(s:List UInt8):Option (Int×Int×Nat×List UInt8):=match jg s with
 |some (k,m,b,l)=>if ga k m b l=true∧lK k m b l=s then some (k,m,b,l)else none
 |none=>none
def vO(o:Option (Int×Int×Nat×List UInt8)):Value:=match o with
 |some (k,m,b,l)=> .tuple #[vV k m b ⟨⟨l⟩⟩,.int .i64 0]
 |none=> .tuple #[vV 0 0 0 ⟨#[]⟩,.int .i64 12]
theorem rJ(s:ByteArray):(s.extract 1 s.size).data.toList=s.data.toList.drop 1:=Wg.CX s 1
set_option maxHeartbeats 2000000 in
theorem L5(w:World):Calls Tryz.prog 8 #[.string ⟨#[]⟩] w fun e w'=>e= .returned (.tuple #[vV 0 0 0 ⟨#[]⟩,.int .i64 12])∧Below w.heap.size w w':=by
 have mixed:=mix
 unfold vV
 go_enter Tryz.func8,Tryz.ntmps8
 go_wp2
 exact bodyPost_ret (by simp [results,Tryz.results8,go_sem]) rfl ⟨rfl,(Below.refl _ _).alloc (Nat.le_refl _) _⟩
theorem blocks(w:World)(w':World)(v:Value)(k m b:Value)(l:Value)(h:Below (w.heap.size+2) ((w.alloc (.cells #[.int .u8 0,.int .i64 0,.int .u64 0,.string ⟨#[]⟩] 24)).alloc (.cells #[k,m,b,l] 24)) w'):
  w'.heap[w.heap.size]? =some (.cells #[.int .u8 0,.int .i64 0,.int .u64 0,.string ⟨#[]⟩] 24 (0,0))∧w'.heap[w.heap.size+1]? =some (.cells #[k,m,b,l] 24 (0,0)):=by
 constructor
 ·rw [h.block _ (by omega),Below.heap_alloc _ _ _ (by simp)]
  exact Tx.aw _ _
 ·rw [h.block _ (by omega)]
  have:=Tx.aw (w.alloc (.cells #[.int .u8 0,.int .i64 0,.int .u64 0,.string ⟨#[]⟩] 24)) (.cells #[k,m,b,l] 24)
  simpa using this
set_option maxHeartbeats 2000000 in
theorem EJ(s:ByteArray)(hs:0<s.size)(h1:(s[0]).toNat≠110)(h2:(s[0]).toNat≠102)(h3:(s[0]).toNat≠116)(w:World):Calls Tryz.prog 8 #[.string s] w fun e w'=>e= .returned (.tuple #[vV 0 0 0 ⟨#[]⟩,.int .i64 12])∧Below w.heap.size w w':=by
 have mixed:=mix
 have hemp:s.toList.isEmpty=false:=by rw [Lk.cS s _ rfl];exact decide_eq_false (by omega)
 have n1:(((s[0]).toNat:Int)==110)=false:=by simpa using(fun h=>h1 (by omega):¬((s[0]).toNat:Int)=110)
 have n2:(((s[0]).toNat:Int)==102)=false:=by simpa using(fun h=>h2 (by omega):¬((s[0]).toNat:Int)=102)
 have n3:(((s[0]).toNat:Int)==116)=false:=by simpa using(fun h=>h3 (by omega):¬((s[0]).toNat:Int)=116)
 unfold vV
 go_enter Tryz.func8,Tryz.ntmps8
 go_wp2
 exact bodyPost_ret (by simp [results,Tryz.results8,go_sem]) rfl ⟨rfl,by go_grown;all_goals go_size⟩
theorem S8(w:World)(M:Nat)(x:Array Value)(hx:x.size=4)(h:w.heap[M]? =some (.cells x 24 (0,0)))(a b c d:Value):
  ((((w.setCell ⟨M,0,none⟩ a).setCell ⟨M,1,none⟩ b).setCell ⟨M,2,none⟩ c).setCell ⟨M,3,none⟩ d).heap[M]? =some (.cells #[a,b,c,d] 24 (0,0))∧
  (∀j,j≠M→((((w.setCell ⟨M,0,none⟩ a).setCell ⟨M,1,none⟩ b).setCell ⟨M,2,none⟩ c).setCell ⟨M,3,none⟩ d).heap[j]? =w.heap[j]?)∧
  ((((w.setCell ⟨M,0,none⟩ a).setCell ⟨M,1,none⟩ b).setCell ⟨M,2,none⟩ c).setCell ⟨M,3,none⟩ d).heap.size=w.heap.size∧
  Below M w ((((w.setCell ⟨M,0,none⟩ a).setCell ⟨M,1,none⟩ b).setCell ⟨M,2,none⟩ c).setCell ⟨M,3,none⟩ d):=by
 obtain⟨x⟩:=x
 match x,hx with
 | [x0,x1,x2,x3],_=>
  refine⟨?_,fun j hj=>?_,?_,?_⟩
  ·simp [World.setCell,Array.getElem?_modify,h]
  ·rw [Below.heap_setCell _ _ _ _ hj,Below.heap_setCell _ _ _ _ hj,Below.heap_setCell _ _ _ _ hj,Below.heap_setCell _ _ _ _ hj]
  ·simp [World.setCell]
  ·exact((((Below.refl _ _).setCell (p:=⟨M,0,none⟩) (Nat.le_refl _) _).setCell (p:=⟨M,1,none⟩) (Nat.le_refl _) _).setCell (p:=⟨M,2,none⟩) (Nat.le_refl _) _).setCell (p:=⟨M,3,none⟩) (Nat.le_refl _) _
theorem XK(s:ByteArray):s.toList=s.data.toList:=ByteArray.toList_eq s
theorem EK:∀(l:List UInt8)(acc b:Nat),acc<18446744073709551616→Ph.lM acc l=some b→b<18446744073709551616
 | [],acc,b,h,hp=>by cases hp;exact h
 |c::l,acc,b,h,hp=>by
  rw [Ph.lM]at hp
  split at hp
  ·rename_i h2
   exact EK l _ b (by omega) hp
  ·cases hp
set_option maxHeartbeats 4000000 in
theorem L6(s:ByteArray)(hs:0<s.size)(hl:s.size≤4000)(h1:(s[0]).toNat=116)(w:World)(hv:cZ w):Calls Tryz.prog 8 #[.string s] w fun e w'=>e= .returned (vO (if ga 3 0 0 (Wg.lL (s.data.toList.drop 1))=true∧lK 3 0 0 (Wg.lL (s.data.toList.drop 1))=s.data.toList then some (3,0,0,Wg.lL (s.data.toList.drop 1))else none))∧Below w.heap.size w w':=by
 have mixed:=mix
 have hemp:s.toList.isEmpty=false:=by rw [Lk.cS s _ rfl];exact decide_eq_false (by omega)
 have hle1:(1:Int)≤(s.size:Int):=by omega
 have hpl:=fun w1=>Wg.plain (s.extract 1 s.size) w1 (by simp;omega)
 rw [rJ]at hpl
 have hul:=Wg.lh (s.data.toList.drop 1)
 have hsl:s.data.toList.length=s.size:=rfl
 rw [List.length_drop,hsl]at hul
 obtain⟨u,qu⟩:∃u,u=Wg.lL (s.data.toList.drop 1):=⟨_,rfl⟩
 rw [←qu]at hpl hul ⊢
 clear qu
 have hres:∀(T:List UInt8)(C:Int),(T=if ga 3 0 0 u=true then lK 3 0 0 u else [])→(C=if ga 3 0 0 u=true then 0 else 8)→(C=8∧vO (if ga 3 0 0 u=true∧lK 3 0 0 u=s.data.toList then some (3,0,0,u)else none)=vO none)∨
   (C=0∧⟨T.toArray⟩=s∧vO (if ga 3 0 0 u=true∧lK 3 0 0 u=s.data.toList then some (3,0,0,u)else none)=vO (some (3,0,0,u)))∨
   (C=0∧(T==s.toList)=false∧vO (if ga 3 0 0 u=true∧lK 3 0 0 u=s.data.toList then some (3,0,0,u)else none)=vO none):=fun T C hT hC=>by
  cases ho:ga 3 0 0 u with
  |false=>rw [ho]at hC;exact .inl ⟨hC,by rw [if_neg (fun h=>by cases h.1)]⟩
  |true=>
   rw [ho]at hC hT
   by_cases he:lK 3 0 0 u=s.data.toList
   ·refine .inr (.inl ⟨hC,?_,by rw [if_pos ⟨rfl,he⟩]⟩)
    rw [hT,if_pos rfl,he]
   ·refine .inr (.inr ⟨hC,?_,by rw [if_neg (fun h=>he h.2)]⟩)
    rw [hT,if_pos rfl,XK]
    simpa using he
 generalize vO (if ga 3 0 0 u=true∧lK 3 0 0 u=s.data.toList then some (3,0,0,u)else none)=R at hres ⊢
 obtain⟨T,qT⟩:∃T,T=if ga 3 0 0 u=true then lK 3 0 0 u else []:=⟨_,rfl⟩
 obtain⟨C,qC⟩:∃C:Int,C=if ga 3 0 0 u=true then 0 else 8:=⟨_,rfl⟩
 have hres:=Lib.hid (hres T C qT qC)
 have jk:=fun w1 (hv1:cZ w1)=>value 3 0 0 u (by decide) (by decide) (by decide) (by omega) w1 hv1
 rw [←qT,←qC]at jk
 clear qT qC
 unfold vV at jk
 go_enter Tryz.func8,Tryz.ntmps8
 go_wp2_with (go_at_call 27;refine(hpl _).mono ?_)
 rintro e w1 ⟨rfl,hb1⟩
 have hb1:Below (w.heap.size+2) ((w.alloc (.cells #[.int .u8 0,.int .i64 0,.int .u64 0,.string ⟨#[]⟩] 24)).alloc (.cells #[.int .u8 0,.int .i64 0,.int .u64 0,.string ⟨#[]⟩] 24)) w1:=by simpa using hb1
 obtain⟨g1,g2⟩:=blocks w w1 undef _ _ _ _ hb1
 obtain⟨⟨c0,c1,c2,c3⟩,f0,f1,f2,f3⟩:=Tx.mD g2
 obtain⟨t1,t2,t3,t4⟩:=S8 w1 _ _ rfl g2 (.int .u8 3) (.int .i64 0) (.int .u64 0) (.string ⟨⟨u⟩⟩)
 have hb2:Below w.heap.size w w1:=(((Below.refl _ _).alloc (Nat.le_refl _) _).alloc (by simp) _).trans (hb1.mono (by omega))
 have hlt:w.heap.size+1<w1.heap.size:=by have:=hb1.size;simp at this;omega
 have t2:=(t2 w.heap.size (by omega)).trans g1
 have hb3:=hb2.trans (t4.mono (Nat.le_succ _))
 go_wp2_with (go_at_call 6;refine(jk _ (hv.below ?hbb)).mono ?_)
 case hbb=>exact hb3
 rintro e w2 ⟨rfl,hb4⟩
 have g1':=(hb4.block _ (by rw [t3];omega)).trans t2
 have g2':=(hb4.block _ (by rw [t3];omega)).trans t1
 have hb5:=hb3.trans (hb4.mono (by rw [t3];omega))
 obtain⟨⟨a0,a1,a2,a3⟩,e0,e1,e2,e3⟩:=Tx.mD g1'
 obtain⟨⟨d0,d1,d2,d3⟩,_,_,_,_⟩:=Tx.mD g2'
 clear t1 t2 t3 t4 g1 g2 g1' g2' hb3 hb4 hlt c0 c1 c2 c3 f0 f1 f2 f3 hv hb1 hb2
 have hE:∀(x0 x1 x2 x3:Value),Below w.heap.size w ((((w2.setCell ⟨w.heap.size,0,none⟩ x0).setCell ⟨w.heap.size,1,none⟩ x1).setCell ⟨w.heap.size,2,none⟩ x2).setCell ⟨w.heap.size,3,none⟩ x3):=fun x0 x1 x2 x3=>
  (((hb5.setCell (p:=⟨w.heap.size,0,none⟩) (Nat.le_refl _) _).setCell (p:=⟨w.heap.size,1,none⟩) (Nat.le_refl _) _).setCell (p:=⟨w.heap.size,2,none⟩) (Nat.le_refl _) _).setCell (p:=⟨w.heap.size,3,none⟩) (Nat.le_refl _) _
 rcases hres.out with⟨rfl,rfl⟩|⟨rfl,hts,rfl⟩|⟨rfl,hts,rfl⟩
 ·clear hres
  go_wp2
  exact bodyPost_ret (by simp [results,Tryz.results8,go_sem,a0,a1,a2,a3,vO,vV]) rfl ⟨rfl,hE _ _ _ _⟩
 ·clear hres
  rw [hts]
  clear hts
  go_wp2
  exact bodyPost_ret (by simp [results,Tryz.results8,go_sem,a0,a1,a2,a3,vO,vV]) rfl ⟨rfl,hE _ _ _ _⟩
 ·clear hres
  go_wp2
  exact bodyPost_ret (by simp [results,Tryz.results8,go_sem,a0,a1,a2,a3,vO,vV]) rfl ⟨rfl,hE _ _ _ _⟩
set_option maxHeartbeats 4000000 in
theorem L7(s:ByteArray)(hs:0<s.size)(hl:s.size≤4000)(h1:(s[0]).toNat=110){m:Int}(hp:Lib.parseIntB 64 (s.data.toList.drop 1)= .ok m)(w:World)(hv:cZ w):Calls Tryz.prog 8 #[.string s] w fun e w'=>e= .returned (vO (if ga 1 m 0 []=true∧lK 1 m 0 []=s.data.toList then some (1,m,0,[])else none))∧Below w.heap.size w w':=by
 have mixed:=mix
 have hemp:s.toList.isEmpty=false:=by rw [Lk.cS s _ rfl];exact decide_eq_false (by omega)
 have hle1:(1:Int)≤(s.size:Int):=by omega
 have hsl:s.data.toList.length=s.size:=rfl
 obtain⟨hm0,hm1⟩:=Lib.parseIntB_bounds hp
 have hpi:∀w1,Calls Tryz.prog 25 #[.string (s.extract 1 s.size),.int .i64 10,.int .i64 64] w1 fun e w'=>e= .returned (.tuple #[.int .i64 m,.nilIface])∧Below w1.heap.size w1 w':=fun w1=>(Tryz.strconv_ParseInt_10_at64_ok (s.extract 1 s.size) (by simp;omega) m (by rw [rJ];exact hp) w1).mono (fun e w' ⟨g1,g2⟩=>⟨g1,by
  rcases g2 with rfl|⟨t,rfl⟩
  ·exact Below.refl _ _
  ·exact Lib.bytesWorld_below _ _ _⟩)
 have hm0: -9223372036854775808≤m:=hm0
 have hm1:m≤9223372036854775807:=Int.le_of_lt_add_one hm1
 clear hp
 have hres:∀(T:List UInt8)(C:Int),(T=if ga 1 m 0 []=true then lK 1 m 0 []else [])→(C=if ga 1 m 0 []=true then 0 else 8)→(C=8∧vO (if ga 1 m 0 []=true∧lK 1 m 0 []=s.data.toList then some (1,m,0,[])else none)=vO none)∨
   (C=0∧⟨T.toArray⟩=s∧vO (if ga 1 m 0 []=true∧lK 1 m 0 []=s.data.toList then some (1,m,0,[])else none)=vO (some (1,m,0,[])))∨
   (C=0∧(T==s.toList)=false∧vO (if ga 1 m 0 []=true∧lK 1 m 0 []=s.data.toList then some (1,m,0,[])else none)=vO none):=fun T C hT hC=>by
  cases ho:ga 1 m 0 []with
  |false=>rw [ho]at hC;exact .inl ⟨hC,by rw [if_neg (fun h=>by cases h.1)]⟩
  |true=>
   rw [ho]at hC hT
   by_cases he:lK 1 m 0 []=s.data.toList
   ·refine .inr (.inl ⟨hC,?_,by rw [if_pos ⟨rfl,he⟩]⟩)
    rw [hT,if_pos rfl,he]
   ·refine .inr (.inr ⟨hC,?_,by rw [if_neg (fun h=>he h.2)]⟩)
    rw [hT,if_pos rfl,XK]
    simpa using he
 generalize vO (if ga 1 m 0 []=true∧lK 1 m 0 []=s.data.toList then some (1,m,0,[])else none)=R at hres ⊢
 obtain⟨T,qT⟩:∃T,T=if ga 1 m 0 []=true then lK 1 m 0 []else []:=⟨_,rfl⟩
 obtain⟨C,qC⟩:∃C:Int,C=if ga 1 m 0 []=true then 0 else 8:=⟨_,rfl⟩
 have hres:=Lib.hid (hres T C qT qC)
 have jk:=fun w1 (hv1:cZ w1)=>value 1 m 0 [] (by decide) hm0 hm1 (by decide) w1 hv1
 rw [←qT,←qC]at jk
 clear qT qC
 unfold vV at jk
 go_enter Tryz.func8,Tryz.ntmps8
 go_wp2_with (go_at_call 25;refine(hpi _).mono ?_)
 rintro e w1 ⟨rfl,hb1⟩
 have hb1:Below (w.heap.size+2) ((w.alloc (.cells #[.int .u8 0,.int .i64 0,.int .u64 0,.string ⟨#[]⟩] 24)).alloc (.cells #[.int .u8 0,.int .i64 0,.int .u64 0,.string ⟨#[]⟩] 24)) w1:=by simpa using hb1
 obtain⟨g1,g2⟩:=blocks w w1 undef _ _ _ _ hb1
 obtain⟨⟨c0,c1,c2,c3⟩,f0,f1,f2,f3⟩:=Tx.mD g2
 obtain⟨t1,t2,t3,t4⟩:=S8 w1 _ _ rfl g2 (.int .u8 1) (.int .i64 m) (.int .u64 0) (.string ⟨⟨[]⟩⟩)
 have hb2:Below w.heap.size w w1:=(((Below.refl _ _).alloc (Nat.le_refl _) _).alloc (by simp) _).trans (hb1.mono (by omega))
 have hlt:w.heap.size+1<w1.heap.size:=by have:=hb1.size;simp at this;omega
 have t2:=(t2 w.heap.size (by omega)).trans g1
 have hb3:=hb2.trans (t4.mono (Nat.le_succ _))
 go_wp2_with (go_at_call 6;refine(jk _ (hv.below ?hbb)).mono ?_)
 case hbb=>exact hb3
 rintro e w2 ⟨rfl,hb4⟩
 have g1':=(hb4.block _ (by rw [t3];omega)).trans t2
 have g2':=(hb4.block _ (by rw [t3];omega)).trans t1
 have hb5:=hb3.trans (hb4.mono (by rw [t3];omega))
 obtain⟨⟨a0,a1,a2,a3⟩,e0,e1,e2,e3⟩:=Tx.mD g1'
 obtain⟨⟨d0,d1,d2,d3⟩,_,_,_,_⟩:=Tx.mD g2'
 clear t1 t2 t3 t4 g1 g2 g1' g2' hb3 hb4 hlt c0 c1 c2 c3 f0 f1 f2 f3 hv hb1 hb2
 have hE:∀(x0 x1 x2 x3:Value),Below w.heap.size w ((((w2.setCell ⟨w.heap.size,0,none⟩ x0).setCell ⟨w.heap.size,1,none⟩ x1).setCell ⟨w.heap.size,2,none⟩ x2).setCell ⟨w.heap.size,3,none⟩ x3):=fun x0 x1 x2 x3=>
  (((hb5.setCell (p:=⟨w.heap.size,0,none⟩) (Nat.le_refl _) _).setCell (p:=⟨w.heap.size,1,none⟩) (Nat.le_refl _) _).setCell (p:=⟨w.heap.size,2,none⟩) (Nat.le_refl _) _).setCell (p:=⟨w.heap.size,3,none⟩) (Nat.le_refl _) _
 rcases hres.out with⟨rfl,rfl⟩|⟨rfl,hts,rfl⟩|⟨rfl,hts,rfl⟩
 ·clear hres
  go_wp2
  exact bodyPost_ret (by simp [results,Tryz.results8,go_sem,a0,a1,a2,a3,vO,vV]) rfl ⟨rfl,hE _ _ _ _⟩
 ·clear hres
  rw [hts]
  clear hts
  go_wp2
  exact bodyPost_ret (by simp [results,Tryz.results8,go_sem,a0,a1,a2,a3,vO,vV]) rfl ⟨rfl,hE _ _ _ _⟩
 ·clear hres
  go_wp2
  exact bodyPost_ret (by simp [results,Tryz.results8,go_sem,a0,a1,a2,a3,vO,vV]) rfl ⟨rfl,hE _ _ _ _⟩
set_option maxHeartbeats 4000000 in
theorem L8(s:ByteArray)(hs:0<s.size)(hl:s.size≤4000)(h1:(s[0]).toNat=102){b:Nat}(hp:¬(s.extract 1 s.size).size=0∧Ph.lM 0 (s.data.toList.drop 1)=some b)(w:World)(hv:cZ w):Calls Tryz.prog 8 #[.string s] w fun e w'=>e= .returned (vO (if ga 2 0 b []=true∧lK 2 0 b []=s.data.toList then some (2,0,b,[])else none))∧Below w.heap.size w w':=by
 have mixed:=mix
 have hemp:s.toList.isEmpty=false:=by rw [Lk.cS s _ rfl];exact decide_eq_false (by omega)
 have hle1:(1:Int)≤(s.size:Int):=by omega
 have hpu:=fun w1 (hv1:cZ w1)=>Ph.parse (s.extract 1 s.size) (by simp;omega) w1 hv1
 rw [rJ]at hpu
 have hz:¬(s.extract 1 s.size).size=0:=hp.1
 rw [if_neg hz,hp.2]at hpu
 have hpu:∀w1,cZ w1→Calls Tryz.prog 26 #[.string (s.extract 1 s.size),.int .i64 16,.int .i64 64] w1 fun e w'=>e= .returned (.tuple #[.int .u64 b,.nilIface])∧Below w1.heap.size w1 w':=hpu
 have hb64:b<18446744073709551616:=EK _ _ _ (by decide) hp.2
 clear hz hp
 have hv2:=hv.below (((Below.refl _ w).alloc (Nat.le_refl _) (.cells #[.int .u8 0,.int .i64 0,.int .u64 0,.string ⟨#[]⟩] 24)).alloc (by simp) (.cells #[.int .u8 0,.int .i64 0,.int .u64 0,.string ⟨#[]⟩] 24))
 have hres:∀(T:List UInt8)(C:Int),(T=if ga 2 0 b []=true then lK 2 0 b []else [])→(C=if ga 2 0 b []=true then 0 else 8)→(C=8∧vO (if ga 2 0 b []=true∧lK 2 0 b []=s.data.toList then some (2,0,b,[])else none)=vO none)∨
   (C=0∧⟨T.toArray⟩=s∧vO (if ga 2 0 b []=true∧lK 2 0 b []=s.data.toList then some (2,0,b,[])else none)=vO (some (2,0,b,[])))∨
   (C=0∧(T==s.toList)=false∧vO (if ga 2 0 b []=true∧lK 2 0 b []=s.data.toList then some (2,0,b,[])else none)=vO none):=fun T C hT hC=>by
  cases ho:ga 2 0 b []with
  |false=>rw [ho]at hC;exact .inl ⟨hC,by rw [if_neg (fun h=>by cases h.1)]⟩
  |true=>
   rw [ho]at hC hT
   by_cases he:lK 2 0 b []=s.data.toList
   ·refine .inr (.inl ⟨hC,?_,by rw [if_pos ⟨rfl,he⟩]⟩)
    rw [hT,if_pos rfl,he]
   ·refine .inr (.inr ⟨hC,?_,by rw [if_neg (fun h=>he h.2)]⟩)
    rw [hT,if_pos rfl,XK]
    simpa using he
 generalize vO (if ga 2 0 b []=true∧lK 2 0 b []=s.data.toList then some (2,0,b,[])else none)=R at hres ⊢
 obtain⟨T,qT⟩:∃T,T=if ga 2 0 b []=true then lK 2 0 b []else []:=⟨_,rfl⟩
 obtain⟨C,qC⟩:∃C:Int,C=if ga 2 0 b []=true then 0 else 8:=⟨_,rfl⟩
 have hres:=Lib.hid (hres T C qT qC)
 have jk:=fun w1 (hv1:cZ w1)=>value 2 0 b [] hb64 (by decide) (by decide) (by decide) w1 hv1
 rw [←qT,←qC]at jk
 clear qT qC
 unfold vV at jk
 go_enter Tryz.func8,Tryz.ntmps8
 go_wp2_with (go_at_call 26;refine(hpu _ hv2).mono ?_)
 rintro e w1 rfl hb1
 have hb1:Below (w.heap.size+2) ((w.alloc (.cells #[.int .u8 0,.int .i64 0,.int .u64 0,.string ⟨#[]⟩] 24)).alloc (.cells #[.int .u8 0,.int .i64 0,.int .u64 0,.string ⟨#[]⟩] 24)) w1:=by simpa using hb1
 obtain⟨g1,g2⟩:=blocks w w1 undef _ _ _ _ hb1
 obtain⟨⟨c0,c1,c2,c3⟩,f0,f1,f2,f3⟩:=Tx.mD g2
 obtain⟨t1,t2,t3,t4⟩:=S8 w1 _ _ rfl g2 (.int .u8 2) (.int .i64 0) (.int .u64 b) (.string ⟨⟨[]⟩⟩)
 have hb2:Below w.heap.size w w1:=(((Below.refl _ _).alloc (Nat.le_refl _) _).alloc (by simp) _).trans (hb1.mono (by omega))
 have hlt:w.heap.size+1<w1.heap.size:=by have:=hb1.size;simp at this;omega
 have t2:=(t2 w.heap.size (by omega)).trans g1
 have hb3:=hb2.trans (t4.mono (Nat.le_succ _))
 go_wp2_with (go_at_call 6;refine(jk _ (hv.below ?hbb)).mono ?_)
 case hbb=>exact hb3
 rintro e w2 ⟨rfl,hb4⟩
 have g1':=(hb4.block _ (by rw [t3];omega)).trans t2
 have g2':=(hb4.block _ (by rw [t3];omega)).trans t1
 have hb5:=hb3.trans (hb4.mono (by rw [t3];omega))
 obtain⟨⟨a0,a1,a2,a3⟩,e0,e1,e2,e3⟩:=Tx.mD g1'
 obtain⟨⟨d0,d1,d2,d3⟩,_,_,_,_⟩:=Tx.mD g2'
 clear t1 t2 t3 t4 g1 g2 g1' g2' hb3 hb4 hlt c0 c1 c2 c3 f0 f1 f2 f3 hv hb1 hb2
 have hE:∀(x0 x1 x2 x3:Value),Below w.heap.size w ((((w2.setCell ⟨w.heap.size,0,none⟩ x0).setCell ⟨w.heap.size,1,none⟩ x1).setCell ⟨w.heap.size,2,none⟩ x2).setCell ⟨w.heap.size,3,none⟩ x3):=fun x0 x1 x2 x3=>
  (((hb5.setCell (p:=⟨w.heap.size,0,none⟩) (Nat.le_refl _) _).setCell (p:=⟨w.heap.size,1,none⟩) (Nat.le_refl _) _).setCell (p:=⟨w.heap.size,2,none⟩) (Nat.le_refl _) _).setCell (p:=⟨w.heap.size,3,none⟩) (Nat.le_refl _) _
 rcases hres.out with⟨rfl,rfl⟩|⟨rfl,hts,rfl⟩|⟨rfl,hts,rfl⟩
 ·clear hres
  go_wp2
  exact bodyPost_ret (by simp [results,Tryz.results8,go_sem,a0,a1,a2,a3,vO,vV]) rfl ⟨rfl,hE _ _ _ _⟩
 ·clear hres
  rw [hts]
  clear hts
  go_wp2
  exact bodyPost_ret (by simp [results,Tryz.results8,go_sem,a0,a1,a2,a3,vO,vV]) rfl ⟨rfl,hE _ _ _ _⟩
 ·clear hres
  go_wp2
  exact bodyPost_ret (by simp [results,Tryz.results8,go_sem,a0,a1,a2,a3,vO,vV]) rfl ⟨rfl,hE _ _ _ _⟩
end Rv
end
section
open Go Go.RowKit
namespace Rg
section
variable {P:Program} {md:Region.Mode} {ops:Array Oper} {Q:Exit→Act→World→Prop} {fuel:Nat} {listed:Array Bool} {a:Act} {w:World}
structure Wp(P:Program)(o:Oper)(a:Act)(w:World)(K:Act→World→Prop)(Q:Exit→Act→World→Prop):Prop where
 wp:o.wp P a w K Q
structure Any(P:Program)(md:Region.Mode)(ops:Array Oper)(Q:Exit→Act→World→Prop)(fuel:Nat)(listed:Array Bool)(a:Act)(w:World):Prop where
 any:wpAny P md ops Q fuel listed a w
theorem start{id:Nat}(hm:P.follows .mixedOrders=true)(h:Any P .any ops Q ops.size (Array.replicate ops.size false) a w.drew):(Code.region id ops true).wp P Q a w:=wp_region_any hm h.any
theorem step(i:Nat){o:Oper}(ho:ops[i]? =some o)(hg:o.guard=none)(h:Wp P o a w (Any P md ops Q fuel (listed.setIfInBounds i true)) Q):wpOp P ops Q i (wpAny P md ops Q fuel (listed.setIfInBounds i true)) a w:=
 wpOp_step ho fun K hK=>by
  rw [if_pos (by simp [Region.wanted,hg])]
  exact Oper.wp_mono (fun a w h=>hK a w h.any) h.wp
theorem xl(i:Nat)(o:Oper)(hr:Region.ready md ops listed=[i])(ho:ops[i]? =some o)(hg:o.guard=none)
  (h:Wp P o a w (Any P md ops Q fuel (listed.setIfInBounds i true)) Q):Any P md ops Q (fuel+1) listed a w:=
 ⟨wpAny_all hr (by simp) fun j hj=>by
  rw [List.mem_singleton.1 hj]
  exact step i ho hg h⟩
theorem WV(i j:Nat)(o p:Oper)(hr:Region.ready md ops listed=[i,j])(ho:ops[i]? =some o)(hg:o.guard=none)(hp:ops[j]? =some p)(hgp:p.guard=none)
  (h:Wp P o a w (Any P md ops Q fuel (listed.setIfInBounds i true)) Q)
  (k:Wp P p a w (Any P md ops Q fuel (listed.setIfInBounds j true)) Q):Any P md ops Q (fuel+1) listed a w:=
 ⟨wpAny_all hr (by simp) fun q hq=>by
  rcases List.mem_cons.1 hq with rfl|hq
  ·exact step _ ho hg h
  ·rw [List.mem_singleton.1 hq]
   exact step _ hp hgp k⟩
theorem take(i:Nat)(v:Value){oi:Oper}(hi:ops[i]? =some oi)
  (hs:Region.noSelect ops=true) (hf:Region.free md ops listed i=true) (hr:(Region.ready md ops listed).contains i=true)
  (hQ:∀c a w,Q (.panic c) (a.put oi.dst v) w→Q (.panic c) a w) (hg:oi.guard=none) (hy:∀w,(execOp a.eval oi).run P w= .ok (.value v) w)
  (h:Any P md ops Q fuel (listed.setIfInBounds i true) (a.put oi.dst v) w):Any P md ops Q (fuel+1) listed a w:=
 ⟨wpAny_take hi hs hf hr hQ (.inl ⟨by simp [Region.wanted,hg],hy⟩) h.any⟩
theorem done(hr:Region.ready md ops listed=[])(h:Q .normal a w):Any P md ops Q fuel listed a w:=⟨wpAny_done hr h _⟩
variable {S:World→Prop}
structure nB(P:Program)(md:Region.Mode)(ops:Array Oper)(Q:Exit→Act→World→Prop)(S:World→Prop)(fuel:Nat)(listed:Array Bool)(a:Act)(w:World):Prop where
 any:wpAnyH P md ops Q S fuel listed a w
theorem EL(S:World→Prop){id:Nat}(hm:P.follows .mixedOrders=true)(h:nB P .any ops Q S ops.size (Array.replicate ops.size false) a w.drew):(Code.region id ops true).wp P Q a w:=wp_region_held hm h.any
theorem L9(i:Nat){o:Oper}(ho:ops[i]? =some o)(hg:o.guard=none)(h:Wp P o a w (fun a' w'=>S w'∧nB P md ops Q S fuel (listed.setIfInBounds i true) a' w') Q):
  wpOp P ops Q i (fun a' w'=>S w'∧wpAnyH P md ops Q S fuel (listed.setIfInBounds i true) a' w') a w:=
 wpOp_step ho fun K hK=>by
  rw [if_pos (by simp [Region.wanted,hg])]
  exact Oper.wp_mono (fun a w h=>hK a w ⟨h.1,h.2.any⟩) h.wp
theorem fI(i:Nat)(o:Oper)(hr:Region.ready md ops listed=[i])(ho:ops[i]? =some o)(hg:o.guard=none)
  (h:Wp P o a w (fun a' w'=>S w'∧nB P md ops Q S fuel (listed.setIfInBounds i true) a' w') Q):nB P md ops Q S (fuel+1) listed a w:=
 ⟨wpAnyH_all hr (by simp) fun j hj=>by
  rw [List.mem_singleton.1 hj]
  exact L9 i ho hg h⟩
theorem GD(i j:Nat)(o p:Oper)(hr:Region.ready md ops listed=[i,j])(ho:ops[i]? =some o)(hg:o.guard=none)(hp:ops[j]? =some p)(hgp:p.guard=none)
  (h:Wp P o a w (fun a' w'=>S w'∧nB P md ops Q S fuel (listed.setIfInBounds i true) a' w') Q)
  (k:Wp P p a w (fun a' w'=>S w'∧nB P md ops Q S fuel (listed.setIfInBounds j true) a' w') Q):nB P md ops Q S (fuel+1) listed a w:=
 ⟨wpAnyH_all hr (by simp) fun q hq=>by
  rcases List.mem_cons.1 hq with rfl|hq
  ·exact L9 _ ho hg h
  ·rw [List.mem_singleton.1 hq]
   exact L9 _ hp hgp k⟩
theorem bE(i:Nat)(v:Value){oi:Oper}(hi:ops[i]? =some oi)
  (hs:Region.noSelect ops=true) (hf:Region.free md ops listed i=true) (hr:(Region.ready md ops listed).contains i=true)
  (hQ:∀c a w,Q (.panic c) (a.put oi.dst v) w→Q (.panic c) a w) (hg:oi.guard=none) (hS:S w) (hy:∀w,S w→(execOp a.eval oi).run P w= .ok (.value v) w)
  (h:nB P md ops Q S fuel (listed.setIfInBounds i true) (a.put oi.dst v) w):nB P md ops Q S (fuel+1) listed a w:=
 ⟨wpAnyH_take hi hs hf hr hQ (.inl ⟨by simp [Region.wanted,hg],hy⟩) hS h.any⟩
theorem yA(hr:Region.ready md ops listed=[])(h:Q .normal a w):nB P md ops Q S fuel listed a w:=⟨wpAnyH_done hr h _⟩
theorem kv{o:Oper}(T:TypeId)(hT:∀w,(isAgg T).run P w= .ok false w)(x:Operand)(ho:o.op= .load T x)(ad:Addr)(hx:a.eval x= .pointer (some ad))(v:Value)(hc:w.cell? ad=some v):
  (execOp a.eval o).run P w= .ok (.value v) w:=by
 unfold execOp
 simp only [ho,hx,Instr.loadAt,Instr.sureAddr,loadVar,Sem.run_bind,Sem.run_pure,Result.andThen_ok,hT w]
 simp [go_sem,hc]
theorem wu{o:Oper}(T:TypeId)(n:Nat)(hT:∀w,(isAgg T).run P w= .ok true w∧(sizeOf T).run P w= .ok n w)(x:Operand)(ho:o.op= .load T x)(ad:Addr)(hx:a.eval x= .pointer (some ad))(cs:List Value)(hlen:cs.length=n)
  (hc:∀j v,cs[j]? =some v→w.cell? (ad.add j)=some v):(execOp a.eval o).run P w= .ok (.value (.agg ⟨cs⟩)) w:=by
 have h1:=run_loadCells_list (P:=P) w ad cs hc
 rw [hlen]at h1
 unfold execOp
 simp only [ho,Instr.loadAt,loadVar,hx,Instr.sureAddr,Sem.run_bind,Sem.run_pure,Result.andThen_ok,(hT w).1,(hT w).2,h1,if_true]
theorem qo{o:Oper}(T:TypeId)(ps:Array (Nat×Operand))(ho:o.op= .build T ps)(vs:Array (Nat×Value))(hv:ps.map (fun(i,x)=>(i,a.eval x))=vs)(c:Value)(h:(Instr.build T vs).run P w= .ok c w):(execOp a.eval o).run P w= .ok (.value c) w:=by
 unfold execOp
 simp only [ho,hv,Sem.run_bind,h,Result.andThen_ok,Sem.run_pure]
variable {o:Oper} {K:Act→World→Prop}
theorem qp(T:TypeId)(hT:∀w,(isAgg T).run P w= .ok false w)(x:Operand)(ho:o.op= .load T x)(ad:Addr)(hx:a.eval x= .pointer (some ad))(v:Value)(hc:w.cell? ad=some v)
  (h:K (a.put o.dst v) w):Wp P o a w K Q:=by
 constructor
 unfold Oper.wp execOp
 simp only [ho,hx,Instr.loadAt,Instr.sureAddr,loadVar,Sem.run_bind,Sem.run_pure,Result.andThen_ok,hT w]
 simp [go_sem,hc]
 exact h
theorem GF(off:Nat):∀(vs:List Value)(k:Nat)(cs:Array Value),off+k+vs.length≤cs.size→
  ((vs.zipIdx k).foldl (fun(cs:Array Value)(p:Value×Nat)=>cs.setIfInBounds (off+p.2) p.1) cs).toList=cs.toList.take (off+k)++vs++cs.toList.drop (off+k+vs.length)
 | [],k,cs,h=>by simp
 |v::vs,k,cs,h=>by
  have ih:=GF off vs (k+1) (cs.setIfInBounds (off+k) v) (by simp at h ⊢;omega)
  simp only [List.zipIdx_cons,List.foldl_cons]
  rw [ih]
  simp only [Array.toList_setIfInBounds,List.length_cons]at h ⊢
  have hlt:off+k<cs.toList.length:=by simp;omega
  have h2:cs.toList.length=cs.size:=Array.length_toList
  rw [List.take_set,List.drop_set,if_pos (by omega),show off+(k+1)=off+k+1 by omega,List.take_succ_eq_append_getElem hlt,List.set_append,if_neg (by simp;omega),List.length_take,show min (off+k) cs.toList.length=off+k by omega,Nat.sub_self,show off+k+(vs.length+1)=off+k+1+vs.length by omega]
  simp
theorem wv(pl:Nat→Option (Nat×Nat))(cs:Array Value):Instr.fill pl cs []=some cs:=rfl
theorem gA(pl:Nat→Option (Nat×Nat))(cs:Array Value)(i:Nat)(v:Value)(rest:List (Nat×Value))(off n:Nat)(hp:pl i=some (off,n))(hv:v.cells.size=n)(hb:off+n≤cs.size):
  Instr.fill pl cs ((i,v)::rest)=Instr.fill pl ⟨cs.toList.take off++v.cells.toList++cs.toList.drop (off+n)⟩ rest:=by
 have hf:¬((v.cells.size≠n||off+v.cells.size>cs.size)=true):=by
  simp [hv]
  omega
 rw [Instr.fill,hp]
 simp only
 rw [if_neg hf]
 congr 1
 apply Array.ext'
 rw [←Array.foldl_toList,Array.toList_zipIdx]
 have:=GF off v.cells.toList 0 cs (by simp [hv];omega)
 simp only [Nat.add_zero,Array.length_toList,hv]at this
 exact this
theorem Ma(cs z:Array Value)(v:Value)(hv:v.cells.size=cs.size):Instr.fill (fun i=>some (i*cs.size,cs.size)) cs [(0,v)]=some v.cells:=by
 rw [gA (fun i=>some (i*cs.size,cs.size)) cs 0 v [] 0 cs.size (by simp) hv (by simp),wv]
 congr 1
 apply Array.ext'
 simp
theorem bs(t e:TypeId)(n:Nat)(hu:P.underlying t=some (.slice e))(hi:(P.info? e).map (fun i=>(i.zero.map (·.cells.size),i.size))=some (some n,n))(hn:0<n)(hn2:n≤1000)(x:Operand)(ho:o.op= .buildSlice t 1 #[(0,x)])
  (cs:List Value) (hx:a.eval x= .agg ⟨cs⟩) (hl:cs.length=n) (h:K (a.put o.dst (.slice (some ⟨w.heap.size,0,none⟩) 1 1)) (w.alloc (.cells ⟨cs⟩ e))):Wp P o a w K Q:=by
 constructor
 cases hie:P.info? e with
 |none=>simp [hie]at hi
 |some ie=>
  simp only [hie,Option.map_some,Option.some.injEq,Prod.mk.injEq]at hi
  obtain⟨h1,h2⟩:=hi
  cases hz:ie.zero with
  |none=>simp [hz]at h1
  |some z=>
   simp only [hz,Option.map_some,Option.some.injEq]at h1
   refine wp_buildSlice t e 1 #[(0,x)] ho ⟨cs⟩ ie z hu hie hz (by rw [h2];omega) (by rw [h2];omega) ?_ h
   have hs:((Array.range (1*ie.size)).map (z.cells[· % z.cells.size]!)).size=ie.size:=by simp
   have:=Ma ((Array.range (1*ie.size)).map (z.cells[· % z.cells.size]!)) #[] (.agg ⟨cs⟩) (by rw [hs,h2,←hl];rfl)
   rw [hs]at this
   simp only [List.map_toArray,List.map_cons,List.map_nil,hx]
   exact this
theorem build(T:TypeId)(z:Value)(fields:Array Field)(places:Array (Nat×Nat))(hz:∀w,(zeroValue T).run P w= .ok z w)(hu:P.underlying T=some (.struct fields))
  (hp:∀w,(fields.mapM fun f=>do pure (f.offset,←sizeOf f.type):Sem (Array (Nat×Nat))).run P w= .ok places w) (parts:Array (Nat×Value)) (cells:Array Value) (hf:Instr.fill (places[·]?) z.cells parts.toList=some cells) (w:World):
  (Instr.build T parts).run P w= .ok (.agg cells) w:=by
 unfold Instr.build
 simp only [Sem.run_bind,hz w,Result.andThen_ok,run_underlying hu]
 rw [hp w]
 simp [hf]
theorem sW(f:FuncId)(args:Array Operand)(ats:Array TypeId)(ho:o.op= .call {callee:= .value (.func f),args:=args,argTypes:=ats})(vs:Array Value)(hv:args.map a.eval=vs)
  (ef:∀args w,(callFunc f args).run P w= .ok (.enter f args) w) {R:Ending→World→Prop} (hc:Calls P f vs w R) (hR:∀e w',R e w'→∃v,e= .returned v∧K (a.put o.dst v) w'):Wp P o a w K Q:=by
 constructor
 have hrun:(execOp a.eval o).run P w= .ok (.enter f vs) w:=by
  unfold execOp
  simp only [ho,resolve,invoke,Sem.run_bind,Sem.run_pure,Result.andThen_ok,hv]
  simp [go_sem,Act.eval,ef]
 unfold Oper.wp
 rw [hrun,Oper.upon_enter]
 refine hc.mono fun e w'' hh=>?_
 obtain⟨v,rfl,h⟩:=hR e w'' hh
 exact h
theorem app(s x:Operand)(t:TypeId)
  (ho:o.op= .call {callee:= .builtin .append,args:= #[s,x],argTypes:= #[t,t]})
  (base:Nat) (e:TypeId) (i:TypeInfo) (z:Value) (size bytes:Nat) (ht:P.underlying t=some (.slice e)) (hi:P.info? e=some i) (hz:i.zero=some z)
  (hsize:i.size=size) (hby:i.bytes=bytes) (hzs:z.cells.size=size) (hsz:0<size)
  (v:Value) (n:Nat) (xs:List Value) (hs:a.eval s=v) (hown:w.ownsRow base e size v n xs)
  (ad:Addr) (m c:Nat) (news:List Value) (hx:a.eval x= .slice (some ad) m c) (hl:news.length=m*size) (hnews:∀j u,news[j]? =some u→w.cell? (ad.add j)=some u) (h1:∀u∈news,u.oneCell'=true)
  (h63:n+m≤maxLen) (hbytes:(n+m)*bytes≤140737488355328) (hbase:base≤w.heap.size)
  (h:∀v' w',w'.ownsRow base e size v' (n+m) (xs++news)→w.grownBy w' v.ownBlock→K (a.put o.dst v') w'):Wp P o a w K Q:=
 ⟨wp_append_own w s x t ho base e i z size bytes ht hi hz hsize hby hzs hsz v n xs hs hown ad m c news hx hl hnews h1 h63 hbytes hbase fun v' w' h2 h3 _=>h v' w' h2 h3⟩
theorem iq(T:TypeId)(hT:∀w,(sizeOf T).run P w= .ok 1 w)(x y:Operand)(ho:o.op= .store T x y)(ad:Addr)(hx:a.eval x= .pointer (some ad))(p:Option Addr)(l c:Nat)(hy:a.eval y= .slice p l c)(u:Value)(hc:w.cell? ad=some u)(hf:w.frozen? ad=false)
  (h:K (a.put o.dst undef) (w.setCell ad (.slice p l c))):Wp P o a w K Q:=by
 constructor
 unfold Oper.wp execOp
 simp only [ho,hx,hy,Instr.storeAt,storeVar,Instr.sureAddr,Sem.run_bind,Sem.run_pure,Result.andThen_ok,hT w]
 simp [go_sem,hc,hf,storeCells]
 exact h
end
end Rg
end
end Go.Proofs.YtdmpneafeadbbaaGreatDoor
end
