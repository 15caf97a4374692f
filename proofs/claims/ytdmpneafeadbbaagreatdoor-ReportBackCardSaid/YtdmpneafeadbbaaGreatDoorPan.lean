/- ReportBack returns true, whatever the state and the text: its card (the last file), and what it leans on. Conditions: none. -/
import Derived.Test.YtdmpneafeadbbaaGreatDoorPam
import Derived.WideShapes
import Derived.Deep.DeepHandedRow
import Derived.SevenTiedAt
import Derived.Stop.LaidErr
import Derived.Shelf.Vars
import Derived.Test.YtdmpneafeadbbaaGreatDoorCards
import Derived.Test.YtdmpneafeadbbaaGreatDoorTie
set_option maxRecDepth 100000
set_option linter.unusedVariables false
set_option linter.unusedSimpArgs false
noncomputable section
namespace Go.Proofs.YtdmpneafeadbbaaGreatDoor
section
open Go Go.az
namespace L
def AQ(n:Nat)(x0:Int)(x1:Bool)(x2:El t44):Option
 ((Unit×Int×Unit)×Unit×El t44×Unit⊕
  (Unit×Unit)×Unit×El t44×Unit⊕Bool×Unit):=
 iff x1 (some (Sum.inr (Sum.inr (true,()))))
 (some (Sum.inl (((),aP Go.IntKind.i64 (Int.add x0 (Int.ofNat 1)),()),(),x2,())))
def jR(n:Nat)(x0:Int)(x1:El t44):Option
 ((Unit×Int×Unit)×Unit×El t44×Unit⊕
  (Unit×Unit)×Unit×El t44×Unit⊕Bool×Unit):=
 iff (!bD (Int.ofNat (List.length x1.1)) x0)
 (iff (bD x0 (Int.ofNat 100))
  (andThen
   (andThen (an x0 (List.length x1.1)) fun(j3:Nat)=>
    andThen (aU j3 x1.1) fun(y4:El t95)=>
     iff (!bD (Int.ofNat (aY y4.1)) (Int.ofNat 100))
      (some (Sum.inl (((),x0,true,()),(),x1,())))
      (andThen (an x0 (List.length x1.1)) fun(j5:Nat)=>
       andThen (aU j5 x1.1) fun(y6:El t95)=>
        some
         (Sum.inl
          (((),x0,!bD (Int.ofNat (aY y6.2.1.2.2.2.1)) (Int.ofNat 100),()),(),x1,
           ()))))
   (cq fun(x:(Unit×Int×Bool×Unit)×Unit×El t44×Unit)=>
    AQ n x.1.2.1 x.1.2.2.1 x.2.2.1))
  (some (Sum.inr (Sum.inl (((),()),(),x1,())))))
 (some (Sum.inr (Sum.inl (((),()),(),x1,()))))
def Um(n:Nat)(x0:El t44):Option (Bool×Unit):=
 some (!bD (Int.ofNat (List.length x0.1)) (Int.ofNat 100),())
def Y1(n:Nat)(x0:El t44):Option (Bool×Unit):=
 andThen
 (cp
  (fun(x:(Unit×Int×Unit)×Unit×El t44×Unit)=>
   jR n x.1.2.1 x.2.2.1)
  n (((),Int.ofNat 0,()),(),x0,()))
 (cq fun(x:(Unit×Unit)×Unit×El t44×Unit)=>
  Um n x.2.2.1)
def Xk(n:Nat)(a:bg [t44]):Option (bg [t4]):=Y1 n (a.1)
def Y2:dU:=⟨[(2,Cut.mk [(1,bj.at 0 0),(3,bj.d (Ty.int Go.IntKind.i64))] []
 [(0,bj.d t44)] 1)],[(6,Cut.mk [(1,bj.at 0 0)] [] [(0,bj.d t44)] 1),(5,Cut.mk [(1,bj.at 0 0),(3,bj.d (Ty.int Go.IntKind.i64)),(33,bj.d Ty.bool)] []
 [(0,bj.d t44)] 1)],[]⟩
def Un(n:Nat):bu:=⟨38,[t44],[t4],Xk n,false,none⟩
theorem Uo(n:Nat):aJ Tryz.prog fg 38 (bu.spec (Un n)):=
 bc (tab:=[]) (fn:=Tryz.f38) Y2 n mix Tb.bT (fun _ h=>by cases h) Tryz.func38 rfl (by kernel_rfl) (fun h=>by cases h) (fun⟨x0,_⟩=>by kernel_rfl)
def jS(n:Nat)(x0:Int)(x1:El t41):Option
 ((Unit×Int×Unit)×Unit×El t41×Unit⊕
  (Unit×Unit)×Unit×El t41×Unit⊕Bool×Unit):=
 iff (!bD (Int.ofNat (List.length x1.1)) x0)
 (iff (bD x0 (Int.ofNat 100))
  (andThen (an x0 (List.length x1.1)) fun(j3:Nat)=>
   andThen (aU j3 x1.1) fun(y4:El t93)=>
    iff (!bD (Int.ofNat (aY y4.1)) (Int.ofNat 100)) (some (Sum.inr (Sum.inr (true,()))))
     (some
      (Sum.inl (((),aP Go.IntKind.i64 (Int.add x0 (Int.ofNat 1)),()),(),x1,()))))
  (some (Sum.inr (Sum.inl (((),()),(),x1,())))))
 (some (Sum.inr (Sum.inl (((),()),(),x1,()))))
def Up(n:Nat)(x0:El t41):Option (Bool×Unit):=
 some (!bD (Int.ofNat (List.length x0.1)) (Int.ofNat 100),())
def Y3(n:Nat)(x0:El t41):Option (Bool×Unit):=
 andThen
 (cp
  (fun(x:(Unit×Int×Unit)×Unit×El t41×Unit)=>
   jS n x.1.2.1 x.2.2.1)
  n (((),Int.ofNat 0,()),(),x0,()))
 (cq fun(x:(Unit×Unit)×Unit×El t41×Unit)=>
  Up n x.2.2.1)
def Xl(n:Nat)(a:bg [t41]):Option (bg [t4]):=Y3 n (a.1)
def Y4:dU:=⟨[(2,Cut.mk [(1,bj.at 0 0),(3,bj.d (Ty.int Go.IntKind.i64))] []
 [(0,bj.d t41)] 1)],[(6,Cut.mk [(1,bj.at 0 0)] [] [(0,bj.d t41)] 1)],[]⟩
def Uq(n:Nat):bu:=⟨37,[t41],[t4],Xl n,false,none⟩
theorem Ur(n:Nat):aJ Tryz.prog fg 37 (bu.spec (Uq n)):=
 bc (tab:=[]) (fn:=Tryz.f37) Y4 n mix Tb.bT (fun _ h=>by cases h) Tryz.func37 rfl (by kernel_rfl) (fun h=>by cases h) (fun⟨x0,_⟩=>by kernel_rfl)
def Y5(n:Nat)(x0:El t47):Option (Bool×Unit):=
 andThen (Xl n (x0.2.1,()))
 fun(y1:bg (bu.B (Uq n)))=>
 iff y1.1 (some (true,()))
  (andThen (Xk n (x0.2.2.1,()))
   fun(y2:bg (bu.B (Un n)))=>
   iff y2.1 (some (true,()))
    (some (!bD (Int.ofNat (List.length x0.2.2.2.1)) (Int.ofNat 100),())))
def Z0(n:Nat)(a:bg [t47]):Option (bg [t4]):=Y5 n (a.1)
def Y6:dU:=⟨[],[],[]⟩
def Y7(n:Nat):bu:=⟨13,[t47],[t4],Z0 n,false,none⟩
theorem Us(n:Nat):aJ Tryz.prog fg 13 (bu.spec (Y7 n)):=
 bc (tab:=[Un n,Uq n]) (fn:=Tryz.f13) Y6 n mix Tb.bT (Cons.all (.cons (Uo n) (.cons (Ur n) .nil))) Tryz.func13 rfl (by kernel_rfl) (fun h=>by cases h) (fun⟨x0,_⟩=>by kernel_rfl)
def rX(n:Nat)(x0:List (El t91))(x1:List (El t91))(x2:Int):Option
 ((List (El t91)×List (El t91)×Int×Unit)×
   Unit×Unit⊕
  Unit×Unit×Unit⊕Bool×Unit):=
 iff (!bD (Int.ofNat (List.length x0)) x2)
 (andThen (an x2 (List.length x0)) fun(j5:Nat)=>
  andThen (aU j5 x0) fun(y6:El t90)=>
   andThen (an x2 (List.length x1)) fun(j7:Nat)=>
    andThen (aU j7 x1) fun(y8:El t90)=>
     iff (!gV (Ty.arr 32 (Ty.int Go.IntKind.u8)) y6 y8) (some (Sum.inr (Sum.inr (false,()))))
      (some (Sum.inl ((x0,x1,aP Go.IntKind.i64 (Int.add x2 (Int.ofNat 1)),()),(),()))))
 (some (Sum.inr (Sum.inl ((),(),()))))
def Ut(n:Nat):Option (Bool×Unit):=
 some (true,())
def Uu(n:Nat)(x0:List (El t91))(x1:List (El t91)):Option (Bool×Unit):=
 iff (!cB (Int.ofNat (List.length x0)) (Int.ofNat (List.length x1))) (some (false,()))
 (andThen
  (cp
   (fun
     (x:
      (List (El t91)×List (El t91)×Int×Unit)×
       Unit×Unit)=>
    rX n x.1.1 x.1.2.1 x.1.2.2.1)
   n ((x0,x1,Int.ofNat 0,()),(),()))
  (cq fun(x:Unit×Unit×Unit)=>Ut n))
def XN(n:Nat)(a:bg [t45,t45]):Option (bg [t4]):=Uu n (a.1) (a.2.1)
def Y8:dU:=⟨[(4,Cut.mk
 [(0,bj.d (Ty.slice t91)),
  (1,bj.d (Ty.slice t91)),(5,bj.d (Ty.int Go.IntKind.i64))]
 [] [] 0)],[(8,Cut.mk [] [] [] 0)],[]⟩
def Uv(n:Nat):bu:=⟨57,[t45,t45],[t4],XN n,false,none⟩
theorem Uw(n:Nat):aJ Tryz.prog fg 57 (bu.spec (Uv n)):=
 bc (tab:=[]) (fn:=Tryz.f57) Y8 n mix Tb.bT (fun _ h=>by cases h) Tryz.func57 rfl (by kernel_rfl) (fun h=>by cases h) (fun⟨x0,x1,_⟩=>by kernel_rfl)
def rY(n:Nat)(x0:Int)(x1:El t44)(x2:El t44):Option
 ((Unit×Unit×Int×Unit)×
   Unit×El t44×El t44×Unit⊕
  Unit×Unit×Unit⊕Bool×Unit):=
 iff (!bD (Int.ofNat (List.length x1.1)) x0)
 (andThen (an x0 (List.length x1.1)) fun(j5:Nat)=>
  andThen (aU j5 x1.1) fun(y6:El t95)=>
   andThen (an x0 (List.length x2.1)) fun(j7:Nat)=>
    andThen (aU j7 x2.1) fun(y8:El t95)=>
     iff
      (!gV
        (Ty.pair Ty.str
         (Ty.pair
          (Ty.pair (Ty.int Go.IntKind.u8)
           (Ty.pair (Ty.int Go.IntKind.i64)
            (Ty.pair (Ty.int Go.IntKind.u64) (Ty.pair Ty.str Ty.unit))))
          (Ty.pair (Ty.int Go.IntKind.u64) (Ty.pair (Ty.arr 32 (Ty.int Go.IntKind.u8)) Ty.unit))))
        y6 y8)
      (some (Sum.inr (Sum.inr (false,()))))
      (some
       (Sum.inl
        (((),(),aP Go.IntKind.i64 (Int.add x0 (Int.ofNat 1)),()),(),x1,x2,
         ()))))
 (some (Sum.inr (Sum.inl ((),(),()))))
def Ux(n:Nat):Option (Bool×Unit):=
 some (true,())
def Uy(n:Nat)(x0:El t44)(x1:El t44):Option (Bool×Unit):=
 iff (!cB (Int.ofNat (List.length x0.1)) (Int.ofNat (List.length x1.1))) (some (false,()))
 (andThen
  (cp
   (fun
     (x:
      (Unit×Unit×Int×Unit)×
       Unit×El t44×El t44×Unit)=>
    rY n x.1.2.2.1 x.2.2.1 x.2.2.2.1)
   n (((),(),Int.ofNat 0,()),(),x0,x1,()))
  (cq fun(x:Unit×Unit×Unit)=>Ux n))
def XO(n:Nat)(a:bg [t44,t44]):Option (bg [t4]):=Uy n (a.1) (a.2.1)
def Y9:dU:=⟨[(4,Cut.mk [(2,bj.at 0 0),(3,bj.at 1 0),(5,bj.d (Ty.int Go.IntKind.i64))] []
 [(0,bj.d t44),(1,bj.d t44)] 2)],[(8,Cut.mk [] [] [] 0)],[]⟩
def Uz(n:Nat):bu:=⟨56,[t44,t44],[t4],XO n,false,none⟩
theorem UA(n:Nat):aJ Tryz.prog fg 56 (bu.spec (Uz n)):=
 bc (tab:=[]) (fn:=Tryz.f56) Y9 n mix Tb.bT (fun _ h=>by cases h) Tryz.func56 rfl (by kernel_rfl) (fun h=>by cases h) (fun⟨x0,x1,_⟩=>by kernel_rfl)
def rZ(n:Nat)(x0:Int)(x1:El t41)(x2:El t41):Option
 ((Unit×Unit×Int×Unit)×
   Unit×El t41×El t41×Unit⊕
  Unit×Unit×Unit⊕Bool×Unit):=
 iff (!bD (Int.ofNat (List.length x1.1)) x0)
 (andThen (an x0 (List.length x1.1)) fun(j5:Nat)=>
  andThen (aU j5 x1.1) fun(y6:El t93)=>
   andThen (an x0 (List.length x2.1)) fun(j7:Nat)=>
    andThen (aU j7 x2.1) fun(y8:El t93)=>
     iff
      (!gV (Ty.pair Ty.str (Ty.pair (Ty.arr 32 (Ty.int Go.IntKind.u8)) Ty.unit)) y6 y8)
      (some (Sum.inr (Sum.inr (false,()))))
      (some
       (Sum.inl
        (((),(),aP Go.IntKind.i64 (Int.add x0 (Int.ofNat 1)),()),(),x1,x2,
         ()))))
 (some (Sum.inr (Sum.inl ((),(),()))))
def UB(n:Nat):Option (Bool×Unit):=
 some (true,())
def UC(n:Nat)(x0:El t41)(x1:El t41):Option (Bool×Unit):=
 iff (!cB (Int.ofNat (List.length x0.1)) (Int.ofNat (List.length x1.1))) (some (false,()))
 (andThen
  (cp
   (fun
     (x:
      (Unit×Unit×Int×Unit)×
       Unit×El t41×El t41×Unit)=>
    rZ n x.1.2.2.1 x.2.2.1 x.2.2.2.1)
   n (((),(),Int.ofNat 0,()),(),x0,x1,()))
  (cq fun(x:Unit×Unit×Unit)=>UB n))
def XP(n:Nat)(a:bg [t41,t41]):Option (bg [t4]):=UC n (a.1) (a.2.1)
def Za:dU:=⟨[(4,Cut.mk [(2,bj.at 0 0),(3,bj.at 1 0),(5,bj.d (Ty.int Go.IntKind.i64))] []
 [(0,bj.d t41),(1,bj.d t41)] 2)],[(8,Cut.mk [] [] [] 0)],[]⟩
def UD(n:Nat):bu:=⟨55,[t41,t41],[t4],XP n,false,none⟩
theorem UE(n:Nat):aJ Tryz.prog fg 55 (bu.spec (UD n)):=
 bc (tab:=[]) (fn:=Tryz.f55) Za n mix Tb.bT (fun _ h=>by cases h) Tryz.func55 rfl (by kernel_rfl) (fun h=>by cases h) (fun⟨x0,x1,_⟩=>by kernel_rfl)
def UF(n:Nat)(x0:El t47)(x1:El t47):Option (Bool×Unit):=
 iff (cB x0.1 x1.1)
 (andThen (XP n (x0.2.1,x1.2.1,()))
  fun(y2:bg (bu.B (UD n)))=>
  iff y2.1
   (andThen (XO n (x0.2.2.1,x1.2.2.1,()))
    fun(y3:bg (bu.B (Uz n)))=>
    iff y3.1
     (andThen (XN n (x0.2.2.2.1,x1.2.2.2.1,()))
      fun(y4:bg (bu.B (Uv n)))=>some (y4.1,()))
     (some (false,())))
   (some (false,())))
 (some (false,()))
def Z1(n:Nat)(a:bg [t47,t47]):Option (bg [t4]):=UF n (a.1) (a.2.1)
def Zb:dU:=⟨[],[],[]⟩
def Zc(n:Nat):bu:=⟨18,[t47,t47],[t4],Z1 n,false,none⟩
theorem UG(n:Nat):aJ Tryz.prog fg 18 (bu.spec (Zc n)):=
 bc (tab:=[Uv n,Uz n,UD n]) (fn:=Tryz.f18) Zb n mix Tb.bT (Cons.all (.cons (Uw n) (.cons (UA n) (.cons (UE n) .nil)))) Tryz.func18 rfl (by kernel_rfl) (fun h=>by cases h) (fun⟨x0,x1,_⟩=>by kernel_rfl)
def E9(n:Nat)(x0:List UInt8)(x1:Int)(x2:Int)(x3:Option (List (List UInt8))):Option
 ((List UInt8×Int×Unit×Int×Int×Unit)×(Option (List (List UInt8))×Unit)×Unit⊕
  (List UInt8×Int×Unit×Int×Int×Unit)×(Option (List (List UInt8))×Unit)×Unit⊕
   (Unit×Unit)×(Option (List (List UInt8))×Unit)×Unit⊕List (List UInt8)×Unit):=
 iff
 (Nat.beq 1 1&&lI true true&&
  (lI (fp x3) (fp (iff (fp x3) none (some (aM x3))))&&
   (fp (iff (fp x3) none (some (aM x3)))||
    Nat.beq (List.length (aM x3))
     (List.length (aM (iff (fp x3) none (some (aM x3))))))))
 (some
  (Sum.inl
   ((x0,x1,(),aP Go.IntKind.i64 (Int.add x2 (Int.ofNat 1)),x2,()),
    (iff (fp x3) none (some (aM x3)),()),())))
 none
def r7(n:Nat)(x0:List UInt8)(x1:Int)(x2:Int)(x3:Int)(x4:Bool)(x5:Option (List (List UInt8))):Option
 ((List UInt8×Int×Unit×Int×Int×Unit)×(Option (List (List UInt8))×Unit)×Unit⊕
  (List UInt8×Int×Unit×Int×Int×Unit)×(Option (List (List UInt8))×Unit)×Unit⊕
   (Unit×Unit)×(Option (List (List UInt8))×Unit)×Unit⊕List (List UInt8)×Unit):=
 iff x4
 (andThen
  (andThen (oQ x3 (aY x0)) fun(j15:Nat)=>
   andThen (oQ x2 j15) fun(j16:Nat)=>
    iff (fp x5)
     (some (Sum.inl ((x0,x1,(),x3,()),(some [nv j16 j15 x0],()),())))
     (iff
      (!fp x5&&
       (Nat.beq 1 1&&Nat.beq (Nat.add (Nat.mul (List.length (aM x5)) 1) 0) (Nat.mul (List.length (aM x5)) 1)))
      (iff (Nat.ble (Nat.mul (xg (List.length (aM x5)) 1) 17) 1000000000&&true&&true)
       (iff
        (Nat.beq 1 1&&
         (!fp
            (some
             (Oa (Prod.fst (Prod.snd (0,t9,true))) (aM x5)
              [nv j16 j15 x0]))&&
          Nat.beq (xg (List.length (aM x5)) 1)
           (List.length
            (aM
             (some
              (Oa (Prod.fst (Prod.snd (0,t9,true))) (aM x5)
               [nv j16 j15 x0]))))))
        (some
         (Sum.inl
          ((x0,x1,(),x3,()),
           (some
             (Oa (Prod.fst (Prod.snd (0,t9,true))) (aM x5)
              [nv j16 j15 x0]),
            ()),
           ())))
        none)
       none)
      none))
  (cq fun(x:(List UInt8×Int×Unit×Int×Unit)×(Option (List (List UInt8))×Unit)×Unit)=>
   E9 n x.1.1 x.1.2.1 x.1.2.2.2.1
    x.2.1.1))
 (iff
  (Nat.beq 1 1&&lI true true&&
   (lI (fp x5) (fp (iff (fp x5) none (some (aM x5))))&&
    (fp (iff (fp x5) none (some (aM x5)))||
     Nat.beq (List.length (aM x5))
      (List.length (aM (iff (fp x5) none (some (aM x5))))))))
  (some
   (Sum.inl
    ((x0,x1,(),x2,x3,()),
     (iff (fp x5) none (some (aM x5)),()),())))
  none)
def Fa(n:Nat)(x0:List UInt8)(x1:Int)(x2:Int)(x3:Int)(x4:Option (List (List UInt8))):Option
 ((List UInt8×Int×Unit×Int×Int×Unit)×(Option (List (List UInt8))×Unit)×Unit⊕
  (Unit×Unit)×(Option (List (List UInt8))×Unit)×Unit⊕List (List UInt8)×Unit):=
 iff
 (Nat.beq 1 1&&lI true true&&
  (lI (fp x4) (fp (iff (fp x4) none (some (aM x4))))&&
   (fp (iff (fp x4) none (some (aM x4)))||
    Nat.beq (List.length (aM x4))
     (List.length (aM (iff (fp x4) none (some (aM x4))))))))
 (some
  (Sum.inl
   ((x0,x1,(),x2,aP Go.IntKind.i64 (Int.add x3 (Int.ofNat 1)),()),
    (iff (fp x4) none (some (aM x4)),()),())))
 none
def mJ(n:Nat)(x0:List UInt8)(x1:Int)(x2:Int)(x3:Int)(x4:Option (List (List UInt8))):Option
 ((List UInt8×Int×Unit×Int×Int×Unit)×(Option (List (List UInt8))×Unit)×Unit⊕
  (Unit×Unit)×(Option (List (List UInt8))×Unit)×Unit⊕List (List UInt8)×Unit):=
 iff (bD x3 (Int.ofNat (aY x0)))
 (andThen
  (andThen
   (iff (cB x3 (Int.ofNat (aY x0)))
    (iff
     (Nat.beq 1 1&&lI true true&&
      (lI (fp x4) (fp (iff (fp x4) none (some (aM x4))))&&
       (fp (iff (fp x4) none (some (aM x4)))||
        Nat.beq (List.length (aM x4))
         (List.length (aM (iff (fp x4) none (some (aM x4))))))))
     (some
      (Sum.inl
       ((x0,x1,(),x2,x3,true,()),
        (iff (fp x4) none (some (aM x4)),()),())))
     none)
    (andThen (an x3 (aY x0)) fun(j7:Nat)=>
     andThen (aU j7 x0) fun(y8:UInt8)=>
      iff
       (Nat.beq 1 1&&lI true true&&
        (lI (fp x4) (fp (iff (fp x4) none (some (aM x4))))&&
         (fp (iff (fp x4) none (some (aM x4)))||
          Nat.beq (List.length (aM x4))
           (List.length (aM (iff (fp x4) none (some (aM x4))))))))
       (some
        (Sum.inl
         ((x0,x1,(),x2,x3,cB (Int.ofNat y8.toNat) x1,()),
          (iff (fp x4) none (some (aM x4)),()),())))
       none))
   (cq fun(x:(List UInt8×Int×Unit×Int×Int×Bool×Unit)×(Option (List (List UInt8))×Unit)×Unit)=>
    r7 n x.1.1 x.1.2.1 x.1.2.2.2.1
     x.1.2.2.2.2.1
     x.1.2.2.2.2.2.1 x.2.1.1))
  (cq fun(x:(List UInt8×Int×Unit×Int×Int×Unit)×(Option (List (List UInt8))×Unit)×Unit)=>
   Fa n x.1.1 x.1.2.1 x.1.2.2.2.1
    x.1.2.2.2.2.1 x.2.1.1))
 (andThen
  (iff
   (Nat.beq 1 1&&lI true true&&
    (lI (fp x4) (fp (iff (fp x4) none (some (aM x4))))&&
     (fp (iff (fp x4) none (some (aM x4)))||
      Nat.beq (List.length (aM x4))
       (List.length (aM (iff (fp x4) none (some (aM x4))))))))
   (some
    (Sum.inl (((),()),(iff (fp x4) none (some (aM x4)),()),())))
   none)
  fun(r:(Unit×Unit)×(Option (List (List UInt8))×Unit)×Unit⊕List (List UInt8)×Unit)=>some (Sum.inr r))
def Fb(n:Nat)(x0:Option (List (List UInt8))):Option (List (List UInt8)×Unit):=
 iff
 (lI true true&&
  (fp x0|| !fp x0&&Nat.beq (List.length (aM x0)) (List.length (aM x0))))
 (some (iff (fp x0) [] (aM x0),())) none
def Zd(n:Nat)(x0:List UInt8)(x1:Int):Option (List (List UInt8)×Unit):=
 andThen
 (cp
  (fun(x:(List UInt8×Int×Unit×Int×Int×Unit)×(Option (List (List UInt8))×Unit)×Unit)=>
   mJ n x.1.1 x.1.2.1 x.1.2.2.2.1
    x.1.2.2.2.2.1 x.2.1.1)
  n ((x0,x1,(),Int.ofNat 0,Int.ofNat 0,()),(none,()),()))
 (cq fun(x:(Unit×Unit)×(Option (List (List UInt8))×Unit)×Unit)=>Fb n x.2.1.1)
def Ze(n:Nat)(a:bg [t9,t5]):Option (bg [t55]):=Zd n (a.1) (a.2.1)
def Zf:dU:=⟨[(4,Cut.mk
 [(0,bj.d Ty.str),(1,bj.d (Ty.int Go.IntKind.u8)),(5,bj.own 0),
  (6,bj.d (Ty.int Go.IntKind.i64)),(7,bj.d (Ty.int Go.IntKind.i64))]
 [(0,t9,true)] [] 1)],[(9,Cut.mk [(5,bj.own 0)] [(0,t9,true)] [] 1),(5,Cut.mk
 [(0,bj.d Ty.str),(1,bj.d (Ty.int Go.IntKind.u8)),(5,bj.own 0),
  (6,bj.d (Ty.int Go.IntKind.i64)),(7,bj.d (Ty.int Go.IntKind.i64))]
 [(0,t9,true)] [] 1),(7,Cut.mk
 [(0,bj.d Ty.str),(1,bj.d (Ty.int Go.IntKind.u8)),(5,bj.own 0),
  (6,bj.d (Ty.int Go.IntKind.i64)),(7,bj.d (Ty.int Go.IntKind.i64)),(24,bj.d Ty.bool)]
 [(0,t9,true)] [] 1),(8,Cut.mk
 [(0,bj.d Ty.str),(1,bj.d (Ty.int Go.IntKind.u8)),(5,bj.own 0),
  (7,bj.d (Ty.int Go.IntKind.i64))]
 [(0,t9,true)] [] 1)],[]⟩
def Zg(n:Nat):bu:=⟨19,[t9,t5],[t55],Ze n,false,none⟩
theorem UH(n:Nat):aJ Tryz.prog fg 19 (bu.spec (Zg n)):=
 bc (tab:=[]) (fn:=Tryz.f19) Zf n mix Tb.bT (fun _ h=>by cases h) Tryz.func19 rfl (by kernel_rfl) (fun h=>by cases h) (fun⟨x0,x1,_⟩=>by kernel_rfl)
def kT(y:El t93):List UInt8:=y.1
def kR(y:El t95):List UInt8:=y.1
def xR(y:El t95):List UInt8:=y.2.1.2.2.2.1
theorem UI(n:Nat)(hn:102≤n)(l:List (El t93)):∃b:Bool,(Xl n ((l,()),()):Option (Bool×Unit))=some (b,())∧(b=false→l.length≤100∧∀y∈l,(kT y).length≤100):=by
 obtain⟨r,h1,h2⟩:=rB (body:=fun(x:(Unit×Int×Unit)×Unit×El t41×Unit)=>jS n x.1.2.1 x.2.2.1)
  (Post:=fun r=>r= .inr (true,())∨(r= .inl (((),()),(),(l,()),())∧∀(j:Nat) y,l[j]? =some y→j<101→(kT y).length≤100))
  (fun m x=>∃k:Nat,x=(((),Int.ofNat k,()),(),(l,()),())∧k+m=101∧∀(j:Nat) y,l[j]? =some y→j<k→(kT y).length≤100)
  (fun m x ⟨k,hx,hm,hj⟩=>by
   subst hx
   show(∃x' m',jS n (Int.ofNat k) (l,())=some (.inl x')∧_)∨∃r,jS n (Int.ofNat k) (l,())=some (.inr r)∧_
   by_cases h1:k<l.length
   ·by_cases h2:k≤100
    ·have hy:l[k]? =some (l[k]):=List.getElem?_eq_getElem h1
     have e:jS n (Int.ofNat k) (l,())=some (if(kT l[k]).length≤100 then .inl (((),Int.ofNat (k+1),()),(),(l,()),())else .inr (.inr (true,()))):=by
      unfold jS
      show iff (!bD (Int.ofNat l.length) (Int.ofNat k)) _ _=_
      rw [dO (br h1),fH (le_true h2)]
      show andThen (an (Int.ofNat k) l.length) _=_
      rw [aV h1]
      show andThen (aU k l) _=_
      rw [bf hy]
      show iff (!bD (Int.ofNat (aY (kT l[k]))) (Int.ofNat 100)) _ _=_
      rw [aC,cX (by omega)]
      by_cases h3:(kT l[k]).length≤100
      ·rw [dI (le_true h3),if_pos h3]
      ·rw [dO (br (by omega)),if_neg h3]
     rw [e]
     by_cases h3:(kT l[k]).length≤100
     ·rw [if_pos h3]
      refine .inl ⟨_,m-1,rfl,by omega,k+1,rfl,by omega,fun j y hj' hjk=>?_⟩
      by_cases hjk':j=k
      ·subst hjk'
       rw [hy]at hj'
       cases hj'
       exact h3
      ·exact hj j y hj' (by omega)
     ·rw [if_neg h3]
      exact .inr ⟨_,rfl,.inl rfl⟩
    ·have e:jS n (Int.ofNat k) (l,())=some (.inr (.inl (((),()),(),(l,()),()))):=by
      unfold jS
      show iff (!bD (Int.ofNat l.length) (Int.ofNat k)) _ _=_
      rw [dO (br h1),p8 (br (by omega))]
     rw [e]
     exact .inr ⟨_,rfl,.inr ⟨rfl,fun j y h5 h6=>hj j y h5 (by omega)⟩⟩
   ·have e:jS n (Int.ofNat k) (l,())=some (.inr (.inl (((),()),(),(l,()),()))):=by
     unfold jS
     show iff (!bD (Int.ofNat l.length) (Int.ofNat k)) _ _=_
     rw [dI (le_true (by omega))]
    rw [e]
    refine .inr ⟨_,rfl,.inr ⟨rfl,fun j y h5 h6=>hj j y h5 ?_⟩⟩
    have:=(List.getElem?_eq_some_iff.1 h5).1
    omega)
  n 101 (((),Int.ofNat 0,()),(),(l,()),()) ⟨0,rfl,by omega,fun j y _ h=>absurd h (by omega)⟩ (by omega)
 have h3:(Xl n ((l,()),()):Option (Bool×Unit))=_:=aF h1
 rcases h2 with rfl|⟨rfl,h2⟩
 ·exact⟨true,h3,fun h=>by cases h⟩
 ·refine⟨!decide (l.length≤100),h3.trans ?_,fun h=>?_⟩
  ·show some (!bD (Int.ofNat l.length) (Int.ofNat 100),())=_
   rw [gJ]
  ·have hl:l.length≤100:=by simpa using h
   refine⟨hl,fun y hy=>?_⟩
   obtain⟨j,hj,rfl⟩:=List.getElem_of_mem hy
   exact h2 j _ (List.getElem?_eq_getElem hj) (by omega)
theorem UJ(n:Nat)(hn:102≤n)(l:List (El t95)):∃b:Bool,(Xk n ((l,()),()):Option (Bool×Unit))=some (b,())∧(b=false→l.length≤100∧∀y∈l,(kR y).length≤100∧(xR y).length≤100):=by
 obtain⟨r,h1,h2⟩:=rB (body:=fun(x:(Unit×Int×Unit)×Unit×El t44×Unit)=>jR n x.1.2.1 x.2.2.1)
  (Post:=fun r=>r= .inr (true,())∨(r= .inl (((),()),(),(l,()),())∧∀(j:Nat) y,l[j]? =some y→j<101→(kR y).length≤100∧(xR y).length≤100))
  (fun m x=>∃k:Nat,x=(((),Int.ofNat k,()),(),(l,()),())∧k+m=101∧∀(j:Nat) y,l[j]? =some y→j<k→(kR y).length≤100∧(xR y).length≤100)
  (fun m x ⟨k,hx,hm,hj⟩=>by
   subst hx
   have hjn:∀b:Bool,k≤100→AQ n (Int.ofNat k) b (l,())=some (if b=true then .inr (.inr (true,()))else .inl (((),Int.ofNat (k+1),()),(),(l,()),())):=fun b hk=>by
    unfold AQ
    rw [cX (by omega)]
    cases b<;>rfl
   show(∃x' m',jR n (Int.ofNat k) (l,())=some (.inl x')∧_)∨∃r,jR n (Int.ofNat k) (l,())=some (.inr r)∧_
   by_cases h1:k<l.length
   ·by_cases h2:k≤100
    ·have hy:l[k]? =some (l[k]):=List.getElem?_eq_getElem h1
     have e:jR n (Int.ofNat k) (l,())=some (if(kR l[k]).length≤100∧(xR l[k]).length≤100 then .inl (((),Int.ofNat (k+1),()),(),(l,()),())else .inr (.inr (true,()))):=by
      unfold jR
      show iff (!bD (Int.ofNat l.length) (Int.ofNat k)) _ _=_
      rw [dO (br h1),fH (le_true h2)]
      show andThen (andThen (an (Int.ofNat k) l.length) _) _=_
      rw [aV h1]
      show andThen (andThen (aU k l) _) _=_
      rw [bf hy]
      show andThen (iff (!bD (Int.ofNat (aY (kR l[k]))) (Int.ofNat 100)) _ _) _=_
      rw [aC]
      by_cases h3:(kR l[k]).length≤100
      ·rw [dI (le_true h3)]
       show andThen (andThen (aU k l) _) _=_
       rw [bf hy]
       show AQ n (Int.ofNat k) (!bD (Int.ofNat (aY (xR l[k]))) (Int.ofNat 100)) (l,())=_
       rw [aC,gJ,hjn _ h2]
       by_cases h4:(xR l[k]).length≤100
       ·rw [decide_eq_true h4,if_pos (⟨h3,h4⟩:(kR l[k]).length≤100∧(xR l[k]).length≤100)];rfl
       ·rw [decide_eq_false h4,if_neg (fun h:(kR l[k]).length≤100∧(xR l[k]).length≤100=>h4 h.2)];rfl
      ·rw [dO (br (by omega)),if_neg (fun h:(kR l[k]).length≤100∧(xR l[k]).length≤100=>h3 h.1)]
       exact hjn true h2
     rw [e]
     by_cases h3:(kR l[k]).length≤100∧(xR l[k]).length≤100
     ·rw [if_pos h3]
      refine .inl ⟨_,m-1,rfl,by omega,k+1,rfl,by omega,fun j y hj' hjk=>?_⟩
      by_cases hjk':j=k
      ·subst hjk'
       rw [hy]at hj'
       cases hj'
       exact h3
      ·exact hj j y hj' (by omega)
     ·rw [if_neg h3]
      exact .inr ⟨_,rfl,.inl rfl⟩
    ·have e:jR n (Int.ofNat k) (l,())=some (.inr (.inl (((),()),(),(l,()),()))):=by
      unfold jR
      show iff (!bD (Int.ofNat l.length) (Int.ofNat k)) _ _=_
      rw [dO (br h1),p8 (br (by omega))]
     rw [e]
     exact .inr ⟨_,rfl,.inr ⟨rfl,fun j y h5 h6=>hj j y h5 (by omega)⟩⟩
   ·have e:jR n (Int.ofNat k) (l,())=some (.inr (.inl (((),()),(),(l,()),()))):=by
     unfold jR
     show iff (!bD (Int.ofNat l.length) (Int.ofNat k)) _ _=_
     rw [dI (le_true (by omega))]
    rw [e]
    refine .inr ⟨_,rfl,.inr ⟨rfl,fun j y h5 h6=>hj j y h5 ?_⟩⟩
    have:=(List.getElem?_eq_some_iff.1 h5).1
    omega)
  n 101 (((),Int.ofNat 0,()),(),(l,()),()) ⟨0,rfl,by omega,fun j y _ h=>absurd h (by omega)⟩ (by omega)
 have h3:(Xk n ((l,()),()):Option (Bool×Unit))=_:=aF h1
 rcases h2 with rfl|⟨rfl,h2⟩
 ·exact⟨true,h3,fun h=>by cases h⟩
 ·refine⟨!decide (l.length≤100),h3.trans ?_,fun h=>?_⟩
  ·show some (!bD (Int.ofNat l.length) (Int.ofNat 100),())=_
   rw [gJ]
  ·have hl:l.length≤100:=by simpa using h
   refine⟨hl,fun y hy=>?_⟩
   obtain⟨j,hj,rfl⟩:=List.getElem_of_mem hy
   exact h2 j _ (List.getElem?_eq_getElem hj) (by omega)
theorem UK(n:Nat)(hn:102≤n)(x:El t47):∃b:Bool,(Z0 n (x,()):Option (Bool×Unit))=some (b,())∧
  (b=false→((lN x).length≤100∧∀y∈lN x,(kT y).length≤100)∧((kx x).length≤100∧∀y∈kx x,(kR y).length≤100∧(xR y).length≤100)∧(bC x).length≤100):=by
 obtain⟨b1,h1,g1⟩:=UI n hn (lN x)
 obtain⟨b2,h2,g2⟩:=UJ n hn (kx x)
 have h1:(Xl n (x.2.1,()):Option (Bool×Unit))=some (b1,()):=h1
 have h2:(Xk n (x.2.2.1,()):Option (Bool×Unit))=some (b2,()):=h2
 cases b1
 ·cases b2
  ·refine⟨!decide ((bC x).length≤100),(aF h1).trans ((aF h2).trans ?_),fun h=>⟨g1 rfl,g2 rfl,by simpa using h⟩⟩
   show some (!bD (Int.ofNat (bC x).length) (Int.ofNat 100),())=_
   rw [gJ]
  ·exact⟨true,(aF h1).trans (aF h2),fun h=>by cases h⟩
 ·exact⟨true,aF h1,fun h=>by cases h⟩
theorem M3(n:Nat)(l:List (El t93))(hl:l.length<n)(hs:l.length≤1000000):(XP n ((l,()),(l,()),()):Option (Bool×Unit))=some (true,()):=by
 have hf:=oD (body:=fun(x:(Unit×Unit×Int×Unit)×Unit×El t41×El t41×Unit)=>rZ n x.1.2.2.1 x.2.2.1 x.2.2.2.1)
  l (fun k (_:Unit)=>(((),(),Int.ofNat k,()),(),(l,()),(l,()),())) (fun _ _=>()) (fun _=> .inl ((),(),())) (fun _ _=>True)
  (fun k y s hy _=>⟨by
   have hk:=(List.getElem?_eq_some_iff.1 hy).1
   show rZ n (Int.ofNat k) (l,()) (l,())=_
   unfold rZ
   show iff (!bD (Int.ofNat l.length) (Int.ofNat k)) _ _=_
   rw [dO (br hk)]
   show andThen (an (Int.ofNat k) l.length) _=_
   rw [aV hk]
   show andThen (aU k l) _=_
   rw [bf hy]
   show andThen (aU k l) _=_
   rw [bf hy]
   show iff (!gV t93 y y) _ _=_
   rw [dI (pP rfl y),cX (by omega)],trivial⟩)
  (fun s _=>by
   show rZ n (Int.ofNat l.length) (l,()) (l,())=_
   unfold rZ
   show iff (!bD (Int.ofNat l.length) (Int.ofNat l.length)) _ _=_
   rw [dI (le_true (Nat.le_refl _))]) n () trivial hl
 show UC n (l,()) (l,())=_
 unfold UC
 show iff (!cB (Int.ofNat l.length) (Int.ofNat l.length)) _ _=_
 rw [dI (p7 _)]
 exact(aF hf.1)
theorem M4(n:Nat)(l:List (El t95))(hl:l.length<n)(hs:l.length≤1000000):(XO n ((l,()),(l,()),()):Option (Bool×Unit))=some (true,()):=by
 have hf:=oD (body:=fun(x:(Unit×Unit×Int×Unit)×Unit×El t44×El t44×Unit)=>rY n x.1.2.2.1 x.2.2.1 x.2.2.2.1)
  l (fun k (_:Unit)=>(((),(),Int.ofNat k,()),(),(l,()),(l,()),())) (fun _ _=>()) (fun _=> .inl ((),(),())) (fun _ _=>True)
  (fun k y s hy _=>⟨by
   have hk:=(List.getElem?_eq_some_iff.1 hy).1
   show rY n (Int.ofNat k) (l,()) (l,())=_
   unfold rY
   show iff (!bD (Int.ofNat l.length) (Int.ofNat k)) _ _=_
   rw [dO (br hk)]
   show andThen (an (Int.ofNat k) l.length) _=_
   rw [aV hk]
   show andThen (aU k l) _=_
   rw [bf hy]
   show andThen (aU k l) _=_
   rw [bf hy]
   show iff (!gV t95 y y) _ _=_
   rw [dI (pP rfl y),cX (by omega)],trivial⟩)
  (fun s _=>by
   show rY n (Int.ofNat l.length) (l,()) (l,())=_
   unfold rY
   show iff (!bD (Int.ofNat l.length) (Int.ofNat l.length)) _ _=_
   rw [dI (le_true (Nat.le_refl _))]) n () trivial hl
 show Uy n (l,()) (l,())=_
 unfold Uy
 show iff (!cB (Int.ofNat l.length) (Int.ofNat l.length)) _ _=_
 rw [dI (p7 _)]
 exact(aF hf.1)
theorem M5(n:Nat)(l:List (El t91))(hl:l.length<n)(hs:l.length≤1000000):(XN n (l,l,()):Option (Bool×Unit))=some (true,()):=by
 have hf:=oD (body:=fun(x:(List (El t91)×List (El t91)×Int×Unit)×Unit×Unit)=>rX n x.1.1 x.1.2.1 x.1.2.2.1)
  l (fun k (_:Unit)=>((l,l,Int.ofNat k,()),(),())) (fun _ _=>()) (fun _=> .inl ((),(),())) (fun _ _=>True)
  (fun k y s hy _=>⟨by
   have hk:=(List.getElem?_eq_some_iff.1 hy).1
   show rX n l l (Int.ofNat k)=_
   unfold rX
   rw [dO (br hk),aV hk]
   show andThen (aU k l) _=_
   rw [bf hy]
   show andThen (aU k l) _=_
   rw [bf hy]
   show iff (!gV t91 y y) _ _=_
   rw [dI (pP rfl y),cX (by omega)],trivial⟩)
  (fun s _=>by
   show rX n l l (Int.ofNat l.length)=_
   unfold rX
   rw [dI (le_true (Nat.le_refl _))]) n () trivial hl
 show Uu n l l=_
 unfold Uu
 rw [dI (p7 _)]
 exact(aF hf.1)
theorem M6(n:Nat)(x:El t47)(hn:1000≤n)(h1:(lN x).length≤100)(h2:(kx x).length≤100)(h3:(bC x).length≤100):(Z1 n (x,x,()):Option (Bool×Unit))=some (true,()):=by
 have e1:(XP n (x.2.1,x.2.1,()):Option (Bool×Unit))=some (true,()):=M3 n (lN x) (by omega) (by omega)
 have e2:(XO n (x.2.2.1,x.2.2.1,()):Option (Bool×Unit))=some (true,()):=M4 n (kx x) (by omega) (by omega)
 have e3:(XN n (x.2.2.2.1,x.2.2.2.1,()):Option (Bool×Unit))=some (true,()):=M5 n (bC x) (by omega) (by omega)
 show UF n x x=_
 unfold UF
 rw [fH (p7 x.1)]
 exact(aF e1).trans ((aF e2).trans (aF e3))
theorem ky(q:Nat)(o:Option (List (List UInt8))):(Nat.beq q q&&lI true true&&(lI (fp o) (fp (iff (fp o) none (some (aM o))))&&(fp (iff (fp o) none (some (aM o)))||Nat.beq (List.length (aM o)) (List.length (aM (iff (fp o) none (some (aM o))))))))=true:=by
 cases o<;>simp [fp,aM,ym,iff_eq]
abbrev Zh:=(List UInt8×Int×Unit×Int×Int×Unit)×(Option (List (List UInt8))×Unit)×Unit
def xm(T:List UInt8)(c:Int)(s k:Nat)(o:Option (List (List UInt8))):Zh:=((T,c,(),Int.ofNat s,Int.ofNat k,()),(o,()),())
def M7(o:Option (List (List UInt8)))(x:List UInt8):Option (List (List UInt8)):=some (aM o++[x])
theorem IX(n:Nat)(T:List UInt8)(c:Int)(k:Nat)(o:Option (List (List UInt8)))(hk:k≤1000000):E9 n T c (Int.ofNat k) o=some (.inl (xm T c (k+1) k o)):=by
 unfold E9
 refine(fH (ky 1 o)).trans ?_
 rw [nc,cX (by omega)]
 rfl
theorem IY(n:Nat)(T:List UInt8)(c:Int)(s k:Nat)(o:Option (List (List UInt8)))(hk:k≤1000000):Fa n T c (Int.ofNat s) (Int.ofNat k) o=some (.inl (xm T c s (k+1) o)):=by
 unfold Fa
 refine(fH (ky 1 o)).trans ?_
 rw [nc,cX (by omega)]
 rfl
theorem IZ(n:Nat)(T:List UInt8)(c:Int)(s k:Nat)(o:Option (List (List UInt8))):r7 n T c (Int.ofNat s) (Int.ofNat k) false o=some (.inl (xm T c s k o)):=by
 unfold r7
 refine(p8 rfl).trans ((fH (ky 1 o)).trans ?_)
 rw [nc]
 rfl
theorem Fc(n:Nat)(T:List UInt8)(c:Int)(s k:Nat)(o:Option (List (List UInt8)))(hs:s≤k)(hk:k≤T.length)(hT:T.length≤1000000)(ho:(aM o).length≤1000000):
  r7 n T c (Int.ofNat s) (Int.ofNat k) true o=some (.inl (xm T c (k+1) k (M7 o (nv s k T)))):=by
 unfold r7
 refine(fH rfl).trans ?_
 have hj:=IX n T c k (M7 o (nv s k T)) (by omega)
 refine(aF (a:= .inl (((T,c,(),Int.ofNat k,()),(M7 o (nv s k T),()),()):(List UInt8×Int×Unit×Int×Unit)×(Option (List (List UInt8))×Unit)×Unit)) ?_).trans ?_
 rotate_left
 ·exact hj
 rw [aC]
 refine(aF (wH hk)).trans ((aF (wH hs)).trans ?_)
 cases o with
 |none=>exact fH rfl
 |some l=>
  refine(p8 rfl).trans ((fH ?_).trans ((fH ?_).trans ((fH ?_).trans ?_)))
  ·simp [fp,aM]
  ·rw [pR,gP (by
    have:(aM (some l)).length≤1000000:=ho
    show((aM (some l)).length+1)*17≤1000000000
    omega)]
   rfl
  ·rw [pR]
   simp [fp,aM,Oa]
   exact(List.length_append (bs:=[nv s k T])).symm
  ·rfl
theorem M8(n:Nat)(T:List UInt8)(c:UInt8)(s k:Nat)(o:Option (List (List UInt8)))(hs:s≤k)(hk:k≤T.length)(hT:T.length≤1000000)(ho:(aM o).length≤1000000):
  ∃s' o',mJ n T (Int.ofNat c.toNat) (Int.ofNat s) (Int.ofNat k) o=some (.inl (xm T (Int.ofNat c.toNat) s' (k+1) o'))∧s'≤k+1∧(aM o').length=(aM o).length+(if T[k]? =some c∨k=T.length then 1 else 0):=by
 have hyes:=Fc n T (Int.ofNat c.toNat) s k o hs hk hT ho
 have hno:=IZ n T (Int.ofNat c.toNat) s k o
 have hlen:(aM (M7 o (nv s k T))).length=(aM o).length+1:=by simp [M7,aM]
 have key:∀(b:Bool)(s':Nat)(o':Option (List (List UInt8))),r7 n T (Int.ofNat c.toNat) (Int.ofNat s) (Int.ofNat k) b o=some (.inl (xm T (Int.ofNat c.toNat) s' k o'))→
   (k=T.length→b=true)→(∀h:k<T.length,b=decide (T[k]=c))→mJ n T (Int.ofNat c.toNat) (Int.ofNat s) (Int.ofNat k) o=some (.inl (xm T (Int.ofNat c.toNat) s' (k+1) o')):=fun b s' o' hj he hl=>by
  unfold mJ
  rw [aC]
  refine(fH (le_true hk)).trans ?_
  have h5:=IY n T (Int.ofNat c.toNat) s' k o' (by omega)
  refine(aF (a:= .inl (xm T (Int.ofNat c.toNat) s' k o')) ?_).trans ?_
  rotate_left
  ·exact h5
  refine(aF (a:= .inl (((T,Int.ofNat c.toNat,(),Int.ofNat s,Int.ofNat k,b,()),(o,()),()):(List UInt8×Int×Unit×Int×Int×Bool×Unit)×(Option (List (List UInt8))×Unit)×Unit)) ?_).trans ?_
  rotate_left
  ·exact hj
  rw [ej]
  by_cases hkl:k=T.length
  ·rw [decide_eq_true hkl]
   refine(fH rfl).trans ((fH (ky 1 o)).trans ?_)
   rw [nc,he hkl]
  ·have hlt:k<T.length:=by omega
   rw [decide_eq_false hkl]
   refine(p8 rfl).trans ((aF (aV hlt)).trans ((aF (bf (List.getElem?_eq_getElem hlt))).trans ((fH (ky 1 o)).trans ?_)))
   rw [nc,ej,hl hlt]
   have:decide ((T[k]).toNat=c.toNat)=decide (T[k]=c):=by
    congr 1
    exact propext ⟨fun h=>UInt8.toNat_inj.1 h,fun h=>by rw [h]⟩
   rw [this]
 by_cases hkl:k=T.length
 ·refine⟨_,_,key true _ _ hyes (fun _=>rfl) (fun h=>absurd h (by omega)),Nat.le_refl _,?_⟩
  rw [hlen,if_pos (.inr hkl)]
 ·have hlt:k<T.length:=by omega
  by_cases hc:T[k]=c
  ·refine⟨_,_,key true _ _ hyes (fun _=>rfl) (fun h=>(decide_eq_true hc).symm),Nat.le_refl _,?_⟩
   rw [hlen,if_pos (.inl (by rw [List.getElem?_eq_getElem hlt,hc]))]
  ·refine⟨_,_,key false _ _ hno (fun h=>absurd h hkl) (fun h=>(decide_eq_false hc).symm),by omega,?_⟩
   have:¬(T[k]? =some c∨k=T.length):=by
    rintro(h|h)
    ·rw [List.getElem?_eq_getElem hlt]at h
     exact hc (Option.some.inj h)
    ·exact hkl h
   rw [if_neg this]
   omega
theorem Fe(T:List UInt8)(c:UInt8)(k:Nat)(h:k<T.length):(T.take (k+1)).count c=(T.take k).count c+(if T[k]? =some c then 1 else 0):=by
 rw [List.take_succ_eq_append_getElem h,List.count_append,List.getElem?_eq_getElem h]
 by_cases hc:T[k]=c
 ·rw [if_pos (by rw [hc])]
  simp [hc]
 ·rw [if_neg (fun e=>hc (Option.some.inj e))]
  simp [hc]
theorem Qt(n:Nat)(T:List UInt8)(c:UInt8)(hT:T.length≤1000000)(hn:T.length+2≤n):∃ps:List (List UInt8),(Ze n (T,Int.ofNat c.toNat,()):Option (List (List UInt8)×Unit))=some (ps,())∧ps.length=T.count c+1:=by
 obtain⟨r,h1,o,rfl,h2⟩:=rB (X:=Zh) (body:=fun(x:Zh)=>mJ n x.1.1 x.1.2.1 x.1.2.2.2.1
    x.1.2.2.2.2.1 x.2.1.1)
  (Post:=fun r=>∃o:Option (List (List UInt8)),r= .inl (((),()),(o,()),())∧(aM o).length=T.count c+1)
  (fun m x=>∃(s k:Nat)(o:Option (List (List UInt8))),x=xm T (Int.ofNat c.toNat) s k o∧k+m=T.length+1∧s≤k∧(aM o).length=(T.take k).count c+(if k=T.length+1 then 1 else 0))
  (fun m x ⟨s,k,o,hx,hm,hs,ho⟩=>by
   subst hx
   have hcount:∀j,(T.take j).count c≤T.length:=fun j=>Nat.le_trans List.count_le_length (by rw [List.length_take];omega)
   have hc1:=hcount k
   show(∃x' m',mJ n T (Int.ofNat c.toNat) (Int.ofNat s) (Int.ofNat k) o=some (.inl x')∧_)∨∃r,mJ n T (Int.ofNat c.toNat) (Int.ofNat s) (Int.ofNat k) o=some (.inr r)∧_
   by_cases hk:k≤T.length
   ·rw [if_neg (by omega)]at ho
    obtain⟨s',o',e1,e2,e3⟩:=M8 n T c s k o hs hk hT (by omega)
    refine .inl ⟨_,m-1,e1,by omega,s',k+1,o',rfl,by omega,e2,?_⟩
    rw [e3,ho]
    by_cases hkl:k=T.length
    ·subst hkl
     rw [if_pos (.inr rfl),if_pos rfl,List.take_of_length_le (Nat.le_refl _),List.take_of_length_le (by omega)]
    ·rw [Fe T c k (by omega),if_neg (show¬k+1=T.length+1 by omega)]
     simp only [hkl,or_false]
     omega
   ·obtain rfl:k=T.length+1:=by omega
    rw [if_pos rfl,List.take_of_length_le (by omega)]at ho
    refine .inr ⟨.inl (((),()),(o,()),()),?_,o,rfl,ho⟩
    unfold mJ
    rw [aC]
    refine(p8 (br (by omega))).trans ((aF (fH (ky 1 o))).trans ?_)
    rw [nc])
  n (T.length+1) (xm T (Int.ofNat c.toNat) 0 0 none) ⟨0,0,none,rfl,by omega,Nat.le_refl _,by simp [aM]⟩ (by omega)
 refine⟨aM o,?_,h2⟩
 have h3:(Ze n (T,Int.ofNat c.toNat,()):Option (List (List UInt8)×Unit))=_:=aF h1
 refine h3.trans ?_
 show Fb n o=_
 unfold Fb
 refine(fH ?_).trans ?_
 ·cases o<;>simp [fp,aM,ym]
 ·rw [R4]
end L
end
section
open Go Go.RowKit
namespace Rg
section
variable {P:Program} {md:Region.Mode} {ops:Array Oper} {Q:Exit→Act→World→Prop} {fuel:Nat} {listed:Array Bool} {a:Act} {w:World} {S:World→Prop}
theorem stepG(i:Nat){o:Oper}(ho:ops[i]? =some o)(hg:Region.wanted o (yielded ops a.tmps)=true)(h:Wp P o a w (fun a' w'=>S w'∧nB P md ops Q S fuel (listed.setIfInBounds i true) a' w') Q):
  wpOp P ops Q i (fun a' w'=>S w'∧wpAnyH P md ops Q S fuel (listed.setIfInBounds i true) a' w') a w:=
 wpOp_step ho fun K hK=>by
  rw [if_pos hg]
  exact Oper.wp_mono (fun a w h=>hK a w ⟨h.1,h.2.any⟩) h.wp
theorem Rk(i:Nat)(o:Oper)(hr:Region.ready md ops listed=[i])(ho:ops[i]? =some o)(hg:Region.wanted o (yielded ops a.tmps)=true)
  (h:Wp P o a w (fun a' w'=>S w'∧nB P md ops Q S fuel (listed.setIfInBounds i true) a' w') Q):nB P md ops Q S (fuel+1) listed a w:=
 ⟨wpAnyH_all hr (by simp) fun j hj=>by
  rw [List.mem_singleton.1 hj]
  exact stepG i ho hg h⟩
theorem dR(i:Nat)(v:Value){oi:Oper}(hi:ops[i]? =some oi)
  (hs:Region.noSelect ops=true) (hf:Region.free md ops listed i=true) (hr:(Region.ready md ops listed).contains i=true)
  (hQ:∀c a w,Q (.panic c) (a.put oi.dst v) w→Q (.panic c) a w) (hg:Region.wanted oi (yielded ops a.tmps)=true) (hS:S w) (hy:∀w,S w→(execOp a.eval oi).run P w= .ok (.value v) w)
  (h:nB P md ops Q S fuel (listed.setIfInBounds i true) (a.put oi.dst v) w):nB P md ops Q S (fuel+1) listed a w:=
 ⟨wpAnyH_take hi hs hf hr hQ (.inl ⟨hg,hy⟩) hS h.any⟩
end
end Rg
end
section
open Go Go.az Go.RowKit
namespace Wk
theorem mix:Tryz.prog.follows .mixedOrders=true:=by kernel_rfl
theorem box{w:World}{b:Nat}{v0 v1 v2 v3:Value}{T:TypeId}(h:w.heap[b]? =some (.cells #[v0,v1,v2,v3] T (0,0))):
  (w.cell? ⟨b,0,none⟩=some v0∧w.cell? ⟨b,1,none⟩=some v1∧w.cell? ⟨b,2,none⟩=some v2∧w.cell? ⟨b,3,none⟩=some v3)∧
  (w.frozen? ⟨b,0,none⟩=false∧w.frozen? ⟨b,1,none⟩=false∧w.frozen? ⟨b,2,none⟩=false∧w.frozen? ⟨b,3,none⟩=false):=by
 refine⟨⟨?_,?_,?_,?_⟩,Lib.frozen_of_heap h 0,Lib.frozen_of_heap h 1,Lib.frozen_of_heap h 2,Lib.frozen_of_heap h 3⟩<;>(rw [Lib.cell_of_heap h];rfl)
theorem aw(w:World)(o:Obj):(w.alloc o).heap[w.heap.size]? =some o:=by
 show(w.heap.push o)[w.heap.size]? =_
 simp
def sV(a:Int)(o1:Option Addr)(n1 c1:Nat)(o2:Option Addr)(n2 c2:Nat)(o3:Option Addr)(n3 c3:Nat):Value:= .agg #[.int .i64 a,.slice o1 n1 c1,.slice o2 n2 c2,.slice o3 n3 c3]
def Zi(v:Value):Prop:=∃a o1 n1 c1 o2 n2 c2 o3 n3 c3,v=sV a o1 n1 c1 o2 n2 c2 o3 n3 c3
section
variable (dQ:Int) (ot:Option Addr) (nt ct:Nat) (or':Option Addr) (nr cr:Nat) (oh:Option Addr) (nh ch:Nat) (s:ByteArray) (w:World)
set_option maxHeartbeats 1000000 in
theorem Xm(c10:∀W,Below w.heap.size w W→Calls Tryz.prog 10 #[] W fun e w'=>e= .returned (.bool true)∧Below W.heap.size W w')
  (c13:∀W,Below w.heap.size w W→Calls Tryz.prog 13 #[sV dQ ot nt ct or' nr cr oh nh ch] W fun e w'=>e= .returned (.bool true)∧Below W.heap.size W w'):
  Calls Tryz.prog 5 #[sV dQ ot nt ct or' nr cr oh nh ch,.string s] w fun e w'=>e= .returned (.bool true)∧Below w.heap.size w w':=by
 have mixed:=mix
 unfold sV at*
 have b0:=(Below.refl _ w).alloc (Nat.le_refl _) (.cells #[.int .i64 dQ,.slice ot nt ct,.slice or' nr cr,.slice oh nh ch] 47)
 go_enter Tryz.func5,Tryz.ntmps5
 go_wp2_with (go_at_call 10;refine(c10 _ b0).mono ?_)
 rintro e w1 ⟨rfl,b1⟩
 have g1:w1.heap[w.heap.size]? =some (.cells #[.int .i64 dQ,.slice ot nt ct,.slice or' nr cr,.slice oh nh ch] 47 (0,0)):=(b1.block _ (by simp)).trans (aw _ _)
 have b1:=b0.trans (b1.mono (by simp))
 obtain⟨⟨a0,a1,a2,a3⟩,_,_,_,_⟩:=box g1
 go_wp2_with (go_at_call 13;refine(c13 _ b1).mono ?_)
 rintro e w2 ⟨rfl,b2⟩
 have b2:=b1.trans (b2.mono b1.size)
 go_wp2
 go_ret
 exact⟨rfl,b2⟩
set_option maxHeartbeats 1000000 in
theorem long(c10:∀W,Below w.heap.size w W→Calls Tryz.prog 10 #[] W fun e w'=>e= .returned (.bool true)∧Below W.heap.size W w')
  (c13:∀W,Below w.heap.size w W→Calls Tryz.prog 13 #[sV dQ ot nt ct or' nr cr oh nh ch] W fun e w'=>e= .returned (.bool false)∧Below W.heap.size W w') (hs:3000<s.size):
  Calls Tryz.prog 5 #[sV dQ ot nt ct or' nr cr oh nh ch,.string s] w fun e w'=>e= .returned (.bool true)∧Below w.heap.size w w':=by
 have mixed:=mix
 have hsI:decide ((s.size:Int)>3000)=true:=decide_eq_true (by omega)
 unfold sV at*
 have b0:=(Below.refl _ w).alloc (Nat.le_refl _) (.cells #[.int .i64 dQ,.slice ot nt ct,.slice or' nr cr,.slice oh nh ch] 47)
 go_enter Tryz.func5,Tryz.ntmps5
 go_wp2_with (go_at_call 10;refine(c10 _ b0).mono ?_)
 rintro e w1 ⟨rfl,b1⟩
 have g1:w1.heap[w.heap.size]? =some (.cells #[.int .i64 dQ,.slice ot nt ct,.slice or' nr cr,.slice oh nh ch] 47 (0,0)):=(b1.block _ (by simp)).trans (aw _ _)
 have b1:=b0.trans (b1.mono (by simp))
 obtain⟨⟨a0,a1,a2,a3⟩,_,_,_,_⟩:=box g1
 go_wp2_with (go_at_call 13;refine(c13 _ b1).mono ?_)
 rintro e w2 ⟨rfl,b2⟩
 have b2:=b1.trans (b2.mono b1.size)
 go_wp2
 go_ret
 exact⟨rfl,b2⟩
def Zj(s:ByteArray)(w:World)(Z:World→Value→Prop):Prop:=
 (∀W,Below w.heap.size w W→Calls Tryz.prog 17 #[.string s] W fun e w'=>Below W.heap.size W w'∧((∃v,Zi v∧Z w' v∧e= .returned (.tuple #[v,.int .i64 0]))∨e= .returned (.tuple #[sV 0 none 0 0 none 0 0 none 0 0,.int .i64 12])))∧
 (∀W v,Z W v→Calls Tryz.prog 14 #[v] W fun e w'=>e= .returned (.tuple #[.string s,.int .i64 0])∧Below W.heap.size W w')∧
 (∀W v,Z W v→Calls Tryz.prog 15 #[v] W fun e w'=>e= .returned (.int .i64 0)∧Below W.heap.size W w')∧
 (∀W W' v,Z W v→Below W.heap.size W W'→Z W' v)
set_option maxHeartbeats 2000000 in
theorem bad(c10:∀W,Below w.heap.size w W→Calls Tryz.prog 10 #[] W fun e w'=>e= .returned (.bool true)∧Below W.heap.size W w')
  (c13:∀W,Below w.heap.size w W→Calls Tryz.prog 13 #[sV dQ ot nt ct or' nr cr oh nh ch] W fun e w'=>e= .returned (.bool false)∧Below W.heap.size W w') (hs:s.size≤3000)
  (T:ByteArray) (c14:∀W,Below w.heap.size w W→Calls Tryz.prog 14 #[sV dQ ot nt ct or' nr cr oh nh ch] W fun e w'=>e= .returned (.tuple #[.string T,.int .i64 8])∧Below W.heap.size W w')
  (c15:∀W,Below w.heap.size w W→Calls Tryz.prog 15 #[sV dQ ot nt ct or' nr cr oh nh ch] W fun e w'=>e= .returned (.int .i64 8)∧Below W.heap.size W w')
  (c16:∀W,Below w.heap.size w W→Calls Tryz.prog 16 #[sV dQ ot nt ct or' nr cr oh nh ch] W fun e w'=>e= .returned (.int .i64 8)∧Below W.heap.size W w')
  (Z:World→Value→Prop) (hZ:Zj s w Z):
  Calls Tryz.prog 5 #[sV dQ ot nt ct or' nr cr oh nh ch,.string s] w fun e w'=>e= .returned (.bool true)∧Below w.heap.size w w':=by
 have mixed:=mix
 have hsI:decide ((s.size:Int)>3000)=false:=decide_eq_false (by omega)
 obtain⟨c17,z14,z15,zB⟩:=hZ
 unfold sV at*
 have b0:=(Below.refl _ w).alloc (Nat.le_refl _) (.cells #[.int .i64 dQ,.slice ot nt ct,.slice or' nr cr,.slice oh nh ch] 47)
 go_enter Tryz.func5,Tryz.ntmps5
 go_wp2_with (go_at_call 10;refine(c10 _ b0).mono ?_)
 rintro e w1 ⟨rfl,b1⟩
 have g1:w1.heap[w.heap.size]? =some (.cells #[.int .i64 dQ,.slice ot nt ct,.slice or' nr cr,.slice oh nh ch] 47 (0,0)):=(b1.block _ (by simp)).trans (aw _ _)
 have b1:=b0.trans (b1.mono (by simp))
 obtain⟨⟨a0,a1,a2,a3⟩,_,_,_,_⟩:=box g1
 go_wp2_with (go_at_call 13;refine(c13 _ b1).mono ?_)
 rintro e w2 ⟨rfl,b2⟩
 have g2:=(b2.block _ (az.aB g1)).trans g1
 have b2:=b1.trans (b2.mono b1.size)
 clear a0 a1 a2 a3 g1 b1 b0
 obtain⟨⟨a0,a1,a2,a3⟩,_,_,_,_⟩:=box g2
 go_wp2_with (go_at_call 14;refine(c14 _ b2).mono ?_)
 rintro e w3 ⟨rfl,b3⟩
 have g3:=(b3.block _ (az.aB g2)).trans g2
 have b3:=b2.trans (b3.mono b2.size)
 clear a0 a1 a2 a3 g2 b2
 obtain⟨⟨a0,a1,a2,a3⟩,_,_,_,_⟩:=box g3
 go_wp2_with (go_at_call 15;refine(c15 _ b3).mono ?_)
 rintro e w4 ⟨rfl,b4⟩
 have g4:=(b4.block _ (az.aB g3)).trans g3
 have b4:=b3.trans (b4.mono b3.size)
 clear a0 a1 a2 a3 g3 b3
 obtain⟨⟨a0,a1,a2,a3⟩,_,_,_,_⟩:=box g4
 go_wp2_with (go_at_call 16;refine(c16 _ b4).mono ?_)
 rintro e w5 ⟨rfl,b5⟩
 have b5:=b4.trans (b5.mono b4.size)
 clear a0 a1 a2 a3 g4 b4
 go_wp2_with (go_at_call 17;refine(c17 _ b5).mono ?_)
 rintro e w6 ⟨b6,h6⟩
 have b6:=b5.trans (b6.mono b5.size)
 rcases h6 with⟨v,⟨a,o1,n1,c1,o2,n2,c2,o3,n3,c3,rfl⟩,hv,rfl⟩|rfl
 ·unfold sV at hv ⊢
  have b7:=b6.alloc b6.size (.cells #[.int .i64 a,.slice o1 n1 c1,.slice o2 n2 c2,.slice o3 n3 c3] 47)
  have h7:=zB _ _ _ hv ((Below.refl _ w6).alloc (Nat.le_refl _) (.cells #[.int .i64 a,.slice o1 n1 c1,.slice o2 n2 c2,.slice o3 n3 c3] 47))
  go_wp2_with (go_at_call 14;refine(z14 _ _ h7).mono ?_)
  rintro e w8 ⟨rfl,b8⟩
  have h8:=zB _ _ _ h7 b8
  have g8:w8.heap[w6.heap.size]? =some (.cells #[.int .i64 a,.slice o1 n1 c1,.slice o2 n2 c2,.slice o3 n3 c3] 47 (0,0)):=(b8.block _ (by simp)).trans (aw _ _)
  have b8:=b7.trans (b8.mono b7.size)
  clear b7 h7
  obtain⟨⟨a0,a1,a2,a3⟩,_,_,_,_⟩:=box g8
  go_wp2_with (go_at_call 15;refine(z15 _ _ h8).mono ?_)
  rintro e w9 ⟨rfl,b9⟩
  have b9:=b8.trans (b9.mono b8.size)
  go_wp2
  go_ret
  exact⟨rfl,b9⟩
 ·go_wp2
  go_ret
  exact⟨rfl,b6.alloc b6.size _⟩
end
end Wk
end
section
open Go Go.az Go.RowKit
namespace Wk
theorem Xn{P:Program}{md:Region.Mode}{ops:Array Oper}{Q:Exit→Act→World→Prop}{S:World→Prop}{fuel:Nat}{listed:Array Bool}{a:Act}{w:World}(a':Act)(hr:Region.ready md ops listed=[])(he:a=a')(h:Q .normal a' w):Rg.nB P md ops Q S fuel listed a w:=⟨wpAnyH_done hr (he▸h) _⟩
theorem Xo{n:Int}(h1: -9223372036854775808≤n)(h2:n≤9223372036854775807):IntKind.i64.wrap n=n:=by
 simp [IntKind.wrap,IntKind.bits,IntKind.signed]
 split<;>omega
theorem Xp(w:World):(isAgg 47).run Tryz.prog w= .ok true w∧(sizeOf 47).run Tryz.prog w= .ok 4 w:=⟨by kernel_rfl,by kernel_rfl⟩
theorem Zk(w:World):(isAgg 39).run Tryz.prog w= .ok false w:=by kernel_rfl
theorem Zl(w:World):(isAgg 42).run Tryz.prog w= .ok false w:=by kernel_rfl
theorem Xq:∀args w,(callFunc 18 args).run Tryz.prog w= .ok (.enter 18 args) w:=enters_of Tryz.func18 (by kernel_rfl) rfl
theorem Xr:∀args w,(callFunc 19 args).run Tryz.prog w= .ok (.enter 19 args) w:=enters_of Tryz.func19 (by kernel_rfl) rfl
theorem Xs{w:World}{b:Nat}{v0 v1 v2 v3:Value}{T:TypeId}(h:w.heap[b]? =some (.cells #[v0,v1,v2,v3] T (0,0))):∀(j:Nat)(v:Value),[v0,v1,v2,v3][j]? =some v→w.cell? ((⟨b,0,none⟩:Addr).add j)=some v:=fun j v hv=>by
 rw [Go.WideShapes.add_plain,Nat.zero_add,Lib.cell_of_heap h]
 simpa using hv
def SS(N D:Nat)(dQ:Int)(ot:Option Addr)(nt ct:Nat)(or':Option Addr)(nr cr:Nat)(oh:Option Addr)(nh ch:Nat)(a:Int)(o1:Option Addr)(n1 c1:Nat)(o2:Option Addr)(n2 c2:Nat)(o3:Option Addr)(n3 c3:Nat)(w:World):Prop:=
 w.heap[N]? =some (.cells #[.int .i64 dQ,.slice ot nt ct,.slice or' nr cr,.slice oh nh ch] 47 (0,0))∧w.heap[D]? =some (.cells #[.int .i64 a,.slice o1 n1 c1,.slice o2 n2 c2,.slice o3 n3 c3] 47 (0,0))
theorem SS.below{N D:Nat}{dQ:Int}{ot:Option Addr}{nt ct:Nat}{or':Option Addr}{nr cr:Nat}{oh:Option Addr}{nh ch:Nat}{a:Int}{o1:Option Addr}{n1 c1:Nat}{o2:Option Addr}{n2 c2:Nat}{o3:Option Addr}{n3 c3:Nat}{w w':World}
  (h:SS N D dQ ot nt ct or' nr cr oh nh ch a o1 n1 c1 o2 n2 c2 o3 n3 c3 w) (hb:Below w.heap.size w w'):SS N D dQ ot nt ct or' nr cr oh nh ch a o1 n1 c1 o2 n2 c2 o3 n3 c3 w':=⟨(hb.block _ (az.aB h.1)).trans h.1,(hb.block _ (az.aB h.2)).trans h.2⟩
section
variable (dQ:Int) (ot:Option Addr) (nt ct:Nat) (or':Option Addr) (nr cr:Nat) (oh:Option Addr) (nh ch:Nat) (s:ByteArray) (w₀:World)
set_option maxHeartbeats 4000000 in
theorem N3(c10:∀W,Below w₀.heap.size w₀ W→Calls Tryz.prog 10 #[] W fun e w'=>e= .returned (.bool true)∧Below W.heap.size W w')
  (c13:∀W,Below w₀.heap.size w₀ W→Calls Tryz.prog 13 #[sV dQ ot nt ct or' nr cr oh nh ch] W fun e w'=>e= .returned (.bool false)∧Below W.heap.size W w') (hs:s.size≤3000)
  (T:ByteArray) (hT:T.size≤30000) (hnt:nt≤1000) (hnr:nr≤1000) (c14:∀W,Below w₀.heap.size w₀ W→Calls Tryz.prog 14 #[sV dQ ot nt ct or' nr cr oh nh ch] W fun e w'=>e= .returned (.tuple #[.string T,.int .i64 0])∧Below W.heap.size W w')
  (c15:∀W,Below w₀.heap.size w₀ W→Calls Tryz.prog 15 #[sV dQ ot nt ct or' nr cr oh nh ch] W fun e w'=>e= .returned (.int .i64 0)∧Below W.heap.size W w')
  (c16:∀W,Below w₀.heap.size w₀ W→Calls Tryz.prog 16 #[sV dQ ot nt ct or' nr cr oh nh ch] W fun e w'=>e= .returned (.int .i64 0)∧Below W.heap.size W w')
  (L:World→Value→Prop) (hL:∀W W' v,L W v→Below W.heap.size W W'→L W' v)
  (c17t:∀W,Below w₀.heap.size w₀ W→Calls Tryz.prog 17 #[.string T] W fun e w'=>Below W.heap.size W w'∧∃v,Zi v∧L w' v∧e= .returned (.tuple #[v,.int .i64 0]))
  (c18:∀W v,Below w₀.heap.size w₀ W→L W v→Calls Tryz.prog 18 #[v,sV dQ ot nt ct or' nr cr oh nh ch] W fun e w'=>e= .returned (.bool true)∧Below W.heap.size W w')
  (c19:∀W,Below w₀.heap.size w₀ W→Calls Tryz.prog 19 #[.string T,.int .u8 10] W fun e w'=>(∃o c,e= .returned (.slice o (3+nt+nr) c))∧Below W.heap.size W w')
  (Z:World→Value→Prop) (hZ:Zj s w₀ Z):
  Calls Tryz.prog 5 #[sV dQ ot nt ct or' nr cr oh nh ch,.string s] w₀ fun e w'=>e= .returned (.bool true)∧Below w₀.heap.size w₀ w':=by
 have mixed:=mix
 have hsI:decide ((s.size:Int)>3000)=false:=decide_eq_false (by omega)
 obtain⟨c17,z14,z15,zB⟩:=hZ
 unfold sV at*
 have b0:=(Below.refl _ w₀).alloc (Nat.le_refl _) (.cells #[.int .i64 dQ,.slice ot nt ct,.slice or' nr cr,.slice oh nh ch] 47)
 go_enter Tryz.func5,Tryz.ntmps5
 go_wp2_with (go_at_call 10;refine(c10 _ b0).mono ?_)
 rintro e w1 ⟨rfl,b1⟩
 have g1:w1.heap[w₀.heap.size]? =some (.cells #[.int .i64 dQ,.slice ot nt ct,.slice or' nr cr,.slice oh nh ch] 47 (0,0)):=(b1.block _ (by simp)).trans (aw _ _)
 have b1:=b0.trans (b1.mono (by simp))
 obtain⟨⟨a0,a1,a2,a3⟩,_,_,_,_⟩:=box g1
 go_wp2_with (go_at_call 13;refine(c13 _ b1).mono ?_)
 rintro e w2 ⟨rfl,b2⟩
 have g2:=(b2.block _ (az.aB g1)).trans g1
 have b2:=b1.trans (b2.mono b1.size)
 clear a0 a1 a2 a3 g1 b1 b0
 obtain⟨⟨a0,a1,a2,a3⟩,_,_,_,_⟩:=box g2
 go_wp2_with (go_at_call 14;refine(c14 _ b2).mono ?_)
 rintro e w3 ⟨rfl,b3⟩
 have g3:=(b3.block _ (az.aB g2)).trans g2
 have b3:=b2.trans (b3.mono b2.size)
 clear a0 a1 a2 a3 g2 b2
 obtain⟨⟨a0,a1,a2,a3⟩,_,_,_,_⟩:=box g3
 go_wp2_with (go_at_call 15;refine(c15 _ b3).mono ?_)
 rintro e w4 ⟨rfl,b4⟩
 have g4:=(b4.block _ (az.aB g3)).trans g3
 have b4:=b3.trans (b4.mono b3.size)
 clear a0 a1 a2 a3 g3 b3
 obtain⟨⟨a0,a1,a2,a3⟩,_,_,_,_⟩:=box g4
 go_wp2_with (go_at_call 16;refine(c16 _ b4).mono ?_)
 rintro e w5 ⟨rfl,b5⟩
 have g5:=(b5.block _ (az.aB g4)).trans g4
 have b5:=b4.trans (b5.mono b4.size)
 clear a0 a1 a2 a3 g4 b4
 go_wp2_with (go_at_call 17;refine(c17t _ b5).mono ?_)
 rintro e w6 ⟨b6,v,⟨a,o1,n1,c1,o2,n2,c2,o3,n3,c3,rfl⟩,hv,rfl⟩
 unfold sV at hv ⊢
 have g6:=(b6.block _ (az.aB g5)).trans g5
 have b6:=b5.trans (b6.mono b5.size)
 have b7:=b6.alloc b6.size (.cells #[.int .i64 a,.slice o1 n1 c1,.slice o2 n2 c2,.slice o3 n3 c3] 47)
 have h7:=hL _ _ _ hv ((Below.refl _ w6).alloc (Nat.le_refl _) (.cells #[.int .i64 a,.slice o1 n1 c1,.slice o2 n2 c2,.slice o3 n3 c3] 47))
 have h7d:=hL _ _ _ h7 (Below.refl _ _).drew
 have hSd:SS w₀.heap.size w6.heap.size dQ ot nt ct or' nr cr oh nh ch a o1 n1 c1 o2 n2 c2 o3 n3 c3 (w6.alloc (.cells #[.int .i64 a,.slice o1 n1 c1,.slice o2 n2 c2,.slice o3 n3 c3] 47)).drew:=
  ⟨(Below.heap_alloc _ _ _ (az.aB g6)).trans g6,aw _ _⟩
 go_wp2_with fail
 refine Rg.EL (SS w₀.heap.size w6.heap.size dQ ot nt ct or' nr cr oh nh ch a o1 n1 c1 o2 n2 c2 o3 n3 c3) (by kernel_rfl) ?_
 refine Rg.dR 0 (.int .i64 0) rfl (by kernel_rfl) (by kernel_rfl) (by kernel_rfl) (fun _ _ _ h=>h) (by kernel_rfl) hSd (fun w hS=>by go_simp) ?_
 refine Rg.dR 1 (.bool false) rfl (by kernel_rfl) (by kernel_rfl) (by kernel_rfl) (fun _ _ _ h=>h) (by kernel_rfl) hSd (fun w hS=>by go_simp) ?_
 refine Rg.dR 2 (.bool false) rfl (by kernel_rfl) (by kernel_rfl) (by kernel_rfl) (fun _ _ _ h=>h) (by kernel_rfl) hSd (fun w hS=>by go_simp) ?_
 refine Rg.dR 3 (.agg #[.int .i64 a,.slice o1 n1 c1,.slice o2 n2 c2,.slice o3 n3 c3]) rfl (by kernel_rfl) (by kernel_rfl) (by kernel_rfl) (fun _ _ _ h=>h) (by kernel_rfl) hSd (fun w hS=>Rg.wu 47 4 Xp (.tmp 8) rfl ⟨w6.heap.size,0,none⟩ (by kernel_rfl) _ rfl (Xs hS.2)) ?_
 refine Rg.dR 4 (.agg #[.int .i64 dQ,.slice ot nt ct,.slice or' nr cr,.slice oh nh ch]) rfl (by kernel_rfl) (by kernel_rfl) (by kernel_rfl) (fun _ _ _ h=>h) (by kernel_rfl) hSd (fun w hS=>Rg.wu 47 4 Xp (.tmp 2) rfl ⟨w₀.heap.size,0,none⟩ (by kernel_rfl) _ rfl (Xs hS.1)) ?_
 refine Rg.Rk 5 _ (by kernel_rfl) rfl (by kernel_rfl) ?_
 refine Rg.sW 18 #[.tmp 54,.tmp 55] #[47,47] rfl #[.agg #[.int .i64 a,.slice o1 n1 c1,.slice o2 n2 c2,.slice o3 n3 c3],.agg #[.int .i64 dQ,.slice ot nt ct,.slice or' nr cr,.slice oh nh ch]] (by kernel_rfl) Xq (c18 _ _ b7.drew h7d) (fun e w8 h=>?_)
 obtain⟨rfl,b8⟩:=h
 have hSd:SS w₀.heap.size w6.heap.size dQ ot nt ct or' nr cr oh nh ch a o1 n1 c1 o2 n2 c2 o3 n3 c3 w8:=hSd.below b8
 have b8:=b7.drew.trans (b8.mono b7.size)
 refine⟨_,rfl,hSd,?_⟩
 refine Rg.dR 6 (.bool false) rfl (by kernel_rfl) (by kernel_rfl) (by kernel_rfl) (fun _ _ _ h=>h) (by kernel_rfl) hSd (fun w hS=>by go_simp) ?_
 refine Rg.dR 7 (.bool false) rfl (by kernel_rfl) (by kernel_rfl) (by kernel_rfl) (fun _ _ _ h=>h) (by kernel_rfl) hSd (fun w hS=>by go_simp) ?_
 refine Rg.dR 8 (.bool false) rfl (by kernel_rfl) (by kernel_rfl) (by kernel_rfl) (fun _ _ _ h=>h) (by kernel_rfl) hSd (fun w hS=>by go_simp) ?_
 refine Rg.dR 9 (.string T) rfl (by kernel_rfl) (by kernel_rfl) (by kernel_rfl) (fun _ _ _ h=>h) (by kernel_rfl) hSd (fun w hS=>by go_simp) ?_
 refine Rg.dR 10 (.int .i64 (T.size:Int)) rfl (by kernel_rfl) (by kernel_rfl) (by kernel_rfl) (fun _ _ _ h=>h) (by kernel_rfl) hSd (fun w hS=>by go_simp) ?_
 refine Rg.dR 11 (.bool false) rfl (by kernel_rfl) (by kernel_rfl) (by kernel_rfl) (fun _ _ _ h=>h) (by kernel_rfl) hSd (fun w hS=>by go_simp;omega) ?_
 refine Rg.dR 12 (.bool false) rfl (by kernel_rfl) (by kernel_rfl) (by kernel_rfl) (fun _ _ _ h=>h) (by kernel_rfl) hSd (fun w hS=>by go_simp) ?_
 refine Rg.dR 13 (.bool false) rfl (by kernel_rfl) (by kernel_rfl) (by kernel_rfl) (fun _ _ _ h=>h) (by kernel_rfl) hSd (fun w hS=>by go_simp) ?_
 refine Rg.dR 14 (.string T) rfl (by kernel_rfl) (by kernel_rfl) (by kernel_rfl) (fun _ _ _ h=>h) (by kernel_rfl) hSd (fun w hS=>by go_simp) ?_
 refine Rg.dR 17 (.pointer (some ⟨w₀.heap.size,1,none⟩)) rfl (by kernel_rfl) (by kernel_rfl) (by kernel_rfl) (fun _ _ _ h=>h) (by kernel_rfl) hSd (fun w hS=>by go_simp) ?_
 refine Rg.dR 18 (.pointer (some ⟨w₀.heap.size,1,none⟩)) rfl (by kernel_rfl) (by kernel_rfl) (by kernel_rfl) (fun _ _ _ h=>h) (by kernel_rfl) hSd (fun w hS=>by go_simp) ?_
 refine Rg.dR 19 (.slice ot nt ct) rfl (by kernel_rfl) (by kernel_rfl) (by kernel_rfl) (fun _ _ _ h=>h) (by kernel_rfl) hSd (fun w hS=>Rg.kv 39 Zk (.tmp 69) rfl ⟨w₀.heap.size,1,none⟩ (by kernel_rfl) _ (box hS.1).1.2.1) ?_
 refine Rg.dR 20 (.int .i64 (nt:Int)) rfl (by kernel_rfl) (by kernel_rfl) (by kernel_rfl) (fun _ _ _ h=>h) (by kernel_rfl) hSd (fun w hS=>by go_simp) ?_
 refine Rg.dR 21 (.int .i64 (3+(nt:Int))) rfl (by kernel_rfl) (by kernel_rfl) (by kernel_rfl) (fun _ _ _ h=>h) (by kernel_rfl) hSd (fun w hS=>by go_simp;exact Xo (by omega) (by omega)) ?_
 refine Rg.dR 22 (.pointer (some ⟨w₀.heap.size,2,none⟩)) rfl (by kernel_rfl) (by kernel_rfl) (by kernel_rfl) (fun _ _ _ h=>h) (by kernel_rfl) hSd (fun w hS=>by go_simp) ?_
 refine Rg.dR 23 (.pointer (some ⟨w₀.heap.size,2,none⟩)) rfl (by kernel_rfl) (by kernel_rfl) (by kernel_rfl) (fun _ _ _ h=>h) (by kernel_rfl) hSd (fun w hS=>by go_simp) ?_
 refine Rg.dR 24 (.slice or' nr cr) rfl (by kernel_rfl) (by kernel_rfl) (by kernel_rfl) (fun _ _ _ h=>h) (by kernel_rfl) hSd (fun w hS=>Rg.kv 42 Zl (.tmp 74) rfl ⟨w₀.heap.size,2,none⟩ (by kernel_rfl) _ (box hS.1).1.2.2.1) ?_
 refine Rg.dR 25 (.int .i64 (nr:Int)) rfl (by kernel_rfl) (by kernel_rfl) (by kernel_rfl) (fun _ _ _ h=>h) (by kernel_rfl) hSd (fun w hS=>by go_simp) ?_
 refine Rg.dR 26 (.int .i64 (3+(nt:Int)+(nr:Int))) rfl (by kernel_rfl) (by kernel_rfl) (by kernel_rfl) (fun _ _ _ h=>h) (by kernel_rfl) hSd (fun w hS=>by go_simp;exact Xo (by omega) (by omega)) ?_
 refine Rg.Rk 15 _ (by kernel_rfl) rfl (by kernel_rfl) ?_
 refine Rg.sW 19 #[.tmp 65,.const (.int .u8 10)] #[9,5] rfl #[.string T,.int .u8 10] (by kernel_rfl) Xr (c19 _ b8) (fun e w9 h=>?_)
 obtain⟨⟨o9,c9,rfl⟩,b9⟩:=h
 have hSd:SS w₀.heap.size w6.heap.size dQ ot nt ct or' nr cr oh nh ch a o1 n1 c1 o2 n2 c2 o3 n3 c3 w9:=hSd.below b9
 have b9:=b8.trans (b9.mono b8.size)
 refine⟨_,rfl,hSd,?_⟩
 refine Rg.dR 16 (.int .i64 ((3+nt+nr:Nat):Int)) rfl (by kernel_rfl) (by kernel_rfl) (by kernel_rfl) (fun _ _ _ h=>h) (by kernel_rfl) hSd (fun w hS=>by go_simp) ?_
 refine Rg.dR 27 (.bool false) rfl (by kernel_rfl) (by kernel_rfl) (by kernel_rfl) (fun _ _ _ h=>h) (by kernel_rfl) hSd (fun w hS=>by go_simp) ?_
 refine Rg.dR 28 (.bool false) rfl (by kernel_rfl) (by kernel_rfl) (by kernel_rfl) (fun _ _ _ h=>h) (by kernel_rfl) hSd (fun w hS=>by go_simp) ?_
 refine Xn ⟨List.toArray (.agg #[.int .i64 dQ,.slice ot nt ct,.slice or' nr cr,.slice oh nh ch]:: .string s:: .pointer (some ⟨w₀.heap.size,0,none⟩)::undef:: .bool false:: .bool true:: .string T:: .int .i64 0:: .pointer (some ⟨w6.heap.size,0,none⟩):: .int .i64 0::undef::undef::undef::undef:: .bool true:: .agg #[.int .i64 dQ,.slice ot nt ct,.slice or' nr cr,.slice oh nh ch]:: .bool false:: .bool false:: .string s:: .int .i64 (s.size:Int):: .bool false:: .bool false:: .bool false:: .bool true:: .bool false:: .bool false::undef:: .tuple #[.string T,.int .i64 0]:: .agg #[.int .i64 dQ,.slice ot nt ct,.slice or' nr cr,.slice oh nh ch]:: .tuple #[.string T,.int .i64 0]:: .string T:: .int .i64 0:: .int .i64 0:: .agg #[.int .i64 dQ,.slice ot nt ct,.slice or' nr cr,.slice oh nh ch]:: .int .i64 0:: .bool false:: .bool false:: .int .i64 0:: .bool true:: .agg #[.int .i64 dQ,.slice ot nt ct,.slice or' nr cr,.slice oh nh ch]:: .int .i64 0:: .bool true:: .bool false:: .bool false:: .int .i64 0:: .bool true:: .tuple #[.agg #[.int .i64 a,.slice o1 n1 c1,.slice o2 n2 c2,.slice o3 n3 c3],.int .i64 0]:: .string T:: .tuple #[.agg #[.int .i64 a,.slice o1 n1 c1,.slice o2 n2 c2,.slice o3 n3 c3],.int .i64 0]:: .agg #[.int .i64 a,.slice o1 n1 c1,.slice o2 n2 c2,.slice o3 n3 c3]:: .int .i64 0:: .int .i64 0:: .bool false:: .bool false:: .agg #[.int .i64 a,.slice o1 n1 c1,.slice o2 n2 c2,.slice o3 n3 c3]:: .agg #[.int .i64 dQ,.slice ot nt ct,.slice or' nr cr,.slice oh nh ch]:: .bool true:: .bool false:: .bool false:: .bool false:: .string T:: .int .i64 (T.size:Int):: .bool false:: .bool false:: .bool false:: .string T:: .slice o9 (3+nt+nr) c9:: .int .i64 ((3+nt+nr:Nat):Int):: .pointer (some ⟨w₀.heap.size,1,none⟩):: .pointer (some ⟨w₀.heap.size,1,none⟩):: .slice ot nt ct:: .int .i64 (nt:Int):: .int .i64 (3+(nt:Int)):: .pointer (some ⟨w₀.heap.size,2,none⟩):: .pointer (some ⟨w₀.heap.size,2,none⟩):: .slice or' nr cr:: .int .i64 (nr:Int):: .int .i64 (3+(nt:Int)+(nr:Int)):: .bool false:: .bool false::undef::undef::undef::undef::undef::undef::undef::undef::undef::undef::undef::undef::undef::undef::undef::undef::undef::undef::undef::undef::undef::undef::undef::undef::undef::undef::undef::undef::undef::undef::undef::undef::[]),[]⟩ (by kernel_rfl) (by kernel_rfl) ?_
 have bF:=b9
 clear b9
 have b9:=bF
 go_wp2_with (go_at_call 17;refine(c17 _ b9).mono ?_)
 rintro e w10 ⟨b10,h10⟩
 have b10:=b9.trans (b10.mono b9.size)
 clear b9 b7
 rcases h10 with⟨v,⟨a',p1,m1,d1,p2,m2,d2,p3,m3,d3,rfl⟩,hv,rfl⟩|rfl
 ·unfold sV at hv ⊢
  have b11:=b10.alloc b10.size (.cells #[.int .i64 a',.slice p1 m1 d1,.slice p2 m2 d2,.slice p3 m3 d3] 47)
  have h11:=zB _ _ _ hv ((Below.refl _ w10).alloc (Nat.le_refl _) (.cells #[.int .i64 a',.slice p1 m1 d1,.slice p2 m2 d2,.slice p3 m3 d3] 47))
  go_wp2_with (go_at_call 14;refine(z14 _ _ h11).mono ?_)
  rintro e w12 ⟨rfl,b12⟩
  have h12:=zB _ _ _ h11 b12
  have g12:w12.heap[w10.heap.size]? =some (.cells #[.int .i64 a',.slice p1 m1 d1,.slice p2 m2 d2,.slice p3 m3 d3] 47 (0,0)):=(b12.block _ (by simp)).trans (aw _ _)
  have b12:=b11.trans (b12.mono b11.size)
  clear b11 h11
  obtain⟨⟨a0,a1,a2,a3⟩,_,_,_,_⟩:=box g12
  go_wp2_with (go_at_call 15;refine(z15 _ _ h12).mono ?_)
  rintro e w13 ⟨rfl,b13⟩
  have b13:=b12.trans (b13.mono b12.size)
  go_wp2
  go_ret
  exact⟨rfl,b13⟩
 ·go_wp2
  go_ret
  exact⟨rfl,b10.alloc b10.size _⟩
end
end Wk
end
section
open Go Go.az Go.RowKit
namespace La
open L Vl Rv
set_option maxHeartbeats 800000 in
theorem writes(k m:Int)(b:Nat)(l:List UInt8)(s:ByteArray)(h:Reads s.data.toList (k,m,b,l))(hl:l.length≤500)(hs:s.size≤500)(w:World)(hv:cZ w):
  Calls Tryz.prog 31 #[vV k m b ⟨⟨l⟩⟩,.string s] w fun e w'=>e= .returned (.bool true)∧Below w.heap.size w w':=by
 have mixed:=mix
 have e8:=read s (by omega)
 have hrd:=(EW _ _).2 h
 rw [hrd]at e8
 obtain⟨⟨h0,h1,hb⟩,ho,ht⟩:=h
 simp only at h0 h1 hb ho ht
 have e6:=fun w1=>value k m b l hb h0 h1 (by omega) w1
 rw [ho,if_pos rfl,if_pos rfl,ht]at e6
 have hss:(⟨s.data.toList.toArray⟩:ByteArray)=s:=rfl
 rw [hss]at e6
 have e8:∀w,cZ w→Calls Tryz.prog 8 #[.string s] w fun e w'=>e= .returned (.tuple #[.agg #[.int .u8 k,.int .i64 m,.int .u64 b,.string ⟨⟨l⟩⟩],.int .i64 0])∧Below w.heap.size w w':=e8
 unfold vV at e6 ⊢
 have hv1:=hv.below ((Below.refl _ w).alloc (Nat.le_refl _) (.cells #[.int .u8 k,.int .i64 m,.int .u64 b,.string ⟨⟨l⟩⟩] 24))
 have hb1:=((Below.refl _ w).alloc (Nat.le_refl _) (.cells #[.int .u8 k,.int .i64 m,.int .u64 b,.string ⟨⟨l⟩⟩] 24))
 clear hss hrd ho ht h0 h1 hb
 generalize (⟨⟨l⟩⟩:ByteArray)=t at*
 go_enter Tryz.func31,Tryz.ntmps31
 go_wp2_with (go_at_call 6;refine(e6 _ hv1).mono ?_)
 rintro e w2 ⟨rfl,hb2⟩
 have g2:w2.heap[w.heap.size]? =some (.cells #[.int .u8 k,.int .i64 m,.int .u64 b,.string t] 24 (0,0)):=(hb2.block _ (by simp)).trans (Tx.aw _ _)
 have hb2:=hb1.trans (hb2.mono (by simp))
 have hlt:w.heap.size<w2.heap.size:=by
  rcases Nat.lt_or_ge w.heap.size w2.heap.size with h|h
  ·exact h
  ·rw [Array.getElem?_eq_none h]at g2;cases g2
 clear hv1 hb1
 go_wp2_with (go_at_call 8;refine(e8 _ (hv.below hb2)).mono ?_)
 rintro e w3 ⟨rfl,hb3⟩
 have g3:=(hb3.block _ hlt).trans g2
 have hb3:=hb2.trans (hb3.mono hb2.size)
 obtain⟨⟨a0,a1,a2,a3⟩,_,_,_,_⟩:=Tx.mD g3
 have hlt3:w.heap.size<w3.heap.size:=by
  rcases Nat.lt_or_ge w.heap.size w3.heap.size with h|h
  ·exact h
  ·rw [Array.getElem?_eq_none h]at g3;cases g3
 clear g2 g3 hb2 hlt
 go_wp2
 go_ret
 exact⟨rfl,hb3.alloc hb3.size _⟩
theorem bU{w:World}{b:Nat}{o:Obj}(h:w.heap[b]? =some o):b<w.heap.size:=by
 rcases Nat.lt_or_ge b w.heap.size with h'|h'
 ·exact h'
 ·rw [Array.getElem?_eq_none h']at h;cases h
theorem cV{w:World}{M T:Nat}{a b c d:Value}(h:w.heap[M]? =some (.cells #[a,b,c,d] T (0,0))):(w.cell? ⟨M,0,none⟩=some a∧w.cell? ⟨M,1,none⟩=some b∧w.cell? ⟨M,2,none⟩=some c∧w.cell? ⟨M,3,none⟩=some d)∧
  w.frozen? ⟨M,0,none⟩=false∧w.frozen? ⟨M,1,none⟩=false∧w.frozen? ⟨M,2,none⟩=false∧w.frozen? ⟨M,3,none⟩=false:=
 ⟨⟨(Lib.cell_of_heap h 0).trans rfl,(Lib.cell_of_heap h 1).trans rfl,(Lib.cell_of_heap h 2).trans rfl,(Lib.cell_of_heap h 3).trans rfl⟩,Lib.frozen_of_heap h 0,Lib.frozen_of_heap h 1,Lib.frozen_of_heap h 2,Lib.frozen_of_heap h 3⟩
def qA:Value:= .agg #[.int .i64 0,.slice none 0 0,.slice none 0 0,.slice none 0 0]
set_option maxHeartbeats 800000 in
theorem Qu(w:World):Calls Tryz.prog 45 #[.agg #[.slice none 0 0]] w fun e w'=>e= .returned (.int .i64 0)∧Below w.heap.size w w':=by
 have mixed:=mix
 go_enter Tryz.func45,Tryz.ntmps45
 go_wp2
 refine wp_loop_rounds 1 ?_
 rw [rounds_succ]
 go_wp2
 go_ret
 exact⟨rfl,(Below.refl _ _).alloc (Nat.le_refl _) _⟩
set_option maxHeartbeats 800000 in
theorem Qv(w:World):Calls Tryz.prog 46 #[.agg #[.slice none 0 0]] w fun e w'=>e= .returned (.int .i64 0)∧Below w.heap.size w w':=by
 have mixed:=mix
 go_enter Tryz.func46,Tryz.ntmps46
 go_wp2
 refine wp_loop_rounds 1 ?_
 rw [rounds_succ]
 go_wp2
 go_ret
 exact⟨rfl,(Below.refl _ _).alloc (Nat.le_refl _) _⟩
set_option maxHeartbeats 800000 in
theorem np(w:World):Calls Tryz.prog 15 #[qA] w fun e w'=>e= .returned (.int .i64 0)∧Below w.heap.size w w':=by
 have mixed:=mix
 unfold qA
 go_enter Tryz.func15,Tryz.ntmps15
 go_wp2_with (go_at_call 45;refine(Qu _).mono ?_)
 rintro e w1 ⟨rfl,hb1⟩
 have g1:w1.heap[w.heap.size]? =some (.cells #[.int .i64 0,.slice none 0 0,.slice none 0 0,.slice none 0 0] 47 (0,0)):=(hb1.block _ (by simp)).trans (Tx.aw _ _)
 have hb1:=((Below.refl _ w).alloc (Nat.le_refl _) (.cells #[.int .i64 0,.slice none 0 0,.slice none 0 0,.slice none 0 0] 47)).trans (hb1.mono (by simp))
 obtain⟨⟨a0,a1,a2,a3⟩,_,_,_,_⟩:=cV g1
 go_wp2_with (go_at_call 46;refine(Qv _).mono ?_)
 rintro e w2 ⟨rfl,hb2⟩
 have g2:=(hb2.block _ (bU g1)).trans g1
 have hb2:=hb1.trans (hb2.mono hb1.size)
 clear a0 a1 a2 a3 g1 hb1
 obtain⟨⟨a0,a1,a2,a3⟩,_,_,_,_⟩:=cV g2
 clear g2
 go_wp2
 refine wp_loop_rounds 1 ?_
 rw [rounds_succ]
 go_wp2
 go_ret
 exact⟨rfl,hb2⟩
end La
end
section
open Go Go.az Go.RowKit
namespace La
set_option maxHeartbeats 800000 in
theorem Zm(w:World):Calls Tryz.prog 42 #[.int .i64 0] w fun e w'=>e= .returned (.string ⟨#[48]⟩)∧Below w.heap.size w w':=by
 have mixed:=mix
 go_enter Tryz.func42,Tryz.ntmps42
 go_wp2
 go_ret
 exact⟨rfl,Below.refl _ _⟩
end La
end
section
open Go Go.az Go.RowKit
namespace La
open L Vl Rv
set_option maxHeartbeats 800000 in
theorem L3(bm cap:Nat)(a sep:ByteArray)(w:World)(h0:w.cell? ⟨bm,0,none⟩=some (.string a)):
  Calls Tryz.prog 41 #[.slice (some ⟨bm,0,none⟩) 1 cap,.string sep] w fun e w'=>e= .returned (.string a)∧Below w.heap.size w w':=by
 have mixed:=mix
 go_enter Tryz.func41,Tryz.ntmps41
 go_wp2
 go_ret
 exact⟨rfl,Below.refl _ _⟩
set_option maxHeartbeats 800000 in
theorem Xt(bm:Nat)(w:World)(hlt:bm<w.heap.size)(h0:w.cell? ⟨bm,0,none⟩=some (.string ⟨#[118,101,114,115,105,111,110]⟩))(h1:w.cell? ⟨bm,1,none⟩=some (.string ⟨#[48]⟩)):
  Calls Tryz.prog 41 #[.slice (some ⟨bm,0,none⟩) 2 2,.string ⟨#[32]⟩] w fun e w'=>e= .returned (.string ⟨#[118,101,114,115,105,111,110,32,48]⟩)∧Below w.heap.size w w':=by
 have mixed:=mix
 have h1':w.cell? ⟨bm,0+1,none⟩=some (.string ⟨#[48]⟩):=h1
 go_enter Tryz.func41,Tryz.ntmps41
 go_wp2
 refine wp_loop_rounds 3 ?_
 rw [rounds_succ]
 go_wp2
 rw [rounds_succ]
 go_wp2
 rw [rounds_succ]
 go_wp2_with (go_at_call 75;refine(Bu.Grow w.heap.size w.heap.size 9 _ (Nat.le_refl _) (Tx.aw _ _) (by simp) (by decide)).mono ?_)
 rintro e w1 ⟨rfl,k1,b1⟩
 have b1:=((Below.refl _ w).alloc (Nat.le_refl _) (.cells #[.pointer none,.slice none 0 0] 84)).trans b1
 have q0:=(b1.cell (p:=⟨bm,0,none⟩) hlt).trans h0
 go_wp2_with (go_at_call 40;refine(Bu.writeString w.heap.size w.heap.size [] _ w1 (.inr k1) (by decide) b1.size).mono ?_)
 rintro e w2 ⟨rfl,k2,b2⟩
 have b2:=b1.trans b2
 have q1:w2.cell? ⟨bm,1,none⟩=some (.string ⟨#[48]⟩):=(b2.cell (p:=⟨bm,1,none⟩) hlt).trans h1
 clear k1 b1 q0 h0
 go_wp2_with fail
 refine wp_loop_rounds 2 ?_
 rw [rounds_succ]
 go_wp2_with (go_at_call 40;refine(Bu.writeString w.heap.size w.heap.size _ ⟨#[32]⟩ w2 (.inr k2) (by decide) b2.size).mono ?_)
 rintro e w3 ⟨rfl,k3,b3⟩
 have b3:=b2.trans b3
 clear k2 b2 q1
 go_wp2_with (go_at_call 40;refine(Bu.writeString w.heap.size w.heap.size _ ⟨#[48]⟩ w3 (.inr k3) (by decide) b3.size).mono ?_)
 rintro e w4 ⟨rfl,k4,b4⟩
 have b4:=b3.trans b4
 clear k3 b3
 go_wp2_with fail
 rw [rounds_succ]
 have k4:Lib.BuilderAt 84 5 w.heap.size w.heap.size (.pointer (some ⟨w.heap.size,0,none⟩)) (Lib.byteCells [118,101,114,115,105,111,110,32,48]) w4:=k4
 go_wp2_with (go_at_call 44;refine(Tryz.Builder_String_any w.heap.size w.heap.size _ w4 (.inr k4) b4.size).mono ?_)
 rintro e w5 ⟨rfl,b5⟩
 have b5:=b4.trans b5
 go_wp2
 go_ret
 exact⟨rfl,b5⟩
end La
end
section
open Go Go.az Go.RowKit
namespace La
theorem qh{B b:Nat}{p:Value}{bs:List Value}{w w':World}(h:Lib.BuilderAt 84 5 B b p bs w)(hb:Below w.heap.size w w'):Lib.BuilderAt 84 5 B b p bs w':=by
 obtain⟨h1,v,h2,h3,h4⟩:=h
 refine⟨h1,v,(hb.block _ (bU h2)).trans h2,⟨h3.1,?_⟩,h4⟩
 rcases h3.2 with h|⟨g,cap,cur,rfl,k1,k2,k3⟩
 ·exact .inl h
 ·exact .inr ⟨g,cap,cur,rfl,k1,(hb.block _ (bU k2)).trans k2,k3⟩
theorem AA{B b:Nat}{bs:List Value}{w w':World}(h:Lib.IsBuilder 84 5 B b bs w)(hb:Below w.heap.size w w'):Lib.IsBuilder 84 5 B b bs w':=by
 rcases h with h|h
 ·exact .inl (qh h hb)
 ·exact .inr (qh h hb)
set_option maxHeartbeats 800000 in
theorem line(sl:Value)(j:ByteArray)(hj1:j.size≤1000)(B b:Nat)(bs:List Value)(hbs:bs.length≤100000)(w:World)(hj:Calls Tryz.prog 41 #[sl,.string ⟨#[32]⟩] w fun e w'=>e= .returned (.string j)∧Below w.heap.size w w')(h:Lib.IsBuilder 84 5 B b bs w)(hB:B≤w.heap.size):
  Calls Tryz.prog 39 #[sl,.pointer (some ⟨b,0,none⟩)] w fun e w'=>e= .returned (.tuple #[])∧(Lib.BuilderAt 84 5 B b (.pointer (some ⟨b,0,none⟩)) (bs++Lib.strCells (j++⟨#[10]⟩)) w'∧Below B w w'):=by
 have mixed:=mix
 have hjs:(j++⟨#[10]⟩:ByteArray).size=j.size+1:=by rw [ByteArray.size_append];rfl
 go_enter Tryz.func39,Tryz.ntmps39
 go_wp2_with (go_at_call 41;refine hj.mono ?_)
 rintro e w1 ⟨rfl,b1⟩
 have k1:=AA h b1
 have b1:=b1.mono hB
 go_wp2_with (go_at_call 40;refine(Bu.writeString B b bs _ w1 k1 (by omega) (Nat.le_trans hB b1.size)).mono ?_)
 rintro e w2 ⟨rfl,k2,b2⟩
 have b2:=b1.trans b2
 go_wp2
 go_end0
 exact⟨rfl,k2,b2⟩
set_option maxHeartbeats 800000 in
theorem Xu(w:World):Calls Tryz.prog 14 #[qA] w fun e w'=>e= .returned (.tuple #[.string ⟨#[118,101,114,115,105,111,110,32,48,10,104,101,97,100,115,10]⟩,.int .i64 0])∧Below w.heap.size w w':=by
 have mixed:=mix
 have hmf:∀(fn:Fn)(first cap:Array Value)(w:World),(Instr.makeFunc fn first cap).run Tryz.prog w= .ok (.func fn first cap) w:=fun _ _ _ _=>rfl
 have h15:=fun w=>np w
 unfold qA at*
 go_enter Tryz.func14,Tryz.ntmps14
 go_wp2_with (go_at_call 15;refine(h15 _).mono ?_)
 rintro e w1 ⟨rfl,hb1⟩
 have g1:w1.heap[w.heap.size]? =some (.cells #[.int .i64 0,.slice none 0 0,.slice none 0 0,.slice none 0 0] 47 (0,0)):=(hb1.block _ (by simp)).trans (Tx.aw _ _)
 have hb1:=((Below.refl _ w).alloc (Nat.le_refl _) (.cells #[.int .i64 0,.slice none 0 0,.slice none 0 0,.slice none 0 0] 47)).trans (hb1.mono (by simp))
 obtain⟨⟨a0,a1,a2,a3⟩,_,_,_,_⟩:=cV g1
 have hlt1:=bU g1
 go_wp2_with (go_at_call 42;refine(Zm _).mono ?_)
 rintro e w2 ⟨rfl,hb2⟩
 have gB:w2.heap[w1.heap.size]? =some (.cells #[.pointer none,.slice none 0 0] 84 (0,0)):=(hb2.block _ (by simp)).trans (Tx.aw _ _)
 have g2:=(hb2.block w.heap.size (by simp;omega)).trans ((Below.heap_alloc _ _ _ hlt1).trans g1)
 have hs2:w1.heap.size≤w2.heap.size:=Nat.le_of_lt (bU gB)
 have hb2:=(hb1.alloc hb1.size (.cells #[.pointer none,.slice none 0 0] 84)).trans (hb2.mono (by simp;omega))
 have kB:Lib.IsBuilder 84 5 w1.heap.size w1.heap.size [] (w2.alloc (.cells #[.string ⟨#[118,101,114,115,105,111,110]⟩,.string ⟨#[48]⟩] 9)):= .inl ⟨Nat.le_refl _,.slice none 0 0,(Below.heap_alloc _ _ _ (bU gB)).trans gB,⟨rfl,.inl ⟨rfl,rfl⟩⟩,by simp [Value.ownBlock]⟩
 have hj:=Xt w2.heap.size (w2.alloc (.cells #[.string ⟨#[118,101,114,115,105,111,110]⟩,.string ⟨#[48]⟩] 9)) (by simp) ((Lib.cell_of_heap (Tx.aw _ _) 0).trans rfl) ((Lib.cell_of_heap (Tx.aw _ _) 1).trans rfl)
 have hb3:=hb2.alloc hb2.size (.cells #[.string ⟨#[118,101,114,115,105,111,110]⟩,.string ⟨#[48]⟩] 9)
 have g3:=(Below.heap_alloc w2 (.cells #[.string ⟨#[118,101,114,115,105,111,110]⟩,.string ⟨#[48]⟩] 9) _ (bU g2)).trans g2
 go_wp2_with (go_at_call 39;refine(line _ _ (by decide) w1.heap.size w1.heap.size [] (by decide) _ hj kB (by simp;omega)).mono ?_)
 rintro e w3 ⟨rfl,k3,b3⟩
 have g4:=(b3.block w.heap.size hlt1).trans g3
 have hs3:w1.heap.size≤w3.heap.size:=Nat.le_trans hs2 (by have:=b3.size;simp at this;omega)
 have hb4:=hb3.trans (b3.mono hb1.size)
 obtain⟨⟨c0,c1,c2,c3⟩,_,_,_,_⟩:=cV g4
 have hlt3:=bU g4
 clear a0 a1 a2 a3 g1 g2 g3 gB kB hj hb2 hb3 b3
 have kB:Lib.IsBuilder 84 5 w1.heap.size w1.heap.size _ (w3.alloc (.cells #[.string ⟨#[104,101,97,100,115]⟩] 9)):=AA (.inr k3) ((Below.refl _ _).alloc (Nat.le_refl _) _)
 have hj:=L3 w3.heap.size 1 ⟨#[104,101,97,100,115]⟩ ⟨#[32]⟩ (w3.alloc (.cells #[.string ⟨#[104,101,97,100,115]⟩] 9)) ((Lib.cell_of_heap (Tx.aw _ _) 0).trans rfl)
 have hb5:=hb4.alloc hb4.size (.cells #[.string ⟨#[104,101,97,100,115]⟩] 9)
 have g5:=(Below.heap_alloc w3 (.cells #[.string ⟨#[104,101,97,100,115]⟩] 9) _ (bU g4)).trans g4
 go_wp2_with fail
 refine wp_loop_rounds 1 ?_
 rw [rounds_succ]
 go_wp2_with (go_at_call 39;refine(line _ _ (by decide) w1.heap.size w1.heap.size _ (by decide) _ hj kB (by simp;omega)).mono ?_)
 rintro e w4 ⟨rfl,k4,b4⟩
 have g6:=(b4.block w.heap.size hlt1).trans g5
 have hs4:w1.heap.size≤w4.heap.size:=Nat.le_trans hs3 (by have:=b4.size;simp at this;omega)
 have hb6:=hb5.trans (b4.mono (by have:=hb1.size;omega))
 clear c0 c1 c2 c3 g4 g5 kB hj hb4 hb5 b4 hlt3 k3
 obtain⟨⟨c0,c1,c2,c3⟩,_,_,_,_⟩:=cV g6
 have hlt4:=bU g6
 go_wp2_with fail
 refine wp_loop_rounds 1 ?_
 rw [rounds_succ]
 go_wp2_with fail
 refine wp_loop_rounds 1 ?_
 rw [rounds_succ]
 have k4:Lib.BuilderAt 84 5 w1.heap.size w1.heap.size (.pointer (some ⟨w1.heap.size,0,none⟩)) (Lib.byteCells [118,101,114,115,105,111,110,32,48,10,104,101,97,100,115,10]) w4:=k4
 go_wp2_with (go_at_call 44;refine(Tryz.Builder_String_any w1.heap.size w1.heap.size _ w4 (.inr k4) hs4).mono ?_)
 rintro e w5 ⟨rfl,b5⟩
 have hb7:=hb6.trans (b5.mono (by have:=hb1.size;omega))
 go_wp2
 go_ret2
 exact⟨rfl,hb7⟩
end La
end
section
open Go Go.az Go.RowKit
namespace La
open L Vl Rv
theorem rd1:Reads (⟨#[110,45,53]⟩:ByteArray).data.toList (1,-5,0,[]):=by
 refine⟨⟨by decide,by decide,by decide⟩,by decide,?_⟩
 show lK 1 (-5) 0 []=_
 rw [Qd]
 unfold Lib.itoa
 rw [if_pos (by decide),show(-5:Int).natAbs=5 from rfl,iD (by decide)]
 rfl
theorem rd2:Reads (⟨#[102,51,102,102,48,48,48,48,48,48,48,48,48,48,48,48,48]⟩:ByteArray).data.toList (2,0,4607182418800017408,[]):=⟨⟨by decide,by decide,by decide⟩,by decide,by decide⟩
theorem rd3:Reads (⟨#[116,97,92,115,98]⟩:ByteArray).data.toList (3,0,0,[97,32,98]):=⟨⟨by decide,by decide,by decide⟩,by decide,by decide⟩
theorem rd4:Reads (⟨#[116]⟩:ByteArray).data.toList (3,0,0,[]):=⟨⟨by decide,by decide,by decide⟩,by decide,by decide⟩
set_option maxHeartbeats 800000 in
theorem alive(w:World)(hv:cZ w):Calls Tryz.prog 10 #[] w fun e w'=>e= .returned (.bool true)∧Below w.heap.size w w':=by
 have mixed:=mix
 have t0:=Xu
 have u1:=fun w1=>writes 1 (-5) 0 [] ⟨#[110,45,53]⟩ rd1 (by decide) (by decide) w1
 have u2:=fun w1=>writes 2 0 4607182418800017408 [] ⟨#[102,51,102,102,48,48,48,48,48,48,48,48,48,48,48,48,48]⟩ rd2 (by decide) (by decide) w1
 have u3:=fun w1=>writes 3 0 0 [97,32,98] ⟨#[116,97,92,115,98]⟩ rd3 (by decide) (by decide) w1
 have u4:=fun w1=>writes 3 0 0 [] ⟨#[116]⟩ rd4 (by decide) (by decide) w1
 unfold qA at t0
 unfold vV at u1 u2 u3 u4
 go_enter Tryz.func10,Tryz.ntmps10
 go_wp2_with (go_at_call 14;refine(t0 _).mono ?_)
 rintro e w1 ⟨rfl,b1⟩
 go_wp2_with (go_at_call 31;refine(u1 _ (hv.below b1)).mono ?_)
 rintro e w2 ⟨rfl,b2⟩
 have b2:=b1.trans (b2.mono b1.size)
 go_wp2_with (go_at_call 31;refine(u2 _ (hv.below b2)).mono ?_)
 rintro e w3 ⟨rfl,b3⟩
 have b3:=b2.trans (b3.mono b2.size)
 go_wp2_with (go_at_call 31;refine(u3 _ (hv.below b3)).mono ?_)
 rintro e w4 ⟨rfl,b4⟩
 have b4:=b3.trans (b4.mono b3.size)
 go_wp2_with (go_at_call 31;refine(u4 _ (hv.below b4)).mono ?_)
 rintro e w5 ⟨rfl,b5⟩
 have b5:=b4.trans (b5.mono b4.size)
 go_wp2
 go_ret
 exact⟨rfl,b5⟩
end La
end
section
open Go Go.az Go.RowKit
namespace Lb
open L Td Vl Pa Wk
structure Xv(x:El t47):Prop where
 cy:∀y∈cf x,Ax (cR y)
 tags:∀y∈cK x,Ax (cR (Gy y))
 cT:∀y∈cv x,Ax (cR (Dj y))∧0≤ep y∧ -9223372036854775808≤vM (bh y)∧vM (bh y)≤9223372036854775807∧0≤vB (bh y)∧vB (bh y)<18446744073709551616
theorem M9{W:World}{z:El t47}{v:Value}(h:cQ W t47 z v):Zi v:=by
 obtain⟨tv,rv,hv,rfl,h1,h2,h3⟩:=nf h
 obtain⟨ot,ct,rfl,_⟩:=Te.cx rfl h1
 obtain⟨or',cr,rfl,_⟩:=Te.cx rfl h2
 obtain⟨oh,ch,rfl,_⟩:=Te.cx rfl h3
 exact⟨_,_,_,_,_,_,_,_,_,_,rfl⟩
def Zs(s:ByteArray)(W:World)(v:Value):Prop:=cZ W∧∃z:El t47,lB z∧eY z=true∧eX z=s.data.toList∧cQ W t47 z v
theorem sec(s:ByteArray)(hs:s.size≤3000)(m:Int)(w:World)(hv:cZ w)(hm:w.cell? ⟨3,0,none⟩=some (.int .i64 m)):Zj s w (Zs s):=by
 have h3:3<w.heap.size:=by
  have:=hv.size
  omega
 refine⟨fun W b=>?_,fun W v ⟨hv1,z,g1,g2,g3,g4⟩=>?_,fun W v ⟨hv1,z,g1,g2,g3,g4⟩=>?_,fun W W' v ⟨hv1,z,g1,g2,g3,g4⟩ b=>⟨hv1.below b,z,g1,g2,g3,jd g4 b⟩⟩
 ·refine(E7 s hs m W (hv.below b) ((b.cell (p:=⟨3,0,none⟩) h3).trans hm)).mono fun e w' ⟨b2,h⟩=>⟨b2,?_⟩
  rcases h with⟨z,v,g1,g2,g3,g4,g5⟩|g
  ·exact .inl ⟨v,M9 g5,⟨(hv.below b).below b2,z,g1,g2,g3,g5⟩,g4⟩
  ·exact .inr g
 ·have h:=M0 z g1 W hv1 v g4
  unfold TB TC at h
  rw [g2,if_pos rfl,if_pos rfl,g3]at h
  exact h
 ·have h:=np z g1 W v g4
  rw [g2,if_pos rfl]at h
  exact h
theorem Zn(x:El t47)(hN:Xv x)(s:ByteArray)(m:Int)(w:World)(hv:cZ w)(hm:w.cell? ⟨3,0,none⟩=some (.int .i64 m))(v':Value)(hl:cQ w t47 x v'):
  Calls Tryz.prog 5 #[v',.string s] w fun e w'=>e= .returned (.bool true)∧Below w.heap.size w w':=by
 have h3:3<w.heap.size:=by
  have:=hv.size
  omega
 have hl0:=hl
 obtain⟨tv,rv,hdv,rfl,ht,hr,hh⟩:=nf hl
 obtain⟨ot,ct,rfl,_⟩:=Te.cx rfl ht
 obtain⟨or',cr,rfl,_⟩:=Te.cx rfl hr
 obtain⟨oh,ch,rfl,_⟩:=Te.cx rfl hh
 have hlb:∀W,Below w.heap.size w W→cQ W t47 x (sV (gy x) ot (cK x).length ct or' (cv x).length cr oh (cf x).length ch):=fun W b=>jd hl0 b
 have c10:=fun W (b:Below w.heap.size w W)=>La.alive W (hv.below b)
 obtain⟨b,h13,hsm⟩:=UK 200 (by decide) x
 have c13:∀W,Below w.heap.size w W→Calls Tryz.prog 13 #[sV (gy x) ot (cK x).length ct or' (cv x).length cr oh (cf x).length ch] W fun e w'=>e= .returned (.bool b)∧Below W.heap.size W w':=fun W bl=>
  (fm (Us 200) h13 (args':=[sV (gy x) ot (cK x).length ct or' (cv x).length cr oh (cf x).length ch]) (aR.cons (hlb W bl) .nil)).mono fun e w' ⟨v,h1,h2,h3⟩=>⟨by rw [h1,jc [t4] _ rfl h2];rfl,h3⟩
 cases b with
 |true=>exact Wk.Xm _ _ _ _ _ _ _ _ _ _ s w c10 c13
 |false=>
  obtain⟨⟨k1,k2⟩,⟨k3,k4⟩,k5⟩:=hsm rfl
  by_cases hs:s.size≤3000
  ·have hN':lB x:=⟨hN.cy,hN.tags,fun y hy=>by
    obtain⟨g1,g2,g3,g4,g5,g6⟩:=hN.cT y hy
    have:(xR y).length≤100:=(k4 y hy).2
    exact⟨g1,g2,g3,g4,g5,g6,by show(xR y).length≤1000000;omega⟩⟩
   have hsec:=sec s hs m w hv hm
   have c14:=fun W (b:Below w.heap.size w W)=>M0 x hN' W (hv.below b) _ (hlb W b)
   have c15:=fun W (b:Below w.heap.size w W)=>np x hN' W _ (hlb W b)
   have c16:=fun W (b:Below w.heap.size w W)=>Qs x hN' (fun y hy=>(k4 y hy).2) W _ (hlb W b)
   cases hg:eY x with
   |false=>
    unfold TC at c14
    rw [hg,if_neg (by decide)]at c14 c15 c16
    exact Wk.bad _ _ _ _ _ _ _ _ _ _ s w c10 c13 hs _ c14 c15 c16 _ hsec
   |true=>
    unfold TB TC at c14
    rw [hg,if_pos rfl]at c14 c15 c16
    rw [if_pos rfl]at c14
    have hbk:=rW hN' hg
    have hlen:=Db hbk
    obtain⟨ps,h19,hps⟩:=Qt 40000 (eX x) 10 (by omega) (by omega)
    rw [E8 hbk]at hps
    refine Wk.N3 _ _ _ _ _ _ _ _ _ _ s w c10 c13 hs ⟨(eX x).toArray⟩ (by simpa [ByteArray.size]using hlen) (by have:(cK x).length≤100:=k1;omega) (by have:(cv x).length≤100:=k3;omega) c14 c15 c16
     (fun W v=>cQ W t47 x v) (fun W W' v h b=>jd h b) (fun W b=>?_) (fun W v b hL=>?_) (fun W b=>?_) _ hsec
    ·refine(IW hN' hg m W (hv.below b) ((b.cell (p:=⟨3,0,none⟩) h3).trans hm)).mono fun e w' ⟨b2,v,h1,h2⟩=>⟨b2,v,M9 h2,h2,h1⟩
    ·exact(fm (UG 2000) (M6 2000 x (by decide) k1 k3 k5) (args':=[v,sV (gy x) ot (cK x).length ct or' (cv x).length cr oh (cf x).length ch]) (aR.cons hL (aR.cons (hlb W b) .nil))).mono fun e w' ⟨v,h1,h2,h3⟩=>⟨by rw [h1,jc [t4] _ rfl h2];rfl,h3⟩
    ·refine(fm (UH 40000) h19 (args':=[.string ⟨(eX x).toArray⟩,.int .u8 10]) (p9 [t9,t5] (eX x,(10:Int),()) rfl)).mono fun e w' ⟨v,h1,h2,h3⟩=>⟨?_,h3⟩
     obtain⟨o,c,rfl,_⟩:=Te.cx (t:=t9) rfl (show cQ w' (.slice t9) ps v from h2)
     refine⟨o,c,?_⟩
     have hq:ps.length=3+(cK x).length+(cv x).length:=by omega
     exact h1.trans (congrArg (fun k=>Ending.returned (Value.slice o k c)) hq)
  ·exact Wk.long _ _ _ _ _ _ _ _ _ _ s w c10 c13 (by omega)
end Lb
end
section
open Go Go.az Go.ChangeShapes Go.WideShapes Go.ChangeAt Go.RowKit
namespace Rc
theorem own:ownKnob Tryz.prog.godebug=none:=by kernel_rfl
theorem laidOut:laidOutB Tryz.prog=true:=by kernel_rfl
def tb:TypeId:=4
theorem star: "*" ++ "errors.errorString" = "*errors.errorString" :=by decide
theorem Na(u:TypeId)(h:Tryz.prog.typeName? 3 u=some "*errors.errorString"):u=218:=
 typeName_ptr_named (nm:= "errors.errorString") (by rw [star];kernel_rfl) (by kernel_rfl) (by decide) u (by rw [star];exact h)
def list:List (String×DataW Unit):=[("math/bits.deBruijn32tab",Rows.laid_math_bits_deBruijn32tab),("math/bits.deBruijn64tab",Rows.laid_math_bits_deBruijn64tab),("internal/strconv.uint64pow10",Rows.laid_internal_strconv_uint64pow10),("unicode/utf8.acceptRanges",Rows.laid_unicode_utf8_acceptRanges),("strconv.ErrRange",Rows.laid_strconv_ErrRange),("strconv.ErrSyntax",Rows.laid_strconv_ErrSyntax),("unicode/utf8.first",Rows.laid_unicode_utf8_first)]
theorem sZ{w:World}{n:String}{g:Nat}{v:Value}(hg:Tryz.prog.globalNamed n=some g)(h:w.var? Tryz.prog n=some #[v]):w.cell? ⟨g,0,none⟩=some v:=by
 have:=World.var?_cell hg h 0
 simpa using this
theorem vars{W:World}(h:laidMet Tryz.prog list W):Vl.cZ W:=by
 have h2:=h.tail.tail
 have h3:=h2.tail.tail
 have h4:=h3.tail
 have hp:laidMet Tryz.prog (("internal/strconv.uint64pow10",Lib.tabData .u64 Lib.pow10Tab)::[("unicode/utf8.acceptRanges",Rows.laid_unicode_utf8_acceptRanges),("strconv.ErrRange",Rows.laid_strconv_ErrRange),("strconv.ErrSyntax",Rows.laid_strconv_ErrSyntax),("unicode/utf8.first",Rows.laid_unicode_utf8_first)]) W:=h2
 obtain⟨a2,s2,hv2,_,_,_⟩:=laid_sentinel (g:=2) (ti:=67) (tp:=218) (te:=220) (ts:=9) h3 (by kernel_rfl) (by kernel_rfl) Tryz.underlying67 Na Tryz.underlying218 Tryz.underlying220 rfl rfl Tryz.underlying9 (by kernel_rfl) (by kernel_rfl)
 obtain⟨a1,s1,hv1,_,_,_⟩:=laid_sentinel (g:=1) (ti:=67) (tp:=218) (te:=220) (ts:=9) h4 (by kernel_rfl) (by kernel_rfl) Tryz.underlying67 Na Tryz.underlying218 Tryz.underlying220 rfl rfl Tryz.underlying9 (by kernel_rfl) (by kernel_rfl)
 refine⟨Lib.tabIs_of_head (g:=0) (t:=174) (e:=22) (n:=20) (by kernel_rfl) (by kernel_rfl) Tryz.underlying174 Tryz.underlying22 (by kernel_rfl) (by kernel_rfl) hp,⟨_,_,sZ (by kernel_rfl) hv1⟩,⟨_,_,sZ (by kernel_rfl) hv2⟩,?_⟩
 obtain⟨ps,⟨g,t,cs,f,p,q,_,_,_,_,⟨g5,t5,cs5,f5,p5,q5,hg5,_,hv5,_,_,_⟩,_⟩,_⟩:=h
 obtain rfl:g5=5:=Option.some.inj (hg5.symm.trans (by kernel_rfl))
 unfold World.var? at hv5
 rw [show Tryz.prog.globalNamed "math/bits.deBruijn64tab" =some 5 by kernel_rfl]at hv5
 simp only [Option.bind_some]at hv5
 rcases Nat.lt_or_ge 5 W.heap.size with hh|hh
 ·exact hh
 ·rw [Array.getElem?_eq_none hh]at hv5;cases hv5
def cellOf(d:DataW Unit):Value:=match d with
 | .lit (.int k z)=> .int k z
 |_=>undef
def cellsOf(d:DataW Unit):List Value:=match d with
 | .agg ds=>(ds.map fun d=>match d with
  | .agg es=>es.map cellOf
  |d=>[cellOf d]).flatten
 |_=>[]
def UL:ByteArray:= {data:= #[118,97,108,117,101,32,111,117,116,32,111,102,32,114,97,110,103,101]}
def Qw:ByteArray:= {data:= #[105,110,118,97,108,105,100,32,115,121,110,116,97,120]}
def put(c:List Value)(o:Obj):Obj:=match o with
 | .cells _ t frozen=> .cells ⟨c⟩ t frozen
 |o=>o
def r8(os:Os):World:=
 let w0:=World.holding Tryz.prog os ⟨#[.cells #[.string UL] 220,.cells #[.string Qw] 220],#[],[]⟩
 {w0 with heap:=((((((w0.heap.modify 0 (put (cellsOf Rows.laid_internal_strconv_uint64pow10))).modify 4 (put (cellsOf Rows.laid_math_bits_deBruijn32tab))).modify 5 (put (cellsOf Rows.laid_math_bits_deBruijn64tab))).modify 2 (put [.iface 218 (.pointer (some ⟨13,0,none⟩))])).modify 1 (put [.iface 218 (.pointer (some ⟨14,0,none⟩))])).modify 6 (put (cellsOf Rows.laid_unicode_utf8_first))).modify 7 (put (cellsOf Rows.laid_unicode_utf8_acceptRanges))}
def GV:Array Value:= #[.agg #[.int .i64 0,.slice none 0 0,.slice none 0 0,.slice none 0 0],.string ⟨#[]⟩]
theorem Nb(os:Os):laidMet Tryz.prog Rows.reportBackRow.laid ((r8 os).forCall (fun _ _=>0) ⟨#[],GV,[]⟩).memory:=
 laidMet_of_run' 8 (by kernel_rfl) (by kernel_rfl)
theorem reads(os:Os){H:Type}(enc:TypeId×Value→H):∃places,DataW.whole enc Tryz.prog ((r8 os).forCall (fun _ _=>0) ⟨#[],GV,[]⟩).memory Tryz.f5.params.toList Rows.reportBackSpec.vars false GV.toList 16=some ([.agg [(.lit (.int .i64 0)),.agg [.nil],.agg [.nil],.nil],(.lit (.string []))],[],places):=
 ⟨[],by kernel_rfl⟩
theorem readable:(Tryz.f5.params.toList.all fun t=>Tryz.prog.readableRec t&&Nat.blt t Tryz.prog.types.size)=true:=by kernel_rfl
theorem wf_i64{n:Int}(h:(Lit.int .i64 n).wf=true): -9223372036854775808≤n∧n≤9223372036854775807:=by
 unfold Lit.wf at h
 rw [Bool.and_eq_true,decide_eq_true_iff,decide_eq_true_iff]at h
 exact h
theorem wf_u8{n:Int}(h:(Lit.int .u8 n).wf=true):0≤n∧n<256:=by
 unfold Lit.wf at h
 rw [Bool.and_eq_true,decide_eq_true_iff,decide_eq_true_iff]at h
 have h0:0≤n:=h.1
 have h1:n≤255:=h.2
 omega
theorem wf_u64{n:Int}(h:(Lit.int .u64 n).wf=true):0≤n∧n<18446744073709551616:=by
 unfold Lit.wf at h
 rw [Bool.and_eq_true,decide_eq_true_iff,decide_eq_true_iff]at h
 have h0:0≤n:=h.1
 have h1:n≤18446744073709551615:=h.2
 omega
open L Td in
theorem W7{x:El t47}(h:AT t47 x):Lb.Xv x:=by
 obtain⟨_,⟨⟨_,ht⟩,_⟩,⟨⟨_,hr⟩,_⟩,⟨_,hh⟩,_⟩:=h
 refine⟨fun y hy n hn=>wf_u8 (hh y hy n hn),fun y hy n hn=>?_,fun y hy=>?_⟩
 ·obtain⟨_,g,_⟩:=ht y hy
  exact wf_u8 (g n hn)
 ·obtain⟨_,⟨_,g2,g3,_⟩,g4,g5,_⟩:=hr y hy
  have k2:=wf_i64 g2
  have k3:=wf_u64 g3
  have k4:=wf_u64 g4
  exact⟨fun n hn=>wf_u8 (g5 n hn),k4.1,k2.1,k2.2,k3.1,k3.2⟩
theorem maxLen{W:World}(h:W.ShapedOpen Tryz.prog):∃m,W.cell? ⟨3,0,none⟩=some (.int .i64 m):=
 Go.Proofs.cell_of_shapedOpen_int (zero:= #[.int .i64 0]) (t:=3) h (of_decide_eq_true (by kernel_rfl)) (by kernel_rfl) rfl (by kernel_rfl) (by kernel_rfl) Tryz.underlying3
theorem zK:FL Tb.T 16 [47,9]=some (UP [L.t47,L.t9]):=by kernel_rfl
theorem Nc(H:Type)(enc:TypeId×Value→H)(W:World)(base:Nat)(args:Array Value)(ds gs:List (DataW H))(before:List MemPlace)
  (jk:∀(j:Nat) t v,Tryz.f5.params[j]? =some t→args[j]? =some v→Value.okWide Tryz.prog W .any base t v)
  (hW:DataW.Whole enc Tryz.prog Tryz.f5.params.toList Rows.reportBackSpec.vars false W args.toList ds gs before) (hL:laidMetH Tryz.prog Rows.reportBackRow.laid W) (hsh:W.ShapedOpen Tryz.prog):
  Calls Tryz.prog 5 args W fun e W'=>∃v,e= .returned v∧Rows.reportBackSpec.post enc Tryz.prog Tryz.f5 false true false false W args v W':=by
 have hW0:=hW
 obtain⟨p,q,hA,hV,_,_,_⟩:=hW
 obtain⟨rfl,rfl⟩:=trodVars_none hV
 have hL':laidMet Tryz.prog list W:=hL
 have hv:=vars hL'
 obtain⟨m,hm⟩:=maxLen hsh
 have hn:ds.length=2:=by
  have:=hA.x5
  exact this.symm.trans (by kernel_rfl)
 obtain⟨vs,k1,_,k3⟩:=BV (D:=No) (T:=Tb.T) (fuel:=16) Tb.bT [47,9] ds args.toList (UP [L.t47,L.t9]) p zK hA (fun j t v ht hv=>jk j t v (by rw [←Array.getElem?_toList];exact ht) (by rw [←Array.getElem?_toList];exact hv))
 obtain⟨a,rfl,k4,_⟩:=CN [L.t47,L.t9] vs k1
 obtain⟨x,sl,_⟩:=a
 have k5:aR ⟨fun _=>none,cP W⟩ No [aT L.t47 x,.string ⟨⟨sl⟩⟩] args.toList:=k3 ⟨fun _=>none,cP W⟩ rfl
 obtain⟨v1,r1,e1,g1,k6⟩:=k5.split
 obtain⟨v2,r2,e2,g2,k7⟩:=k6.split
 have e3:=k7.empty
 cases g2
 have hargs:args= #[v1,.string ⟨⟨sl⟩⟩]:=by
  apply Array.toList_inj.1
  rw [e1,e2,e3]
 subst hargs
 refine(Lb.Zn x (W7 k4.1) ⟨⟨sl⟩⟩ m W hv hm v1 g1).mono fun e W' ⟨he,hs⟩=>⟨_,he,?_⟩
 refine JO tb laidOut (fun t ht=>?_) (by kernel_rfl) (by kernel_rfl) rfl ?_ hW0 hs
 ·have:=List.all_eq_true.1 readable t ht
  rw [Bool.and_eq_true]at this
  exact⟨this.1,(bK _ _).1 this.2⟩
 ·match ds,hn with
  | [_,_],_=>rfl
theorem lifted(os:Os)(started:os.Started)(H:Type)(enc:TypeId×Value→H)(F:Stop.Interp):
  ReturnsInHanded {} Tryz.checked os 5 .any ((OpenSpec.ofChange Rows.reportBackSpec).preRow enc Tryz.prog Tryz.f5 Rows.reportBackRow.domain false Rows.reportBackRow.laid) (((OpenSpec.ofChange Rows.reportBackSpec).at F).post enc Tryz.prog Tryz.f5 false true false false):=by
 obtain⟨places,hx⟩:=reads os enc
 refine returnsInHanded_of_row (C:=Tryz.checked) (s:=OpenSpec.ofChange Rows.reportBackSpec) own started (by kernel_rfl) Tryz.func5
  (witness_row_at (enc:=enc) (C:=Tryz.checked) false (r8 os) GV rfl (by kernel_rfl) (by kernel_rfl) (by kernel_rfl)
   (OpenSpec.preRow_of_cond 16 hx (by kernel_rfl) (fun k hk=>by cases hk) (by kernel_rfl) (Nb os))) ?_
 intro W base args ds gs before jk hW _ _ _ hL hsh _
 exact Nc H enc W base args ds gs before jk hW hL hsh
theorem said:Rows.ReportBackSaid:=
 OpenClaim.holds_of_cond 5 Tryz.f5 rfl rfl rfl rfl rfl rfl rfl ⟨rfl,rfl,rfl,rfl,rfl⟩ rfl rfl rfl rfl rfl (by kernel_rfl) Tryz.func5 (by kernel_rfl)
  (of_decide_eq_true (by kernel_rfl)) (by unfold Func.isWrapper;first|(rw [if_pos (by decide+kernel)];kernel_rfl)|(rw [if_neg (by decide+kernel)];exact⟨rfl,rfl⟩))
  (fun os started H enc _ F=>by rw [OpenClaim.pre_eq_preRow];exact lifted os started H enc F)
theorem Qx:(Tryz.f5.params.toList.all fun t=> !Tryz.pinned.checked.prog.wantsStandIn t)=true:=by kernel_rfl
theorem plain(f:FuncId)(fn:Func)(hf:Tryz.pinned.checked.prog.funcNamed "braid/braidlaw45.ReportBack" =some f)(hfn:Tryz.pinned.checked.prog.funcs[f]? =some fn):
  true=Tryz.pinned.checked.prog.looks []∧∀(j:Nat) t,fn.params[j]? =some t→Tryz.pinned.checked.prog.wantsStandIn t=false:=by
 obtain rfl:f=5:=Option.some.inj ((show Tryz.prog.funcNamed "braid/braidlaw45.ReportBack" =some 5 by kernel_rfl).symm.trans hf) |>.symm
 obtain rfl:fn=Tryz.f5:=(Option.some.inj (Tryz.func5.symm.trans hfn)).symm
 refine⟨by kernel_rfl,fun j t ht=>?_⟩
 have:=List.all_eq_true.1 Qx t (by rw [←Array.getElem?_toList]at ht;exact List.mem_of_getElem? ht)
 simpa using this
theorem card:Rows.ReportBackCardSaid:=
 Claim7.holds_tied_plain_at .later [] _ _ _ _ said (fun _ h=>by cases h) (by kernel_rfl) (fun _ h=>by cases h) reportBack_row_tie rfl ⟨rfl,rfl⟩ (by kernel_rfl) rfl plain (by kernel_rfl)
end Rc
end
end Go.Proofs.YtdmpneafeadbbaaGreatDoor
end
