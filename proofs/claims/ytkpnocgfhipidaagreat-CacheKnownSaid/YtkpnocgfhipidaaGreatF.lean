/- Plain functions, printed by a program of this claim: what each Go function computes, where it returns. -/
import Derived.Test.YtkpnocgfhipidaaGreatOxN
set_option linter.unusedVariables false
namespace Go.Proofs.YtkpnocgfhipidaaGreat
open Go Go.Ox
abbrev o8 (b : List Int) (i : Nat) : Value := .int .u8 (List.getD b i 0)
abbrev a4 (b : List Int) : List Value := [o8 b 0, o8 b 1, o8 b 2, o8 b 3]
abbrev a16 (b : List Int) : List Value := [o8 b 0, o8 b 1, o8 b 2, o8 b 3, o8 b 4, o8 b 5, o8 b 6, o8 b 7, o8 b 8, o8 b 9, o8 b 10, o8 b 11, o8 b 12, o8 b 13, o8 b 14, o8 b 15]
abbrev v8 (n : Int) : Value := .int .u8 n
abbrev v16 (n : Int) : Value := .int .u16 n
abbrev v64 (n : Int) : Value := .int .u64 n
abbrev vI (n : Int) : Value := .int .i64 n
abbrev vB (b : Bool) : Value := .bool b
structure Xg where
  Xz : Int
  XI : Int
  XA : Int
  Xk : Int
  Xr : Int
def KP (x : Xg) : List Value := [.int .i64 x.Xz, .int .u64 x.XI, .int .u64 x.XA, .int .u64 x.Xk, .int .u64 x.Xr]
abbrev Xg.cs (x : Xg) : List Value := KP x
structure Xd where
  YQ : Bool
  f_B : List Int
def Xbm (x : Xd) : List Value := [.bool x.YQ, o8 x.f_B 0, o8 x.f_B 1, o8 x.f_B 2, o8 x.f_B 3, o8 x.f_B 4, o8 x.f_B 5, o8 x.f_B 6, o8 x.f_B 7, o8 x.f_B 8, o8 x.f_B 9, o8 x.f_B 10, o8 x.f_B 11, o8 x.f_B 12, o8 x.f_B 13, o8 x.f_B 14, o8 x.f_B 15]
abbrev Xd.cs (x : Xd) : List Value := Xbm x
structure Xe where
  XL : Xd
  XN : Xd
  X2 : Int
  X6 : Int
  X1 : Int
def Xbk (x : Xe) : List Value := [.bool x.XL.YQ, o8 x.XL.f_B 0, o8 x.XL.f_B 1, o8 x.XL.f_B 2, o8 x.XL.f_B 3, o8 x.XL.f_B 4, o8 x.XL.f_B 5, o8 x.XL.f_B 6, o8 x.XL.f_B 7, o8 x.XL.f_B 8, o8 x.XL.f_B 9, o8 x.XL.f_B 10, o8 x.XL.f_B 11, o8 x.XL.f_B 12, o8 x.XL.f_B 13, o8 x.XL.f_B 14, o8 x.XL.f_B 15, .bool x.XN.YQ, o8 x.XN.f_B 0, o8 x.XN.f_B 1, o8 x.XN.f_B 2, o8 x.XN.f_B 3, o8 x.XN.f_B 4, o8 x.XN.f_B 5, o8 x.XN.f_B 6, o8 x.XN.f_B 7, o8 x.XN.f_B 8, o8 x.XN.f_B 9, o8 x.XN.f_B 10, o8 x.XN.f_B 11, o8 x.XN.f_B 12, o8 x.XN.f_B 13, o8 x.XN.f_B 14, o8 x.XN.f_B 15, .int .u8 x.X2, .int .u16 x.X6, .int .u16 x.X1]
abbrev Xe.cs (x : Xe) : List Value := Xbk x
structure XC where
  Xo : Xe
  Yk : Int
  XO : Int
  YS : Bool
def XaY (x : XC) : List Value := [.bool x.Xo.XL.YQ, o8 x.Xo.XL.f_B 0, o8 x.Xo.XL.f_B 1, o8 x.Xo.XL.f_B 2, o8 x.Xo.XL.f_B 3, o8 x.Xo.XL.f_B 4, o8 x.Xo.XL.f_B 5, o8 x.Xo.XL.f_B 6, o8 x.Xo.XL.f_B 7, o8 x.Xo.XL.f_B 8, o8 x.Xo.XL.f_B 9, o8 x.Xo.XL.f_B 10, o8 x.Xo.XL.f_B 11, o8 x.Xo.XL.f_B 12, o8 x.Xo.XL.f_B 13, o8 x.Xo.XL.f_B 14, o8 x.Xo.XL.f_B 15, .bool x.Xo.XN.YQ, o8 x.Xo.XN.f_B 0, o8 x.Xo.XN.f_B 1, o8 x.Xo.XN.f_B 2, o8 x.Xo.XN.f_B 3, o8 x.Xo.XN.f_B 4, o8 x.Xo.XN.f_B 5, o8 x.Xo.XN.f_B 6, o8 x.Xo.XN.f_B 7, o8 x.Xo.XN.f_B 8, o8 x.Xo.XN.f_B 9, o8 x.Xo.XN.f_B 10, o8 x.Xo.XN.f_B 11, o8 x.Xo.XN.f_B 12, o8 x.Xo.XN.f_B 13, o8 x.Xo.XN.f_B 14, o8 x.Xo.XN.f_B 15, .int .u8 x.Xo.X2, .int .u16 x.Xo.X6, .int .u16 x.Xo.X1, .int .i64 x.Yk, .int .u8 x.XO, .bool x.YS]
abbrev XC.cs (x : XC) : List Value := XaY x
structure XF where
  Xas : Int
  XH : XC
  XU : Int
  XK : Int
def Zw (x : XF) : List Value := [.int .i64 x.Xas, .bool x.XH.Xo.XL.YQ, o8 x.XH.Xo.XL.f_B 0, o8 x.XH.Xo.XL.f_B 1, o8 x.XH.Xo.XL.f_B 2, o8 x.XH.Xo.XL.f_B 3, o8 x.XH.Xo.XL.f_B 4, o8 x.XH.Xo.XL.f_B 5, o8 x.XH.Xo.XL.f_B 6, o8 x.XH.Xo.XL.f_B 7, o8 x.XH.Xo.XL.f_B 8, o8 x.XH.Xo.XL.f_B 9, o8 x.XH.Xo.XL.f_B 10, o8 x.XH.Xo.XL.f_B 11, o8 x.XH.Xo.XL.f_B 12, o8 x.XH.Xo.XL.f_B 13, o8 x.XH.Xo.XL.f_B 14, o8 x.XH.Xo.XL.f_B 15, .bool x.XH.Xo.XN.YQ, o8 x.XH.Xo.XN.f_B 0, o8 x.XH.Xo.XN.f_B 1, o8 x.XH.Xo.XN.f_B 2, o8 x.XH.Xo.XN.f_B 3, o8 x.XH.Xo.XN.f_B 4, o8 x.XH.Xo.XN.f_B 5, o8 x.XH.Xo.XN.f_B 6, o8 x.XH.Xo.XN.f_B 7, o8 x.XH.Xo.XN.f_B 8, o8 x.XH.Xo.XN.f_B 9, o8 x.XH.Xo.XN.f_B 10, o8 x.XH.Xo.XN.f_B 11, o8 x.XH.Xo.XN.f_B 12, o8 x.XH.Xo.XN.f_B 13, o8 x.XH.Xo.XN.f_B 14, o8 x.XH.Xo.XN.f_B 15, .int .u8 x.XH.Xo.X2, .int .u16 x.XH.Xo.X6, .int .u16 x.XH.Xo.X1, .int .i64 x.XH.Yk, .int .u8 x.XH.XO, .bool x.XH.YS, .int .u8 x.XU, .int .u64 x.XK]
abbrev XF.cs (x : XF) : List Value := Zw x
structure Xm where
  Ja : Bool
  Xo : Xe
  f_N : Int
def Xt (x : Xm) : List Value := [.bool x.Ja, .bool x.Xo.XL.YQ, o8 x.Xo.XL.f_B 0, o8 x.Xo.XL.f_B 1, o8 x.Xo.XL.f_B 2, o8 x.Xo.XL.f_B 3, o8 x.Xo.XL.f_B 4, o8 x.Xo.XL.f_B 5, o8 x.Xo.XL.f_B 6, o8 x.Xo.XL.f_B 7, o8 x.Xo.XL.f_B 8, o8 x.Xo.XL.f_B 9, o8 x.Xo.XL.f_B 10, o8 x.Xo.XL.f_B 11, o8 x.Xo.XL.f_B 12, o8 x.Xo.XL.f_B 13, o8 x.Xo.XL.f_B 14, o8 x.Xo.XL.f_B 15, .bool x.Xo.XN.YQ, o8 x.Xo.XN.f_B 0, o8 x.Xo.XN.f_B 1, o8 x.Xo.XN.f_B 2, o8 x.Xo.XN.f_B 3, o8 x.Xo.XN.f_B 4, o8 x.Xo.XN.f_B 5, o8 x.Xo.XN.f_B 6, o8 x.Xo.XN.f_B 7, o8 x.Xo.XN.f_B 8, o8 x.Xo.XN.f_B 9, o8 x.Xo.XN.f_B 10, o8 x.Xo.XN.f_B 11, o8 x.Xo.XN.f_B 12, o8 x.Xo.XN.f_B 13, o8 x.Xo.XN.f_B 14, o8 x.Xo.XN.f_B 15, .int .u8 x.Xo.X2, .int .u16 x.Xo.X6, .int .u16 x.Xo.X1, .int .u64 x.f_N]
abbrev Xm.cs (x : Xm) : List Value := Xt x
structure Xw where
  Xp : List Xm
  XG : Int
structure Xc where
  Xo : Xe
  Xk : Int
  Xr : Int
  X4 : Int
  Ya : Int
  XO : Int
  X9 : Int
  XU : Int
def Xn (x : Xc) : List Value := [.bool x.Xo.XL.YQ, o8 x.Xo.XL.f_B 0, o8 x.Xo.XL.f_B 1, o8 x.Xo.XL.f_B 2, o8 x.Xo.XL.f_B 3, o8 x.Xo.XL.f_B 4, o8 x.Xo.XL.f_B 5, o8 x.Xo.XL.f_B 6, o8 x.Xo.XL.f_B 7, o8 x.Xo.XL.f_B 8, o8 x.Xo.XL.f_B 9, o8 x.Xo.XL.f_B 10, o8 x.Xo.XL.f_B 11, o8 x.Xo.XL.f_B 12, o8 x.Xo.XL.f_B 13, o8 x.Xo.XL.f_B 14, o8 x.Xo.XL.f_B 15, .bool x.Xo.XN.YQ, o8 x.Xo.XN.f_B 0, o8 x.Xo.XN.f_B 1, o8 x.Xo.XN.f_B 2, o8 x.Xo.XN.f_B 3, o8 x.Xo.XN.f_B 4, o8 x.Xo.XN.f_B 5, o8 x.Xo.XN.f_B 6, o8 x.Xo.XN.f_B 7, o8 x.Xo.XN.f_B 8, o8 x.Xo.XN.f_B 9, o8 x.Xo.XN.f_B 10, o8 x.Xo.XN.f_B 11, o8 x.Xo.XN.f_B 12, o8 x.Xo.XN.f_B 13, o8 x.Xo.XN.f_B 14, o8 x.Xo.XN.f_B 15, .int .u8 x.Xo.X2, .int .u16 x.Xo.X6, .int .u16 x.Xo.X1, .int .u64 x.Xk, .int .u64 x.Xr, .int .u64 x.X4, .int .u64 x.Ya, .int .u8 x.XO, .int .u8 x.X9, .int .u8 x.XU]
abbrev Xc.cs (x : Xc) : List Value := Xn x
structure Xl where
  XB : Int
  Xb : Xg
  Xf : Xw
  Xh : List Xc
structure Y9 where
  f_b : List Int
structure Yc where
  Xk : Int
  Xr : Int
structure XR where
  XL : Xd
  XN : Xd
  X2 : Int
  X6 : Int
  X1 : Int
def Xbo (x : XR) : List Value := [.bool x.XL.YQ, o8 x.XL.f_B 0, o8 x.XL.f_B 1, o8 x.XL.f_B 2, o8 x.XL.f_B 3, o8 x.XL.f_B 4, o8 x.XL.f_B 5, o8 x.XL.f_B 6, o8 x.XL.f_B 7, o8 x.XL.f_B 8, o8 x.XL.f_B 9, o8 x.XL.f_B 10, o8 x.XL.f_B 11, o8 x.XL.f_B 12, o8 x.XL.f_B 13, o8 x.XL.f_B 14, o8 x.XL.f_B 15, .bool x.XN.YQ, o8 x.XN.f_B 0, o8 x.XN.f_B 1, o8 x.XN.f_B 2, o8 x.XN.f_B 3, o8 x.XN.f_B 4, o8 x.XN.f_B 5, o8 x.XN.f_B 6, o8 x.XN.f_B 7, o8 x.XN.f_B 8, o8 x.XN.f_B 9, o8 x.XN.f_B 10, o8 x.XN.f_B 11, o8 x.XN.f_B 12, o8 x.XN.f_B 13, o8 x.XN.f_B 14, o8 x.XN.f_B 15, .int .u8 x.X2, .int .u16 x.X6, .int .u16 x.X1]
abbrev XR.cs (x : XR) : List Value := Xbo x
structure Xi where
  Xo : XR
  Xk : Int
  Xr : Int
  X4 : Int
  Ya : Int
  XO : Int
  X9 : Int
  XU : Int
def Xs (x : Xi) : List Value := [.bool x.Xo.XL.YQ, o8 x.Xo.XL.f_B 0, o8 x.Xo.XL.f_B 1, o8 x.Xo.XL.f_B 2, o8 x.Xo.XL.f_B 3, o8 x.Xo.XL.f_B 4, o8 x.Xo.XL.f_B 5, o8 x.Xo.XL.f_B 6, o8 x.Xo.XL.f_B 7, o8 x.Xo.XL.f_B 8, o8 x.Xo.XL.f_B 9, o8 x.Xo.XL.f_B 10, o8 x.Xo.XL.f_B 11, o8 x.Xo.XL.f_B 12, o8 x.Xo.XL.f_B 13, o8 x.Xo.XL.f_B 14, o8 x.Xo.XL.f_B 15, .bool x.Xo.XN.YQ, o8 x.Xo.XN.f_B 0, o8 x.Xo.XN.f_B 1, o8 x.Xo.XN.f_B 2, o8 x.Xo.XN.f_B 3, o8 x.Xo.XN.f_B 4, o8 x.Xo.XN.f_B 5, o8 x.Xo.XN.f_B 6, o8 x.Xo.XN.f_B 7, o8 x.Xo.XN.f_B 8, o8 x.Xo.XN.f_B 9, o8 x.Xo.XN.f_B 10, o8 x.Xo.XN.f_B 11, o8 x.Xo.XN.f_B 12, o8 x.Xo.XN.f_B 13, o8 x.Xo.XN.f_B 14, o8 x.Xo.XN.f_B 15, .int .u8 x.Xo.X2, .int .u16 x.Xo.X6, .int .u16 x.Xo.X1, .int .u64 x.Xk, .int .u64 x.Xr, .int .u64 x.X4, .int .u64 x.Ya, .int .u8 x.XO, .int .u8 x.X9, .int .u8 x.XU]
abbrev Xi.cs (x : Xi) : List Value := Xs x
structure Xq where
  XK : Int
  Xu : Xg
  f_L : List Xi
structure Zd where
  Xo : XR
  Yk : Int
  XO : Int
  YS : Bool
def Xa1 (x : Zd) : List Value := [.bool x.Xo.XL.YQ, o8 x.Xo.XL.f_B 0, o8 x.Xo.XL.f_B 1, o8 x.Xo.XL.f_B 2, o8 x.Xo.XL.f_B 3, o8 x.Xo.XL.f_B 4, o8 x.Xo.XL.f_B 5, o8 x.Xo.XL.f_B 6, o8 x.Xo.XL.f_B 7, o8 x.Xo.XL.f_B 8, o8 x.Xo.XL.f_B 9, o8 x.Xo.XL.f_B 10, o8 x.Xo.XL.f_B 11, o8 x.Xo.XL.f_B 12, o8 x.Xo.XL.f_B 13, o8 x.Xo.XL.f_B 14, o8 x.Xo.XL.f_B 15, .bool x.Xo.XN.YQ, o8 x.Xo.XN.f_B 0, o8 x.Xo.XN.f_B 1, o8 x.Xo.XN.f_B 2, o8 x.Xo.XN.f_B 3, o8 x.Xo.XN.f_B 4, o8 x.Xo.XN.f_B 5, o8 x.Xo.XN.f_B 6, o8 x.Xo.XN.f_B 7, o8 x.Xo.XN.f_B 8, o8 x.Xo.XN.f_B 9, o8 x.Xo.XN.f_B 10, o8 x.Xo.XN.f_B 11, o8 x.Xo.XN.f_B 12, o8 x.Xo.XN.f_B 13, o8 x.Xo.XN.f_B 14, o8 x.Xo.XN.f_B 15, .int .u8 x.Xo.X2, .int .u16 x.Xo.X6, .int .u16 x.Xo.X1, .int .i64 x.Yk, .int .u8 x.XO, .bool x.YS]
abbrev Zd.cs (x : Zd) : List Value := Xa1 x
structure XD where
  Xo : Xe
  Zj : Yc
def Yb (x : XD) : List Value := [.bool x.Xo.XL.YQ, o8 x.Xo.XL.f_B 0, o8 x.Xo.XL.f_B 1, o8 x.Xo.XL.f_B 2, o8 x.Xo.XL.f_B 3, o8 x.Xo.XL.f_B 4, o8 x.Xo.XL.f_B 5, o8 x.Xo.XL.f_B 6, o8 x.Xo.XL.f_B 7, o8 x.Xo.XL.f_B 8, o8 x.Xo.XL.f_B 9, o8 x.Xo.XL.f_B 10, o8 x.Xo.XL.f_B 11, o8 x.Xo.XL.f_B 12, o8 x.Xo.XL.f_B 13, o8 x.Xo.XL.f_B 14, o8 x.Xo.XL.f_B 15, .bool x.Xo.XN.YQ, o8 x.Xo.XN.f_B 0, o8 x.Xo.XN.f_B 1, o8 x.Xo.XN.f_B 2, o8 x.Xo.XN.f_B 3, o8 x.Xo.XN.f_B 4, o8 x.Xo.XN.f_B 5, o8 x.Xo.XN.f_B 6, o8 x.Xo.XN.f_B 7, o8 x.Xo.XN.f_B 8, o8 x.Xo.XN.f_B 9, o8 x.Xo.XN.f_B 10, o8 x.Xo.XN.f_B 11, o8 x.Xo.XN.f_B 12, o8 x.Xo.XN.f_B 13, o8 x.Xo.XN.f_B 14, o8 x.Xo.XN.f_B 15, .int .u8 x.Xo.X2, .int .u16 x.Xo.X6, .int .u16 x.Xo.X1, .int .u64 x.Zj.Xk, .int .u64 x.Zj.Xr]
abbrev XD.cs (x : XD) : List Value := Yb x
def KO (x y : Xd) : Bool := ((x.YQ == y.YQ) && ((arrEq 16 x.f_B y.f_B) && true))
def Yg (x y : Xe) : Bool := ((KO x.XL y.XL) && ((KO x.XN y.XN) && ((x.X2 == y.X2) && ((x.X6 == y.X6) && ((x.X1 == y.X1) && true)))))
def Vm (x y : XR) : Bool := ((KO x.XL y.XL) && ((KO x.XN y.XN) && ((x.X2 == y.X2) && ((x.X6 == y.X6) && ((x.X1 == y.X1) && true)))))
def Kd (x y : Xi) : Bool := ((Vm x.Xo y.Xo) && ((x.Xk == y.Xk) && ((x.Xr == y.Xr) && ((x.X4 == y.X4) && ((x.Ya == y.Ya) && ((x.XO == y.XO) && ((x.X9 == y.X9) && ((x.XU == y.XU) && true))))))))
def U8 (x y : Yc) : Bool := ((x.Xk == y.Xk) && ((x.Xr == y.Xr) && true))
def UJ (x y : XD) : Bool := ((Yg x.Xo y.Xo) && ((U8 x.Zj y.Zj) && true))
def UV (x y : Xc) : Bool := ((Yg x.Xo y.Xo) && ((x.Xk == y.Xk) && ((x.Xr == y.Xr) && ((x.X4 == y.X4) && ((x.Ya == y.Ya) && ((x.XO == y.XO) && ((x.X9 == y.X9) && ((x.XU == y.XU) && true))))))))
def Jm (xv15 nv16 : Int) : Option Int :=
  (gidxS (⟨#[0, 1, 2, 2, 3, 3, 3, 3, 4, 4, 4, 4, 4, 4, 4, 4, 5, 5, 5, 5, 5, 5, 5, 5, 5, 5, 5, 5, 5, 5, 5, 5, 6, 6, 6, 6, 6, 6, 6, 6, 6, 6, 6, 6, 6, 6, 6, 6, 6, 6, 6, 6, 6, 6, 6, 6, 6, 6, 6, 6, 6, 6, 6, 6, 7, 7, 7, 7, 7, 7, 7, 7, 7, 7, 7, 7, 7, 7, 7, 7, 7, 7, 7, 7, 7, 7, 7, 7, 7, 7, 7, 7, 7, 7, 7, 7, 7, 7, 7, 7, 7, 7, 7, 7, 7, 7, 7, 7, 7, 7, 7, 7, 7, 7, 7, 7, 7, 7, 7, 7, 7, 7, 7, 7, 7, 7, 7, 7, 8, 8, 8, 8, 8, 8, 8, 8, 8, 8, 8, 8, 8, 8, 8, 8, 8, 8, 8, 8, 8, 8, 8, 8, 8, 8, 8, 8, 8, 8, 8, 8, 8, 8, 8, 8, 8, 8, 8, 8, 8, 8, 8, 8, 8, 8, 8, 8, 8, 8, 8, 8, 8, 8, 8, 8, 8, 8, 8, 8, 8, 8, 8, 8, 8, 8, 8, 8, 8, 8, 8, 8, 8, 8, 8, 8, 8, 8, 8, 8, 8, 8, 8, 8, 8, 8, 8, 8, 8, 8, 8, 8, 8, 8, 8, 8, 8, 8, 8, 8, 8, 8, 8, 8, 8, 8, 8, 8, 8, 8, 8, 8, 8, 8, 8, 8, 8, 8, 8, 8, 8, 8, 8, 8, 8, 8, 8, 8]⟩ : ByteArray) (IntKind.u8.wrap xv15)).bind fun xv19 =>
  some (IntKind.i64.wrap (nv16 + (IntKind.i64.wrap xv19)))
def Ka (xv10 nv11 : Int) : Option Int :=
  if (decide (256 ≤ xv10)) = true then
  Jm (Ox.shr .u64 xv10 8) (IntKind.i64.wrap (nv11 + 8))
  else
  Jm xv10 nv11
def Kb (xv5 nv6 : Int) : Option Int :=
  if (decide (65536 ≤ xv5)) = true then
  Ka (Ox.shr .u64 xv5 16) (IntKind.i64.wrap (nv6 + 16))
  else
  Ka xv5 nv6
def US (xv1 : Int) : Option Int :=
  if (decide (4294967296 ≤ xv1)) = true then
  Kb (Ox.shr .u64 xv1 32) 32
  else
  Kb xv1 0
def Zb (xv1 : Int) : Option Int :=
  (US xv1).bind fun y5 =>
  some y5
def UI (port1 : Int) : Option XC :=
  some (XC.mk (Xe.mk (Xd.mk false (List.replicate 16 0)) (Xd.mk false (List.replicate 16 0)) 17 port1 53) 40 0 false)
def Kg (t3 : Bool) : Option Bool :=
  some t3
def Ud (proto1 : Int) : Option Bool :=
  if (proto1 == 6) = true then
  Kg true
  else
  Kg (proto1 == 17)
def Ky (t3 : Bool) : Option Bool :=
  some t3
def UU (proto1 : Int) : Option Bool :=
  if (proto1 == 1) = true then
  Ky true
  else
  Ky (proto1 == 58)
def J8 (av1 : Xd) : Option Int :=
  if av1.YQ = true then
  some 16
  else
  some 4
def ZC (av1 : Xd) : Option Bool :=
  (J8 av1).bind fun y12 =>
  (gcut (arrL 16 (List.replicate 16 0)) 0 y12).bind fun cut17 =>
  some (arrEq 16 av1.f_B (cpA 16 (Nat.min (arrL 16 av1.f_B).length cut17.length) (List.replicate 16 0) (arrL 16 av1.f_B)))
def YK (t37 : Bool) : Option Bool :=
  some t37
def YG (kv1 : Xe) (plain26 plain27 : Int) : Option Bool :=
  (ZC kv1.XL).bind fun y29 =>
  if y29 = true then
  (ZC kv1.XN).bind fun y33 =>
  if y33 = true then
  if (kv1.XL.YQ == kv1.XN.YQ) = true then
  YK (Yg kv1 (Xe.mk kv1.XL kv1.XN kv1.X2 plain26 plain27))
  else
  YK false
  else
  YK false
  else
  YK false
def Yn (kv1 : Xe) : Option Bool :=
  (Ud kv1.X2).bind fun y12 =>
  if (!y12) = true then
  (UU kv1.X2).bind fun y19 =>
  if (!y19) = true then
  YG kv1 0 0
  else
  YG kv1 0 kv1.X1
  else
  YG kv1 kv1.X6 kv1.X1
def U6 (av1 b2 : Int) : Option Int :=
  if (decide (0 < (hi64 av1 b2))) = true then
  some 18446744073709551615
  else
  some (lo64 av1 b2)
def Je (cv1 : Xl) (rv7 : Xc) : Option Int :=
  (U6 rv7.Ya cv1.Xb.XI).bind fun y14 =>
  some y14
def Ze (cv1 : Xl) (rv7 : Xc) : Option Int :=
  (Je cv1 rv7).bind fun y14 =>
  (U6 rv7.X4 cv1.Xb.XA).bind fun y18 =>
  some (gmin y14 y18)
def KJ (xv1 : Int) : Option Bool :=
  some (xv1 != xv1)
def Jp (xv1 y2 : Int) : Option Int :=
  (KJ xv1).bind fun y5 =>
  (KJ y2).bind fun y10 =>
  if y5 = true then
  if y10 = true then
  some 0
  else
  some (-1)
  else
  if y10 = true then
  some 1
  else
  if (decide (xv1 < y2)) = true then
  some (-1)
  else
  if (decide (y2 < xv1)) = true then
  some 1
  else
  some 0
def ZB (wv1 : Y9) (b8 : List Int) : Option (Int × Y9) :=
  if (decide (wv1.f_b.length + b8.length ≤ lim)) = true then
  some (0, (Y9.mk (wv1.f_b ++ b8)))
  else none
def Vz (b1 : List Int) : Option ((List Int)) :=
  if (decide (([] : List Int).length + b1.length ≤ lim)) = true then
  some (([] : List Int) ++ b1)
  else none
def Ke (av1 : Xd) : Option ((List Int)) :=
  (J8 av1).bind fun y7 =>
  (gcut (arrL 16 av1.f_B) 0 y7).bind fun cut12 =>
  (Vz cut12).bind fun y14 =>
  some y14
def UM (t3 : Bool) : Option Bool :=
  some t3
def VQ (size1 : Int) : Option Bool :=
  if (decide (1 ≤ size1)) = true then
  UM (decide (size1 ≤ 8))
  else
  UM false
def Ki (rec17 : Int → Int → Option Int) (v14 nv15 : Int) : Option Int :=
  if (decide (0 < v14)) = true then
  rec17 (Ox.shr .u64 v14 8) (IntKind.i64.wrap (nv15 + 1))
  else
  some nv15
def Kp : Nat → Int → Int → Option Int
  | 0 => fun _ _ => none
  | k + 1 => Ki (Kp k)
def Vq (v1 : Int) : Option Int :=
  Kp fuel0 (Ox.shr .u64 v1 8) 1
def Ue (t12 : Bool) : Option Bool :=
  some t12
def VE (v1 size2 : Int) : Option Bool :=
  (VQ size2).bind fun y4 =>
  if y4 = true then
  (Vq v1).bind fun y8 =>
  Ue (decide (y8 ≤ size2))
  else
  Ue false
def Vt (rec42 : (List Int) → Int → Option ((List Int))) (v1 size2 : Int) (b39 : List Int) (t40 : Int) : Option ((List Int)) :=
  if (decide (t40 < size2)) = true then
  if (decide (¬ (IntKind.i64.wrap (8 * t40)) < 0)) = true then
  (gidx b39 (IntKind.i64.wrap ((IntKind.i64.wrap (size2 - 1)) - t40))).bind fun xv51 =>
  rec42 (b39.set ((IntKind.i64.wrap ((IntKind.i64.wrap (size2 - 1)) - t40)) : Int).toNat (IntKind.u8.wrap (Ox.shr .u64 v1 (IntKind.i64.wrap (8 * t40))))) (IntKind.i64.wrap (t40 + 1))
  else none
  else
  some b39
def U7 (v1 size2 : Int) : Nat → (List Int) → Int → Option ((List Int))
  | 0 => fun _ _ => none
  | k + 1 => Vt (U7 v1 size2 k) v1 size2
def Xag (v1 size2 : Int) : Option ((List Int)) :=
  if (decide (0 ≤ size2 ∧ size2 ≤ lim)) = true then
  U7 v1 size2 fuel0 (List.replicate (Int.toNat size2) (0 : Int)) 0
  else none
def JC (wv1 : Y9) (v8 size9 : Int) : Option (Int × Y9) :=
  (VE v8 size9).bind fun y16 =>
  if (!y16) = true then
  some (2, wv1)
  else
  (Xag v8 size9).bind fun y22 =>
  (ZB wv1 y22).bind fun y29 =>
  some (y29.1, y29.2)
def Z9 (s1 : List Int) : Option ((List Int)) :=
  if (decide (([] : List Int).length + s1.length ≤ lim)) = true then
  some (([] : List Int) ++ s1)
  else none
def Kl (wv1 : Y9) : Option ((List Int) × Y9) :=
  (Z9 wv1.f_b).bind fun y13 =>
  some (y13, wv1)
def ZX (kv1 : Xe) (version21 : Int) : Option ((List Int)) :=
  (ZB (Y9.mk ([] : List Int)) ([version21] : List Int)).bind fun y28 =>
  (Ke kv1.XL).bind fun y36 =>
  (ZB y28.2 y36).bind fun y43 =>
  (Ke kv1.XN).bind fun y51 =>
  (ZB y43.2 y51).bind fun y58 =>
  (ZB y58.2 ([kv1.X2] : List Int)).bind fun y69 =>
  (JC y69.2 (IntKind.u64.wrap kv1.X6) 2).bind fun y77 =>
  (JC y77.2 (IntKind.u64.wrap kv1.X1) 2).bind fun y85 =>
  (Kl y85.2).bind fun y93 =>
  some y93.1
def Jh (kv1 : Xe) : Option ((List Int)) :=
  (Yn kv1).bind fun y8 =>
  if (!y8) = true then
  some ([])
  else
  if kv1.XL.YQ = true then
  ZX kv1 6
  else
  ZX kv1 4
def Vf (av1 b5 : List Int) : Option Int :=
  some (bcmp av1 b5)
def Vs (av1 : Xe) (b2 : Xe) : Option Int :=
  (Jh av1).bind fun y11 =>
  (Jh b2).bind fun y18 =>
  (Vf y11 y18).bind fun y25 =>
  some y25
def KB (av1 : Xc) (b2 : Xc) : Option Int :=
  (Vs av1.Xo b2.Xo).bind fun y11 =>
  some y11
def Jb (rec30 : Int → Option Int) (vals1 : List Int) (t28 : Int) : Option Int :=
  if (decide (t28 < (vals1.length : Int))) = true then
  (gidx vals1 t28).bind fun xv38 =>
  if (xv38 != 0) = true then
  some xv38
  else
  rec30 (IntKind.i64.wrap (t28 + 1))
  else
  some 0
def ZJ (vals1 : List Int) : Nat → Int → Option Int
  | 0 => fun _ => none
  | k + 1 => Jb (ZJ vals1 k) vals1
def Vo (vals1 : List Int) : Option Int :=
  ZJ vals1 fuel0 0
def Y8 (av1 : Xc) (b2 : Xc) (cv3 : Xl) : Option Int :=
  (Ze cv3 av1).bind fun y21 =>
  (Ze cv3 b2).bind fun y25 =>
  (Jp y21 y25).bind fun y29 =>
  (KB av1 b2).bind fun y33 =>
  (Vo ([y29, y33] : List Int)).bind fun y40 =>
  some y40
instance : Inhabited Xc := ⟨(Xc.mk (Xe.mk (Xd.mk false (List.replicate 16 0)) (Xd.mk false (List.replicate 16 0)) 0 0 0) 0 0 0 0 0 0 0)⟩
def cf_cache_Cache_Advance_1 (p : Xl) (x y : Xc) : Int := (Y8 x y p).getD 0
def XY (xs : List Xc) (p : Xl) : Option (List Xc) :=
  if decide (xs.length ≤ lim) = true then some (srt (cf_cache_Cache_Advance_1 p) xs) else none
def ZE (rv1 : Xc) (cv2 : Xl) : Option Int :=
  (Je cv2 rv1).bind fun y18 =>
  (Ze cv2 rv1).bind fun y22 =>
  if (y18 == y22) = true then
  some 1
  else
  some 2
def KN (t1 : Xw) : Option (Int × Xw) :=
  some ((t1.Xp.length : Int), t1)
def Uu (rec37 : Int → Int → Option Int) (y9 : (List Int)) (h33 t35 : Int) : Option Int :=
  if (decide (t35 < (y9.length : Int))) = true then
  (gidx y9 t35).bind fun xv45 =>
  rec37 (IntKind.u64.wrap ((bits .xor .u64 h33 (IntKind.u64.wrap xv45)) * 1099511628211)) (IntKind.i64.wrap (t35 + 1))
  else
  some h33
def KW (y9 : (List Int)) : Nat → Int → Int → Option Int
  | 0 => fun _ _ => none
  | k + 1 => Uu (KW y9 k) y9
def Vp (kv1 : Xe) : Option Int :=
  (Jh kv1).bind fun y9 =>
  KW y9 fuel0 14695981039346656037 0
def KL (y46 : Int × Xw) (t173 t178 y188 : Int) : Option (Int × Int × Xw) :=
  some ((IntKind.i64.wrap (Int.tmod (IntKind.u64.wrap (y188 + t173)) (IntKind.u64.wrap y46.1))), (IntKind.i64.wrap (t178 + 1)), y46.2)
def JJ (y46 : Int × Xw) (t173 t178 : Int) (rec181 : Int → Int → Option (Int × Int × Xw)) (y188 : Int) (t209 : Bool) : Option (Int × Int × Xw) :=
  if t209 = true then
  KL y46 t173 t178 y188
  else
  rec181 (IntKind.u64.wrap (t173 + 1)) (IntKind.i64.wrap (t178 + 1))
def UH (y46 : Int × Xw) (t178 : Int) : Option (Int × Int × Xw) :=
  some ((-1), t178, y46.2)
def YM (rec181 : Int → Int → Option (Int × Int × Xw)) (kv8 : Xe) (y46 : Int × Xw) (t173 t178 : Int) : Option (Int × Int × Xw) :=
  if (decide (t173 < (IntKind.u64.wrap y46.1))) = true then
  (Vp kv8).bind fun y188 =>
  if (decide ((IntKind.u64.wrap y46.1) ≠ 0)) = true then
  (gidx y46.2.Xp (IntKind.i64.wrap (Int.tmod (IntKind.u64.wrap (y188 + t173)) (IntKind.u64.wrap y46.1)))).bind fun xv199 =>
  if (!xv199.Ja) = true then
  JJ y46 t173 t178 rec181 y188 true
  else
  (gidx y46.2.Xp (IntKind.i64.wrap (Int.tmod (IntKind.u64.wrap (y188 + t173)) (IntKind.u64.wrap y46.1)))).bind fun xv202 =>
  JJ y46 t173 t178 rec181 y188 (Yg xv202.Xo kv8)
  else none
  else
  UH y46 t178
def Yq (kv8 : Xe) (y46 : Int × Xw) : Nat → Int → Int → Option (Int × Int × Xw)
  | 0 => fun _ _ => none
  | k + 1 => YM (Yq kv8 y46 k) kv8 y46
def Ym (t1 : Xw) (kv8 : Xe) : Option (Int × Int × Xw) :=
  (KN t1).bind fun y46 =>
  Yq kv8 y46 fuel0 0 0
def Jo (y15 : Int × Int × Xw) (t28 : Bool) : Option (Int × Xw) :=
  if t28 = true then
  some ((-1), y15.2.2)
  else
  some (y15.1, y15.2.2)
def Z7 (t1 : Xw) (kv8 : Xe) : Option (Int × Xw) :=
  (Ym t1 kv8).bind fun y15 =>
  if (decide (0 ≤ y15.1)) = true then
  (gidx y15.2.2.Xp y15.1).bind fun xv25 =>
  Jo y15 (!xv25.Ja)
  else
  Jo y15 false
def Yt (t1 : Xw) (kv8 : Xe) : Option (Int × Bool × Xw) :=
  (Z7 t1 kv8).bind fun y15 =>
  if (decide (y15.1 < 0)) = true then
  some (0, false, y15.2)
  else
  (gidx y15.2.Xp y15.1).bind fun xv28 =>
  some (xv28.f_N, true, y15.2)
def Jd (p160 : List Xm) (p161 : Int) : Option (Bool × Xw) :=
  some (true, (Xw.mk p160 p161))
def Jg (rec119 : (List Xm) → Int → Int → Option (Bool × Xw)) (y15 : Int × Xw) (p115 : List Xm) (p116 t117 : Int) : Option (Bool × Xw) :=
  if (decide (t117 < (IntKind.i64.wrap ((y15.2.Xp.length : Int) - 1)))) = true then
  if (decide ((y15.2.Xp.length : Int) ≠ 0)) = true then
  (gidx p115 (Int.tmod (IntKind.i64.wrap ((IntKind.i64.wrap (y15.1 + 1)) + t117)) (y15.2.Xp.length : Int))).bind fun xv130 =>
  if (!xv130.Ja) = true then
  Jd p115 p116
  else
  (gidx p115 (Int.tmod (IntKind.i64.wrap ((IntKind.i64.wrap (y15.1 + 1)) + t117)) (y15.2.Xp.length : Int))).bind fun xv140 =>
  (Ym (Xw.mk (p115.set ((Int.tmod (IntKind.i64.wrap ((IntKind.i64.wrap (y15.1 + 1)) + t117)) (y15.2.Xp.length : Int)) : Int).toNat (Xm.mk false (Xe.mk (Xd.mk false (List.replicate 16 0)) (Xd.mk false (List.replicate 16 0)) 0 0 0) 0)) p116) xv130.Xo).bind fun y144 =>
  (gidx y144.2.2.Xp y144.1).bind fun xv153 =>
  rec119 (y144.2.2.Xp.set (y144.1 : Int).toNat xv130) y144.2.2.XG (IntKind.i64.wrap (t117 + 1))
  else none
  else
  Jd p115 p116
def ZD (y15 : Int × Xw) : Nat → (List Xm) → Int → Int → Option (Bool × Xw)
  | 0 => fun _ _ _ => none
  | k + 1 => Jg (ZD y15 k) y15
def Jn (t1 : Xw) (kv8 : Xe) : Option (Bool × Xw) :=
  (Z7 t1 kv8).bind fun y15 =>
  if (decide (y15.1 < 0)) = true then
  some (false, y15.2)
  else
  (gidx y15.2.Xp y15.1).bind fun xv29 =>
  ZD y15 fuel0 (y15.2.Xp.set (y15.1 : Int).toNat (Xm.mk false (Xe.mk (Xd.mk false (List.replicate 16 0)) (Xd.mk false (List.replicate 16 0)) 0 0 0) 0)) (IntKind.i64.wrap (y15.2.XG - 1)) 0
def Jl (kv8 : Xe) (nv9 : Int) (y16 : Int × Int × Xw) (p39 : Int) : Option (Int × Xw) :=
  (gidx y16.2.2.Xp y16.1).bind fun xv45 =>
  some (0, (Xw.mk (y16.2.2.Xp.set (y16.1 : Int).toNat (Xm.mk true kv8 nv9)) p39))
def YX (t1 : Xw) (kv8 : Xe) (nv9 : Int) : Option (Int × Xw) :=
  (Ym t1 kv8).bind fun y16 =>
  (Yn kv8).bind fun y25 =>
  if (!y25) = true then
  some (2, y16.2.2)
  else
  if (decide (y16.1 < 0)) = true then
  some (230, y16.2.2)
  else
  (gidx y16.2.2.Xp y16.1).bind fun xv35 =>
  if (!xv35.Ja) = true then
  Jl kv8 nv9 y16 (IntKind.i64.wrap (y16.2.2.XG + 1))
  else
  Jl kv8 nv9 y16 y16.2.2.XG
def Jq (cv1 : Xl) (reason14 : Int) (xv34 : Xc) (p75 : List Xm) (p76 : Int) (p80 : List Xc) : Option (Xc × Xl) :=
  (gcut p80 0 (IntKind.i64.wrap ((cv1.Xh.length : Int) - 1))).bind fun cut85 =>
  some ((Xc.mk xv34.Xo xv34.Xk xv34.Xr xv34.X4 xv34.Ya xv34.XO reason14 xv34.XU), (Xl.mk cv1.XB cv1.Xb (Xw.mk p75 p76) cut85))
def Ys (cv1 : Xl) (kv13 : Xe) (reason14 : Int) : Option (Xc × Xl) :=
  (Yt cv1.Xf kv13).bind fun y24 =>
  (gidx cv1.Xh y24.1).bind fun xv34 =>
  (Jn y24.2.2 kv13).bind fun y41 =>
  (gidx cv1.Xh (IntKind.i64.wrap ((cv1.Xh.length : Int) - 1))).bind fun xv51 =>
  if ((IntKind.u64.wrap (IntKind.i64.wrap ((cv1.Xh.length : Int) - 1))) != y24.1) = true then
  (gidx cv1.Xh y24.1).bind fun xv60 =>
  (YX y41.2 xv51.Xo y24.1).bind fun y63 =>
  Jq cv1 reason14 xv34 y63.2.Xp y63.2.XG (cv1.Xh.set (y24.1 : Int).toNat xv51)
  else
  Jq cv1 reason14 xv34 y41.2.Xp y41.2.XG cv1.Xh
def ZV (t117 : Int) (rec119 : (List Xc) → Int → Option ((List Xc) × Xl)) (lv152 : List Xc) : Option ((List Xc) × Xl) :=
  rec119 lv152 (IntKind.i64.wrap (t117 + 1))
def YT (rec285 : Int → Int → Int → Int → Int → Int → (List Xm) → Int → (List Xc) → (List Xc) → Int → Option ((List Xc) × Xl)) (y155 : List Xc) (p260 p261 p262 p263 p264 p265 : Int) (p271 : List Xm) (p272 : Int) (p276 xv281 : List Xc) (t283 : Int) : Option ((List Xc) × Xl) :=
  if (decide (t283 < (y155.length : Int))) = true then
  (gidx y155 t283).bind fun xv293 =>
  (ZE xv293 (Xl.mk p260 (Xg.mk p261 p262 p263 p264 p265) (Xw.mk p271 p272) p276)).bind fun y298 =>
  (Ys (Xl.mk p260 (Xg.mk p261 p262 p263 p264 p265) (Xw.mk p271 p272) p276) xv293.Xo y298).bind fun y302 =>
  if (decide (xv281.length + ([y302.1] : List Xc).length ≤ lim)) = true then
  rec285 y302.2.XB y302.2.Xb.Xz y302.2.Xb.XI y302.2.Xb.XA y302.2.Xb.Xk y302.2.Xb.Xr y302.2.Xf.Xp y302.2.Xf.XG y302.2.Xh (xv281 ++ ([y302.1] : List Xc)) (IntKind.i64.wrap (t283 + 1))
  else none
  else
  some (xv281, (Xl.mk p260 (Xg.mk p261 p262 p263 p264 p265) (Xw.mk p271 p272) p276))
def Yv (y155 : List Xc) : Nat → Int → Int → Int → Int → Int → Int → (List Xm) → Int → (List Xc) → (List Xc) → Int → Option ((List Xc) × Xl)
  | 0 => fun _ _ _ _ _ _ _ _ _ _ _ => none
  | k + 1 => YT (Yv y155 k) y155
def ZU (rec119 : (List Xc) → Int → Option ((List Xc) × Xl)) (cv1 : Xl) (tick13 : Int) (lv116 : List Xc) (t117 : Int) : Option ((List Xc) × Xl) :=
  if (decide (t117 < (cv1.Xh.length : Int))) = true then
  (gidx cv1.Xh t117).bind fun xv126 =>
  (Ze (Xl.mk tick13 cv1.Xb cv1.Xf cv1.Xh) xv126).bind fun y132 =>
  if (decide (y132 ≤ tick13)) = true then
  if (decide (lv116.length + ([xv126] : List Xc).length ≤ lim)) = true then
  ZV t117 rec119 (lv116 ++ ([xv126] : List Xc))
  else none
  else
  ZV t117 rec119 lv116
  else
  (XY lv116 (Xl.mk tick13 cv1.Xb cv1.Xf cv1.Xh)).bind fun y155 =>
  Yv y155 fuel0 tick13 cv1.Xb.Xz cv1.Xb.XI cv1.Xb.XA cv1.Xb.Xk cv1.Xb.Xr cv1.Xf.Xp cv1.Xf.XG cv1.Xh ([]) 0
def YU (cv1 : Xl) (tick13 : Int) : Nat → (List Xc) → Int → Option ((List Xc) × Xl)
  | 0 => fun _ _ => none
  | k + 1 => ZU (YU cv1 tick13 k) cv1 tick13
def Z6 (cv1 : Xl) (tick13 : Int) : Option ((List Xc) × Xl) :=
  if (decide (tick13 < cv1.XB)) = true then
  some ([], cv1)
  else
  YU cv1 tick13 fuel0 ([]) 0
def X5 (cv1 : Xl) (tick13 : Int) : Option ((List Xc) × Xl) :=
  Z6 cv1 tick13
def ZP (av1 : Xc) (b2 : Xc) : Option Int :=
  (Jp av1.Ya b2.Ya).bind fun y11 =>
  (KB av1 b2).bind fun y15 =>
  (Vo ([y11, y15] : List Int)).bind fun y22 =>
  some y22
def XV (i117 : Int) (rec119 : Bool → (List Int) → Bool → (List Int) → Int → Int → Int → Int → Int → Int → Int → Int → Int → Int → Int → Option Xc) (m137 : Bool) (m138 : List Int) (m139 : Bool) (m140 : List Int) (m141 m142 m143 m144 m145 m146 m147 m148 m149 m150 : Int) : Option Xc :=
  rec119 m137 m138 m139 m140 m141 m142 m143 m144 m145 m146 m147 m148 m149 m150 (IntKind.i64.wrap (i117 + 1))
def XW (rec119 : Bool → (List Int) → Bool → (List Int) → Int → Int → Int → Int → Int → Int → Int → Int → Int → Int → Int → Option Xc) (xv1 : List Xc) (m103 : Bool) (m104 : List Int) (m105 : Bool) (m106 : List Int) (m107 m108 m109 m110 m111 m112 m113 m114 m115 m116 i117 : Int) : Option Xc :=
  if (decide (i117 < (xv1.length : Int))) = true then
  (gidx xv1 i117).bind fun xv126 =>
  (ZP xv126 (Xc.mk (Xe.mk (Xd.mk m103 m104) (Xd.mk m105 m106) m107 m108 m109) m110 m111 m112 m113 m114 m115 m116)).bind fun y127 =>
  if (decide (y127 < 0)) = true then
  (gidx xv1 i117).bind fun xv133 =>
  XV i117 rec119 xv133.Xo.XL.YQ xv133.Xo.XL.f_B xv133.Xo.XN.YQ xv133.Xo.XN.f_B xv133.Xo.X2 xv133.Xo.X6 xv133.Xo.X1 xv133.Xk xv133.Xr xv133.X4 xv133.Ya xv133.XO xv133.X9 xv133.XU
  else
  XV i117 rec119 m103 m104 m105 m106 m107 m108 m109 m110 m111 m112 m113 m114 m115 m116
  else
  some (Xc.mk (Xe.mk (Xd.mk m103 m104) (Xd.mk m105 m106) m107 m108 m109) m110 m111 m112 m113 m114 m115 m116)
def XP (xv1 : List Xc) : Nat → Bool → (List Int) → Bool → (List Int) → Int → Int → Int → Int → Int → Int → Int → Int → Int → Int → Int → Option Xc
  | 0 => fun _ _ _ _ _ _ _ _ _ _ _ _ _ _ _ => none
  | k + 1 => XW (XP xv1 k) xv1
def X8 (xv1 : List Xc) : Option Xc :=
  (gidx xv1 0).bind fun xv15 =>
  XP xv1 fuel0 xv15.Xo.XL.YQ xv15.Xo.XL.f_B xv15.Xo.XN.YQ xv15.Xo.XN.f_B xv15.Xo.X2 xv15.Xo.X6 xv15.Xo.X1 xv15.Xk xv15.Xr xv15.X4 xv15.Ya xv15.XO xv15.X9 xv15.XU 1
def X0 (xv1 : List Xc) : Option Xc :=
  if (decide ((xv1.length : Int) < 1)) = true then
  none
  else
  X8 xv1
def VS (kv1 : Xe) (class2 tick3 : Int) : Option Xc :=
  some (Xc.mk kv1 0 0 tick3 tick3 0 0 class2)
def ZH (kv13 : Xe) (class14 p51 p52 p53 p54 p55 p56 : Int) (p62 : List Xm) (p63 : Int) (p67 out72 : List Xc) : Option ((List Xc) × Xl) :=
  (YX (Xw.mk p62 p63) kv13 (IntKind.u64.wrap (p67.length : Int))).bind fun y75 =>
  (VS kv13 class14 p51).bind fun y83 =>
  if (decide (p67.length + ([y83] : List Xc).length ≤ lim)) = true then
  some (out72, (Xl.mk p51 (Xg.mk p52 p53 p54 p55 p56) y75.2 (p67 ++ ([y83] : List Xc))))
  else none
def ZM (cv1 : Xl) (kv13 : Xe) (class14 : Int) : Option ((List Xc) × Xl) :=
  if ((cv1.Xh.length : Int) == cv1.Xb.Xz) = true then
  (X0 cv1.Xh).bind fun y22 =>
  (Ys cv1 y22.Xo 5).bind fun y30 =>
  if (decide (([y30.1] : List Xc).length ≤ lim)) = true then
  ZH kv13 class14 y30.2.XB y30.2.Xb.Xz y30.2.Xb.XI y30.2.Xb.XA y30.2.Xb.Xk y30.2.Xb.Xr y30.2.Xf.Xp y30.2.Xf.XG y30.2.Xh ([y30.1] : List Xc)
  else none
  else
  ZH kv13 class14 cv1.XB cv1.Xb.Xz cv1.Xb.XI cv1.Xb.XA cv1.Xb.Xk cv1.Xb.Xr cv1.Xf.Xp cv1.Xf.XG cv1.Xh ([])
def Zp (rv1 : Xc) : Option Yc :=
  some (Yc.mk rv1.Xk rv1.Xr)
def VF (av1 b2 : Int) : Option Int :=
  if (decide (0 < (hi64 av1 b2))) = true then
  some 18446744073709551615
  else
  some (lo64 av1 b2)
def UW (t1 : Yc) (u2 : Yc) : Option Yc :=
  (VF t1.Xk u2.Xk).bind fun y14 =>
  (VF t1.Xr u2.Xr).bind fun y18 =>
  some (Yc.mk y14 y18)
def KF (rv1 : Xc) (p2 : XC) (tick3 t51 t52 : Int) : Option Xc :=
  some (Xc.mk rv1.Xo t51 t52 rv1.X4 (gmax rv1.Ya tick3) (bits .or .u8 rv1.XO p2.XO) rv1.X9 rv1.XU)
def KG (rv1 : Xc) (p2 : XC) (tick3 t51 t52 : Int) : Option Xc :=
  KF rv1 p2 tick3 t51 t52
def KH (rv1 : Xc) (p2 : XC) (tick3 : Int) : Option Xc :=
  (Zp rv1).bind fun y14 =>
  (UW y14 (Yc.mk 1 (IntKind.u64.wrap (gmax 0 p2.Yk)))).bind fun y18 =>
  KG rv1 p2 tick3 y18.Xk y18.Xr
def KU (t6 : Bool) : Option Bool :=
  some t6
def Vr (p1 : XC) : Option Bool :=
  if (p1.Xo.X2 == 6) = true then
  if (!p1.YS) = true then
  KU (decide (0 < (bits .and .u8 p1.XO 5)))
  else
  KU false
  else
  KU false
def Z4 (p208 p209 p210 p211 p212 p213 : Int) (p219 : List Xm) (p220 : Int) (p224 out228 : List Xc) : Option ((List Xc) × Int × Xl) :=
  some (out228, 0, (Xl.mk p208 (Xg.mk p209 p210 p211 p212 p213) (Xw.mk p219 p220) p224))
def J4 (p13 : XC) (p75 p76 p77 p78 p79 p80 : Int) (p91 out96 : List Xc) (y99 : Int × Bool × Xw) (rv133 : Bool) (rv134 : List Int) (rv135 : Bool) (rv136 : List Int) (rv137 rv138 rv139 rv140 rv141 rv142 rv143 rv144 rv145 rv146 : Int) (t185 : Bool) : Option ((List Xc) × Int × Xl) :=
  if t185 = true then
  (Ys (Xl.mk p75 (Xg.mk p76 p77 p78 p79 p80) y99.2.2 (p91.set (y99.1 : Int).toNat (Xc.mk (Xe.mk (Xd.mk rv133 rv134) (Xd.mk rv135 rv136) rv137 rv138 rv139) rv140 rv141 rv142 rv143 rv144 rv145 rv146))) p13.Xo 4).bind fun y187 =>
  if (decide (out96.length + ([y187.1] : List Xc).length ≤ lim)) = true then
  Z4 y187.2.XB y187.2.Xb.Xz y187.2.Xb.XI y187.2.Xb.XA y187.2.Xb.Xk y187.2.Xb.Xr y187.2.Xf.Xp y187.2.Xf.XG y187.2.Xh (out96 ++ ([y187.1] : List Xc))
  else none
  else
  Z4 p75 p76 p77 p78 p79 p80 y99.2.2.Xp y99.2.2.XG (p91.set (y99.1 : Int).toNat (Xc.mk (Xe.mk (Xd.mk rv133 rv134) (Xd.mk rv135 rv136) rv137 rv138 rv139) rv140 rv141 rv142 rv143 rv144 rv145 rv146)) out96
def J2 (p13 : XC) (p75 p76 p77 p78 p79 p80 : Int) (p91 out96 : List Xc) (y99 : Int × Bool × Xw) (rv133 : Bool) (rv134 : List Int) (rv135 : Bool) (rv136 : List Int) (rv137 rv138 rv139 rv140 rv141 rv142 rv143 rv144 rv145 rv146 : Int) : Option ((List Xc) × Int × Xl) :=
  (gidx p91 y99.1).bind fun xv151 =>
  (Vr p13).bind fun y155 =>
  if y155 = true then
  (Ys (Xl.mk p75 (Xg.mk p76 p77 p78 p79 p80) y99.2.2 (p91.set (y99.1 : Int).toNat (Xc.mk (Xe.mk (Xd.mk rv133 rv134) (Xd.mk rv135 rv136) rv137 rv138 rv139) rv140 rv141 rv142 rv143 rv144 rv145 rv146))) p13.Xo 3).bind fun y159 =>
  if (decide (out96.length + ([y159.1] : List Xc).length ≤ lim)) = true then
  Z4 y159.2.XB y159.2.Xb.Xz y159.2.Xb.XI y159.2.Xb.XA y159.2.Xb.Xk y159.2.Xb.Xr y159.2.Xf.Xp y159.2.Xf.XG y159.2.Xh (out96 ++ ([y159.1] : List Xc))
  else none
  else
  if (decide (p79 ≤ rv140)) = true then
  J4 p13 p75 p76 p77 p78 p79 p80 p91 out96 y99 rv133 rv134 rv135 rv136 rv137 rv138 rv139 rv140 rv141 rv142 rv143 rv144 rv145 rv146 true
  else
  J4 p13 p75 p76 p77 p78 p79 p80 p91 out96 y99 rv133 rv134 rv135 rv136 rv137 rv138 rv139 rv140 rv141 rv142 rv143 rv144 rv145 rv146 (decide (p80 ≤ rv141))
def Yx (p13 : XC) (p75 p76 p77 p78 p79 p80 : Int) (p86 : List Xm) (p87 : Int) (p91 out96 : List Xc) : Option ((List Xc) × Int × Xl) :=
  (Yt (Xw.mk p86 p87) p13.Xo).bind fun y99 =>
  (gidx p91 y99.1).bind fun xv108 =>
  (KH xv108 p13 p75).bind fun y109 =>
  J2 p13 p75 p76 p77 p78 p79 p80 p91 out96 y99 y109.Xo.XL.YQ y109.Xo.XL.f_B y109.Xo.XN.YQ y109.Xo.XN.f_B y109.Xo.X2 y109.Xo.X6 y109.Xo.X1 y109.Xk y109.Xr y109.X4 y109.Ya y109.XO y109.X9 y109.XU
def XQ (cv1 : Xl) (p13 : XC) (class14 tick15 : Int) : Option ((List Xc) × Int × Xl) :=
  (Yn p13.Xo).bind fun y24 =>
  if (!y24) = true then
  some ([], 2, cv1)
  else
  (X5 cv1 tick15).bind fun y30 =>
  (Yt y30.2.Xf p13.Xo).bind fun y46 =>
  if (!y46.2.1) = true then
  (ZM (Xl.mk y30.2.XB y30.2.Xb y46.2.2 y30.2.Xh) p13.Xo class14).bind fun y54 =>
  if (decide (y30.1.length + y54.1.length ≤ lim)) = true then
  Yx p13 y54.2.XB y54.2.Xb.Xz y54.2.Xb.XI y54.2.Xb.XA y54.2.Xb.Xk y54.2.Xb.Xr y54.2.Xf.Xp y54.2.Xf.XG y54.2.Xh (y30.1 ++ y54.1)
  else none
  else
  Yx p13 y30.2.XB y30.2.Xb.Xz y30.2.Xb.XI y30.2.Xb.XA y30.2.Xb.Xk y30.2.Xb.Xr y46.2.2.Xp y46.2.2.XG y30.2.Xh y30.1
def JP (t86 : Int) (rec88 : Int → Bool → Int → Option (Int × Bool × Xl)) (atv115 : Int) (ok116 : Bool) : Option (Int × Bool × Xl) :=
  rec88 atv115 ok116 (IntKind.i64.wrap (t86 + 1))
def JT (atv84 : Int) (ok85 : Bool) (t86 : Int) (rec88 : Int → Bool → Int → Option (Int × Bool × Xl)) (y101 : Int) (t109 : Bool) : Option (Int × Bool × Xl) :=
  if t109 = true then
  JP t86 rec88 y101 true
  else
  JP t86 rec88 atv84 ok85
def JY (rec88 : Int → Bool → Int → Option (Int × Bool × Xl)) (cv1 : Xl) (atv84 : Int) (ok85 : Bool) (t86 : Int) : Option (Int × Bool × Xl) :=
  if (decide (t86 < (cv1.Xh.length : Int))) = true then
  (gidx cv1.Xh t86).bind fun xv95 =>
  (Ze cv1 xv95).bind fun y101 =>
  if (!ok85) = true then
  JT atv84 ok85 t86 rec88 y101 true
  else
  JT atv84 ok85 t86 rec88 y101 (decide (y101 < atv84))
  else
  some (atv84, ok85, cv1)
def Y5 (cv1 : Xl) : Nat → Int → Bool → Int → Option (Int × Bool × Xl)
  | 0 => fun _ _ _ => none
  | k + 1 => JY (Y5 cv1 k) cv1
def J0 (cv1 : Xl) : Option (Int × Bool × Xl) :=
  Y5 cv1 fuel0 0 false 0
def Js (t242 : Bool) : Option Bool :=
  some t242
def K8 (one126 : Bool) (y169 : (List Xc) × Int × Xl) (two194 : Bool) : Option Bool :=
  (UI 2).bind fun y197 =>
  (XQ y169.2.2 y197 0 12).bind fun y201 =>
  (UI 2).bind fun y217 =>
  (XQ y201.2.2 y217 0 12).bind fun y221 =>
  if one126 = true then
  if two194 = true then
  if ((y201.1.length : Int) == 0) = true then
  if ((y221.1.length : Int) == 1) = true then
  (gidx y221.1 0).bind fun xv238 =>
  if (xv238.Xk == 3) = true then
  (gidx y221.1 0).bind fun xv241 =>
  Js (xv241.X9 == 4)
  else
  Js false
  else
  Js false
  else
  Js false
  else
  Js false
  else
  Js false
def ZK (y45 : XC) (y100 : (List Xc) × Xl) (one126 : Bool) : Option Bool :=
  (XQ y100.2 y45 0 9).bind fun y129 =>
  (UI 2).bind fun y145 =>
  (XQ y129.2.2 y145 0 10).bind fun y149 =>
  (UI 3).bind fun y165 =>
  (XQ y149.2.2 y165 0 11).bind fun y169 =>
  if ((y169.1.length : Int) == 1) = true then
  (gidx y169.1 0).bind fun xv186 =>
  if (Yg xv186.Xo y45.Xo) = true then
  (gidx y169.1 0).bind fun xv189 =>
  K8 one126 y169 (xv189.X9 == 5)
  else
  K8 one126 y169 false
  else
  K8 one126 y169 false
def Ua (y11 : Int) (xv18 : Bool) : Option Bool :=
  if xv18 = true then
  some false
  else
  if (decide (0 ≤ (Ox.shl .i64 1 y11) ∧ (Ox.shl .i64 1 y11) ≤ lim)) = true then
  (UI 1).bind fun y45 =>
  (XQ (Xl.mk 0 (Xg.mk 2 5 20 3 1000) (Xw.mk (List.replicate (Int.toNat (Ox.shl .i64 1 y11)) ((Xm.mk false (Xe.mk (Xd.mk false (List.replicate 16 0)) (Xd.mk false (List.replicate 16 0)) 0 0 0) 0) : Xm)) 0) ([] : List Xc)) y45 0 1).bind fun y55 =>
  (XQ y55.2.2 y45 0 3).bind fun y71 =>
  (J0 y71.2.2).bind fun y87 =>
  (X5 y87.2.2 8).bind fun y100 =>
  if ((y55.1.length : Int) == 0) = true then
  if ((y71.1.length : Int) == 0) = true then
  if (y87.1 == 8) = true then
  if y87.2.1 = true then
  if ((y100.1.length : Int) == 1) = true then
  (gidx y100.1 0).bind fun xv117 =>
  if (xv117.Xk == 2) = true then
  (gidx y100.1 0).bind fun xv120 =>
  ZK y45 y100 (xv120.X9 == 1)
  else
  ZK y45 y100 false
  else
  ZK y45 y100 false
  else
  ZK y45 y100 false
  else
  ZK y45 y100 false
  else
  ZK y45 y100 false
  else
  ZK y45 y100 false
  else none
def Vx : Option Bool :=
  (Zb (IntKind.u64.wrap 2)).bind fun y11 =>
  if (decide (¬ y11 < 0)) = true then
  if (decide ((Ox.shl .i64 1 y11) < 1)) = true then
  Ua y11 true
  else
  if (decide (65536 < (Ox.shl .i64 1 y11))) = true then
  Ua y11 true
  else
  Ua y11 ((bits .and .i64 (Ox.shl .i64 1 y11) (IntKind.i64.wrap ((Ox.shl .i64 1 y11) - 1))) != 0)
  else none
def Yw : Option Bool :=
  Vx
def K4 (b1 : Xg) : Option Xg :=
  some b1
def Kx (i29 : Int) (rec31 : Int → Option Bool) (t39 : Bool) : Option Bool :=
  if t39 = true then
  some false
  else
  rec31 (IntKind.i64.wrap (i29 + 1))
def Ub (rec31 : Int → Option Bool) (av1 : Xd) (i29 : Int) : Option Bool :=
  if (decide (i29 < 16)) = true then
  if (!av1.YQ) = true then
  (gidxA 16 av1.f_B i29).bind fun xv37 =>
  Kx i29 rec31 (xv37 != 0)
  else
  Kx i29 rec31 false
  else
  some true
def Jr (av1 : Xd) : Nat → Int → Option Bool
  | 0 => fun _ => none
  | k + 1 => Ub (Jr av1 k) av1
def UX (av1 : Xd) : Option Bool :=
  Jr av1 fuel0 4
def Uc (t3 : Bool) : Option Bool :=
  some t3
def VB (proto1 : Int) : Option Bool :=
  if (proto1 == 6) = true then
  Uc true
  else
  Uc (proto1 == 17)
def Uw (t3 : Bool) : Option Bool :=
  some t3
def VL (proto1 : Int) : Option Bool :=
  if (proto1 == 1) = true then
  Uw true
  else
  Uw (proto1 == 58)
def J6 (t27 : Bool) : Option Bool :=
  some t27
def Kw (kv1 : XR) (t16 : Bool) : Option Bool :=
  if t16 = true then
  some false
  else
  (VB kv1.X2).bind fun y19 =>
  if y19 = true then
  J6 true
  else
  if (kv1.X6 == 0) = true then
  (VL kv1.X2).bind fun y23 =>
  if y23 = true then
  J6 true
  else
  J6 (kv1.X1 == 0)
  else
  J6 false
def JD (kv1 : XR) : Option Bool :=
  (UX kv1.XL).bind fun y7 =>
  if (!y7) = true then
  Kw kv1 true
  else
  (UX kv1.XN).bind fun y11 =>
  if (!y11) = true then
  Kw kv1 true
  else
  Kw kv1 (!(kv1.XL.YQ == kv1.XN.YQ))
def Vv : Option Int :=
  some 18446744073709551615
def Jt (av1 b2 : Int) : Option Int :=
  (Vv).bind fun y6 =>
  if (decide ((IntKind.u64.wrap (y6 - b2)) < av1)) = true then
  (Vv).bind fun y11 =>
  some y11
  else
  some (IntKind.u64.wrap (av1 + b2))
def ZF (cv1 : Xq) (rv6 : Xi) : Option Int :=
  (Jt rv6.Ya cv1.Xu.XI).bind fun y13 =>
  some y13
def Zc (cv1 : Xq) (rv6 : Xi) : Option Int :=
  (ZF cv1 rv6).bind fun y13 =>
  (Jt rv6.X4 cv1.Xu.XA).bind fun y17 =>
  some (gmin y13 y17)
def JU (i65 : Int) (rec67 : Int → Bool → Int → Option (Int × Bool × Xq)) (best92 : Int) (ok93 : Bool) : Option (Int × Bool × Xq) :=
  rec67 best92 ok93 (IntKind.i64.wrap (i65 + 1))
def JS (cv1 : Xq) (best63 : Int) (ok64 : Bool) (i65 : Int) (rec67 : Int → Bool → Int → Option (Int × Bool × Xq)) (t80 : Bool) : Option (Int × Bool × Xq) :=
  if t80 = true then
  (gidx cv1.f_L i65).bind fun xv85 =>
  (Zc cv1 xv85).bind fun y86 =>
  JU i65 rec67 y86 true
  else
  JU i65 rec67 best63 ok64
def JR (rec67 : Int → Bool → Int → Option (Int × Bool × Xq)) (cv1 : Xq) (best63 : Int) (ok64 : Bool) (i65 : Int) : Option (Int × Bool × Xq) :=
  if (decide (i65 < (cv1.f_L.length : Int))) = true then
  if (!ok64) = true then
  JS cv1 best63 ok64 i65 rec67 true
  else
  (gidx cv1.f_L i65).bind fun xv73 =>
  (Zc cv1 xv73).bind fun y74 =>
  JS cv1 best63 ok64 i65 rec67 (decide (y74 < best63))
  else
  some (best63, ok64, cv1)
def Y7 (cv1 : Xq) : Nat → Int → Bool → Int → Option (Int × Bool × Xq)
  | 0 => fun _ _ _ => none
  | k + 1 => JR (Y7 cv1 k) cv1
def J3 (cv1 : Xq) : Option (Int × Bool × Xq) :=
  Y7 cv1 fuel0 0 false 0
def Yd (cv1 : Xq) (atv8 reason9 : Int) : Option (Xi × Xq) :=
  (gidx cv1.f_L atv8).bind fun xv18 =>
  (gcut cv1.f_L 0 atv8).bind fun cut27 =>
  if (decide (cut27.length ≤ lim)) = true then
  (gcut cv1.f_L (IntKind.i64.wrap (atv8 + 1)) ((cv1.f_L).length)).bind fun cut40 =>
  if (decide (cut27.length + cut40.length ≤ lim)) = true then
  some ((Xi.mk xv18.Xo xv18.Xk xv18.Xr xv18.X4 xv18.Ya xv18.XO reason9 xv18.XU), (Xq.mk cv1.XK cv1.Xu (cut27 ++ cut40)))
  else none
  else none
def Zk (out210 : List Xi) (rec212 : Int → Int → Int → Int → Int → Int → (List Xi) → (List Xi) → Option ((List Xi) × Xq)) (y215 : Int × Bool × Xq) (atv256 reason281 : Int) : Option ((List Xi) × Xq) :=
  (Yd y215.2.2 atv256 reason281).bind fun y283 =>
  if (decide (out210.length + ([y283.1] : List Xi).length ≤ lim)) = true then
  rec212 y283.2.XK y283.2.Xu.Xz y283.2.Xu.XI y283.2.Xu.XA y283.2.Xu.Xk y283.2.Xu.Xr y283.2.f_L (out210 ++ ([y283.1] : List Xi))
  else none
def Z5 (rec258 : Int → Option ((List Xi) × Xq)) (out210 : List Xi) (rec212 : Int → Int → Int → Int → Int → Int → (List Xi) → (List Xi) → Option ((List Xi) × Xq)) (y215 : Int × Bool × Xq) (atv256 : Int) : Option ((List Xi) × Xq) :=
  (gidx y215.2.2.f_L atv256).bind fun xv264 =>
  (Zc y215.2.2 xv264).bind fun y265 =>
  if (y265 != y215.1) = true then
  rec258 (IntKind.i64.wrap (atv256 + 1))
  else
  (gidx y215.2.2.f_L atv256).bind fun xv273 =>
  (ZF y215.2.2 xv273).bind fun y274 =>
  if (y274 == y215.1) = true then
  Zk out210 rec212 y215 atv256 1
  else
  Zk out210 rec212 y215 atv256 2
def YV (out210 : List Xi) (rec212 : Int → Int → Int → Int → Int → Int → (List Xi) → (List Xi) → Option ((List Xi) × Xq)) (y215 : Int × Bool × Xq) : Nat → Int → Option ((List Xi) × Xq)
  | 0 => fun _ => none
  | k + 1 => Z5 (YV out210 rec212 y215 k) out210 rec212 y215
def Zl (out210 : List Xi) (rec212 : Int → Int → Int → Int → Int → Int → (List Xi) → (List Xi) → Option ((List Xi) × Xq)) (y215 : Int × Bool × Xq) (t226 : Bool) : Option ((List Xi) × Xq) :=
  if t226 = true then
  some (out210, y215.2.2)
  else
  YV out210 rec212 y215 fuel0 0
def ZY (rec212 : Int → Int → Int → Int → Int → Int → (List Xi) → (List Xi) → Option ((List Xi) × Xq)) (tick8 p197 p198 p199 p200 p201 p202 : Int) (p206 out210 : List Xi) : Option ((List Xi) × Xq) :=
  (J3 (Xq.mk p197 (Xg.mk p198 p199 p200 p201 p202) p206)).bind fun y215 =>
  if (!y215.2.1) = true then
  Zl out210 rec212 y215 true
  else
  Zl out210 rec212 y215 (decide (tick8 < y215.1))
def Ye (tick8 : Int) : Nat → Int → Int → Int → Int → Int → Int → (List Xi) → (List Xi) → Option ((List Xi) × Xq)
  | 0 => fun _ _ _ _ _ _ _ _ => none
  | k + 1 => ZY (Ye tick8 k) tick8
def YN (cv1 : Xq) (tick8 : Int) : Option ((List Xi) × Xq) :=
  if (decide (tick8 < cv1.XK)) = true then
  some ([], cv1)
  else
  Ye tick8 fuel0 tick8 cv1.Xu.Xz cv1.Xu.XI cv1.Xu.XA cv1.Xu.Xk cv1.Xu.Xr cv1.f_L ([])
def Xak (six1 : Bool) : Option Int :=
  if six1 = true then
  some 16
  else
  some 4
def Vw (rec56 : (List Int) → Int → Option ((List Int))) (av1 : Xd) (out53 : List Int) (i54 : Int) : Option ((List Int)) :=
  (Xak av1.YQ).bind fun y60 =>
  if (decide (i54 < y60)) = true then
  (gidxA 16 av1.f_B i54).bind fun xv66 =>
  if (decide (out53.length + ([xv66] : List Int).length ≤ lim)) = true then
  rec56 (out53 ++ ([xv66] : List Int)) (IntKind.i64.wrap (i54 + 1))
  else none
  else
  some out53
def U2 (av1 : Xd) : Nat → (List Int) → Int → Option ((List Int))
  | 0 => fun _ _ => none
  | k + 1 => Vw (U2 av1 k) av1
def Vd (av1 : Xd) : Option ((List Int)) :=
  U2 av1 fuel0 ([]) 0
def K1 (recF : Int → Int → Option ((List Int))) (v1 size2 : Int) : Option ((List Int)) :=
  if (size2 == 0) = true then
  some ([])
  else
  (recF (IntKind.u64.wrap (Int.tdiv v1 256)) (IntKind.i64.wrap (size2 - 1))).bind fun y8 =>
  if (decide (y8.length + ([(IntKind.u8.wrap (Int.tmod v1 256))] : List Int).length ≤ lim)) = true then
  some (y8 ++ ([(IntKind.u8.wrap (Int.tmod v1 256))] : List Int))
  else none
def K5 : Nat → Int → Int → Option ((List Int))
  | 0 => fun _ _ => none
  | k + 1 => K1 (K5 k)
def VH (v1 size2 : Int) : Option ((List Int)) := K5 fuel0 v1 size2
def Kv (kv1 : XR) (out27 : List Int) : Option ((List Int)) :=
  (Vd kv1.XL).bind fun y30 =>
  if (decide (out27.length + y30.length ≤ lim)) = true then
  (Vd kv1.XN).bind fun y43 =>
  if (decide ((out27 ++ y30).length + y43.length ≤ lim)) = true then
  if (decide (((out27 ++ y30) ++ y43).length + ([kv1.X2] : List Int).length ≤ lim)) = true then
  (VH (IntKind.u64.wrap kv1.X6) 2).bind fun y65 =>
  if (decide ((((out27 ++ y30) ++ y43) ++ ([kv1.X2] : List Int)).length + y65.length ≤ lim)) = true then
  (VH (IntKind.u64.wrap kv1.X1) 2).bind fun y78 =>
  if (decide (((((out27 ++ y30) ++ y43) ++ ([kv1.X2] : List Int)) ++ y65).length + y78.length ≤ lim)) = true then
  some (((((out27 ++ y30) ++ y43) ++ ([kv1.X2] : List Int)) ++ y65) ++ y78)
  else none
  else none
  else none
  else none
  else none
def UQ (kv1 : XR) : Option ((List Int)) :=
  (JD kv1).bind fun y8 =>
  if (!y8) = true then
  some ([])
  else
  if kv1.XL.YQ = true then
  (gidx ([4] : List Int) 0).bind fun xv20 =>
  Kv kv1 (([4] : List Int).set (0 : Int).toNat 6)
  else
  Kv kv1 ([4] : List Int)
def Vk (av1 : XR) (b2 : XR) : Option Int :=
  (UQ av1).bind fun y11 =>
  (UQ b2).bind fun y18 =>
  if (Op.bytesLess (strOfNums y11).toList (strOfNums y18).toList) = true then
  some (-1)
  else
  if (!(Op.bytesLess (strOfNums y11).toList (strOfNums y18).toList || (strOfNums y11).toList == (strOfNums y18).toList)) = true then
  some 1
  else
  some 0
def ZQ (cv1 : Xq) (atv49 : Int) (t71 : Bool) : Option (Int × Bool × Xq) :=
  some (atv49, t71, cv1)
def ZS (cv1 : Xq) (kv8 : XR) (atv49 : Int) (rec51 : Int → Option (Int × Bool × Xq)) (t64 : Bool) : Option (Int × Bool × Xq) :=
  if t64 = true then
  rec51 (IntKind.i64.wrap (atv49 + 1))
  else
  if (decide (atv49 < (cv1.f_L.length : Int))) = true then
  (gidx cv1.f_L atv49).bind fun xv68 =>
  ZQ cv1 atv49 (Vm xv68.Xo kv8)
  else
  ZQ cv1 atv49 false
def JW (rec51 : Int → Option (Int × Bool × Xq)) (cv1 : Xq) (kv8 : XR) (atv49 : Int) : Option (Int × Bool × Xq) :=
  if (decide (atv49 < (cv1.f_L.length : Int))) = true then
  (gidx cv1.f_L atv49).bind fun xv56 =>
  (Vk xv56.Xo kv8).bind fun y57 =>
  ZS cv1 kv8 atv49 rec51 (decide (y57 < 0))
  else
  ZS cv1 kv8 atv49 rec51 false
def Y4 (cv1 : Xq) (kv8 : XR) : Nat → Int → Option (Int × Bool × Xq)
  | 0 => fun _ => none
  | k + 1 => JW (Y4 cv1 kv8 k) cv1 kv8
def YJ (cv1 : Xq) (kv8 : XR) : Option (Int × Bool × Xq) :=
  Y4 cv1 kv8 fuel0 0
def VC (kv1 : XR) (class2 tick3 : Int) : Option Xi :=
  some (Xi.mk kv1 0 0 tick3 tick3 0 0 class2)
def Zg (kv8 : XR) (class9 p91 p92 p93 p94 p95 p96 : Int) (p100 out105 : List Xi) : Option ((List Xi) × Xq) :=
  (YJ (Xq.mk p91 (Xg.mk p92 p93 p94 p95 p96) p100) kv8).bind fun y108 =>
  (gcut y108.2.2.f_L 0 y108.1).bind fun cut117 =>
  if (decide (cut117.length ≤ lim)) = true then
  (VC kv8 class9 y108.2.2.XK).bind fun y130 =>
  if (decide (cut117.length + ([y130] : List Xi).length ≤ lim)) = true then
  (gcut y108.2.2.f_L y108.1 ((y108.2.2.f_L).length)).bind fun cut143 =>
  if (decide ((cut117 ++ ([y130] : List Xi)).length + cut143.length ≤ lim)) = true then
  some (out105, (Xq.mk y108.2.2.XK y108.2.2.Xu ((cut117 ++ ([y130] : List Xi)) ++ cut143)))
  else none
  else none
  else none
def JA (i57 : Int) (rec59 : Int → Int → Option ((List Xi) × Xq)) (best73 : Int) : Option ((List Xi) × Xq) :=
  rec59 best73 (IntKind.i64.wrap (i57 + 1))
def Jv (rec59 : Int → Int → Option ((List Xi) × Xq)) (cv1 : Xq) (kv8 : XR) (class9 best56 i57 : Int) : Option ((List Xi) × Xq) :=
  if (decide (i57 < (cv1.f_L.length : Int))) = true then
  (gidx cv1.f_L i57).bind fun xv66 =>
  (gidx cv1.f_L best56).bind fun xv69 =>
  if (decide (xv66.Ya < xv69.Ya)) = true then
  JA i57 rec59 i57
  else
  JA i57 rec59 best56
  else
  (Yd cv1 best56 5).bind fun y75 =>
  if (decide (([y75.1] : List Xi).length ≤ lim)) = true then
  Zg kv8 class9 y75.2.XK y75.2.Xu.Xz y75.2.Xu.XI y75.2.Xu.XA y75.2.Xu.Xk y75.2.Xu.Xr y75.2.f_L ([y75.1] : List Xi)
  else none
def Yz (cv1 : Xq) (kv8 : XR) (class9 : Int) : Nat → Int → Int → Option ((List Xi) × Xq)
  | 0 => fun _ _ => none
  | k + 1 => Jv (Yz cv1 kv8 class9 k) cv1 kv8 class9
def ZN (cv1 : Xq) (kv8 : XR) (class9 : Int) : Option ((List Xi) × Xq) :=
  if ((cv1.f_L.length : Int) == cv1.Xu.Xz) = true then
  Yz cv1 kv8 class9 fuel0 0 1
  else
  Zg kv8 class9 cv1.XK cv1.Xu.Xz cv1.Xu.XI cv1.Xu.XA cv1.Xu.Xk cv1.Xu.Xr cv1.f_L ([])
def U5 (rv1 : Xi) (p2 : Zd) (tick3 : Int) : Option Xi :=
  (Jt rv1.Xk 1).bind fun y15 =>
  (Jt rv1.Xr (IntKind.u64.wrap (gmax 0 p2.Yk))).bind fun y21 =>
  some (Xi.mk rv1.Xo y15 y21 rv1.X4 (gmax rv1.Ya tick3) (bits .or .u8 rv1.XO p2.XO) rv1.X9 rv1.XU)
def Z0 (p171 p172 p173 p174 p175 p176 : Int) (p180 out184 : List Xi) : Option ((List Xi) × Int × Xq) :=
  some (out184, 0, (Xq.mk p171 (Xg.mk p172 p173 p174 p175 p176) p180))
def JZ (out73 : List Xi) (y76 : Int × Bool × Xq) (rv108 : Bool) (rv109 : List Int) (rv110 : Bool) (rv111 : List Int) (rv112 rv113 rv114 rv115 rv116 rv117 rv118 rv119 rv120 rv121 : Int) (t153 : Bool) : Option ((List Xi) × Int × Xq) :=
  if t153 = true then
  (Yd (Xq.mk y76.2.2.XK y76.2.2.Xu (y76.2.2.f_L.set (y76.1 : Int).toNat (Xi.mk (XR.mk (Xd.mk rv108 rv109) (Xd.mk rv110 rv111) rv112 rv113 rv114) rv115 rv116 rv117 rv118 rv119 rv120 rv121))) y76.1 4).bind fun y155 =>
  if (decide (out73.length + ([y155.1] : List Xi).length ≤ lim)) = true then
  Z0 y155.2.XK y155.2.Xu.Xz y155.2.Xu.XI y155.2.Xu.XA y155.2.Xu.Xk y155.2.Xu.Xr y155.2.f_L (out73 ++ ([y155.1] : List Xi))
  else none
  else
  Z0 y76.2.2.XK y76.2.2.Xu.Xz y76.2.2.Xu.XI y76.2.2.Xu.XA y76.2.2.Xu.Xk y76.2.2.Xu.Xr (y76.2.2.f_L.set (y76.1 : Int).toNat (Xi.mk (XR.mk (Xd.mk rv108 rv109) (Xd.mk rv110 rv111) rv112 rv113 rv114) rv115 rv116 rv117 rv118 rv119 rv120 rv121)) out73
def YW (out73 : List Xi) (y76 : Int × Bool × Xq) (rv108 : Bool) (rv109 : List Int) (rv110 : Bool) (rv111 : List Int) (rv112 rv113 rv114 rv115 rv116 rv117 rv118 rv119 rv120 rv121 : Int) (t133 : Bool) : Option ((List Xi) × Int × Xq) :=
  if t133 = true then
  (Yd (Xq.mk y76.2.2.XK y76.2.2.Xu (y76.2.2.f_L.set (y76.1 : Int).toNat (Xi.mk (XR.mk (Xd.mk rv108 rv109) (Xd.mk rv110 rv111) rv112 rv113 rv114) rv115 rv116 rv117 rv118 rv119 rv120 rv121))) y76.1 3).bind fun y135 =>
  if (decide (out73.length + ([y135.1] : List Xi).length ≤ lim)) = true then
  Z0 y135.2.XK y135.2.Xu.Xz y135.2.Xu.XI y135.2.Xu.XA y135.2.Xu.Xk y135.2.Xu.Xr y135.2.f_L (out73 ++ ([y135.1] : List Xi))
  else none
  else
  if (decide (y76.2.2.Xu.Xk ≤ rv115)) = true then
  JZ out73 y76 rv108 rv109 rv110 rv111 rv112 rv113 rv114 rv115 rv116 rv117 rv118 rv119 rv120 rv121 true
  else
  JZ out73 y76 rv108 rv109 rv110 rv111 rv112 rv113 rv114 rv115 rv116 rv117 rv118 rv119 rv120 rv121 (decide (y76.2.2.Xu.Xr ≤ rv116))
def J1 (p8 : Zd) (out73 : List Xi) (y76 : Int × Bool × Xq) (rv108 : Bool) (rv109 : List Int) (rv110 : Bool) (rv111 : List Int) (rv112 rv113 rv114 rv115 rv116 rv117 rv118 rv119 rv120 rv121 : Int) : Option ((List Xi) × Int × Xq) :=
  (gidx y76.2.2.f_L y76.1).bind fun xv126 =>
  if (p8.Xo.X2 == 6) = true then
  if (!p8.YS) = true then
  if ((Int.tmod p8.XO 2) == 1) = true then
  YW out73 y76 rv108 rv109 rv110 rv111 rv112 rv113 rv114 rv115 rv116 rv117 rv118 rv119 rv120 rv121 true
  else
  YW out73 y76 rv108 rv109 rv110 rv111 rv112 rv113 rv114 rv115 rv116 rv117 rv118 rv119 rv120 rv121 ((Int.tmod (IntKind.u8.wrap (Int.tdiv p8.XO 4)) 2) == 1)
  else
  YW out73 y76 rv108 rv109 rv110 rv111 rv112 rv113 rv114 rv115 rv116 rv117 rv118 rv119 rv120 rv121 false
  else
  YW out73 y76 rv108 rv109 rv110 rv111 rv112 rv113 rv114 rv115 rv116 rv117 rv118 rv119 rv120 rv121 false
def Yu (p8 : Zd) (p59 p60 p61 p62 p63 p64 : Int) (p68 out73 : List Xi) : Option ((List Xi) × Int × Xq) :=
  (YJ (Xq.mk p59 (Xg.mk p60 p61 p62 p63 p64) p68) p8.Xo).bind fun y76 =>
  (gidx y76.2.2.f_L y76.1).bind fun xv85 =>
  (U5 xv85 p8 y76.2.2.XK).bind fun y86 =>
  J1 p8 out73 y76 y86.Xo.XL.YQ y86.Xo.XL.f_B y86.Xo.XN.YQ y86.Xo.XN.f_B y86.Xo.X2 y86.Xo.X6 y86.Xo.X1 y86.Xk y86.Xr y86.X4 y86.Ya y86.XO y86.X9 y86.XU
def Yo (cv1 : Xq) (p8 : Zd) (class9 tick10 : Int) : Option ((List Xi) × Int × Xq) :=
  (JD p8.Xo).bind fun y18 =>
  if (!y18) = true then
  some ([], 2, cv1)
  else
  (YN cv1 tick10).bind fun y24 =>
  (YJ y24.2 p8.Xo).bind fun y35 =>
  if (!y35.2.1) = true then
  (ZN y35.2.2 p8.Xo class9).bind fun y43 =>
  if (decide (y24.1.length + y43.1.length ≤ lim)) = true then
  Yu p8 y43.2.XK y43.2.Xu.Xz y43.2.Xu.XI y43.2.Xu.XA y43.2.Xu.Xk y43.2.Xu.Xr y43.2.f_L (y24.1 ++ y43.1)
  else none
  else
  Yu p8 y35.2.2.XK y35.2.2.Xu.Xz y35.2.2.Xu.XI y35.2.2.Xu.XA y35.2.2.Xu.Xk y35.2.2.Xu.Xr y35.2.2.f_L y24.1
def Xaa (av1 : Xd) : Option Xd :=
  some av1
def V3 (kv1 : Xe) : Option XR :=
  (Xaa kv1.XL).bind fun y10 =>
  (Xaa kv1.XN).bind fun y14 =>
  some (XR.mk y10 y14 kv1.X2 kv1.X6 kv1.X1)
def V6 (p1 : XC) : Option Zd :=
  (V3 p1.Xo).bind fun y10 =>
  some (Zd.mk y10 p1.Yk p1.XO p1.YS)
def VD (rv1 : Xc) : Option Xi :=
  (V3 rv1.Xo).bind fun y10 =>
  some (Xi.mk y10 rv1.Xk rv1.Xr rv1.X4 rv1.Ya rv1.XO rv1.X9 rv1.XU)
def Kj (rec68 : (List Xc) → Int → Option (Bool × (List Xc))) (rv5 : List Xi) (p64 : List Xc) (i66 : Int) : Option (Bool × (List Xc)) :=
  if (decide (i66 < (p64.length : Int))) = true then
  (gidx p64 i66).bind fun xv77 =>
  (gidx rv5 i66).bind fun xv80 =>
  (VD xv77).bind fun y81 =>
  if (!(Kd y81 xv80)) = true then
  some (false, p64)
  else
  (gidx p64 i66).bind fun xv88 =>
  rec68 (p64.set (i66 : Int).toNat (Xc.mk (Xe.mk (Xd.mk false (List.replicate 16 0)) (Xd.mk false (List.replicate 16 0)) 0 0 0) 0 0 0 0 0 77 0)) (IntKind.i64.wrap (i66 + 1))
  else
  some (true, p64)
def JB (rv5 : List Xi) : Nat → (List Xc) → Int → Option (Bool × (List Xc))
  | 0 => fun _ _ => none
  | k + 1 => Kj (JB rv5 k) rv5
def Za (lv1 : List Xc) (rv5 : List Xi) : Option (Bool × (List Xc)) :=
  if ((lv1.length : Int) != (rv5.length : Int)) = true then
  some (false, lv1)
  else
  JB rv5 fuel0 lv1 0
def XM (rec104 : Int → (List Xc) → Option ((List Xc) × (List Xc))) (seq1 : List Xc) (t97 : Int) (t102 : List Xc) : Option ((List Xc) × (List Xc)) :=
  if (decide (t97 < (seq1.length : Int))) = true then
  (gidx seq1 t97).bind fun xv112 =>
  if (decide (t102.length + ([xv112] : List Xc).length ≤ lim)) = true then
  rec104 (IntKind.i64.wrap (t97 + 1)) (t102 ++ ([xv112] : List Xc))
  else none
  else
  some (t102, seq1)
def XE (seq1 : List Xc) : Nat → Int → (List Xc) → Option ((List Xc) × (List Xc))
  | 0 => fun _ _ => none
  | k + 1 => XM (XE seq1 k) seq1
def XT (seq1 : List Xc) : Option ((List Xc) × (List Xc)) :=
  XE seq1 fuel0 0 ([])
def X3 (seq1 : List Xc) : Option ((List Xc) × (List Xc)) :=
  (XT seq1).bind fun y12 =>
  some (y12.1, seq1)
def cf_cache_byKey (x y : Xc) : Int := (KB x y).getD 0
def Yj (xs : List Xc) : Option (List Xc) :=
  if decide (xs.length ≤ lim) = true then some (srt cf_cache_byKey xs) else none
def XS (seq1 : List Xc) : Option ((List Xc) × (List Xc)) :=
  (X3 seq1).bind fun y12 =>
  (Yj y12.1).bind fun y21 =>
  some (y21, seq1)
def YI (cv1 : Xl) : Option ((List Xc) × Xl) :=
  (XS cv1.Xh).bind fun y23 =>
  some (y23.1, cv1)
def Vn (t1 : Xc) : Option Int :=
  some 4
def Yh (rec187 : Int → Int → Int → Int → Int → Int → (List Xm) → Int → (List Xc) → (List Xc) → Int → Option ((List Xc) × Xl)) (lv13 : List Xc) (p164 p165 p166 p167 p168 p169 : Int) (p175 : List Xm) (p176 : Int) (p180 out184 : List Xc) (t185 : Int) : Option ((List Xc) × Xl) :=
  if (decide (t185 < (lv13.length : Int))) = true then
  (gidx lv13 t185).bind fun xv195 =>
  (Vn xv195).bind fun y200 =>
  (Ys (Xl.mk p164 (Xg.mk p165 p166 p167 p168 p169) (Xw.mk p175 p176) p180) xv195.Xo y200).bind fun y204 =>
  if (decide (out184.length + ([y204.1] : List Xc).length ≤ lim)) = true then
  rec187 y204.2.XB y204.2.Xb.Xz y204.2.Xb.XI y204.2.Xb.XA y204.2.Xb.Xk y204.2.Xb.Xr y204.2.Xf.Xp y204.2.Xf.XG y204.2.Xh (out184 ++ ([y204.1] : List Xc)) (IntKind.i64.wrap (t185 + 1))
  else none
  else
  some (out184, (Xl.mk p164 (Xg.mk p165 p166 p167 p168 p169) (Xw.mk p175 p176) p180))
def X7 (lv13 : List Xc) : Nat → Int → Int → Int → Int → Int → Int → (List Xm) → Int → (List Xc) → (List Xc) → Int → Option ((List Xc) × Xl)
  | 0 => fun _ _ _ _ _ _ _ _ _ _ _ => none
  | k + 1 => Yh (X7 lv13 k) lv13
def Zm (cv1 : Xl) (lv13 : List Xc) : Option ((List Xc) × Xl) :=
  X7 lv13 fuel0 cv1.XB cv1.Xb.Xz cv1.Xb.XI cv1.Xb.XA cv1.Xb.Xk cv1.Xb.Xr cv1.Xf.Xp cv1.Xf.XG cv1.Xh ([]) 0
def ZL (cv1 : Xl) : Option ((List Xc) × Xl) :=
  (YI cv1).bind fun y18 =>
  (Zm y18.2 y18.1).bind fun y33 =>
  some (y33.1, y33.2)
def Jw (rec77 : Int → Int → Int → Int → Int → Int → (List Xi) → (List Xi) → Option ((List Xi) × Xq)) (p62 p63 p64 p65 p66 p67 : Int) (p71 out75 : List Xi) : Option ((List Xi) × Xq) :=
  if (decide (0 < (p71.length : Int))) = true then
  (Yd (Xq.mk p62 (Xg.mk p63 p64 p65 p66 p67) p71) 0 4).bind fun y81 =>
  if (decide (out75.length + ([y81.1] : List Xi).length ≤ lim)) = true then
  rec77 y81.2.XK y81.2.Xu.Xz y81.2.Xu.XI y81.2.Xu.XA y81.2.Xu.Xk y81.2.Xu.Xr y81.2.f_L (out75 ++ ([y81.1] : List Xi))
  else none
  else
  some (out75, (Xq.mk p62 (Xg.mk p63 p64 p65 p66 p67) p71))
def Zf : Nat → Int → Int → Int → Int → Int → Int → (List Xi) → (List Xi) → Option ((List Xi) × Xq)
  | 0 => fun _ _ _ _ _ _ _ _ => none
  | k + 1 => Jw (Zf k)
def K0 (cv1 : Xq) : Option ((List Xi) × Xq) :=
  Zf fuel0 cv1.XK cv1.Xu.Xz cv1.Xu.XI cv1.Xu.XA cv1.Xu.Xk cv1.Xu.Xr cv1.f_L ([])
def K2 (t1 : Xw) : Option Xw :=
  some (Xw.mk (List.replicate (t1.Xp).length ((Xm.mk false (Xe.mk (Xd.mk false (List.replicate 16 0)) (Xd.mk false (List.replicate 16 0)) 0 0 0) 0) : Xm)) 0)
def KZ (cv1 : Xl) : Option (Int × Xl) :=
  (K2 cv1.Xf).bind fun y19 =>
  some ((cv1.Xh.length : Int), (Xl.mk cv1.XB cv1.Xb y19 ([])))
def Vc (y42 : (List Xc) × Int × Xl) (y62 : (List Xi) × Int × Xq) (t83 : Bool) : Option (Bool × Xl × Xq) :=
  some (t83, y42.2.2, y62.2.2)
def VI (p156 p157 p158 p159 p160 p161 : Int) (p167 : List Xm) (p168 : Int) (p172 : List Xc) (p174 p175 p176 p177 p178 p179 : Int) (p183 : List Xi) (t184 : Bool) : Option (Bool × Xl × Xq) :=
  some (t184, (Xl.mk p156 (Xg.mk p157 p158 p159 p160 p161) (Xw.mk p167 p168) p172), (Xq.mk p174 (Xg.mk p175 p176 p177 p178 p179) p183))
def JO (cv1 : Xl) (rv13 : Xq) (av20 : XF) (t93 : Bool) : Option (Bool × Xl × Xq) :=
  if t93 = true then
  (X5 cv1 av20.XK).bind fun y95 =>
  (YN rv13 av20.XK).bind fun y110 =>
  (Za y95.1 y110.1).bind fun y120 =>
  VI y95.2.XB y95.2.Xb.Xz y95.2.Xb.XI y95.2.Xb.XA y95.2.Xb.Xk y95.2.Xb.Xr y95.2.Xf.Xp y95.2.Xf.XG y95.2.Xh y110.2.XK y110.2.Xu.Xz y110.2.Xu.XI y110.2.Xu.XA y110.2.Xu.Xk y110.2.Xu.Xr y110.2.f_L y120.1
  else
  if (av20.Xas == 7) = true then
  (ZL cv1).bind fun y188 =>
  (K0 rv13).bind fun y203 =>
  (Za y188.1 y203.1).bind fun y213 =>
  some (y213.1, y188.2, y203.2)
  else
  if (av20.Xas == 8) = true then
  (KZ cv1).bind fun y223 =>
  some ((y223.1 == (rv13.f_L.length : Int)), y223.2, (Xq.mk rv13.XK rv13.Xu ([])))
  else
  some (true, cv1, rv13)
def Jk (cv1 : Xl) (rv13 : Xq) (av20 : XF) (t39 : Bool) : Option (Bool × Xl × Xq) :=
  if t39 = true then
  (XQ cv1 av20.XH av20.XU av20.XK).bind fun y42 =>
  (V6 av20.XH).bind fun y58 =>
  (Yo rv13 y58 av20.XU av20.XK).bind fun y62 =>
  if (y42.2.1 == y62.2.1) = true then
  (Za y42.1 y62.1).bind fun y72 =>
  Vc y42 y62 y72.1
  else
  Vc y42 y62 false
  else
  if (av20.Xas == 5) = true then
  JO cv1 rv13 av20 (av20.Xas == 5)
  else
  JO cv1 rv13 av20 (av20.Xas == 6)
def UN (cv1 : Xl) (rv13 : Xq) (av20 : XF) : Option (Bool × Xl × Xq) :=
  if (av20.Xas == 0) = true then
  Jk cv1 rv13 av20 (av20.Xas == 0)
  else
  if (av20.Xas == 1) = true then
  Jk cv1 rv13 av20 (av20.Xas == 1)
  else
  if (av20.Xas == 2) = true then
  Jk cv1 rv13 av20 (av20.Xas == 2)
  else
  if (av20.Xas == 3) = true then
  Jk cv1 rv13 av20 (av20.Xas == 3)
  else
  Jk cv1 rv13 av20 (av20.Xas == 4)
def KX (cv1 : Xl) (kv13 : Xe) : Option (Xc × Bool × Xl) :=
  (Yt cv1.Xf kv13).bind fun y25 =>
  if (!y25.2.1) = true then
  some ((Xc.mk (Xe.mk (Xd.mk false (List.replicate 16 0)) (Xd.mk false (List.replicate 16 0)) 0 0 0) 0 0 0 0 0 0 0), false, (Xl.mk cv1.XB cv1.Xb y25.2.2 cv1.Xh))
  else
  (gidx cv1.Xh y25.1).bind fun xv40 =>
  some (xv40, true, (Xl.mk cv1.XB cv1.Xb y25.2.2 cv1.Xh))
def Kf (cv1 : Xq) (kv8 : XR) : Option (Xi × Bool × Xq) :=
  (YJ cv1 kv8).bind fun y18 =>
  if (!y18.2.1) = true then
  some ((Xi.mk (XR.mk (Xd.mk false (List.replicate 16 0)) (Xd.mk false (List.replicate 16 0)) 0 0 0) 0 0 0 0 0 0 0), false, y18.2.2)
  else
  (gidx y18.2.2.f_L y18.1).bind fun xv33 =>
  some (xv33, true, y18.2.2)
def YL (cv1 : Xl) : Option Int :=
  some cv1.XB
def JE (y69 : Xi × Bool × Xq) (p221 p222 p223 p224 p225 p226 : Int) (p232 : List Xm) (p233 : Int) (p237 : List Xc) (t240 : Bool) : Option (Bool × Xl × Xq) :=
  some (t240, (Xl.mk p221 (Xg.mk p222 p223 p224 p225 p226) (Xw.mk p232 p233) p237), y69.2.2)
def Vh (cv1 : Xl) (rv13 : Xq) (kv20 : Xe) : Option (Bool × Xl × Xq) :=
  (J0 cv1).bind fun y27 =>
  (J3 rv13).bind fun y40 =>
  (KX y27.2.2 kv20).bind fun y48 =>
  (V3 kv20).bind fun y65 =>
  (Kf y40.2.2 y65).bind fun y69 =>
  if (y27.1 == y40.1) = true then
  if (y27.2.1 == y40.2.1) = true then
  (VD y48.1).bind fun y80 =>
  if (Kd y80 y69.1) = true then
  if (y48.2.1 == y69.2.1) = true then
  (YI y48.2.2).bind fun y84 =>
  (Za y84.1 y69.2.2.f_L).bind fun y99 =>
  if y99.1 = true then
  (YI y84.2).bind fun y104 =>
  (Za y104.1 y69.2.2.f_L).bind fun y119 =>
  if y119.1 = true then
  (YL y104.2).bind fun y124 =>
  JE y69 y104.2.XB y104.2.Xb.Xz y104.2.Xb.XI y104.2.Xb.XA y104.2.Xb.Xk y104.2.Xb.Xr y104.2.Xf.Xp y104.2.Xf.XG y104.2.Xh (y124 == y69.2.2.XK)
  else
  JE y69 y104.2.XB y104.2.Xb.Xz y104.2.Xb.XI y104.2.Xb.XA y104.2.Xb.Xk y104.2.Xb.Xr y104.2.Xf.Xp y104.2.Xf.XG y104.2.Xh false
  else
  JE y69 y84.2.XB y84.2.Xb.Xz y84.2.Xb.XI y84.2.Xb.XA y84.2.Xb.Xk y84.2.Xb.Xr y84.2.Xf.Xp y84.2.Xf.XG y84.2.Xh false
  else
  JE y69 y48.2.2.XB y48.2.2.Xb.Xz y48.2.2.Xb.XI y48.2.2.Xb.XA y48.2.2.Xb.Xk y48.2.2.Xb.Xr y48.2.2.Xf.Xp y48.2.2.Xf.XG y48.2.2.Xh false
  else
  JE y69 y48.2.2.XB y48.2.2.Xb.Xz y48.2.2.Xb.XI y48.2.2.Xb.XA y48.2.2.Xb.Xk y48.2.2.Xb.Xr y48.2.2.Xf.Xp y48.2.2.Xf.XG y48.2.2.Xh false
  else
  JE y69 y48.2.2.XB y48.2.2.Xb.Xz y48.2.2.Xb.XI y48.2.2.Xb.XA y48.2.2.Xb.Xk y48.2.2.Xb.Xr y48.2.2.Xf.Xp y48.2.2.Xf.XG y48.2.2.Xh false
  else
  JE y69 y48.2.2.XB y48.2.2.Xb.Xz y48.2.2.Xb.XI y48.2.2.Xb.XA y48.2.2.Xb.Xk y48.2.2.Xb.Xr y48.2.2.Xf.Xp y48.2.2.Xf.XG y48.2.2.Xh false
def KA : Option Bool :=
  if (!(true == true)) = true then
  some false
  else
  (Yw).bind fun y50 =>
  some y50
def UF : Option Bool :=
  some false
def YB (t40 : Bool) : Option Bool :=
  if t40 = true then
  KA
  else
  UF
def UP : Option Bool :=
  if (!(true == true)) = true then
  some false
  else
  (Yw).bind fun y99 =>
  some y99
def Ux : Option Bool :=
  some false
def Y3 (t89 : Bool) : Option Bool :=
  if t89 = true then
  UP
  else
  Ux
def Ur : Option Bool :=
  some false
def Jx (i367 : Int) (rec369 : Int → Int → Int → Int → Int → Int → (List Xm) → Int → (List Xc) → Int → Int → Int → Int → Int → Int → (List Xi) → Int → Option Bool) (cv411 cv412 cv413 cv414 cv415 cv416 : Int) (cv422 : List Xm) (cv423 : Int) (cv427 : List Xc) (rv429 rv430 rv431 rv432 rv433 rv434 : Int) (rv438 : List Xi) (t439 : Bool) : Option Bool :=
  if t439 = true then
  some false
  else
  rec369 cv411 cv412 cv413 cv414 cv415 cv416 cv422 cv423 cv427 rv429 rv430 rv431 rv432 rv433 rv434 rv438 (IntKind.i64.wrap (i367 + 1))
def Ks (t461 : Bool) : Option Bool :=
  some t461
def JG (rec369 : Int → Int → Int → Int → Int → Int → (List Xm) → Int → (List Xc) → Int → Int → Int → Int → Int → Int → (List Xi) → Int → Option Bool) (lv3 : List XF) (cv339 cv340 cv341 cv342 cv343 cv344 : Int) (cv350 : List Xm) (cv351 : Int) (cv355 : List Xc) (rv357 rv358 rv359 rv360 rv361 rv362 : Int) (rv366 : List Xi) (i367 : Int) : Option Bool :=
  if (decide (i367 < (lv3.length : Int))) = true then
  (gidx lv3 i367).bind fun xv376 =>
  (UN (Xl.mk cv339 (Xg.mk cv340 cv341 cv342 cv343 cv344) (Xw.mk cv350 cv351) cv355) (Xq.mk rv357 (Xg.mk rv358 rv359 rv360 rv361 rv362) rv366) xv376).bind fun y377 =>
  if (!y377.1) = true then
  Jx i367 rec369 y377.2.1.XB y377.2.1.Xb.Xz y377.2.1.Xb.XI y377.2.1.Xb.XA y377.2.1.Xb.Xk y377.2.1.Xb.Xr y377.2.1.Xf.Xp y377.2.1.Xf.XG y377.2.1.Xh y377.2.2.XK y377.2.2.Xu.Xz y377.2.2.Xu.XI y377.2.2.Xu.XA y377.2.2.Xu.Xk y377.2.2.Xu.Xr y377.2.2.f_L true
  else
  (gidx lv3 i367).bind fun xv394 =>
  (Vh y377.2.1 y377.2.2 xv394.XH.Xo).bind fun y395 =>
  Jx i367 rec369 y395.2.1.XB y395.2.1.Xb.Xz y395.2.1.Xb.XI y395.2.1.Xb.XA y395.2.1.Xb.Xk y395.2.1.Xb.Xr y395.2.1.Xf.Xp y395.2.1.Xf.XG y395.2.1.Xh y395.2.2.XK y395.2.2.Xu.Xz y395.2.2.Xu.XI y395.2.2.Xu.XA y395.2.2.Xu.Xk y395.2.2.Xu.Xr y395.2.2.f_L (!y395.1)
  else
  (Vh (Xl.mk cv339 (Xg.mk cv340 cv341 cv342 cv343 cv344) (Xw.mk cv350 cv351) cv355) (Xq.mk rv357 (Xg.mk rv358 rv359 rv360 rv361 rv362) rv366) (Xe.mk (Xd.mk false (List.replicate 16 0)) (Xd.mk false (List.replicate 16 0)) 0 0 0)).bind fun y442 =>
  if y442.1 = true then
  (Yw).bind fun y457 =>
  Ks y457
  else
  Ks false
def Zr (lv3 : List XF) : Nat → Int → Int → Int → Int → Int → Int → (List Xm) → Int → (List Xc) → Int → Int → Int → Int → Int → Int → (List Xi) → Int → Option Bool
  | 0 => fun _ _ _ _ _ _ _ _ _ _ _ _ _ _ _ _ _ => none
  | k + 1 => JG (Zr lv3 k) lv3
def Kr (tick1 : Int) (b2 : Xg) (lv3 : List XF) (y63 : Int) (y126 : Xg) : Option Bool :=
  if (!(false == false)) = true then
  some false
  else
  Zr lv3 fuel0 tick1 b2.Xz b2.XI b2.XA b2.Xk b2.Xr (List.replicate (Int.toNat (Ox.shl .i64 1 y63)) ((Xm.mk false (Xe.mk (Xd.mk false (List.replicate 16 0)) (Xd.mk false (List.replicate 16 0)) 0 0 0) 0) : Xm)) 0 ([]) tick1 y126.Xz y126.XI y126.XA y126.Xk y126.Xr ([]) 0
def YD (tick1 : Int) (b2 : Xg) (lv3 : List XF) (y63 : Int) (y126 : Xg) (t136 : Bool) : Option Bool :=
  if t136 = true then
  Ur
  else
  Kr tick1 b2 lv3 y63 y126
def Zu (tick1 : Int) (b2 : Xg) (lv3 : List XF) (y63 : Int) (t70 : Bool) : Option Bool :=
  if t70 = true then
  (K4 b2).bind fun y79 =>
  if (decide (y79.Xz < 1)) = true then
  Y3 true
  else
  if (decide (4096 < y79.Xz)) = true then
  Y3 true
  else
  if (y79.XI == 0) = true then
  Y3 true
  else
  if (y79.XA == 0) = true then
  Y3 true
  else
  if (y79.Xk == 0) = true then
  Y3 true
  else
  Y3 (y79.Xr == 0)
  else
  if (decide (0 ≤ (Ox.shl .i64 1 y63) ∧ (Ox.shl .i64 1 y63) ≤ lim)) = true then
  (K4 b2).bind fun y126 =>
  if (decide (y126.Xz < 1)) = true then
  YD tick1 b2 lv3 y63 y126 true
  else
  if (decide (4096 < y126.Xz)) = true then
  YD tick1 b2 lv3 y63 y126 true
  else
  if (y126.XI == 0) = true then
  YD tick1 b2 lv3 y63 y126 true
  else
  if (y126.XA == 0) = true then
  YD tick1 b2 lv3 y63 y126 true
  else
  if (y126.Xk == 0) = true then
  YD tick1 b2 lv3 y63 y126 true
  else
  YD tick1 b2 lv3 y63 y126 (y126.Xr == 0)
  else none
def YE (tick1 : Int) (b2 : Xg) (lv3 : List XF) (t25 : Bool) : Option Bool :=
  if t25 = true then
  (K4 b2).bind fun y30 =>
  if (decide (y30.Xz < 1)) = true then
  YB true
  else
  if (decide (4096 < y30.Xz)) = true then
  YB true
  else
  if (y30.XI == 0) = true then
  YB true
  else
  if (y30.XA == 0) = true then
  YB true
  else
  if (y30.Xk == 0) = true then
  YB true
  else
  YB (y30.Xr == 0)
  else
  (Zb (IntKind.u64.wrap b2.Xz)).bind fun y63 =>
  if (decide (¬ y63 < 0)) = true then
  if (decide ((Ox.shl .i64 1 y63) < 1)) = true then
  Zu tick1 b2 lv3 y63 true
  else
  if (decide (65536 < (Ox.shl .i64 1 y63))) = true then
  Zu tick1 b2 lv3 y63 true
  else
  Zu tick1 b2 lv3 y63 ((bits .and .i64 (Ox.shl .i64 1 y63) (IntKind.i64.wrap ((Ox.shl .i64 1 y63) - 1))) != 0)
  else none
def Jc (tick1 : Int) (b2 : Xg) (lv3 : List XF) : Option Bool :=
  if (decide (60 < (lv3.length : Int))) = true then
  (Yw).bind fun y14 =>
  some y14
  else
  if (decide (b2.Xz < 1)) = true then
  YE tick1 b2 lv3 true
  else
  if (decide (4096 < b2.Xz)) = true then
  YE tick1 b2 lv3 true
  else
  if (b2.XI == 0) = true then
  YE tick1 b2 lv3 true
  else
  if (b2.XA == 0) = true then
  YE tick1 b2 lv3 true
  else
  if (b2.Xk == 0) = true then
  YE tick1 b2 lv3 true
  else
  YE tick1 b2 lv3 (b2.Xr == 0)
def Uf (nv1 tick2 kv16 kv17 kv18 : Int) : Option XF :=
  if (decide ((IntKind.i64.wrap (6 + (IntKind.i64.wrap ((IntKind.i64.wrap (Int.tdiv (Int.tmod nv1 29) 26)) * 3)))) ≠ 0)) = true then
  if (decide (¬ (Int.tmod (IntKind.i64.wrap (Int.tdiv nv1 7)) 8) < 0)) = true then
  some (XF.mk (Int.tmod (Int.tmod (IntKind.i64.wrap (Int.tdiv nv1 5)) 10) (IntKind.i64.wrap (6 + (IntKind.i64.wrap ((IntKind.i64.wrap (Int.tdiv (Int.tmod nv1 29) 26)) * 3))))) (XC.mk (Xe.mk (Xd.mk false (List.replicate 16 0)) (Xd.mk false (List.replicate 16 0)) kv16 kv17 kv18) (Int.tmod nv1 400) (Ox.shl .u8 1 (Int.tmod (IntKind.i64.wrap (Int.tdiv nv1 7)) 8)) ((Int.tmod nv1 13) == 0)) (IntKind.u8.wrap (Int.tmod nv1 3)) tick2)
  else none
  else none
def ZO (nv1 tick2 : Int) : Option XF :=
  if ((Int.tmod nv1 19) == 0) = true then
  Uf nv1 tick2 0 1 0
  else
  Uf nv1 tick2 (IntKind.u8.wrap (IntKind.i64.wrap (6 + (IntKind.i64.wrap (11 * (Int.tmod nv1 2)))))) (IntKind.u16.wrap (Int.tmod nv1 5)) 80
def V0 (i1 nv2 : Int) : Option Int :=
  if (decide (nv2 ≤ 0)) = true then
  some 0
  else
  if (decide (nv2 ≠ 0)) = true then
  if (decide (nv2 ≠ 0)) = true then
  some (Int.tmod (IntKind.i64.wrap ((Int.tmod i1 nv2) + nv2)) nv2)
  else none
  else none
def K7 (y46 : (List Xc) × Xl) (i128 : Int) (rec130 : Int → Option (Bool × Xl)) (t155 : Bool) : Option (Bool × Xl) :=
  if t155 = true then
  some (false, y46.2)
  else
  rec130 (IntKind.i64.wrap (i128 + 1))
def K9 (rec130 : Int → Option (Bool × Xl)) (b13 : Xg) (y46 : (List Xc) × Xl) (i128 : Int) : Option (Bool × Xl) :=
  if (decide (i128 < (y46.1.length : Int))) = true then
  (gidx y46.1 i128).bind fun xv137 =>
  (YL y46.2).bind fun y138 =>
  if (decide (b13.XA ≤ (IntKind.u64.wrap (y138 - xv137.X4)))) = true then
  K7 y46 i128 rec130 true
  else
  (gidx y46.1 i128).bind fun xv144 =>
  (YL y46.2).bind fun y145 =>
  K7 y46 i128 rec130 (decide (b13.XI ≤ (IntKind.u64.wrap (y145 - xv144.Ya))))
  else
  some (true, y46.2)
def J9 (b13 : Xg) (y46 : (List Xc) × Xl) : Nat → Int → Option (Bool × Xl)
  | 0 => fun _ => none
  | k + 1 => K9 (J9 b13 y46 k) b13 y46
def Ku (b13 : Xg) (y20 : Int × Bool × Xl) (t42 : Bool) : Option (Bool × Xl) :=
  if t42 = true then
  some (false, y20.2.2)
  else
  (YI y20.2.2).bind fun y46 =>
  J9 b13 y46 fuel0 0
def UY (cv1 : Xl) (b13 : Xg) : Option (Bool × Xl) :=
  (J0 cv1).bind fun y20 =>
  if y20.2.1 = true then
  (YL y20.2.2).bind fun y33 =>
  Ku b13 y20 (decide (y20.1 ≤ y33))
  else
  Ku b13 y20 false
def U1 (rec66 : Int → Option ((List XD))) (lv1 : List XD) (kv5 : Xe) (t6 : Yc) (i64 : Int) : Option ((List XD)) :=
  if (decide (i64 < (lv1.length : Int))) = true then
  (gidx lv1 i64).bind fun xv74 =>
  if (Yg xv74.Xo kv5) = true then
  (gidx lv1 i64).bind fun xv78 =>
  (gidx lv1 i64).bind fun xv81 =>
  (gidx lv1 i64).bind fun xv84 =>
  some (lv1.set (i64 : Int).toNat (XD.mk xv84.Xo (Yc.mk (IntKind.u64.wrap (xv78.Zj.Xk + t6.Xk)) (IntKind.u64.wrap (xv81.Zj.Xr + t6.Xr)))))
  else
  rec66 (IntKind.i64.wrap (i64 + 1))
  else
  if (decide (lv1.length + ([(XD.mk kv5 t6)] : List XD).length ≤ lim)) = true then
  some (lv1 ++ ([(XD.mk kv5 t6)] : List XD))
  else none
def JF (lv1 : List XD) (kv5 : Xe) (t6 : Yc) : Nat → Int → Option ((List XD))
  | 0 => fun _ => none
  | k + 1 => U1 (JF lv1 kv5 t6 k) lv1 kv5 t6
def UD (lv1 : List XD) (kv5 : Xe) (t6 : Yc) : Option ((List XD)) :=
  JF lv1 kv5 t6 fuel0 0
def YP (t10 : Bool) : Option Bool :=
  some t10
def Km (rv1 : Xc) : Option Bool :=
  (Yn rv1.Xo).bind fun y6 =>
  if y6 = true then
  if (decide (0 < rv1.Xk)) = true then
  if (decide (rv1.X4 ≤ rv1.Ya)) = true then
  if (decide (1 ≤ rv1.X9)) = true then
  YP (decide (rv1.X9 ≤ 5))
  else
  YP false
  else
  YP false
  else
  YP false
  else
  YP false
def J7 (rec85 : (List XD) → Int → Option ((List XD) × Bool)) (lv1 : List Xc) (sums82 : List XD) (i83 : Int) : Option ((List XD) × Bool) :=
  if (decide (i83 < (lv1.length : Int))) = true then
  (gidx lv1 i83).bind fun xv94 =>
  (Km xv94).bind fun y95 =>
  if (!y95) = true then
  some (sums82, false)
  else
  (gidx lv1 i83).bind fun xv102 =>
  (gidx lv1 i83).bind fun xv105 =>
  (Zp xv105).bind fun y106 =>
  (UD sums82 xv102.Xo y106).bind fun y110 =>
  rec85 y110 (IntKind.i64.wrap (i83 + 1))
  else
  some (sums82, true)
def J5 (lv1 : List Xc) : Nat → (List XD) → Int → Option ((List XD) × Bool)
  | 0 => fun _ _ => none
  | k + 1 => J7 (J5 lv1 k) lv1
def VA (lv1 : List Xc) (sums6 : List XD) : Option ((List XD) × Bool) :=
  J5 lv1 fuel0 sums6 0
def Uy (kv145 : Int) (rec147 : Bool → Int → Option Bool) (found157 : Bool) : Option Bool :=
  rec147 found157 (IntKind.i64.wrap (kv145 + 1))
def UK (rec147 : Bool → Int → Option Bool) (av1 b5 : List XD) (i109 : Int) (rec111 : Int → Option Bool) (found144 : Bool) (kv145 : Int) : Option Bool :=
  if (decide (kv145 < (b5.length : Int))) = true then
  if found144 = true then
  Uy kv145 rec147 true
  else
  (gidx b5 kv145).bind fun xv153 =>
  (gidx av1 i109).bind fun xv156 =>
  Uy kv145 rec147 (UJ xv153 xv156)
  else
  if (!found144) = true then
  some false
  else
  rec111 (IntKind.i64.wrap (i109 + 1))
def Ko (av1 b5 : List XD) (i109 : Int) (rec111 : Int → Option Bool) : Nat → Bool → Int → Option Bool
  | 0 => fun _ _ => none
  | k + 1 => UK (Ko av1 b5 i109 rec111 k) av1 b5 i109 rec111
def UG (rec111 : Int → Option Bool) (av1 b5 : List XD) (i109 : Int) : Option Bool :=
  if (decide (i109 < (av1.length : Int))) = true then
  (gidx av1 i109).bind fun xv119 =>
  Ko av1 b5 i109 rec111 fuel0 (U8 xv119.Zj (Yc.mk 0 0)) 0
  else
  some true
def Zt (av1 b5 : List XD) : Nat → Int → Option Bool
  | 0 => fun _ => none
  | k + 1 => UG (Zt av1 b5 k) av1 b5
def UL (av1 b5 : List XD) : Option Bool :=
  Zt av1 b5 fuel0 0
def ZR (i643 : Int) (rec645 : Int → Int → Int → Int → Int → Int → (List Xm) → Int → (List Xc) → (List XD) → (List XD) → Int → Option Bool) (cv877 cv878 cv879 cv880 cv881 cv882 : Int) (cv888 : List Xm) (cv889 : Int) (cv893 : List Xc) (inv897 out901 : List XD) : Option Bool :=
  rec645 cv877 cv878 cv879 cv880 cv881 cv882 cv888 cv889 cv893 inv897 out901 (IntKind.i64.wrap (i643 + 1))
def JH (i643 : Int) (rec645 : Int → Int → Int → Int → Int → Int → (List Xm) → Int → (List Xc) → (List XD) → (List XD) → Int → Option Bool) (inv805 : List XD) (y813 : (List XD) × Bool) (cv853 cv854 cv855 cv856 cv857 cv858 : Int) (cv864 : List Xm) (cv865 : Int) (cv869 : List Xc) (t872 : Bool) : Option Bool :=
  if t872 = true then
  some false
  else
  ZR i643 rec645 cv853 cv854 cv855 cv856 cv857 cv858 cv864 cv865 cv869 inv805 y813.1
def Zv (b1 : Xg) (out642 : List XD) (i643 : Int) (rec645 : Int → Int → Int → Int → Int → Int → (List Xm) → Int → (List Xc) → (List XD) → (List XD) → Int → Option Bool) (cv785 cv786 cv787 cv788 cv789 cv790 : Int) (cv796 : List Xm) (cv797 : Int) (cv801 : List Xc) (inv805 : List XD) (done810 : List Xc) : Option Bool :=
  (VA done810 out642).bind fun y813 =>
  if (!y813.2) = true then
  JH i643 rec645 inv805 y813 cv785 cv786 cv787 cv788 cv789 cv790 cv796 cv797 cv801 true
  else
  (YI (Xl.mk cv785 (Xg.mk cv786 cv787 cv788 cv789 cv790) (Xw.mk cv796 cv797) cv801)).bind fun y821 =>
  JH i643 rec645 inv805 y813 y821.2.XB y821.2.Xb.Xz y821.2.Xb.XI y821.2.Xb.XA y821.2.Xb.Xk y821.2.Xb.Xr y821.2.Xf.Xp y821.2.Xf.XG y821.2.Xh (decide (b1.Xz < (y821.1.length : Int)))
def Z3 (b1 : Xg) (inv638 out642 : List XD) (i643 : Int) (rec645 : Int → Int → Int → Int → Int → Int → (List Xm) → Int → (List Xc) → (List XD) → (List XD) → Int → Option Bool) (y696 : (List Xc) × Xl) (cv725 cv726 cv727 cv728 cv729 cv730 : Int) (cv736 : List Xm) (cv737 : Int) (cv741 : List Xc) (t745 : Bool) : Option Bool :=
  if t745 = true then
  some false
  else
  Zv b1 out642 i643 rec645 cv725 cv726 cv727 cv728 cv729 cv730 cv736 cv737 cv741 inv638 y696.1
def Zx (b1 : Xg) (cv618 cv619 cv620 cv621 cv622 cv623 : Int) (cv629 : List Xm) (cv630 : Int) (cv634 : List Xc) (inv638 out642 : List XD) (i643 : Int) (rec645 : Int → Int → Int → Int → Int → Int → (List Xm) → Int → (List Xc) → (List XD) → (List XD) → Int → Option Bool) (xv652 : XF) (t688 : Bool) : Option Bool :=
  if t688 = true then
  (YL (Xl.mk cv618 (Xg.mk cv619 cv620 cv621 cv622 cv623) (Xw.mk cv629 cv630) cv634)).bind fun y691 =>
  (X5 (Xl.mk cv618 (Xg.mk cv619 cv620 cv621 cv622 cv623) (Xw.mk cv629 cv630) cv634) xv652.XK).bind fun y696 =>
  if (decide (y691 ≤ xv652.XK)) = true then
  (UY y696.2 b1).bind fun y711 =>
  Z3 b1 inv638 out642 i643 rec645 y696 y711.2.XB y711.2.Xb.Xz y711.2.Xb.XI y711.2.Xb.XA y711.2.Xb.Xk y711.2.Xb.Xr y711.2.Xf.Xp y711.2.Xf.XG y711.2.Xh (!y711.1)
  else
  Z3 b1 inv638 out642 i643 rec645 y696 y696.2.XB y696.2.Xb.Xz y696.2.Xb.XI y696.2.Xb.XA y696.2.Xb.Xk y696.2.Xb.Xr y696.2.Xf.Xp y696.2.Xf.XG y696.2.Xh false
  else
  (Yn xv652.XH.Xo).bind fun y750 =>
  if (!y750) = true then
  ZR i643 rec645 cv618 cv619 cv620 cv621 cv622 cv623 cv629 cv630 cv634 inv638 out642
  else
  (XQ (Xl.mk cv618 (Xg.mk cv619 cv620 cv621 cv622 cv623) (Xw.mk cv629 cv630) cv634) (XC.mk xv652.XH.Xo (Int.tmod xv652.XH.Yk 100000) xv652.XH.XO xv652.XH.YS) xv652.XU xv652.XK).bind fun y757 =>
  if (y757.2.1 != 0) = true then
  some false
  else
  (UD inv638 xv652.XH.Xo (Yc.mk 1 (IntKind.u64.wrap (gmax 0 (Int.tmod xv652.XH.Yk 100000))))).bind fun y776 =>
  Zv b1 out642 i643 rec645 y757.2.2.XB y757.2.2.Xb.Xz y757.2.2.Xb.XI y757.2.2.Xb.XA y757.2.2.Xb.Xk y757.2.2.Xb.Xr y757.2.2.Xf.Xp y757.2.2.Xf.XG y757.2.2.Xh y776 y757.1
def Y6 (t1010 : Bool) : Option Bool :=
  some t1010
def Zs (rec976 : (List XD) → Int → Option Bool) (inv638 : List XD) (y904 : (List Xc) × Xl) (out972 : List XD) (i974 : Int) : Option Bool :=
  if (decide (i974 < (y904.1.length : Int))) = true then
  (gidx y904.1 i974).bind fun xv983 =>
  (gidx y904.1 i974).bind fun xv986 =>
  (Zp xv986).bind fun y987 =>
  (UD out972 xv983.Xo y987).bind fun y991 =>
  rec976 y991 (IntKind.i64.wrap (i974 + 1))
  else
  (UL inv638 out972).bind fun y998 =>
  if y998 = true then
  (UL out972 inv638).bind fun y1002 =>
  if y1002 = true then
  (Yw).bind fun y1006 =>
  Y6 y1006
  else
  Y6 false
  else
  Y6 false
def Y0 (inv638 : List XD) (y904 : (List Xc) × Xl) : Nat → (List XD) → Int → Option Bool
  | 0 => fun _ _ => none
  | k + 1 => Zs (Y0 inv638 y904 k) inv638 y904
def JM (rec645 : Int → Int → Int → Int → Int → Int → (List Xm) → Int → (List Xc) → (List XD) → (List XD) → Int → Option Bool) (b1 : Xg) (lv2 : List XF) (cv618 cv619 cv620 cv621 cv622 cv623 : Int) (cv629 : List Xm) (cv630 : Int) (cv634 : List Xc) (inv638 out642 : List XD) (i643 : Int) : Option Bool :=
  if (decide (i643 < (lv2.length : Int))) = true then
  (gidx lv2 i643).bind fun xv652 =>
  (V0 xv652.Xas 8).bind fun y659 =>
  if (y659 == 7) = true then
  (ZL (Xl.mk cv618 (Xg.mk cv619 cv620 cv621 cv622 cv623) (Xw.mk cv629 cv630) cv634)).bind fun y664 =>
  Zv b1 out642 i643 rec645 y664.2.XB y664.2.Xb.Xz y664.2.Xb.XI y664.2.Xb.XA y664.2.Xb.Xk y664.2.Xb.Xr y664.2.Xf.Xp y664.2.Xf.XG y664.2.Xh inv638 y664.1
  else
  if (y659 == 5) = true then
  Zx b1 cv618 cv619 cv620 cv621 cv622 cv623 cv629 cv630 cv634 inv638 out642 i643 rec645 xv652 (y659 == 5)
  else
  Zx b1 cv618 cv619 cv620 cv621 cv622 cv623 cv629 cv630 cv634 inv638 out642 i643 rec645 xv652 (y659 == 6)
  else
  (YI (Xl.mk cv618 (Xg.mk cv619 cv620 cv621 cv622 cv623) (Xw.mk cv629 cv630) cv634)).bind fun y904 =>
  Y0 inv638 y904 fuel0 out642 0
def Yf (b1 : Xg) (lv2 : List XF) : Nat → Int → Int → Int → Int → Int → Int → (List Xm) → Int → (List Xc) → (List XD) → (List XD) → Int → Option Bool
  | 0 => fun _ _ _ _ _ _ _ _ _ _ _ _ => none
  | k + 1 => JM (Yf b1 lv2 k) b1 lv2
def Zn (b1 : Xg) (lv2 : List XF) (y36 : Int) (ok43 : Bool) : Option Bool :=
  if ok43 = true then
  (Yw).bind fun y54 =>
  some y54
  else
  if (decide (0 ≤ (Ox.shl .i64 1 y36) ∧ (Ox.shl .i64 1 y36) ≤ lim)) = true then
  Yf b1 lv2 fuel0 0 b1.Xz b1.XI b1.XA b1.Xk b1.Xr (List.replicate (Int.toNat (Ox.shl .i64 1 y36)) ((Xm.mk false (Xe.mk (Xd.mk false (List.replicate 16 0)) (Xd.mk false (List.replicate 16 0)) 0 0 0) 0) : Xm)) 0 ([]) ([]) ([]) 0
  else none
def YA (b1 : Xg) (lv2 : List XF) (t24 : Bool) : Option Bool :=
  if t24 = true then
  (Yw).bind fun y31 =>
  some y31
  else
  (Zb (IntKind.u64.wrap b1.Xz)).bind fun y36 =>
  if (decide (¬ y36 < 0)) = true then
  if (decide ((Ox.shl .i64 1 y36) < 1)) = true then
  Zn b1 lv2 y36 true
  else
  if (decide (65536 < (Ox.shl .i64 1 y36))) = true then
  Zn b1 lv2 y36 true
  else
  Zn b1 lv2 y36 ((bits .and .i64 (Ox.shl .i64 1 y36) (IntKind.i64.wrap ((Ox.shl .i64 1 y36) - 1))) != 0)
  else none
def Jf (b1 : Xg) (lv2 : List XF) : Option Bool :=
  if (decide (80 < (lv2.length : Int))) = true then
  (Yw).bind fun y13 =>
  some y13
  else
  if (decide (b1.Xz < 1)) = true then
  YA b1 lv2 true
  else
  if (decide (4096 < b1.Xz)) = true then
  YA b1 lv2 true
  else
  if (b1.XI == 0) = true then
  YA b1 lv2 true
  else
  if (b1.XA == 0) = true then
  YA b1 lv2 true
  else
  if (b1.Xk == 0) = true then
  YA b1 lv2 true
  else
  YA b1 lv2 (b1.Xr == 0)
def KD (t46 : Bool) : Option Bool :=
  some t46
def Kz : Option Bool :=
  (Yw).bind fun y42 =>
  KD y42
def UC (t70 : Bool) : Option Bool :=
  some t70
def Ut : Option Bool :=
  (Yw).bind fun y66 =>
  UC y66
def Uz : Option Bool :=
  some false
def UE : Option Bool :=
  Uz
def JI (y49 : Int) (h56 : Bool) : Option Bool :=
  if h56 = true then
  Ut
  else
  if (decide (0 ≤ (Ox.shl .i64 1 y49) ∧ (Ox.shl .i64 1 y49) ≤ lim)) = true then
  UE
  else none
def YF (b1 : Xg) (t36 : Bool) : Option Bool :=
  if t36 = true then
  Kz
  else
  (Zb (IntKind.u64.wrap b1.Xz)).bind fun y49 =>
  if (decide (¬ y49 < 0)) = true then
  if (decide ((Ox.shl .i64 1 y49) < 1)) = true then
  JI y49 true
  else
  if (decide (65536 < (Ox.shl .i64 1 y49))) = true then
  JI y49 true
  else
  JI y49 ((bits .and .i64 (Ox.shl .i64 1 y49) (IntKind.i64.wrap ((Ox.shl .i64 1 y49) - 1))) != 0)
  else none
def Uo (t125 : Bool) : Option Bool :=
  some t125
def Uk : Option Bool :=
  (Yw).bind fun y121 =>
  Uo y121
def Up (t149 : Bool) : Option Bool :=
  some t149
def Uj : Option Bool :=
  (Yw).bind fun y145 =>
  Up y145
def Um : Option Bool :=
  some false
def Ul : Option Bool :=
  Um
def Jy (y128 : Int) (h135 : Bool) : Option Bool :=
  if h135 = true then
  Uj
  else
  if (decide (0 ≤ (Ox.shl .i64 1 y128) ∧ (Ox.shl .i64 1 y128) ≤ lim)) = true then
  Ul
  else none
def YO (b1 : Xg) (t115 : Bool) : Option Bool :=
  if t115 = true then
  Uk
  else
  (Zb (IntKind.u64.wrap b1.Xz)).bind fun y128 =>
  if (decide (¬ y128 < 0)) = true then
  if (decide ((Ox.shl .i64 1 y128) < 1)) = true then
  Jy y128 true
  else
  if (decide (65536 < (Ox.shl .i64 1 y128))) = true then
  Jy y128 true
  else
  Jy y128 ((bits .and .i64 (Ox.shl .i64 1 y128) (IntKind.i64.wrap ((Ox.shl .i64 1 y128) - 1))) != 0)
  else none
def Uq : Option Bool :=
  some false
def Uh : Option Bool :=
  Uq
def Ui : Option Bool :=
  some false
def Ug : Option Bool :=
  Ui
def Jz (tick455 i456 : Int) (rec458 : Int → Int → Int → Int → Int → Int → (List Xm) → Int → (List Xc) → Int → Int → Int → Int → Int → Int → (List Xm) → Int → (List Xc) → Int → Int → Option Bool) (xv466 : XF) (y474 : (List Xc) × Int × Xl) (y496 : (List Xc) × Int × Xl) (t519 : Bool) : Option Bool :=
  if t519 = true then
  some false
  else
  rec458 y474.2.2.XB y474.2.2.Xb.Xz y474.2.2.Xb.XI y474.2.2.Xb.XA y474.2.2.Xb.Xk y474.2.2.Xb.Xr y474.2.2.Xf.Xp y474.2.2.Xf.XG y474.2.2.Xh y496.2.2.XB y496.2.2.Xb.Xz y496.2.2.Xb.XI y496.2.2.Xb.XA y496.2.2.Xb.Xk y496.2.2.Xb.Xr y496.2.2.Xf.Xp y496.2.2.Xf.XG y496.2.2.Xh (IntKind.u64.wrap (tick455 + (Int.tmod xv466.XK 8))) (IntKind.i64.wrap (i456 + 1))
def JQ (rec696 : Int → Option Bool) (y524 : (List Xc) × Xl) (got634 : List Xc) (i694 : Int) : Option Bool :=
  if (decide (i694 < (got634.length : Int))) = true then
  (gidx got634 i694).bind fun xv704 =>
  (gidx y524.1 i694).bind fun xv707 =>
  if (!(UV xv704 xv707)) = true then
  some false
  else
  rec696 (IntKind.i64.wrap (i694 + 1))
  else
  (Yw).bind fun y710 =>
  some y710
def ZZ (y524 : (List Xc) × Xl) (got634 : List Xc) : Nat → Int → Option Bool
  | 0 => fun _ => none
  | k + 1 => JQ (ZZ y524 got634 k) y524 got634
def JL (rec637 : Int → Int → Int → Int → Int → Int → (List Xm) → Int → (List Xc) → (List Xc) → Int → Option Bool) (ticks6 tick455 : Int) (y524 : (List Xc) × Xl) (d613 d614 d615 d616 d617 d618 : Int) (d624 : List Xm) (d625 : Int) (d629 got634 : List Xc) (t635 : Int) : Option Bool :=
  if (decide (t635 ≤ (IntKind.u64.wrap (Int.tmod ticks6 151)))) = true then
  (X5 (Xl.mk d613 (Xg.mk d614 d615 d616 d617 d618) (Xw.mk d624 d625) d629) (IntKind.u64.wrap (tick455 + t635))).bind fun y642 =>
  if (decide (got634.length + y642.1.length ≤ lim)) = true then
  rec637 y642.2.XB y642.2.Xb.Xz y642.2.Xb.XI y642.2.Xb.XA y642.2.Xb.Xk y642.2.Xb.Xr y642.2.Xf.Xp y642.2.Xf.XG y642.2.Xh (got634 ++ y642.1) (IntKind.u64.wrap (t635 + 1))
  else none
  else
  if ((got634.length : Int) != (y524.1.length : Int)) = true then
  some false
  else
  ZZ y524 got634 fuel0 0
def Zy (ticks6 tick455 : Int) (y524 : (List Xc) × Xl) : Nat → Int → Int → Int → Int → Int → Int → (List Xm) → Int → (List Xc) → (List Xc) → Int → Option Bool
  | 0 => fun _ _ _ _ _ _ _ _ _ _ _ => none
  | k + 1 => JL (Zy ticks6 tick455 y524 k) ticks6 tick455 y524
def JN (rec458 : Int → Int → Int → Int → Int → Int → (List Xm) → Int → (List Xc) → Int → Int → Int → Int → Int → Int → (List Xm) → Int → (List Xc) → Int → Int → Option Bool) (lv2 : List XF) (ticks6 cv420 cv421 cv422 cv423 cv424 cv425 : Int) (cv431 : List Xm) (cv432 : Int) (cv436 : List Xc) (d438 d439 d440 d441 d442 d443 : Int) (d449 : List Xm) (d450 : Int) (d454 : List Xc) (tick455 i456 : Int) : Option Bool :=
  if (decide (i456 < (lv2.length : Int))) = true then
  (gidx lv2 i456).bind fun xv466 =>
  (gidx lv2 i456).bind fun xv470 =>
  (gidx lv2 i456).bind fun xv473 =>
  (XQ (Xl.mk cv420 (Xg.mk cv421 cv422 cv423 cv424 cv425) (Xw.mk cv431 cv432) cv436) xv470.XH xv473.XU (IntKind.u64.wrap (tick455 + (Int.tmod xv466.XK 8)))).bind fun y474 =>
  (gidx lv2 i456).bind fun xv492 =>
  (gidx lv2 i456).bind fun xv495 =>
  (XQ (Xl.mk d438 (Xg.mk d439 d440 d441 d442 d443) (Xw.mk d449 d450) d454) xv492.XH xv495.XU (IntKind.u64.wrap (tick455 + (Int.tmod xv466.XK 8)))).bind fun y496 =>
  if (y474.2.1 != y496.2.1) = true then
  Jz tick455 i456 rec458 xv466 y474 y496 true
  else
  Jz tick455 i456 rec458 xv466 y474 y496 ((y474.1.length : Int) != (y496.1.length : Int))
  else
  (X5 (Xl.mk cv420 (Xg.mk cv421 cv422 cv423 cv424 cv425) (Xw.mk cv431 cv432) cv436) (IntKind.u64.wrap (tick455 + (IntKind.u64.wrap (Int.tmod ticks6 151))))).bind fun y524 =>
  Zy ticks6 tick455 y524 fuel0 d438 d439 d440 d441 d442 d443 d449 d450 d454 ([]) 0
def Zo (lv2 : List XF) (ticks6 : Int) : Nat → Int → Int → Int → Int → Int → Int → (List Xm) → Int → (List Xc) → Int → Int → Int → Int → Int → Int → (List Xm) → Int → (List Xc) → Int → Int → Option Bool
  | 0 => fun _ _ _ _ _ _ _ _ _ _ _ _ _ _ _ _ _ _ _ _ => none
  | k + 1 => JN (Zo lv2 ticks6 k) lv2 ticks6
def Kq (b1 : Xg) (lv2 : List XF) (ticks6 y93 y206 : Int) : Option Bool :=
  Zo lv2 ticks6 fuel0 0 b1.Xz b1.XI b1.XA b1.Xk b1.Xr (List.replicate (Int.toNat (Ox.shl .i64 1 y93)) ((Xm.mk false (Xe.mk (Xd.mk false (List.replicate 16 0)) (Xd.mk false (List.replicate 16 0)) 0 0 0) 0) : Xm)) 0 ([]) 0 b1.Xz b1.XI b1.XA b1.Xk b1.Xr (List.replicate (Int.toNat (Ox.shl .i64 1 y206)) ((Xm.mk false (Xe.mk (Xd.mk false (List.replicate 16 0)) (Xd.mk false (List.replicate 16 0)) 0 0 0) 0) : Xm)) 0 ([]) 0 0
def Zh (b1 : Xg) (lv2 : List XF) (ticks6 y93 y206 : Int) (h213 : Bool) : Option Bool :=
  if h213 = true then
  Ug
  else
  if (decide (0 ≤ (Ox.shl .i64 1 y206) ∧ (Ox.shl .i64 1 y206) ≤ lim)) = true then
  Kq b1 lv2 ticks6 y93 y206
  else none
def Yy (b1 : Xg) (lv2 : List XF) (ticks6 y93 : Int) (t192 : Bool) : Option Bool :=
  if t192 = true then
  Uh
  else
  (Zb (IntKind.u64.wrap b1.Xz)).bind fun y206 =>
  if (decide (¬ y206 < 0)) = true then
  if (decide ((Ox.shl .i64 1 y206) < 1)) = true then
  Zh b1 lv2 ticks6 y93 y206 true
  else
  if (decide (65536 < (Ox.shl .i64 1 y206))) = true then
  Zh b1 lv2 ticks6 y93 y206 true
  else
  Zh b1 lv2 ticks6 y93 y206 ((bits .and .i64 (Ox.shl .i64 1 y206) (IntKind.i64.wrap ((Ox.shl .i64 1 y206) - 1))) != 0)
  else none
def Zi (b1 : Xg) (lv2 : List XF) (ticks6 y93 : Int) (h100 : Bool) : Option Bool :=
  if h100 = true then
  if (decide (b1.Xz < 1)) = true then
  YO b1 true
  else
  if (decide (4096 < b1.Xz)) = true then
  YO b1 true
  else
  if (b1.XI == 0) = true then
  YO b1 true
  else
  if (b1.XA == 0) = true then
  YO b1 true
  else
  if (b1.Xk == 0) = true then
  YO b1 true
  else
  YO b1 (b1.Xr == 0)
  else
  if (decide (0 ≤ (Ox.shl .i64 1 y93) ∧ (Ox.shl .i64 1 y93) ≤ lim)) = true then
  if (decide (b1.Xz < 1)) = true then
  Yy b1 lv2 ticks6 y93 true
  else
  if (decide (4096 < b1.Xz)) = true then
  Yy b1 lv2 ticks6 y93 true
  else
  if (b1.XI == 0) = true then
  Yy b1 lv2 ticks6 y93 true
  else
  if (b1.XA == 0) = true then
  Yy b1 lv2 ticks6 y93 true
  else
  if (b1.Xk == 0) = true then
  Yy b1 lv2 ticks6 y93 true
  else
  Yy b1 lv2 ticks6 y93 (b1.Xr == 0)
  else none
def YH (b1 : Xg) (lv2 : List XF) (ticks6 : Int) (t25 : Bool) : Option Bool :=
  if t25 = true then
  if (decide (b1.Xz < 1)) = true then
  YF b1 true
  else
  if (decide (4096 < b1.Xz)) = true then
  YF b1 true
  else
  if (b1.XI == 0) = true then
  YF b1 true
  else
  if (b1.XA == 0) = true then
  YF b1 true
  else
  if (b1.Xk == 0) = true then
  YF b1 true
  else
  YF b1 (b1.Xr == 0)
  else
  (Zb (IntKind.u64.wrap b1.Xz)).bind fun y93 =>
  if (decide (¬ y93 < 0)) = true then
  if (decide ((Ox.shl .i64 1 y93) < 1)) = true then
  Zi b1 lv2 ticks6 y93 true
  else
  if (decide (65536 < (Ox.shl .i64 1 y93))) = true then
  Zi b1 lv2 ticks6 y93 true
  else
  Zi b1 lv2 ticks6 y93 ((bits .and .i64 (Ox.shl .i64 1 y93) (IntKind.i64.wrap ((Ox.shl .i64 1 y93) - 1))) != 0)
  else none
def Ji (b1 : Xg) (lv2 : List XF) (ticks6 : Int) : Option Bool :=
  if (decide (20 < (lv2.length : Int))) = true then
  (Yw).bind fun y14 =>
  some y14
  else
  if (decide (b1.Xz < 1)) = true then
  YH b1 lv2 ticks6 true
  else
  if (decide (4096 < b1.Xz)) = true then
  YH b1 lv2 ticks6 true
  else
  if (b1.XI == 0) = true then
  YH b1 lv2 ticks6 true
  else
  if (b1.XA == 0) = true then
  YH b1 lv2 ticks6 true
  else
  if (b1.Xk == 0) = true then
  YH b1 lv2 ticks6 true
  else
  YH b1 lv2 ticks6 (b1.Xr == 0)
def KY (p1 : XC) (class2 tick3 : Int) : Option ((List Xc) × Int) :=
  some ([], 1)
def U0 : Option (Int × Bool) :=
  some (0, false)
def U3 (kv1 : Xe) : Option (Xc × Bool) :=
  some ((Xc.mk (Xe.mk (Xd.mk false (List.replicate 16 0)) (Xd.mk false (List.replicate 16 0)) 0 0 0) 0 0 0 0 0 0 0), false)
def Kt : Option ((List Xc)) :=
  some ([])
def K6 (tick1 : Int) : Option ((List Xc)) :=
  Kt
def UO : Option ((List Xc)) :=
  some ([])
def U4 : Option ((List Xc)) :=
  some ([])
def UZ : Option Int :=
  some 0
def UA : Option Int :=
  some 0
def Yi (t62 : Bool) : Option Bool :=
  some t62
def KS (av1 : XF) : Option Bool :=
  (KY av1.XH av1.XU av1.XK).bind fun y8 =>
  (U0).bind fun y16 =>
  (U3 av1.XH.Xo).bind fun y21 =>
  if ((y8.1.length : Int) == 0) = true then
  if (y8.2 == 1) = true then
  (K6 av1.XK).bind fun y29 =>
  if ((y29.length : Int) == 0) = true then
  (UO).bind fun y36 =>
  if ((y36.length : Int) == 0) = true then
  if (y16.1 == 0) = true then
  if (!y16.2) = true then
  (U4).bind fun y43 =>
  if ((y43.length : Int) == 0) = true then
  if (UV y21.1 (Xc.mk (Xe.mk (Xd.mk false (List.replicate 16 0)) (Xd.mk false (List.replicate 16 0)) 0 0 0) 0 0 0 0 0 0 0)) = true then
  if (!y21.2) = true then
  (UZ).bind fun y50 =>
  if (y50 == 0) = true then
  (UA).bind fun y54 =>
  if (y54 == 0) = true then
  (Yw).bind fun y58 =>
  Yi y58
  else
  Yi false
  else
  Yi false
  else
  Yi false
  else
  Yi false
  else
  Yi false
  else
  Yi false
  else
  Yi false
  else
  Yi false
  else
  Yi false
  else
  Yi false
  else
  Yi false
def ZW (nv212 : Int) (rec214 : Int → Int → Option Bool) (kv264 : Int) (t315 : Bool) : Option Bool :=
  if t315 = true then
  some false
  else
  rec214 kv264 (IntKind.i64.wrap (nv212 + 1))
def JK (rec272 : Int → (List XF) → Int → Int → Option Bool) (nv212 : Int) (rec214 : Int → Int → Option Bool) (kv264 : Int) (lv268 : List XF) (tick269 i270 : Int) : Option Bool :=
  if (decide (i270 < 50)) = true then
  (ZO kv264 (IntKind.u64.wrap (tick269 + (IntKind.u64.wrap (Int.tmod kv264 4))))).bind fun y279 =>
  if (decide (lv268.length + ([y279] : List XF).length ≤ lim)) = true then
  rec272 (Int.tmod (IntKind.i64.wrap ((IntKind.i64.wrap ((IntKind.i64.wrap (kv264 * 31)) + (IntKind.i64.wrap (7 * i270)))) + 11)) 100003) (lv268 ++ ([y279] : List XF)) (IntKind.u64.wrap (tick269 + (IntKind.u64.wrap (Int.tmod kv264 4)))) (IntKind.i64.wrap (i270 + 1))
  else none
  else
  (Jc (IntKind.u64.wrap (Int.tmod nv212 3)) (Xg.mk (IntKind.i64.wrap (1 + (Int.tmod nv212 6))) (IntKind.u64.wrap (IntKind.i64.wrap (1 + (Int.tmod nv212 9)))) (IntKind.u64.wrap (IntKind.i64.wrap (1 + (Int.tmod (IntKind.i64.wrap (nv212 * 3)) 40)))) (IntKind.u64.wrap (IntKind.i64.wrap (1 + (Int.tmod nv212 7)))) (IntKind.u64.wrap (IntKind.i64.wrap (1 + (Int.tmod (IntKind.i64.wrap (nv212 * 37)) 2000))))) lv268).bind fun y296 =>
  if (!y296) = true then
  ZW nv212 rec214 kv264 true
  else
  (Jf (Xg.mk (IntKind.i64.wrap (1 + (Int.tmod nv212 6))) (IntKind.u64.wrap (IntKind.i64.wrap (1 + (Int.tmod nv212 9)))) (IntKind.u64.wrap (IntKind.i64.wrap (1 + (Int.tmod (IntKind.i64.wrap (nv212 * 3)) 40)))) (IntKind.u64.wrap (IntKind.i64.wrap (1 + (Int.tmod nv212 7)))) (IntKind.u64.wrap (IntKind.i64.wrap (1 + (Int.tmod (IntKind.i64.wrap (nv212 * 37)) 2000))))) lv268).bind fun y300 =>
  if (!y300) = true then
  ZW nv212 rec214 kv264 true
  else
  (gcut lv268 0 20).bind fun cut304 =>
  (Ji (Xg.mk (IntKind.i64.wrap (1 + (Int.tmod nv212 6))) (IntKind.u64.wrap (IntKind.i64.wrap (1 + (Int.tmod nv212 9)))) (IntKind.u64.wrap (IntKind.i64.wrap (1 + (Int.tmod (IntKind.i64.wrap (nv212 * 3)) 40)))) (IntKind.u64.wrap (IntKind.i64.wrap (1 + (Int.tmod nv212 7)))) (IntKind.u64.wrap (IntKind.i64.wrap (1 + (Int.tmod (IntKind.i64.wrap (nv212 * 37)) 2000))))) cut304 (IntKind.u8.wrap nv212)).bind fun y311 =>
  ZW nv212 rec214 kv264 (!y311)
def Z8 (nv212 : Int) (rec214 : Int → Int → Option Bool) : Nat → Int → (List XF) → Int → Int → Option Bool
  | 0 => fun _ _ _ _ => none
  | k + 1 => JK (Z8 nv212 rec214 k) nv212 rec214
def ZT (i424 : Int) (rec426 : Int → Option Bool) (t473 : Bool) : Option Bool :=
  if t473 = true then
  some false
  else
  rec426 (IntKind.i64.wrap (i424 + 1))
def KM (t488 : Bool) : Option Bool :=
  some t488
def JV (rec426 : Int → Option Bool) (i424 : Int) : Option Bool :=
  if (decide (i424 < (([(Xg.mk 0 0 0 0 0), (Xg.mk 1 1 1 1 0), (Xg.mk 4097 1 1 1 1), (Xg.mk 4096 18446744073709551615 18446744073709551615 18446744073709551615 18446744073709551615), (Xg.mk (-9223372036854775808) 1 1 1 1), (Xg.mk 1 2 18446744073709551615 9 18446744073709551615)] : List Xg).length : Int))) = true then
  (ZO 10 (IntKind.u64.wrap (18446744073709551615 - 1))).bind fun y432 =>
  (ZO 11 (IntKind.u64.wrap (18446744073709551615 - 1))).bind fun y436 =>
  (ZO 12 18446744073709551615).bind fun y440 =>
  (ZO 10 3).bind fun y444 =>
  (gidx ([(Xg.mk 0 0 0 0 0), (Xg.mk 1 1 1 1 0), (Xg.mk 4097 1 1 1 1), (Xg.mk 4096 18446744073709551615 18446744073709551615 18446744073709551615 18446744073709551615), (Xg.mk (-9223372036854775808) 1 1 1 1), (Xg.mk 1 2 18446744073709551615 9 18446744073709551615)] : List Xg) i424).bind fun xv453 =>
  (Jc (IntKind.u64.wrap (18446744073709551615 - 2)) xv453 ([y432, y436, (XF.mk 5 (XC.mk (Xe.mk (Xd.mk false (List.replicate 16 0)) (Xd.mk false (List.replicate 16 0)) 0 0 0) 0 0 false) 0 18446744073709551615), y440, y444, (XF.mk 5 (XC.mk (Xe.mk (Xd.mk false (List.replicate 16 0)) (Xd.mk false (List.replicate 16 0)) 0 0 0) 0 0 false) 0 18446744073709551615)] : List XF)).bind fun y454 =>
  if (!y454) = true then
  ZT i424 rec426 true
  else
  (gidx ([(Xg.mk 0 0 0 0 0), (Xg.mk 1 1 1 1 0), (Xg.mk 4097 1 1 1 1), (Xg.mk 4096 18446744073709551615 18446744073709551615 18446744073709551615 18446744073709551615), (Xg.mk (-9223372036854775808) 1 1 1 1), (Xg.mk 1 2 18446744073709551615 9 18446744073709551615)] : List Xg) i424).bind fun xv460 =>
  (Jf xv460 ([y432, y436, (XF.mk 5 (XC.mk (Xe.mk (Xd.mk false (List.replicate 16 0)) (Xd.mk false (List.replicate 16 0)) 0 0 0) 0 0 false) 0 18446744073709551615), y440, y444, (XF.mk 5 (XC.mk (Xe.mk (Xd.mk false (List.replicate 16 0)) (Xd.mk false (List.replicate 16 0)) 0 0 0) 0 0 false) 0 18446744073709551615)] : List XF)).bind fun y461 =>
  if (!y461) = true then
  ZT i424 rec426 true
  else
  (gidx ([(Xg.mk 0 0 0 0 0), (Xg.mk 1 1 1 1 0), (Xg.mk 4097 1 1 1 1), (Xg.mk 4096 18446744073709551615 18446744073709551615 18446744073709551615 18446744073709551615), (Xg.mk (-9223372036854775808) 1 1 1 1), (Xg.mk 1 2 18446744073709551615 9 18446744073709551615)] : List Xg) i424).bind fun xv467 =>
  (Ji xv467 ([y432, y436, (XF.mk 5 (XC.mk (Xe.mk (Xd.mk false (List.replicate 16 0)) (Xd.mk false (List.replicate 16 0)) 0 0 0) 0 0 false) 0 18446744073709551615), y440, y444, (XF.mk 5 (XC.mk (Xe.mk (Xd.mk false (List.replicate 16 0)) (Xd.mk false (List.replicate 16 0)) 0 0 0) 0 0 false) 0 18446744073709551615)] : List XF) 9).bind fun y468 =>
  ZT i424 rec426 (!y468)
  else
  (ZO 1 1).bind fun y476 =>
  (KS y476).bind fun y480 =>
  if y480 = true then
  (Yw).bind fun y484 =>
  KM y484
  else
  KM false
def Zq : Nat → Int → Option Bool
  | 0 => fun _ => none
  | k + 1 => JV (Zq k)
def JX (rec214 : Int → Int → Option Bool) (kv211 nv212 : Int) : Option Bool :=
  if (decide (nv212 < 100)) = true then
  Z8 nv212 rec214 fuel0 kv211 ([]) 0 0
  else
  Zq fuel0 0
def Yr : Nat → Int → Int → Option Bool
  | 0 => fun _ _ => none
  | k + 1 => JX (Yr k)
def Va : Option Bool :=
  Yr fuel0 1 0
end Go.Proofs.YtkpnocgfhipidaaGreat
