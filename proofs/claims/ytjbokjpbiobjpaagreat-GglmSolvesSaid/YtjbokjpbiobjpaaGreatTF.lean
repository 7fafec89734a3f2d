/- A verified evaluator of the program's form and its use for this seat: GgW, RidW, S1Specs, S1Tt, S1EqSoft, S1PSoft, S1EqRefD, S1PRefD. -/
import Derived.Test.YtjbokjpbiobjpaaGreatTE
set_option linter.unusedVariables false
set_option linter.unusedSimpArgs false
noncomputable section
open Int (toNat)
open List (length getD)
open Go.Proofs.Tryz
namespace Go.Rnd
open Go.Den
def upM (x y:MX):MX:=Sz x.1 x.2.1 x.2.2.1 y.1 y.2.1 y.2.2.1
def V2 (x y:MX):MX:=Ud x.1 x.2.1 x.2.2.1 y.1 y.2.1 y.2.2.1
def Avd (x y:MX):MX:=Ok x.1 x.2.1 x.2.2.1 y.1 y.2.1 y.2.2.1
def C4 (x y:MX):MX:=E8 x.1 x.2.1 x.2.2.1 y.1 y.2.1 y.2.2.1
def Qt (x:MX):Bool:=(Jv x.1 x.2.1 x.2.2.1).1
def Jh (x:MX):Int:=B4 x.1 x.2.1 x.2.2.1
def Qp (r c:Int) (l:List Int):Int :=
 if (Ap r c l).2.2.2≠0 then (Ap r c l).2.2.2 else Gs (Ap r c l).1 (Ap r c l).2.1 (Ap r c l).2.2.1
def Nm (r c:Int) (l:List Int):MX :=
 if Qp r c l≠0 then Ga (Qp r c l) else Gg (rX (Ap r c l).1 (Ap r c l).2.1 (Ap r c l).2.2.1)
def P8 (r c:Int) (l:List Int):MX :=
 if Qp r c l≠0 then Ga (Qp r c l) else Gg (qX (Ap r c l).1 (Ap r c l).2.1 (Ap r c l).2.2.1)
def Ix (r c:Int) (l:List Int) (p q:Int) (m:List Int) (u v:Int) (h:List Int):Int :=
 if B4 r c l≠0 then B4 r c l else if B4 p q m≠0 then B4 p q m else if B4 u v h≠0 then B4 u v h
 else if p≠r∨u≠r∨v≠1∨r<c∨c+q<r then 3 else 0
def Pn (l m h:List Int):Bool:=(Ag l&&Ag m)&&Ag h
def gT (r c:Int) (l:List Int):MX:=Jz (rX r c l) 0 0 c (rX r c l).2.1
def gC (r c:Int) (l:List Int) (u v:Int) (h:List Int):MX:=E8 (qX r c l).1 (qX r c l).2.1 (qX r c l).2.2.1 u v h
def gE (r c:Int) (l:List Int) (p q:Int) (m:List Int) (u v:Int) (h:List Int):Int :=
 if Gs r c l≠0 then Gs r c l else if Qt (gT r c l)=true then 5
 else if Jh (gC r c l u v h)≠0∨Jh (gC r c l p q m)≠0 then 2 else 0
def Dx (c:Int) (x:MX):MX:=Jz x 0 0 c x.2.1
def Eg (r c:Int) (x:MX):MX:=Jz x c 0 (r-c) x.2.1
def Ou (e:Int) (x:MX):MX:=if e≠0 then Ga e else x
def T0 (x:MX):MX:=Jz (Nm x.1 x.2.1 x.2.2.1) 0 0 x.1 x.1
def erO (x:MX):MX:=Jz (P8 x.1 x.2.1 x.2.2.1) 0 0 x.1 (P8 x.1 x.2.1 x.2.2.1).2.1
def Tc (x y:MX):MX :=
 if Qp x.1 x.2.1 x.2.2.1≠0 then Ga (Qp x.1 x.2.1 x.2.2.1) else if Qt (T0 x)=true then Ga 5
 else if (V2 (T0 x) y).2.2.2≠0 then Ga (V2 (T0 x) y).2.2.2
 else Z5 (C4 (erO x) (V2 (T0 x) y))
def erZ (x y:MX):MX :=
 if Qp x.1 x.2.1 x.2.2.1≠0 then Ga (Qp x.1 x.2.1 x.2.2.1) else if Qt (T0 x)=true then Ga 5
 else if (V2 (T0 x) y).2.2.2≠0 then Ga (V2 (T0 x) y).2.2.2
 else ((C4 (erO x) (V2 (T0 x) y)).1,(C4 (erO x) (V2 (T0 x) y)).2.1,(C4 (erO x) (V2 (T0 x) y)).2.2.1,(Z5 (C4 (erO x) (V2 (T0 x) y))).2.2.2)
def gF (r c:Int) (C E y:MX):MX:=Avd (Dx c C) (mulM (Dx c E) y)
def gX2 (r c:Int) (T C E y:MX):MX:=if y.2.2.2≠0 then Ga y.2.2.2 else if Jh (gF r c C E y)≠0 then Ga 2 else upM T (gF r c C E y)
def gY2 (r c:Int) (T C E y:MX):MX:=if y.2.2.2≠0 then Ga y.2.2.2 else if Jh (gF r c C E y)≠0 then Ga 2 else if (upM T (gF r c C E y)).2.2.2≠0 then Ga (upM T (gF r c C E y)).2.2.2 else y
def gY0 (r c:Int) (l:List Int) (p q:Int) (m:List Int) (u v:Int) (h:List Int):MX:=Tc (Eg r c (gC r c l p q m)) (Eg r c (gC r c l u v h))
def gX (r c:Int) (l:List Int) (p q:Int) (m:List Int) (u v:Int) (h:List Int):MX :=
 if Ix r c l p q m u v h≠0 then Ga (Ix r c l p q m u v h) else if gE r c l p q m u v h≠0 then Ga (gE r c l p q m u v h)
 else gX2 r c (gT r c l) (gC r c l u v h) (gC r c l p q m) (gY0 r c l p q m u v h)
def gY (r c:Int) (l:List Int) (p q:Int) (m:List Int) (u v:Int) (h:List Int):MX :=
 if Ix r c l p q m u v h≠0 then Ga (Ix r c l p q m u v h) else if gE r c l p q m u v h≠0 then Ga (gE r c l p q m u v h)
 else gY2 r c (gT r c l) (gC r c l u v h) (gC r c l p q m) (gY0 r c l p q m u v h)
def sqV (x:Int):Int:=mD (Bj x)*mD (Bj x)
def sqK (x:Int):Int:=eD (Bj x) (Ba x)+eD (Bj x) (Ba x)
def sqM (x:Int):Int:=N1 0 0 (mD (sqV x)) (eD (sqV x) (sqK x))
def sqE (x:Int):Int:=Ahv 0 0 (mD (sqV x)) (eD (sqV x) (sqK x))
end Go.Rnd
namespace Go.Rnd
open Go.Den
end Go.Rnd
namespace Go.Proofs.S1
open Go Go.Den Go.Rnd
def soft.Split.pre:List Atom→Bool
 | [.i x]=>Ak x
 | _=>false
def soft.Split.out:List Atom→DV
 | [.i x]=>.agg [.bool (D4 x),.int .i64 (L8 x),.int .u64 (Da x)]
 | _=>.undef
abbrev soft.Split.ts:List AT:=[.i .u64]
def soft.Split.spec:Entry:=entry soft.Split.ts soft.Split.pre soft.Split.out
def soft.Kind.pre:List Atom→Bool
 | [.i x]=>Ak x
 | _=>false
def soft.Kind.out:List Atom→DV
 | [.i x]=>.int .i64 (Bk x)
 | _=>.undef
abbrev soft.Kind.ts:List AT:=[.i .u64]
def soft.Kind.spec:Entry:=entry soft.Kind.ts soft.Kind.pre soft.Kind.out
def soft.Sign.pre:List Atom→Bool
 | [.i x]=>Ak x
 | _=>false
def soft.Sign.out:List Atom→DV
 | [.i x]=>.bool (D4 x)
 | _=>.undef
abbrev soft.Sign.ts:List AT:=[.i .u64]
def soft.Sign.spec:Entry:=entry soft.Sign.ts soft.Sign.pre soft.Sign.out
def soft.Finite.pre:List Atom→Bool
 | [.i x]=>Ak x
 | _=>false
def soft.Finite.out:List Atom→DV
 | [.i x]=>.bool (Dg x)
 | _=>.undef
abbrev soft.Finite.ts:List AT:=[.i .u64]
def soft.Finite.spec:Entry:=entry soft.Finite.ts soft.Finite.pre soft.Finite.out
def soft.Dp.pre:List Atom→Bool
 | [.i x]=>Ak x
 | _=>false
def soft.Dp.out:List Atom→DV
 | [.i x]=>.int .u64 (Dk x)
 | _=>.undef
abbrev soft.Dp.ts:List AT:=[.i .u64]
def soft.Dp.spec:Entry:=entry soft.Dp.ts soft.Dp.pre soft.Dp.out
def soft.Fz.pre:List Atom→Bool
 | [.i x]=>Ak x
 | _=>false
def soft.Fz.out:List Atom→DV
 | [.i x]=>.tup [.int .u64 (B1 x),.int .i64 (Ba x)]
 | _=>.undef
abbrev soft.Fz.ts:List AT:=[.i .u64]
def soft.Fz.spec:Entry:=entry soft.Fz.ts soft.Fz.pre soft.Fz.out
def soft.Pack.mu:List Atom→Nat
 | [.b _n,.i m,.i e]=>P1 m e
 | _=>0
def soft.Pack.pre:List Atom→Bool
 | [.b _n,.i m,.i e]=>Lk m e
 | _=>false
def soft.Pack.out:List Atom→DV
 | [.b n,.i m,.i e]=>.int .u64 (U0 n m e)
 | _=>.undef
abbrev soft.Pack.ts:List AT:=[.b,.i .u64,.i .i64]
def soft.Pack.spec:Entry:=entry soft.Pack.ts soft.Pack.pre soft.Pack.out
def soft.Du.pre:List Atom→Bool
 | [.b _n,.i m,.i e,.b r]=>Er m e r
 | _=>false
def soft.Du.out:List Atom→DV
 | [.b n,.i m,.i e,.b r]=>.tup [.int .u64 (Fe n m e r),.int .u8 (Fc n m e r)]
 | _=>.undef
abbrev soft.Du.ts:List AT:=[.b,.i .u64,.i .i64,.b]
def soft.Du.spec:Entry:=entry soft.Du.ts soft.Du.pre soft.Du.out
def sum.right.pre:List Atom→Bool
 | [.i m,.i d]=>Ak m&&Co (0≤d∧d<1000000)
 | _=>false
def sum.right.out:List Atom→DV
 | [.i m,.i d]=>.int .u64 (Fm m d)
 | _=>.undef
abbrev sum.right.ts:List AT:=[.i .u64,.i .i64]
def sum.right.spec:Entry:=entry sum.right.ts sum.right.pre sum.right.out
def sum.Ei.pre:List Atom→Bool
 | [.i a,.i b]=>(Ak a&&Ak b)&&(!(Dg a)||!(Dg b))
 | _=>false
def sum.Ei.out:List Atom→DV
 | [.i a,.i b]=>.tup [.int .u64 (Kd a b),.int .u8 (Xm a b)]
 | _=>.undef
abbrev sum.Ei.ts:List AT:=[.i .u64,.i .u64]
def sum.Ei.spec:Entry:=entry sum.Ei.ts sum.Ei.pre sum.Ei.out
def sum.Add.pre:List Atom→Bool
 | [.i a,.i b]=>Ak a&&Ak b
 | _=>false
def sum.Add.out:List Atom→DV
 | [.i a,.i b]=>.tup [.int .u64 (Kd a b),.int .u8 (Xm a b)]
 | _=>.undef
abbrev sum.Add.ts:List AT:=[.i .u64,.i .u64]
def sum.Add.spec:Entry:=entry sum.Add.ts sum.Add.pre sum.Add.out
def sum.Sub.pre:List Atom→Bool
 | [.i a,.i b]=>Ak a&&Ak b
 | _=>false
def sum.Sub.out:List Atom→DV
 | [.i a,.i b]=>.tup [.int .u64 (Dl a b),.int .u8 (Ayc a b)]
 | _=>.undef
abbrev sum.Sub.ts:List AT:=[.i .u64,.i .u64]
def sum.Sub.spec:Entry:=entry sum.Sub.ts sum.Sub.pre sum.Sub.out
def A5.Neg.pre:List Atom→Bool
 | [.i x]=>Ak x
 | _=>false
def A5.Neg.out:List Atom→DV
 | [.i x]=>.bool (D4 x)
 | _=>.undef
abbrev A5.Neg.ts:List AT:=[.i .u64]
def A5.Neg.spec:Entry:=entry A5.Neg.ts A5.Neg.pre A5.Neg.out
def A5.Power.pre:List Atom→Bool
 | [.i x]=>K9 x
 | _=>false
def A5.Power.out:List Atom→DV
 | [.i x]=>.int .i64 (L8 x)
 | _=>.undef
abbrev A5.Power.ts:List AT:=[.i .u64]
def A5.Power.spec:Entry:=entry A5.Power.ts A5.Power.pre A5.Power.out
def A5.K2.pre:List Atom→Bool
 | [.i x]=>K9 x
 | _=>false
def A5.K2.out:List Atom→DV
 | [.i x]=>.int .u64 (Da x)
 | _=>.undef
abbrev A5.K2.ts:List AT:=[.i .u64]
def A5.K2.spec:Entry:=entry A5.K2.ts A5.K2.pre A5.K2.out
def A5.Kind.pre:List Atom→Bool
 | [.i x]=>K9 x
 | _=>false
def A5.Kind.out:List Atom→DV
 | [.i x]=>.int .i64 (Bk x)
 | _=>.undef
abbrev A5.Kind.ts:List AT:=[.i .u64]
def A5.Kind.spec:Entry:=entry A5.Kind.ts A5.Kind.pre A5.Kind.out
def A5.Finite.pre:List Atom→Bool
 | [.i x]=>Ak x
 | _=>false
def A5.Finite.out:List Atom→DV
 | [.i x]=>.bool (Dg x)
 | _=>.undef
abbrev A5.Finite.ts:List AT:=[.i .u64]
def A5.Finite.spec:Entry:=entry A5.Finite.ts A5.Finite.pre A5.Finite.out
def A5.Dp.pre:List Atom→Bool
 | [.i x]=>Ak x
 | _=>false
def A5.Dp.out:List Atom→DV
 | [.i x]=>.int .u64 (Dk x)
 | _=>.undef
abbrev A5.Dp.ts:List AT:=[.i .u64]
def A5.Dp.spec:Entry:=entry A5.Dp.ts A5.Dp.pre A5.Dp.out
def Ep.Canon.pre:List Atom→Bool
 | [.i x]=>K9 x
 | _=>false
def Ep.Canon.out:List Atom→DV
 | [.i x]=>.int .u64 (Aal x)
 | _=>.undef
abbrev Ep.Canon.ts:List AT:=[.i .u64]
def Ep.Canon.spec:Entry:=entry Ep.Canon.ts Ep.Canon.pre Ep.Canon.out
def Cz.B5.pre:List Atom→Bool
 | [.i x]=>Ak x
 | _=>false
def Cz.B5.out:List Atom→DV
 | [.i x]=>.int .i64 (64-Ff x)
 | _=>.undef
abbrev Cz.B5.ts:List AT:=[.i .u64]
def Cz.B5.spec:Entry:=entry Cz.B5.ts Cz.B5.pre Cz.B5.out
def Cz.Hn.pre:List Atom→Bool
 | [.i x,.i y]=>Ak x&&Ak y
 | _=>false
def Cz.Hn.out:List Atom→DV
 | [.i x,.i y]=>.tup [.int .u64 (S5 x y),.int .u64 (N8 x y)]
 | _=>.undef
abbrev Cz.Hn.ts:List AT:=[.i .u64,.i .u64]
def Cz.Hn.spec:Entry:=entry Cz.Hn.ts Cz.Hn.pre Cz.Hn.out
def times.signed.pre:List Atom→Bool
 | [.i b,.b _n]=>Ak b
 | _=>false
def times.signed.out:List Atom→DV
 | [.i b,.b n]=>.int .u64 (S2 n b)
 | _=>.undef
abbrev times.signed.ts:List AT:=[.i .u64,.b]
def times.signed.spec:Entry:=entry times.signed.ts times.signed.pre times.signed.out
def times.nan.pre:List Atom→Bool
 | [.i a,.i b]=>Ak a&&Ak b
 | _=>false
def times.nan.out:List Atom→DV
 | [.i a,.i b]=>.bool (Apo a b)
 | _=>.undef
abbrev times.nan.ts:List AT:=[.i .u64,.i .u64]
def times.nan.spec:Entry:=entry times.nan.ts times.nan.pre times.nan.out
def times.norm.pre:List Atom→Bool
 | [.i b]=>Ak b&&Mn b
 | _=>false
def times.norm.out:List Atom→DV
 | [.i b]=>.tup [.int .u64 (De b),.int .i64 (Hy b)]
 | _=>.undef
abbrev times.norm.ts:List AT:=[.i .u64]
def times.norm.spec:Entry:=entry times.norm.ts times.norm.pre times.norm.out
def times.wide.pre:List Atom→Bool
 | [.b _n,.i m,.i e,.b _r]=>Pr m e
 | _=>false
def times.wide.out:List Atom→DV
 | [.b n,.i m,.i e,.b r]=>.tup [.int .u64 (Fe n m e r),.int .u8 (Fc n m e r)]
 | _=>.undef
abbrev times.wide.ts:List AT:=[.b,.i .u64,.i .i64,.b]
def times.wide.spec:Entry:=entry times.wide.ts times.wide.pre times.wide.out
def times.Mul.pre:List Atom→Bool
 | [.i a,.i b]=>Ak a&&Ak b
 | _=>false
def times.Mul.out:List Atom→DV
 | [.i a,.i b]=>.tup [.int .u64 (D5 a b),.int .u8 (Ayk a b)]
 | _=>.undef
abbrev times.Mul.ts:List AT:=[.i .u64,.i .u64]
def times.Mul.spec:Entry:=entry times.Mul.ts times.Mul.pre times.Mul.out
def times.Div.pre:List Atom→Bool
 | [.i a,.i b]=>Ak a&&Ak b
 | _=>false
def times.Div.out:List Atom→DV
 | [.i a,.i b]=>.tup [.int .u64 (Ez a b),.int .u8 (Ayu a b)]
 | _=>.undef
abbrev times.Div.ts:List AT:=[.i .u64,.i .u64]
def times.Div.spec:Entry:=entry times.Div.ts times.Div.pre times.Div.out
def Ah.Add.pre:List Atom→Bool
 | [.i a,.i b]=>Ak a&&Ak b
 | _=>false
def Ah.Add.out:List Atom→DV
 | [.i a,.i b]=>.int .u64 (Kd a b)
 | _=>.undef
abbrev Ah.Add.ts:List AT:=[.i .u64,.i .u64]
def Ah.Add.spec:Entry:=entry Ah.Add.ts Ah.Add.pre Ah.Add.out
def Ah.Sub.pre:List Atom→Bool
 | [.i a,.i b]=>Ak a&&Ak b
 | _=>false
def Ah.Sub.out:List Atom→DV
 | [.i a,.i b]=>.int .u64 (Dl a b)
 | _=>.undef
abbrev Ah.Sub.ts:List AT:=[.i .u64,.i .u64]
def Ah.Sub.spec:Entry:=entry Ah.Sub.ts Ah.Sub.pre Ah.Sub.out
def Ah.Mul.pre:List Atom→Bool
 | [.i a,.i b]=>Ak a&&Ak b
 | _=>false
def Ah.Mul.out:List Atom→DV
 | [.i a,.i b]=>.int .u64 (D5 a b)
 | _=>.undef
abbrev Ah.Mul.ts:List AT:=[.i .u64,.i .u64]
def Ah.Mul.spec:Entry:=entry Ah.Mul.ts Ah.Mul.pre Ah.Mul.out
def Ah.fit.pre:List Atom→Bool
 | [.l _x,.l _y]=>true
 | _=>false
def Ah.fit.out:List Atom→DV
 | [.l x,.l y]=>.bool (Pk x y)
 | _=>.undef
abbrev Ah.fit.ts:List AT:=[.s .u64,.s .u64]
def Ah.fit.spec:Entry:=entry Ah.fit.ts Ah.fit.pre Ah.fit.out
def Ah.Hu.pre:List Atom→Bool
 | [.l x,.l y]=>(Pk x y&&Ag x)&&Ag y
 | _=>false
def Ah.Hu.out:List Atom→DV
 | [.l x,.l y]=>.tup [.int .u64 (Ms x y),.int .i64 (0:Int)]
 | _=>.undef
abbrev Ah.Hu.ts:List AT:=[.s .u64,.s .u64]
def Ah.Hu.spec:Entry:=entry Ah.Hu.ts Ah.Hu.pre Ah.Hu.out
def Ai.F.pre:List Atom→Bool
 | [.i x]=>Ak x
 | _=>false
def Ai.F.out:List Atom→DV
 | [.i x]=>.fl (toNat x)
 | _=>.undef
abbrev Ai.F.ts:List AT:=[.i .u64]
def Ai.F.spec:Entry:=entry Ai.F.ts Ai.F.pre Ai.F.out
def Ai.B.pre:List Atom→Bool
 | [.f _x]=>true
 | _=>false
def Ai.B.out:List Atom→DV
 | [.f x]=>.int .u64 (Ge x)
 | _=>.undef
abbrev Ai.B.ts:List AT:=[.fl]
def Ai.B.spec:Entry:=entry Ai.B.ts Ai.B.pre Ai.B.out
def Ai.Add.pre:List Atom→Bool
 | [.i a,.i b]=>Ak a&&Ak b
 | _=>false
def Ai.Add.out:List Atom→DV
 | [.i a,.i b]=>.int .u64 (Kd a b)
 | _=>.undef
abbrev Ai.Add.ts:List AT:=[.i .u64,.i .u64]
def Ai.Add.spec:Entry:=entry Ai.Add.ts Ai.Add.pre Ai.Add.out
def Ai.Sub.pre:List Atom→Bool
 | [.i a,.i b]=>Ak a&&Ak b
 | _=>false
def Ai.Sub.out:List Atom→DV
 | [.i a,.i b]=>.int .u64 (Dl a b)
 | _=>.undef
abbrev Ai.Sub.ts:List AT:=[.i .u64,.i .u64]
def Ai.Sub.spec:Entry:=entry Ai.Sub.ts Ai.Sub.pre Ai.Sub.out
def Ai.Mul.pre:List Atom→Bool
 | [.i a,.i b]=>Ak a&&Ak b
 | _=>false
def Ai.Mul.out:List Atom→DV
 | [.i a,.i b]=>.int .u64 (D5 a b)
 | _=>.undef
abbrev Ai.Mul.ts:List AT:=[.i .u64,.i .u64]
def Ai.Mul.spec:Entry:=entry Ai.Mul.ts Ai.Mul.pre Ai.Mul.out
def Ai.Hu.pre:List Atom→Bool
 | [.l x,.l y]=>(Pk x y&&Ag x)&&Ag y
 | _=>false
def Ai.Hu.out:List Atom→DV
 | [.l x,.l y]=>.int .u64 (Ms x y)
 | _=>.undef
abbrev Ai.Hu.ts:List AT:=[.s .u64,.s .u64]
def Ai.Hu.spec:Entry:=entry Ai.Hu.ts Ai.Hu.pre Ai.Hu.out
def Ai.Cn.pre:List Atom→Bool
 | [.l x,.l _y]=>Gp x
 | _=>false
def Ai.Cn.out:List Atom→DV
 | [.l x,.l y]=>.bool (Uv x y)
 | _=>.undef
abbrev Ai.Cn.ts:List AT:=[.s .u64,.s .u64]
def Ai.Cn.spec:Entry:=entry Ai.Cn.ts Ai.Cn.pre Ai.Cn.out
def Aa.size.pre:List Atom→Bool
 | [.i _n]=>true
 | _=>false
def Aa.size.out:List Atom→DV
 | [.i n]=>.bool (Bv n)
 | _=>.undef
abbrev Aa.size.ts:List AT:=[.i .i64]
def Aa.size.spec:Entry:=entry Aa.size.ts Aa.size.pre Aa.size.out
def Aa.Check.pre:List Atom→Bool
 | [.i _r,.i _c,.l _l]=>true
 | _=>false
def Aa.Check.out:List Atom→DV
 | [.i r,.i c,.l l]=>.int .i64 (Le r c l)
 | _=>.undef
abbrev Aa.Check.ts:List AT:=[.st [.i .i64,.i .i64,.s .u64]]
def Aa.Check.spec:Entry:=entry Aa.Check.ts Aa.Check.pre Aa.Check.out
def Aa.get.pre:List Atom→Bool
 | [.i r,.i c,.l l,.i i,.i k]=>Cj r c l i k
 | _=>false
def Aa.get.out:List Atom→DV
 | [.i _r,.i c,.l l,.i i,.i k]=>.int .u64 (D0 c l i k)
 | _=>.undef
abbrev Aa.get.ts:List AT:=[.st [.i .i64,.i .i64,.s .u64],.i .i64,.i .i64]
def Aa.get.spec:Entry:=entry Aa.get.ts Aa.get.pre Aa.get.out
def Aa.two.pre:List Atom→Bool
 | [.i _r,.i _c,.l _l,.i _p,.i _q,.l _m]=>true
 | _=>false
def Aa.two.out:List Atom→DV
 | [.i r,.i c,.l l,.i p,.i q,.l m]=>.int .i64 (Yd r c l p q m)
 | _=>.undef
abbrev Aa.two.ts:List AT:=[.st [.i .i64,.i .i64,.s .u64],.st [.i .i64,.i .i64,.s .u64]]
def Aa.two.spec:Entry:=entry Aa.two.ts Aa.two.pre Aa.two.out
def Aa.Row.pre:List Atom→Bool
 | [.i r,.i c,.l l,.i i,.i f]=>Py r c l i&&decide (f=0)
 | _=>false
def Aa.Row.out:List Atom→DV
 | [.i _r,.i c,.l l,.i i,.i _f]=>.ints .fresh .u64 (Jr c l i)
 | _=>.undef
abbrev Aa.Row.ts:List AT:=[.st [.i .i64,.i .i64,.s .u64],.i .i64,.i .i64]
def Aa.Row.spec:Entry:=entry Aa.Row.ts Aa.Row.pre Aa.Row.out
def Aa.D3.pre:List Atom→Bool
 | [.i r,.i c,.l l,.i k,.i f]=>Hi r c l k&&Co (0≤f∧f≤r)
 | _=>false
def Aa.D3.out:List Atom→DV
 | [.i r,.i c,.l l,.i k,.i f]=>.ints .fresh .u64 (C0 c l k f (toNat (r-f)))
 | _=>.undef
abbrev Aa.D3.ts:List AT:=[.st [.i .i64,.i .i64,.s .u64],.i .i64,.i .i64]
def Aa.D3.spec:Entry:=entry Aa.D3.ts Aa.D3.pre Aa.D3.out
def Aa.Ed.pre:List Atom→Bool
 | [.i _i,.i _k]=>true
 | _=>false
def Aa.Ed.out:List Atom→DV
 | [.i _i,.i _k]=>.int .u64 (0:Int)
 | _=>.undef
abbrev Aa.Ed.ts:List AT:=[.i .i64,.i .i64]
def Aa.Ed.spec:Entry:=entry Aa.Ed.ts Aa.Ed.pre Aa.Ed.out
def Aa.Hq.pre:List Atom→Bool
 | [.i _i,.i _k]=>true
 | _=>false
def Aa.Hq.out:List Atom→DV
 | [.i i,.i k]=>.int .u64 (N0 i k)
 | _=>.undef
abbrev Aa.Hq.ts:List AT:=[.i .i64,.i .i64]
def Aa.Hq.spec:Entry:=entry Aa.Hq.ts Aa.Hq.pre Aa.Hq.out
def Aa.Fq.pre:List Atom→Bool
 | [.i i,.i k,.i r,.i c,.l l]=>Cj r c l k i
 | _=>false
def Aa.Fq.out:List Atom→DV
 | [.i i,.i k,.i _r,.i c,.l l]=>.int .u64 (D0 c l k i)
 | _=>.undef
abbrev Aa.Fq.ts:List AT:=[.i .i64,.i .i64,.cp [.i .i64,.i .i64,.s .u64]]
def Aa.Fq.spec:Entry:=entry Aa.Fq.ts Aa.Fq.pre Aa.Fq.out
def Aa.Fs.pre:List Atom→Bool
 | [.i i,.i k,.i r,.i c,.l l,.i x,.i y]=>Cj r c l (x+i) (y+k)&&V7 x y i k
 | _=>false
def Aa.Fs.out:List Atom→DV
 | [.i i,.i k,.i _r,.i c,.l l,.i x,.i y]=>.int .u64 (D0 c l (x+i) (y+k))
 | _=>.undef
abbrev Aa.Fs.ts:List AT:=[.i .i64,.i .i64,.cp [.i .i64,.i .i64,.s .u64],.cp [.i .i64],.cp [.i .i64]]
def Aa.Fs.spec:Entry:=entry Aa.Fs.ts Aa.Fs.pre Aa.Fs.out
def Aa.Hk.pre:List Atom→Bool
 | [.i i,.i k,.i r,.i c,.l l,.i p,.i q,.l m]=>((Cj r c l i k&&Cj p q m i k)&&Ag l)&&Ag m
 | _=>false
def Aa.Hk.out:List Atom→DV
 | [.i i,.i k,.i _r,.i c,.l l,.i _p,.i q,.l m]=>.int .u64 (Dl (D0 c l i k) (D0 q m i k))
 | _=>.undef
abbrev Aa.Hk.ts:List AT:=[.i .i64,.i .i64,.cp [.i .i64,.i .i64,.s .u64],.cp [.i .i64,.i .i64,.s .u64]]
def Aa.Hk.spec:Entry:=entry Aa.Hk.ts Aa.Hk.pre Aa.Hk.out
def Aa.Hm.pre:List Atom→Bool
 | [.i i,.i k,.i r,.i c,.l l,.i p,.i q,.l m]=>Tp r c l p q m i k
 | _=>false
def Aa.Hm.out:List Atom→DV
 | [.i i,.i k,.i _r,.i c,.l l,.i p,.i q,.l m]=>.int .u64 (Ms (Jr c l i) (Pm p q m k))
 | _=>.undef
abbrev Aa.Hm.ts:List AT:=[.i .i64,.i .i64,.cp [.i .i64,.i .i64,.s .u64],.cp [.i .i64,.i .i64,.s .u64]]
def Aa.Hm.spec:Entry:=entry Aa.Hm.ts Aa.Hm.pre Aa.Hm.out
def Aa.of.Ew.pre:List Atom→Bool
 | [.i a,.i b]=>(Bv a&&Bv b)
 | _=>false
def Aa.of.Ew.out:List Atom→DV
 | [.i a,.i b]=>.agg [.int .i64 a,.int .i64 b,.ints .fresh .u64 (Cx (toNat a) (toNat b) (fun j1 j2=>N0 j1 j2))]
 | _=>.undef
abbrev Aa.of.Ew.ts:List AT:=[.i .i64,.i .i64,.fn 246 []]
def Aa.of.Ew.spec:Entry:=entry Aa.of.Ew.ts Aa.of.Ew.pre Aa.of.Ew.out
def Aa.of.Cb.pre:List Atom→Bool
 | [.i a,.i b,.i r,.i c,.l l]=>(Bv a&&Bv b)&&A0 r c l&&decide (a=c∧b=r)
 | _=>false
def Aa.of.Cb.out:List Atom→DV
 | [.i a,.i b,.i _r,.i c,.l l]=>.agg [.int .i64 a,.int .i64 b,.ints .fresh .u64 (Cx (toNat a) (toNat b) (fun j1 j2=>D0 c l j2 j1))]
 | _=>.undef
abbrev Aa.of.Cb.ts:List AT:=[.i .i64,.i .i64,.fn 220 [.cp [.i .i64,.i .i64,.s .u64]]]
def Aa.of.Cb.spec:Entry:=entry Aa.of.Cb.ts Aa.of.Cb.pre Aa.of.Cb.out
def Aa.of.Part.pre:List Atom→Bool
 | [.i a,.i b,.i r,.i c,.l l,.i x,.i y]=>(Bv a&&Bv b)&&A0 r c l&&E7 r c x y a b
 | _=>false
def Aa.of.Part.out:List Atom→DV
 | [.i a,.i b,.i _r,.i c,.l l,.i x,.i y]=>.agg [.int .i64 a,.int .i64 b,.ints .fresh .u64 (Cx (toNat a) (toNat b) (fun j1 j2=>D0 c l (x+j1) (y+j2)))]
 | _=>.undef
abbrev Aa.of.Part.ts:List AT:=[.i .i64,.i .i64,.fn 192 [.cp [.i .i64,.i .i64,.s .u64],.cp [.i .i64],.cp [.i .i64]]]
def Aa.of.Part.spec:Entry:=entry Aa.of.Part.ts Aa.of.Part.pre Aa.of.Part.out
def Aa.of.Sub.pre:List Atom→Bool
 | [.i a,.i b,.i r,.i c,.l l,.i p,.i q,.l m]=>(Bv a&&Bv b)&&((A0 r c l&&A0 p q m)&&(Ag l&&Ag m))&&decide (a=r∧b=c∧p=r∧q=c)
 | _=>false
def Aa.of.Sub.out:List Atom→DV
 | [.i a,.i b,.i _r,.i c,.l l,.i _p,.i q,.l m]=>.agg [.int .i64 a,.int .i64 b,.ints .fresh .u64 (Cx (toNat a) (toNat b) (fun j1 j2=>Dl (D0 c l j1 j2) (D0 q m j1 j2)))]
 | _=>.undef
abbrev Aa.of.Sub.ts:List AT:=[.i .i64,.i .i64,.fn 194 [.cp [.i .i64,.i .i64,.s .u64],.cp [.i .i64,.i .i64,.s .u64]]]
def Aa.of.Sub.spec:Entry:=entry Aa.of.Sub.ts Aa.of.Sub.pre Aa.of.Sub.out
def Aa.of.Mul.pre:List Atom→Bool
 | [.i a,.i b,.i r,.i c,.l l,.i p,.i q,.l m]=>(Bv a&&Bv b)&&((A0 r c l&&A0 p q m)&&(Ag l&&Ag m))&&decide (a=r∧b=q∧c=p)
 | _=>false
def Aa.of.Mul.out:List Atom→DV
 | [.i a,.i b,.i _r,.i c,.l l,.i p,.i q,.l m]=>.agg [.int .i64 a,.int .i64 b,.ints .fresh .u64 (Cx (toNat a) (toNat b) (fun j1 j2=>Ms (Jr c l j1) (Pm p q m j2)))]
 | _=>.undef
abbrev Aa.of.Mul.ts:List AT:=[.i .i64,.i .i64,.fn 188 [.cp [.i .i64,.i .i64,.s .u64],.cp [.i .i64,.i .i64,.s .u64]]]
def Aa.of.Mul.spec:Entry:=entry Aa.of.Mul.ts Aa.of.Mul.pre Aa.of.Mul.out
def Aa.Ew.pre:List Atom→Bool
 | [.i _n]=>true
 | _=>false
def Aa.Ew.out:List Atom→DV
 | [.i n]=>.tup [.agg [.int .i64 ((Nr n).1),.int .i64 ((Nr n).2.1),.ints .fresh .u64 ((Nr n).2.2.1)],.int .i64 ((Nr n).2.2.2)]
 | _=>.undef
abbrev Aa.Ew.ts:List AT:=[.i .i64]
def Aa.Ew.spec:Entry:=entry Aa.Ew.ts Aa.Ew.pre Aa.Ew.out
def Aa.Cb.pre:List Atom→Bool
 | [.i _r,.i _c,.l _l]=>true
 | _=>false
def Aa.Cb.out:List Atom→DV
 | [.i r,.i c,.l l]=>.tup [.agg [.int .i64 ((Ap r c l).1),.int .i64 ((Ap r c l).2.1),.ints .fresh .u64 ((Ap r c l).2.2.1)],.int .i64 ((Ap r c l).2.2.2)]
 | _=>.undef
abbrev Aa.Cb.ts:List AT:=[.st [.i .i64,.i .i64,.s .u64]]
def Aa.Cb.spec:Entry:=entry Aa.Cb.ts Aa.Cb.pre Aa.Cb.out
def Aa.Part.pre:List Atom→Bool
 | [.i _r,.i _c,.l _l,.i _x,.i _y,.i _a,.i _b]=>true
 | _=>false
def Aa.Part.out:List Atom→DV
 | [.i r,.i c,.l l,.i x,.i y,.i a,.i b]=>.tup [.agg [.int .i64 ((Az r c l x y a b).1),.int .i64 ((Az r c l x y a b).2.1),.ints .fresh .u64 ((Az r c l x y a b).2.2.1)],.int .i64 ((Az r c l x y a b).2.2.2)]
 | _=>.undef
abbrev Aa.Part.ts:List AT:=[.st [.i .i64,.i .i64,.s .u64],.i .i64,.i .i64,.i .i64,.i .i64]
def Aa.Part.spec:Entry:=entry Aa.Part.ts Aa.Part.pre Aa.Part.out
def Aa.Sub.pre:List Atom→Bool
 | [.i _r,.i _c,.l l,.i _p,.i _q,.l m]=>Ag l&&Ag m
 | _=>false
def Aa.Sub.out:List Atom→DV
 | [.i r,.i c,.l l,.i p,.i q,.l m]=>.tup [.agg [.int .i64 ((Ok r c l p q m).1),.int .i64 ((Ok r c l p q m).2.1),.ints .fresh .u64 ((Ok r c l p q m).2.2.1)],.int .i64 ((Ok r c l p q m).2.2.2)]
 | _=>.undef
abbrev Aa.Sub.ts:List AT:=[.st [.i .i64,.i .i64,.s .u64],.st [.i .i64,.i .i64,.s .u64]]
def Aa.Sub.spec:Entry:=entry Aa.Sub.ts Aa.Sub.pre Aa.Sub.out
def Aa.Mul.pre:List Atom→Bool
 | [.i _r,.i _c,.l l,.i _p,.i _q,.l m]=>Ag l&&Ag m
 | _=>false
def Aa.Mul.out:List Atom→DV
 | [.i r,.i c,.l l,.i p,.i q,.l m]=>.tup [.agg [.int .i64 ((Fo r c l p q m).1),.int .i64 ((Fo r c l p q m).2.1),.ints .fresh .u64 ((Fo r c l p q m).2.2.1)],.int .i64 ((Fo r c l p q m).2.2.2)]
 | _=>.undef
abbrev Aa.Mul.ts:List AT:=[.st [.i .i64,.i .i64,.s .u64],.st [.i .i64,.i .i64,.s .u64]]
def Aa.Mul.spec:Entry:=entry Aa.Mul.ts Aa.Mul.pre Aa.Mul.out
def Af.Hl.pre:List Atom→Bool
 | [.i _r,.i _c,.l _l]=>true
 | _=>false
def Af.Hl.out:List Atom→DV
 | [.i r,.i c,.l l]=>.bool (A0 r c l)
 | _=>.undef
abbrev Af.Hl.ts:List AT:=[.st [.i .i64,.i .i64,.s .u64]]
def Af.Hl.spec:Entry:=entry Af.Hl.ts Af.Hl.pre Af.Hl.out
def Af.At.pre:List Atom→Bool
 | [.i r,.i c,.l l,.i i,.i k]=>Cj r c l i k
 | _=>false
def Af.At.out:List Atom→DV
 | [.i _r,.i c,.l l,.i i,.i k]=>.int .u64 (D0 c l i k)
 | _=>.undef
abbrev Af.At.ts:List AT:=[.st [.i .i64,.i .i64,.s .u64],.i .i64,.i .i64]
def Af.At.spec:Entry:=entry Af.At.ts Af.At.pre Af.At.out
def Af.Bn.pre:List Atom→Bool
 | [.i a,.i b]=>Bv a&&Bv b
 | _=>false
def Af.Bn.out:List Atom→DV
 | [.i a,.i b]=>.agg [.int .i64 a,.int .i64 b,.ints .fresh .u64 (Cx (toNat a) (toNat b) (fun _ _=>0))]
 | _=>.undef
abbrev Af.Bn.ts:List AT:=[.i .i64,.i .i64]
def Af.Bn.spec:Entry:=entry Af.Bn.ts Af.Bn.pre Af.Bn.out
def Af.Fp.pre:List Atom→Bool
 | [.i r,.i c,.l l,.i i,.i k,.i _b]=>Cj r c l i k
 | _=>false
def Af.Fp.out:List Atom→DV
 | [.i r,.i c,.l l,.i i,.i k,.i b]=>.agg [.int .i64 r,.int .i64 c,.ints .fresh .u64 (List.set l (toNat (i*c+k)) b)]
 | _=>.undef
abbrev Af.Fp.ts:List AT:=[.st [.i .i64,.i .i64,.s .u64],.i .i64,.i .i64,.i .u64]
def Af.Fp.spec:Entry:=entry Af.Fp.ts Af.Fp.pre Af.Fp.out
def Af.Ew.pre:List Atom→Bool
 | [.i n]=>Bv n
 | _=>false
def Af.Ew.out:List Atom→DV
 | [.i n]=>.agg [.int .i64 n,.int .i64 n,.ints .fresh .u64 (Cx (toNat n) (toNat n) (fun j1 j2=>N0 j1 j2))]
 | _=>.undef
abbrev Af.Ew.ts:List AT:=[.i .i64]
def Af.Ew.spec:Entry:=entry Af.Ew.ts Af.Ew.pre Af.Ew.out
def Af.Cn.pre:List Atom→Bool
 | [.i _r,.i _c,.l l,.i _p,.i _q,.l _m]=>Gp l
 | _=>false
def Af.Cn.out:List Atom→DV
 | [.i r,.i c,.l l,.i p,.i q,.l m]=>.bool (Ee r c l p q m)
 | _=>.undef
abbrev Af.Cn.ts:List AT:=[.st [.i .i64,.i .i64,.s .u64],.st [.i .i64,.i .i64,.s .u64]]
def Af.Cn.spec:Entry:=entry Af.Cn.ts Af.Cn.pre Af.Cn.out
def Af.L5.pre:List Atom→Bool
 | [.i _r,.i _c,.l l]=>Gp l
 | _=>false
def Af.L5.out:List Atom→DV
 | [.i r,.i c,.l l]=>.agg [.int .i64 r,.int .i64 c,.ints .fresh .u64 l]
 | _=>.undef
abbrev Af.L5.ts:List AT:=[.st [.i .i64,.i .i64,.s .u64]]
def Af.L5.spec:Entry:=entry Af.L5.ts Af.L5.pre Af.L5.out
def Af.Row.pre:List Atom→Bool
 | [.i r,.i c,.l l,.i i]=>Py r c l i
 | _=>false
def Af.Row.out:List Atom→DV
 | [.i _r,.i c,.l l,.i i]=>.ints .arg .u64 (Jr c l i)
 | _=>.undef
abbrev Af.Row.ts:List AT:=[.st [.i .i64,.i .i64,.s .u64],.i .i64]
def Af.Row.spec:Entry:=entry Af.Row.ts Af.Row.pre Af.Row.out
def Af.Pp.pre:List Atom→Bool
 | [.i r,.i c,.l l,.i k,.i f]=>Hi r c l k&&Co (0≤f∧f≤r)
 | _=>false
def Af.Pp.out:List Atom→DV
 | [.i r,.i c,.l l,.i k,.i f]=>.ints .fresh .u64 (C0 c l k f (toNat (r-f)))
 | _=>.undef
abbrev Af.Pp.ts:List AT:=[.st [.i .i64,.i .i64,.s .u64],.i .i64,.i .i64]
def Af.Pp.spec:Entry:=entry Af.Pp.ts Af.Pp.pre Af.Pp.out
def Af.Mul.pre:List Atom→Bool
 | [.i r,.i c,.l l,.i p,.i q,.l m]=>(A0 r c l&&A0 p q m)&&((Ag l&&Ag m)&&decide (c=p))
 | _=>false
def Af.Mul.out:List Atom→DV
 | [.i r,.i c,.l l,.i p,.i q,.l m]=>.agg [.int .i64 r,.int .i64 q,.ints .fresh .u64 (Cx (toNat r) (toNat q) (fun j1 j2=>Ms (Jr c l j1) (Pm p q m j2)))]
 | _=>.undef
abbrev Af.Mul.ts:List AT:=[.st [.i .i64,.i .i64,.s .u64],.st [.i .i64,.i .i64,.s .u64]]
def Af.Mul.spec:Entry:=entry Af.Mul.ts Af.Mul.pre Af.Mul.out
def Af.Cb.pre:List Atom→Bool
 | [.i r,.i c,.l l]=>A0 r c l
 | _=>false
def Af.Cb.out:List Atom→DV
 | [.i r,.i c,.l l]=>.agg [.int .i64 c,.int .i64 r,.ints .fresh .u64 (Cx (toNat c) (toNat r) (fun j1 j2=>D0 c l j2 j1))]
 | _=>.undef
abbrev Af.Cb.ts:List AT:=[.st [.i .i64,.i .i64,.s .u64]]
def Af.Cb.spec:Entry:=entry Af.Cb.ts Af.Cb.pre Af.Cb.out
def Af.Part.pre:List Atom→Bool
 | [.i r,.i c,.l l,.i x,.i y,.i a,.i b]=>A0 r c l&&E7 r c x y a b
 | _=>false
def Af.Part.out:List Atom→DV
 | [.i _r,.i c,.l l,.i x,.i y,.i a,.i b]=>.agg [.int .i64 a,.int .i64 b,.ints .fresh .u64 (Cx (toNat a) (toNat b) (fun j1 j2=>D0 c l (x+j1) (y+j2)))]
 | _=>.undef
abbrev Af.Part.ts:List AT:=[.st [.i .i64,.i .i64,.s .u64],.i .i64,.i .i64,.i .i64,.i .i64]
def Af.Part.spec:Entry:=entry Af.Part.ts Af.Part.pre Af.Part.out
def Ae.Jf.pre:List Atom→Bool
 | [.l l,.i _i]=>Gq l
 | _=>false
def Ae.Jf.out:List Atom→DV
 | [.l l,.i i]=>.int .u64 (Hg l i)
 | _=>.undef
abbrev Ae.Jf.ts:List AT:=[.s .u32,.i .i64]
def Ae.Jf.spec:Entry:=entry Ae.Jf.ts Ae.Jf.pre Ae.Jf.out
def Ae.Made.pre:List Atom→Bool
 | [.b _n,.l l]=>Gq l
 | _=>false
def Ae.Made.out:List Atom→DV
 | [.b n,.l l]=>.agg [.bool (A6 (wv n l)),.ints .arg .u32 (Aj (wv n l))]
 | _=>.undef
abbrev Ae.Made.ts:List AT:=[.b,.s .u32]
def Ae.Made.spec:Entry:=entry Ae.Made.ts Ae.Made.pre Ae.Made.out
def Ae.Of.pre:List Atom→Bool
 | [.i n]=>Ak0 n
 | _=>false
def Ae.Of.out:List Atom→DV
 | [.i n]=>.agg [.bool (A6 (n)),.ints .arg .u32 (Aj (n))]
 | _=>.undef
abbrev Ae.Of.ts:List AT:=[.i .i64]
def Ae.Of.spec:Entry:=entry Ae.Of.ts Ae.Of.pre Ae.Of.out
def Ae.Ij.pre:List Atom→Bool
 | [.l a,.l b]=>Gq a&&Gq b
 | _=>false
def Ae.Ij.out:List Atom→DV
 | [.l a,.l b]=>.int .i64 (Wv (Cf a) (Cf b))
 | _=>.undef
abbrev Ae.Ij.ts:List AT:=[.s .u32,.s .u32]
def Ae.Ij.spec:Entry:=entry Ae.Ij.ts Ae.Ij.pre Ae.Ij.out
def Ae.plus.pre:List Atom→Bool
 | [.l a,.l b]=>Gq a&&Gq b
 | _=>false
def Ae.plus.out:List Atom→DV
 | [.l a,.l b]=>.ints .arg .u32 (Jj a b)
 | _=>.undef
abbrev Ae.plus.ts:List AT:=[.s .u32,.s .u32]
def Ae.plus.spec:Entry:=entry Ae.plus.ts Ae.plus.pre Ae.plus.out
def Ae.minus.pre:List Atom→Bool
 | [.l a,.l b]=>(Gq a&&Gq b)&&leL b a
 | _=>false
def Ae.minus.out:List Atom→DV
 | [.l a,.l b]=>.ints .arg .u32 (H5 a b)
 | _=>.undef
abbrev Ae.minus.ts:List AT:=[.s .u32,.s .u32]
def Ae.minus.spec:Entry:=entry Ae.minus.ts Ae.minus.pre Ae.minus.out
def Ae.Add.pre:List Atom→Bool
 | [.b n,.l a,.b m,.l b]=>Hs n a&&Hs m b
 | _=>false
def Ae.Add.out:List Atom→DV
 | [.b n,.l a,.b m,.l b]=>.agg [.bool (A6 (wv n a+wv m b)),.ints .arg .u32 (Aj (wv n a+wv m b))]
 | _=>.undef
abbrev Ae.Add.ts:List AT:=[.st [.b,.s .u32],.st [.b,.s .u32]]
def Ae.Add.spec:Entry:=entry Ae.Add.ts Ae.Add.pre Ae.Add.out
def Ae.Neg.pre:List Atom→Bool
 | [.b n,.l a]=>Hs n a
 | _=>false
def Ae.Neg.out:List Atom→DV
 | [.b n,.l a]=>.agg [.bool (A6 (- wv n a)),.ints .arg .u32 (Aj (- wv n a))]
 | _=>.undef
abbrev Ae.Neg.ts:List AT:=[.st [.b,.s .u32]]
def Ae.Neg.spec:Entry:=entry Ae.Neg.ts Ae.Neg.pre Ae.Neg.out
def Ae.Fv.pre:List Atom→Bool
 | [.b n,.l a]=>Hs n a
 | _=>false
def Ae.Fv.out:List Atom→DV
 | [.b n,.l a]=>.agg [.bool (A6 (2*wv n a)),.ints .arg .u32 (Aj (2*wv n a))]
 | _=>.undef
abbrev Ae.Fv.ts:List AT:=[.st [.b,.s .u32]]
def Ae.Fv.spec:Entry:=entry Ae.Fv.ts Ae.Fv.pre Ae.Fv.out
def Ae.Ht.pre:List Atom→Bool
 | [.b n,.l a]=>Hs n a
 | _=>false
def Ae.Ht.out:List Atom→DV
 | [.b n,.l a]=>.agg [.bool (A6 (Li (wv n a) 1)),.ints .arg .u32 (Aj (Li (wv n a) 1))]
 | _=>.undef
abbrev Ae.Ht.ts:List AT:=[.st [.b,.s .u32]]
def Ae.Ht.spec:Entry:=entry Ae.Ht.ts Ae.Ht.pre Ae.Ht.out
def Ae.Bt.pre:List Atom→Bool
 | [.b n,.l a,.i k]=>R8 n a&&Avv k
 | _=>false
def Ae.Bt.out:List Atom→DV
 | [.b n,.l a,.i k]=>.agg [.bool (A6 (Hc (wv n a) k)),.ints .arg .u32 (Aj (Hc (wv n a) k))]
 | _=>.undef
abbrev Ae.Bt.ts:List AT:=[.st [.b,.s .u32],.i .i64]
def Ae.Bt.spec:Entry:=entry Ae.Bt.ts Ae.Bt.pre Ae.Bt.out
def Ae.Qu.pre:List Atom→Bool
 | [.b n,.l a]=>Hs n a
 | _=>false
def Ae.Qu.out:List Atom→DV
 | [.b n,.l a]=>.int .i64 (Zr (wv n a))
 | _=>.undef
abbrev Ae.Qu.ts:List AT:=[.st [.b,.s .u32]]
def Ae.Qu.spec:Entry:=entry Ae.Qu.ts Ae.Qu.pre Ae.Qu.out
def Ae.W2.pre:List Atom→Bool
 | [.b n,.l a]=>Hs n a
 | _=>false
def Ae.W2.out:List Atom→DV
 | [.b n,.l a]=>.bool (Amh (wv n a))
 | _=>.undef
abbrev Ae.W2.ts:List AT:=[.st [.b,.s .u32]]
def Ae.W2.spec:Entry:=entry Ae.W2.ts Ae.W2.pre Ae.W2.out
def Ae.Cn.pre:List Atom→Bool
 | [.b n,.l a,.b m,.l b]=>Hs n a&&Hs m b
 | _=>false
def Ae.Cn.out:List Atom→DV
 | [.b n,.l a,.b m,.l b]=>.bool (Ys (wv n a) (wv m b))
 | _=>.undef
abbrev Ae.Cn.ts:List AT:=[.st [.b,.s .u32],.st [.b,.s .u32]]
def Ae.Cn.spec:Entry:=entry Ae.Cn.ts Ae.Cn.pre Ae.Cn.out
def Aq.Of.pre:List Atom→Bool
 | [.b n,.l a,.i e]=>Hs n a&&Wh e
 | _=>false
def Aq.Of.out:List Atom→DV
 | [.b n,.l a,.i e]=>.agg [.bool (A6 (mD (wv n a))),.ints .arg .u32 (Aj (mD (wv n a))),.int .i64 (eD (wv n a) e)]
 | _=>.undef
abbrev Aq.Of.ts:List AT:=[.st [.b,.s .u32],.i .i64]
def Aq.Of.spec:Entry:=entry Aq.Of.ts Aq.Of.pre Aq.Of.out
def Aq.Neg.pre:List Atom→Bool
 | [.b n,.l a,.i _e]=>Hs n a
 | _=>false
def Aq.Neg.out:List Atom→DV
 | [.b n,.l a,.i e]=>.agg [.bool (A6 (- wv n a)),.ints .arg .u32 (Aj (- wv n a)),.int .i64 e]
 | _=>.undef
abbrev Aq.Neg.ts:List AT:=[.st [.b,.s .u32,.i .i64]]
def Aq.Neg.spec:Entry:=entry Aq.Neg.ts Aq.Neg.pre Aq.Neg.out
def Aq.W3.pre:List Atom→Bool
 | [.b n,.l a,.i _e,.b m,.l b,.i _f]=>Hs n a&&Hs m b
 | _=>false
def Aq.W3.out:List Atom→DV
 | [.b n,.l a,.i e,.b m,.l b,.i f]=>.int .i64 (Df (wv n a) e (wv m b) f)
 | _=>.undef
abbrev Aq.W3.ts:List AT:=[.st [.b,.s .u32,.i .i64],.st [.b,.s .u32,.i .i64]]
def Aq.W3.spec:Entry:=entry Aq.W3.ts Aq.W3.pre Aq.W3.out
def Aq.Level.pre:List Atom→Bool
 | [.b n,.l a,.i e,.i f]=>R8 n a&&Af7 (wv n a) e f
 | _=>false
def Aq.Level.out:List Atom→DV
 | [.b n,.l a,.i e,.i f]=>.agg [.bool (A6 (Hc (wv n a) (e-f))),.ints .arg .u32 (Aj (Hc (wv n a) (e-f)))]
 | _=>.undef
abbrev Aq.Level.ts:List AT:=[.st [.b,.s .u32,.i .i64],.i .i64]
def Aq.Level.spec:Entry:=entry Aq.Level.ts Aq.Level.pre Aq.Level.out
def Aq.Add.pre:List Atom→Bool
 | [.b n,.l a,.i e,.b m,.l b,.i f]=>((R8 n a&&R8 m b)&&Nl e)&&Nl f
 | _=>false
def Aq.Add.out:List Atom→DV
 | [.b n,.l a,.i e,.b m,.l b,.i f]=>.agg [.bool (A6 (N1 (wv n a) e (wv m b) f)),.ints .arg .u32 (Aj (N1 (wv n a) e (wv m b) f)),.int .i64 (Ahv (wv n a) e (wv m b) f)]
 | _=>.undef
abbrev Aq.Add.ts:List AT:=[.st [.b,.s .u32,.i .i64],.st [.b,.s .u32,.i .i64]]
def Aq.Add.spec:Entry:=entry Aq.Add.ts Aq.Add.pre Aq.Add.out
def Aq.Sub.pre:List Atom→Bool
 | [.b n,.l a,.i e,.b m,.l b,.i f]=>((R8 n a&&R8 m b)&&Nl e)&&Nl f
 | _=>false
def Aq.Sub.out:List Atom→DV
 | [.b n,.l a,.i e,.b m,.l b,.i f]=>.agg [.bool (A6 (N1 (wv n a) e (- wv m b) f)),.ints .arg .u32 (Aj (N1 (wv n a) e (- wv m b) f)),.int .i64 (Ahv (wv n a) e (- wv m b) f)]
 | _=>.undef
abbrev Aq.Sub.ts:List AT:=[.st [.b,.s .u32,.i .i64],.st [.b,.s .u32,.i .i64]]
def Aq.Sub.spec:Entry:=entry Aq.Sub.ts Aq.Sub.pre Aq.Sub.out
def Aq.V1.pre:List Atom→Bool
 | [.b n,.l a,.i e]=>Hs n a&&Nl e
 | _=>false
def Aq.V1.out:List Atom→DV
 | [.b n,.l a,.i e]=>.int .i64 (Iw (wv n a) e)
 | _=>.undef
abbrev Aq.V1.ts:List AT:=[.st [.b,.s .u32,.i .i64]]
def Aq.V1.spec:Entry:=entry Aq.V1.ts Aq.V1.pre Aq.V1.out
def Aq.Sign.pre:List Atom→Bool
 | [.b n,.l a,.i _e]=>Hs n a
 | _=>false
def Aq.Sign.out:List Atom→DV
 | [.b n,.l a,.i _e]=>.int .i64 (Ny (wv n a))
 | _=>.undef
abbrev Aq.Sign.ts:List AT:=[.st [.b,.s .u32,.i .i64]]
def Aq.Sign.spec:Entry:=entry Aq.Sign.ts Aq.Sign.pre Aq.Sign.out
def Aq.Compare.pre:List Atom→Bool
 | [.b n,.l a,.i e,.b m,.l b,.i f]=>((R8 n a&&R8 m b)&&Nl e)&&Nl f
 | _=>false
def Aq.Compare.out:List Atom→DV
 | [.b n,.l a,.i e,.b m,.l b,.i f]=>.int .i64 (Xr (wv n a) e (wv m b) f)
 | _=>.undef
abbrev Aq.Compare.ts:List AT:=[.st [.b,.s .u32,.i .i64],.st [.b,.s .u32,.i .i64]]
def Aq.Compare.spec:Entry:=entry Aq.Compare.ts Aq.Compare.pre Aq.Compare.out
def Aq.Cn.pre:List Atom→Bool
 | [.b n,.l a,.i _e,.b m,.l b,.i _f]=>Hs n a&&Hs m b
 | _=>false
def Aq.Cn.out:List Atom→DV
 | [.b n,.l a,.i e,.b m,.l b,.i f]=>.bool (((decide (e=f))&&Ys (wv n a) (wv m b)))
 | _=>.undef
abbrev Aq.Cn.ts:List AT:=[.st [.b,.s .u32,.i .i64],.st [.b,.s .u32,.i .i64]]
def Aq.Cn.spec:Entry:=entry Aq.Cn.ts Aq.Cn.pre Aq.Cn.out
def A5.Value.pre:List Atom→Bool
 | [.i x]=>Ak x
 | _=>false
def A5.Value.out:List Atom→DV
 | [.i x]=>.agg [.bool (A6 (mD (Bj x))),.ints .arg .u32 (Aj (mD (Bj x))),.int .i64 (eD (Bj x) (Ba x))]
 | _=>.undef
abbrev A5.Value.ts:List AT:=[.i .u64]
def A5.Value.spec:Entry:=entry A5.Value.ts A5.Value.pre A5.Value.out
def Ae.single.pre:List Atom→Bool
 | [.l a,.i x]=>Gq a&&Akz x
 | _=>false
def Ae.single.out:List Atom→DV
 | [.l a,.i x]=>.ints .arg .u32 (singleL a x)
 | _=>.undef
abbrev Ae.single.ts:List AT:=[.s .u32,.i .u32]
def Ae.single.spec:Entry:=entry Ae.single.ts Ae.single.pre Ae.single.out
def Ae.Mul.pre:List Atom→Bool
 | [.b n,.l a,.b m,.l b]=>okM n a&&okM m b
 | _=>false
def Ae.Mul.out:List Atom→DV
 | [.b n,.l a,.b m,.l b]=>.agg [.bool (A6 (wv n a*wv m b)),.ints .arg .u32 (Aj (wv n a*wv m b))]
 | _=>.undef
abbrev Ae.Mul.ts:List AT:=[.st [.b,.s .u32],.st [.b,.s .u32]]
def Ae.Mul.spec:Entry:=entry Ae.Mul.ts Ae.Mul.pre Ae.Mul.out
def Aq.Mul.pre:List Atom→Bool
 | [.b n,.l a,.i e,.b m,.l b,.i f]=>(okM n a&&okM m b)&&(Nl e&&Nl f)
 | _=>false
def Aq.Mul.out:List Atom→DV
 | [.b n,.l a,.i e,.b m,.l b,.i f]=>.agg [.bool (A6 (mD (wv n a*wv m b))),.ints .arg .u32 (Aj (mD (wv n a*wv m b))),.int .i64 (eD (wv n a*wv m b) (e+f))]
 | _=>.undef
abbrev Aq.Mul.ts:List AT:=[.st [.b,.s .u32,.i .i64],.st [.b,.s .u32,.i .i64]]
def Aq.Mul.spec:Entry:=entry Aq.Mul.ts Aq.Mul.pre Aq.Mul.out
def compare.K8.pre:List Atom→Bool
 | [.i b]=>Ak b
 | _=>false
def compare.K8.out:List Atom→DV
 | [.i b]=>.int .i64 (Abq b)
 | _=>.undef
abbrev compare.K8.ts:List AT:=[.i .u64]
def compare.K8.spec:Entry:=entry compare.K8.ts compare.K8.pre compare.K8.out
def compare.Order.pre:List Atom→Bool
 | [.i a,.i b]=>Ak a&&Ak b
 | _=>false
def compare.Order.out:List Atom→DV
 | [.i a,.i b]=>.tup [.int .i64 (Tn a b),.bool (Aby a b)]
 | _=>.undef
abbrev compare.Order.ts:List AT:=[.i .u64,.i .u64]
def compare.Order.spec:Entry:=entry compare.Order.ts compare.Order.pre compare.Order.out
def compare.Lh.pre:List Atom→Bool
 | [.i a,.i b]=>Ak a&&Ak b
 | _=>false
def compare.Lh.out:List Atom→DV
 | [.i a,.i b]=>.bool (decide (Tn a b<0))
 | _=>.undef
abbrev compare.Lh.ts:List AT:=[.i .u64,.i .u64]
def compare.Lh.spec:Entry:=entry compare.Lh.ts compare.Lh.pre compare.Lh.out
def compare.G7.pre:List Atom→Bool
 | [.i a]=>Ak a
 | _=>false
def compare.G7.out:List Atom→DV
 | [.i a]=>.int .u64 (Jt a)
 | _=>.undef
abbrev compare.G7.ts:List AT:=[.i .u64]
def compare.G7.spec:Entry:=entry compare.G7.ts compare.G7.pre compare.G7.out
def compare.E3.pre:List Atom→Bool
 | [.i a,.i n]=>Ds a n
 | _=>false
def compare.E3.out:List Atom→DV
 | [.i a,.i n]=>.tup [.int .u64 (B3 a n),.int .u8 (Asi a n)]
 | _=>.undef
abbrev compare.E3.ts:List AT:=[.i .u64,.i .i64]
def compare.E3.spec:Entry:=entry compare.E3.ts compare.E3.pre compare.E3.out
def Ah.Bt.pre:List Atom→Bool
 | [.i a,.i n]=>Ds a n
 | _=>false
def Ah.Bt.out:List Atom→DV
 | [.i a,.i n]=>.int .u64 (B3 a n)
 | _=>.undef
abbrev Ah.Bt.ts:List AT:=[.i .u64,.i .i64]
def Ah.Bt.spec:Entry:=entry Ah.Bt.ts Ah.Bt.pre Ah.Bt.out
def Ah.Div.pre:List Atom→Bool
 | [.i a,.i b]=>Ak a&&Ak b
 | _=>false
def Ah.Div.out:List Atom→DV
 | [.i a,.i b]=>.int .u64 (Ez a b)
 | _=>.undef
abbrev Ah.Div.ts:List AT:=[.i .u64,.i .u64]
def Ah.Div.spec:Entry:=entry Ah.Div.ts Ah.Div.pre Ah.Div.out
def Ah.Br.pre:List Atom→Bool
 | [.l x]=>Cy x
 | _=>false
def Ah.Br.out:List Atom→DV
 | [.l x]=>.int .u64 (Bl x)
 | _=>.undef
abbrev Ah.Br.ts:List AT:=[.s .u64]
def Ah.Br.spec:Entry:=entry Ah.Br.ts Ah.Br.pre Ah.Br.out
def Ah.Finite.pre:List Atom→Bool
 | [.l x]=>Cy x
 | _=>false
def Ah.Finite.out:List Atom→DV
 | [.l x]=>.bool (Dj x)
 | _=>.undef
abbrev Ah.Finite.ts:List AT:=[.s .u64]
def Ah.Finite.spec:Entry:=entry Ah.Finite.ts Ah.Finite.pre Ah.Finite.out
def Cu.Check.pre:List Atom→Bool
 | [.i _r,.i _c,.l l]=>Ag l
 | _=>false
def Cu.Check.out:List Atom→DV
 | [.i r,.i c,.l l]=>.int .i64 (B4 r c l)
 | _=>.undef
abbrev Cu.Check.ts:List AT:=[.st [.i .i64,.i .i64,.s .u64]]
def Cu.Check.spec:Entry:=entry Cu.Check.ts Cu.Check.pre Cu.Check.out
def solve.check.pre:List Atom→Bool
 | [.i _r,.i _c,.l l,.i _p,.i _q,.l m]=>Ag l&&Ag m
 | _=>false
def solve.check.out:List Atom→DV
 | [.i r,.i c,.l l,.i p,.i q,.l m]=>.int .i64 (Ld r c l p q m)
 | _=>.undef
abbrev solve.check.ts:List AT:=[.st [.i .i64,.i .i64,.s .u64],.st [.i .i64,.i .i64,.s .u64]]
def solve.check.spec:Entry:=entry solve.check.ts solve.check.pre solve.check.out
def Dc.Db.up.pre:List Atom→Bool
 | [.i n,.i k]=>Co (0≤k∧k<n∧n≤10)
 | _=>false
def Dc.Db.up.out:List Atom→DV
 | [.i n,.i k]=>.int .i64 (n-1-k)
 | _=>.undef
abbrev Dc.Db.up.ts:List AT:=[.i .i64,.i .i64]
def Dc.Db.up.spec:Entry:=entry Dc.Db.up.ts Dc.Db.up.pre Dc.Db.up.out
def solve.Ek.pre:List Atom→Bool
 | [.i _i,.i _k]=>true
 | _=>false
def solve.Ek.out:List Atom→DV
 | [.i i,.i k]=>.bool (decide (i<k))
 | _=>.undef
abbrev solve.Ek.ts:List AT:=[.i .i64,.i .i64]
def solve.Ek.spec:Entry:=entry solve.Ek.ts solve.Ek.pre solve.Ek.out
def Aa.of.Bn.own.pre:List Atom→Bool
 | [.i a,.i b]=>Bv a&&Bv b
 | _=>false
def Aa.of.Bn.own.out:List Atom→DV
 | [.i a,.i b]=>.agg [.int .i64 a,.int .i64 b,.ints (.own 108002 37) .u64 (Cx (toNat a) (toNat b) (fun _ _=>0))]
 | _=>.undef
abbrev Aa.of.Bn.own.ts:List AT:=[.i .i64,.i .i64,.fn 205 []]
def Aa.of.Bn.own.spec:Entry:=entry Aa.of.Bn.own.ts Aa.of.Bn.own.pre Aa.of.Bn.own.out
def Aa.Bn.own.pre:List Atom→Bool
 | [.i a,.i b]=>Bv a&&Bv b
 | _=>false
def Aa.Bn.own.out:List Atom→DV
 | [.i a,.i b]=>.tup [.agg [.int .i64 a,.int .i64 b,.ints (.own 1136 37) .u64 (Cx (toNat a) (toNat b) (fun _ _=>0))],.int .i64 (0:Int)]
 | _=>.undef
abbrev Aa.Bn.own.ts:List AT:=[.i .i64,.i .i64]
def Aa.Bn.own.spec:Entry:=entry Aa.Bn.own.ts Aa.Bn.own.pre Aa.Bn.own.out
def solve.A4.Up.pre:List Atom→Bool
 | [.i r,.i c,.l l,.i p,.i q,.l m,.i n]=>Q1 r c l p q m&&decide (n=r)
 | _=>false
def solve.A4.Up.out:List Atom→DV
 | [.i r,.i c,.l l,.i _p,.i q,.l m,.i _n]=>.tup [.agg [.int .i64 ((Gx r q (upG c l q m (toNat r) (toNat q))).1),.int .i64 ((Gx r q (upG c l q m (toNat r) (toNat q))).2.1),.ints .fresh .u64 ((Gx r q (upG c l q m (toNat r) (toNat q))).2.2.1)],.int .i64 ((Gx r q (upG c l q m (toNat r) (toNat q))).2.2.2)]
 | _=>.undef
abbrev solve.A4.Up.ts:List AT:=[.st [.i .i64,.i .i64,.s .u64],.st [.i .i64,.i .i64,.s .u64],.fm 103 [.i .i64],.fn 104 []]
def solve.A4.Up.spec:Entry:=entry solve.A4.Up.ts solve.A4.Up.pre solve.A4.Up.out
def solve.Cq.pre:List Atom→Bool
 | [.i _r,.i _c,.l l,.i _p,.i _q,.l m]=>Ag l&&Ag m
 | _=>false
def solve.Cq.out:List Atom→DV
 | [.i r,.i c,.l l,.i p,.i q,.l m]=>.tup [.agg [.int .i64 ((Sz r c l p q m).1),.int .i64 ((Sz r c l p q m).2.1),.ints .fresh .u64 ((Sz r c l p q m).2.2.1)],.int .i64 ((Sz r c l p q m).2.2.2)]
 | _=>.undef
abbrev solve.Cq.ts:List AT:=[.st [.i .i64,.i .i64,.s .u64],.st [.i .i64,.i .i64,.s .u64]]
def solve.Cq.spec:Entry:=entry solve.Cq.ts solve.Cq.pre solve.Cq.out
def solve.Flat.pre:List Atom→Bool
 | [.i _r,.i _c,.l l]=>Ag l
 | _=>false
def solve.Flat.out:List Atom→DV
 | [.i r,.i c,.l l]=>.tup [.bool ((Jv r c l).1),.int .i64 ((Jv r c l).2)]
 | _=>.undef
abbrev solve.Flat.ts:List AT:=[.st [.i .i64,.i .i64,.s .u64]]
def solve.Flat.spec:Entry:=entry solve.Flat.ts solve.Flat.pre solve.Flat.out
def qr.Fi.pre:List Atom→Bool
 | [.i _r,.i _c,.l l,.i _p,.i _q,.l m]=>Ag l&&Ag m
 | _=>false
def qr.Fi.out:List Atom→DV
 | [.i r,.i c,.l l,.i p,.i q,.l m]=>.tup [.agg [.int .i64 ((E8 r c l p q m).1),.int .i64 ((E8 r c l p q m).2.1),.ints .fresh .u64 ((E8 r c l p q m).2.2.1)],.int .i64 ((E8 r c l p q m).2.2.2)]
 | _=>.undef
abbrev qr.Fi.ts:List AT:=[.st [.i .i64,.i .i64,.s .u64],.st [.i .i64,.i .i64,.s .u64]]
def qr.Fi.spec:Entry:=entry qr.Fi.ts qr.Fi.pre qr.Fi.out
def Ai.Div.pre:List Atom→Bool
 | [.i a,.i b]=>Ak a&&Ak b
 | _=>false
def Ai.Div.out:List Atom→DV
 | [.i a,.i b]=>.int .u64 (Ez a b)
 | _=>.undef
abbrev Ai.Div.ts:List AT:=[.i .u64,.i .u64]
def Ai.Div.spec:Entry:=entry Ai.Div.ts Ai.Div.pre Ai.Div.out
def Ai.Finite.pre:List Atom→Bool
 | [.l x]=>Cy x
 | _=>false
def Ai.Finite.out:List Atom→DV
 | [.l x]=>.bool (Dj x)
 | _=>.undef
abbrev Ai.Finite.ts:List AT:=[.s .u64]
def Ai.Finite.spec:Entry:=entry Ai.Finite.ts Ai.Finite.pre Ai.Finite.out
def F7.Check.pre:List Atom→Bool
 | [.i _r,.i _c,.l l]=>Ag l
 | _=>false
def F7.Check.out:List Atom→DV
 | [.i r,.i c,.l l]=>.int .i64 (B4 r c l)
 | _=>.undef
abbrev F7.Check.ts:List AT:=[.st [.i .i64,.i .i64,.s .u64]]
def F7.Check.spec:Entry:=entry F7.Check.ts F7.Check.pre F7.Check.out
def A3.Check.pre:List Atom→Bool
 | [.i _r,.i _c,.l l,.i _p,.i _q,.l m]=>Ag l&&Ag m
 | _=>false
def A3.Check.out:List Atom→DV
 | [.i r,.i c,.l l,.i p,.i q,.l m]=>.int .i64 (Ld r c l p q m)
 | _=>.undef
abbrev A3.Check.ts:List AT:=[.st [.i .i64,.i .i64,.s .u64],.st [.i .i64,.i .i64,.s .u64]]
def A3.Check.spec:Entry:=entry A3.Check.ts A3.Check.pre A3.Check.out
def A3.finite.pre:List Atom→Bool
 | [.i r,.i c,.l l]=>Ag l&&A0 r c l
 | _=>false
def A3.finite.out:List Atom→DV
 | [.i r,.i c,.l l]=>.tup [.agg [.int .i64 ((Gx r c l).1),.int .i64 ((Gx r c l).2.1),.ints .arg .u64 ((Gx r c l).2.2.1)],.int .i64 ((Gx r c l).2.2.2)]
 | _=>.undef
abbrev A3.finite.ts:List AT:=[.st [.i .i64,.i .i64,.s .u64]]
def A3.finite.spec:Entry:=entry A3.finite.ts A3.finite.pre A3.finite.out
def A3.Cq.pre:List Atom→Bool
 | [.i _r,.i _c,.l l,.i _p,.i _q,.l m]=>Ag l&&Ag m
 | _=>false
def A3.Cq.out:List Atom→DV
 | [.i r,.i c,.l l,.i p,.i q,.l m]=>.tup [.agg [.int .i64 ((Sz r c l p q m).1),.int .i64 ((Sz r c l p q m).2.1),.ints .arg .u64 ((Sz r c l p q m).2.2.1)],.int .i64 ((Sz r c l p q m).2.2.2)]
 | _=>.undef
abbrev A3.Cq.ts:List AT:=[.st [.i .i64,.i .i64,.s .u64],.st [.i .i64,.i .i64,.s .u64]]
def A3.Cq.spec:Entry:=entry A3.Cq.ts A3.Cq.pre A3.Cq.out
def math.G7.pre:List Atom→Bool
 | [.f _x]=>true
 | _=>false
def math.G7.out:List Atom→DV
 | [.f x]=>.fl (Hj x)
 | _=>.undef
abbrev math.G7.ts:List AT:=[.fl]
def math.G7.spec:Entry:=entry math.G7.ts math.G7.pre math.G7.out
def math.Ho.pre:List Atom→Bool
 | [.f x]=>T7 x
 | _=>false
def math.Ho.out:List Atom→DV
 | [.f x]=>.bool (decide (Ao x=4))
 | _=>.undef
abbrev math.Ho.ts:List AT:=[.fl]
def math.Ho.spec:Entry:=entry math.Ho.ts math.Ho.pre math.Ho.out
def math.Hp.pre:List Atom→Bool
 | [.f x,.i s]=>T7 x&&decide (s=0)
 | _=>false
def math.Hp.out:List Atom→DV
 | [.f x,.i _s]=>.bool (decide (Ao x=3))
 | _=>.undef
abbrev math.Hp.ts:List AT:=[.fl,.i .i64]
def math.Hp.spec:Entry:=entry math.Hp.ts math.Hp.pre math.Hp.out
def math.normalize.pre:List Atom→Bool
 | [.f x]=>Ag8 x
 | _=>false
def math.normalize.out:List Atom→DV
 | [.f x]=>.tup [.fl (Mm x),.int .i64 (Je x)]
 | _=>.undef
abbrev math.normalize.ts:List AT:=[.fl]
def math.normalize.spec:Entry:=entry math.normalize.ts math.normalize.pre math.normalize.out
def math.D2.pre:List Atom→Bool
 | [.f x,.f y]=>Ag8 y&&decide (x=0)
 | _=>false
def math.D2.out:List Atom→DV
 | [.f _x,.f y]=>.fl (Bp (B0 y) 0)
 | _=>.undef
abbrev math.D2.ts:List AT:=[.fl,.fl]
def math.D2.spec:Entry:=entry math.D2.ts math.D2.pre math.D2.out
def math.W4.pre:List Atom→Bool
 | [.i _s]=>true
 | _=>false
def math.W4.out:List Atom→DV
 | [.i s]=>.fl (Bp (decide (s<0)) Eh)
 | _=>.undef
abbrev math.W4.ts:List AT:=[.i .i64]
def math.W4.spec:Entry:=entry math.W4.ts math.W4.pre math.W4.out
def math.G4.pre:List Atom→Bool
 | [.f x,.i k]=>T7 x&&Co (-2300≤k∧k≤2300)
 | _=>false
def math.G4.out:List Atom→DV
 | [.f x,.i k]=>.fl (I4 x k)
 | _=>.undef
abbrev math.G4.ts:List AT:=[.fl,.i .i64]
def math.G4.spec:Entry:=entry math.G4.ts math.G4.pre math.G4.out
def math.H2.pre:List Atom→Bool
 | [.f x,.i k]=>T7 x&&Co (-2300≤k∧k≤2300)
 | _=>false
def math.H2.out:List Atom→DV
 | [.f x,.i k]=>.fl (I4 x k)
 | _=>.undef
abbrev math.H2.ts:List AT:=[.fl,.i .i64]
def math.H2.spec:Entry:=entry math.H2.ts math.H2.pre math.H2.out
def Ai.Bt.pre:List Atom→Bool
 | [.i a,.i k]=>Ds a k
 | _=>false
def Ai.Bt.out:List Atom→DV
 | [.i a,.i k]=>.int .u64 (B3 a k)
 | _=>.undef
abbrev Ai.Bt.ts:List AT:=[.i .u64,.i .i64]
def Ai.Bt.spec:Entry:=entry Ai.Bt.ts Ai.Bt.pre Ai.Bt.out
def Bq.ends.pre:List Atom→Bool
 | [.i b]=>Ak b
 | _=>false
def Bq.ends.out:List Atom→DV
 | [.i b]=>.int .i64 (Rm b)
 | _=>.undef
abbrev Bq.ends.ts:List AT:=[.i .u64]
def Bq.ends.spec:Entry:=entry Bq.ends.ts Bq.ends.pre Bq.ends.out
def Bq.Order.pre:List Atom→Bool
 | [.i a,.i b]=>Ak a&&Ak b
 | _=>false
def Bq.Order.out:List Atom→DV
 | [.i a,.i b]=>.tup [.int .i64 (Tn a b),.bool (Aby a b)]
 | _=>.undef
abbrev Bq.Order.ts:List AT:=[.i .u64,.i .u64]
def Bq.Order.spec:Entry:=entry Bq.Order.ts Bq.Order.pre Bq.Order.out
def Bq.G7.pre:List Atom→Bool
 | [.i a]=>Ak a
 | _=>false
def Bq.G7.out:List Atom→DV
 | [.i a]=>.int .u64 (Jt a)
 | _=>.undef
abbrev Bq.G7.ts:List AT:=[.i .u64]
def Bq.G7.spec:Entry:=entry Bq.G7.ts Bq.G7.pre Bq.G7.out
def Bq.Max.pre:List Atom→Bool
 | [.i a,.i b]=>Ak a&&Ak b
 | _=>false
def Bq.Max.out:List Atom→DV
 | [.i a,.i b]=>.int .u64 (Pc a b)
 | _=>.undef
abbrev Bq.Max.ts:List AT:=[.i .u64,.i .u64]
def Bq.Max.spec:Entry:=entry Bq.Max.ts Bq.Max.pre Bq.Max.out
def Dc.Db.down.pre:List Atom→Bool
 | [.i _n,.i _k]=>true
 | _=>false
def Dc.Db.down.out:List Atom→DV
 | [.i _n,.i k]=>.int .i64 k
 | _=>.undef
abbrev Dc.Db.down.ts:List AT:=[.i .i64,.i .i64]
def Dc.Db.down.spec:Entry:=entry Dc.Db.down.ts Dc.Db.down.pre Dc.Db.down.out
def solve.El.pre:List Atom→Bool
 | [.i _i,.i _k]=>true
 | _=>false
def solve.El.out:List Atom→DV
 | [.i i,.i k]=>.bool (decide (k<i))
 | _=>.undef
abbrev solve.El.ts:List AT:=[.i .i64,.i .i64]
def solve.El.spec:Entry:=entry solve.El.ts solve.El.pre solve.El.out
def solve.A4.Lo.pre:List Atom→Bool
 | [.i r,.i c,.l l,.i p,.i q,.l m,.i n]=>Q1 r c l p q m&&decide (n=r)
 | _=>false
def solve.A4.Lo.out:List Atom→DV
 | [.i r,.i c,.l l,.i _p,.i q,.l m,.i _n]=>.tup [.agg [.int .i64 ((Gx r q (loG c l q m (toNat r) (toNat q))).1),.int .i64 ((Gx r q (loG c l q m (toNat r) (toNat q))).2.1),.ints .fresh .u64 ((Gx r q (loG c l q m (toNat r) (toNat q))).2.2.1)],.int .i64 ((Gx r q (loG c l q m (toNat r) (toNat q))).2.2.2)]
 | _=>.undef
abbrev solve.A4.Lo.ts:List AT:=[.st [.i .i64,.i .i64,.s .u64],.st [.i .i64,.i .i64,.s .u64],.fm 77 [.i .i64],.fn 78 []]
def solve.A4.Lo.spec:Entry:=entry solve.A4.Lo.ts solve.A4.Lo.pre solve.A4.Lo.out
def solve.Ct.pre:List Atom→Bool
 | [.i _r,.i _c,.l l,.i _p,.i _q,.l m]=>Ag l&&Ag m
 | _=>false
def solve.Ct.out:List Atom→DV
 | [.i r,.i c,.l l,.i p,.i q,.l m]=>.tup [.agg [.int .i64 ((Ud r c l p q m).1),.int .i64 ((Ud r c l p q m).2.1),.ints .fresh .u64 ((Ud r c l p q m).2.2.1)],.int .i64 ((Ud r c l p q m).2.2.2)]
 | _=>.undef
abbrev solve.Ct.ts:List AT:=[.st [.i .i64,.i .i64,.s .u64],.st [.i .i64,.i .i64,.s .u64]]
def solve.Ct.spec:Entry:=entry solve.Ct.ts solve.Ct.pre solve.Ct.out
def A3.Ct.pre:List Atom→Bool
 | [.i _r,.i _c,.l l,.i _p,.i _q,.l m]=>Ag l&&Ag m
 | _=>false
def A3.Ct.out:List Atom→DV
 | [.i r,.i c,.l l,.i p,.i q,.l m]=>.tup [.agg [.int .i64 ((Ud r c l p q m).1),.int .i64 ((Ud r c l p q m).2.1),.ints .arg .u64 ((Ud r c l p q m).2.2.1)],.int .i64 ((Ud r c l p q m).2.2.2)]
 | _=>.undef
abbrev A3.Ct.ts:List AT:=[.st [.i .i64,.i .i64,.s .u64],.st [.i .i64,.i .i64,.s .u64]]
def A3.Ct.spec:Entry:=entry A3.Ct.ts A3.Ct.pre A3.Ct.out
def A3.Flat.pre:List Atom→Bool
 | [.i r,.i c,.l l]=>(A0 r c l&&Ag l)&&Dj l
 | _=>false
def A3.Flat.out:List Atom→DV
 | [.i r,.i c,.l l]=>.bool (Wq r c l)
 | _=>.undef
abbrev A3.Flat.ts:List AT:=[.st [.i .i64,.i .i64,.s .u64]]
def A3.Flat.spec:Entry:=entry A3.Flat.ts A3.Flat.pre A3.Flat.out
def root.G2.pre:List Atom→Bool
 | [.i m]=>Co (0≤m∧m<9223372036854775808)
 | _=>false
def root.G2.out:List Atom→DV
 | [.i m]=>.tup [.int .u64 (Ve m),.bool (Vf m)]
 | _=>.undef
abbrev root.G2.ts:List AT:=[.i .u64]
def root.G2.spec:Entry:=entry root.G2.ts root.G2.pre root.G2.out
def root.Sqrt.pre:List Atom→Bool
 | [.i a]=>Ak a
 | _=>false
def root.Sqrt.out:List Atom→DV
 | [.i a]=>.tup [.int .u64 (Gc a),.int .u8 (Q3 a)]
 | _=>.undef
abbrev root.Sqrt.ts:List AT:=[.i .u64]
def root.Sqrt.spec:Entry:=entry root.Sqrt.ts root.Sqrt.pre root.Sqrt.out
def Ah.Sqrt.pre:List Atom→Bool
 | [.i a]=>Ak a
 | _=>false
def Ah.Sqrt.out:List Atom→DV
 | [.i a]=>.int .u64 (Gc a)
 | _=>.undef
abbrev Ah.Sqrt.ts:List AT:=[.i .u64]
def Ah.Sqrt.spec:Entry:=entry Ah.Sqrt.ts Ah.Sqrt.pre Ah.Sqrt.out
def compare.K3.pre:List Atom→Bool
 | [.i a]=>Ak a
 | _=>false
def compare.K3.out:List Atom→DV
 | [.i a]=>.int .i64 (Bz a)
 | _=>.undef
abbrev compare.K3.ts:List AT:=[.i .u64]
def compare.K3.spec:Entry:=entry compare.K3.ts compare.K3.pre compare.K3.out
def Ah.Norm.pre:List Atom→Bool
 | [.l x]=>Cy x&&Co (length x≤64)
 | _=>false
def Ah.Norm.out:List Atom→DV
 | [.l x]=>.tup [.int .u64 (Dz x),.int .i64 (0:Int)]
 | _=>.undef
abbrev Ah.Norm.ts:List AT:=[.s .u64]
def Ah.Norm.spec:Entry:=entry Ah.Norm.ts Ah.Norm.pre Ah.Norm.out
def Ar.Bw.pre:List Atom→Bool
 | [.l x]=>Cy x
 | _=>false
def Ar.Bw.out:List Atom→DV
 | [.l x]=>.bool (En x)
 | _=>.undef
abbrev Ar.Bw.ts:List AT:=[.s .u64]
def Ar.Bw.spec:Entry:=entry Ar.Bw.ts Ar.Bw.pre Ar.Bw.out
def Ar.lead.pre:List Atom→Bool
 | [.l x]=>Cy x
 | _=>false
def Ar.lead.out:List Atom→DV
 | [.l x]=>.int .u64 (Pf x)
 | _=>.undef
abbrev Ar.lead.ts:List AT:=[.s .u64]
def Ar.lead.spec:Entry:=entry Ar.lead.ts Ar.lead.pre Ar.lead.out
def Ar.Dq.pre:List Atom→Bool
 | [.l x,.i k]=>Cy x&&Co (length x≤1000∧-2300≤k∧k≤2300)
 | _=>false
def Ar.Dq.out:List Atom→DV
 | [.l x,.i k]=>.ints .fresh .u64 (Bs x k)
 | _=>.undef
abbrev Ar.Dq.ts:List AT:=[.s .u64,.i .i64]
def Ar.Dq.spec:Entry:=entry Ar.Dq.ts Ar.Dq.pre Ar.Dq.out
def Ar.Fu.pre:List Atom→Bool
 | [.i _i]=>true
 | _=>false
def Ar.Fu.out:List Atom→DV
 | [.i _i]=>.int .u64 (0:Int)
 | _=>.undef
abbrev Ar.Fu.ts:List AT:=[.i .i64]
def Ar.Fu.spec:Entry:=entry Ar.Fu.ts Ar.Fu.pre Ar.Fu.out
def Ar.Ft.pre:List Atom→Bool
 | [.i i,.l y,.i d]=>(Co (0≤i∧i<length y)&&Ag y)&&Ak d
 | _=>false
def Ar.Ft.out:List Atom→DV
 | [.i i,.l y,.i d]=>.int .u64 (Ez (getD y (toNat i) 0) d)
 | _=>.undef
abbrev Ar.Ft.ts:List AT:=[.i .i64,.cp [.s .u64],.cp [.i .u64]]
def Ar.Ft.spec:Entry:=entry Ar.Ft.ts Ar.Ft.pre Ar.Ft.out
def Ar.row.Zero.pre:List Atom→Bool
 | [.i n]=>Co (1≤n∧n≤64)
 | _=>false
def Ar.row.Zero.out:List Atom→DV
 | [.i n]=>.ints .fresh .u64 (Jq (toNat n) (fun _=>0))
 | _=>.undef
abbrev Ar.row.Zero.ts:List AT:=[.i .i64,.fn 254 []]
def Ar.row.Zero.spec:Entry:=entry Ar.row.Zero.ts Ar.row.Zero.pre Ar.row.Zero.out
def Ar.row.Div.pre:List Atom→Bool
 | [.i n,.l y,.i d]=>(Co (1≤n∧n≤64∧n=length y)&&Ag y)&&Ak d
 | _=>false
def Ar.row.Div.out:List Atom→DV
 | [.i n,.l y,.i d]=>.ints .fresh .u64 (Jq (toNat n) (fun j=>Ez (getD y j 0) d))
 | _=>.undef
abbrev Ar.row.Div.ts:List AT:=[.i .i64,.fn 259 [.cp [.s .u64],.cp [.i .u64]]]
def Ar.row.Div.spec:Entry:=entry Ar.row.Div.ts Ar.row.Div.pre Ar.row.Div.out
def Ar.Dw.pre:List Atom→Bool
 | [.l x]=>Cy x
 | _=>false
def Ar.Dw.out:List Atom→DV
 | [.l x]=>.tup [.ints .fresh .u64 ((Cr x).1),.int .u64 ((Cr x).2.1),.int .u64 ((Cr x).2.2.1),.int .i64 ((Cr x).2.2.2)]
 | _=>.undef
abbrev Ar.Dw.ts:List AT:=[.s .u64]
def Ar.Dw.spec:Entry:=entry Ar.Dw.ts Ar.Dw.pre Ar.Dw.out
def Ar.Apply.pre:List Atom→Bool
 | [.i r,.i c,.l l,.i i,.i k,.l v,.i t]=>((A0 r c l&&Ic r c i k v)&&(Ag l&&Ag v))&&Ak t
 | _=>false
def Ar.Apply.out:List Atom→DV
 | [.i r,.i c,.l l,.i i,.i k,.l v,.i t]=>.tup [.agg [.int .i64 r,.int .i64 c,.ints (.own 114002 37) .u64 (Fk (toNat r) (toNat c) l i k v t)],.int .i64 (0:Int)]
 | _=>.undef
abbrev Ar.Apply.ts:List AT:=[.st [.i .i64,.i .i64,.s .u64],.i .i64,.i .i64,.s .u64,.i .u64]
def Ar.Apply.spec:Entry:=entry Ar.Apply.ts Ar.Apply.pre Ar.Apply.out
def qr.down.pre:List Atom→Bool
 | [.i r,.i c,.l l]=>(A0 r c l&&Dj l)&&Ag l
 | _=>false
def qr.down.out:List Atom→DV
 | [.i r,.i c,.l l]=>.tup [.agg [.int .i64 ((Gk r c l).1),.int .i64 ((Gk r c l).2.1),.ints .arg .u64 ((Gk r c l).2.2.1)],.recs .fresh 2 (Lb r c l),.int .i64 ((Gk r c l).2.2.2)]
 | _=>.undef
abbrev qr.down.ts:List AT:=[.st [.i .i64,.i .i64,.s .u64]]
def qr.down.spec:Entry:=entry qr.down.ts qr.down.pre qr.down.out
def qr.By.pre:List Atom→Bool
 | [.i _r,.i _c,.l l]=>Ag l
 | _=>false
def qr.By.out:List Atom→DV
 | [.i r,.i c,.l l]=>.tup [.agg [.int .i64 ((qX r c l).1),.int .i64 ((qX r c l).2.1),.ints .arg .u64 ((qX r c l).2.2.1)],.agg [.int .i64 ((rX r c l).1),.int .i64 ((rX r c l).2.1),.ints .arg .u64 ((rX r c l).2.2.1)],.int .i64 (Gs r c l)]
 | _=>.undef
abbrev qr.By.ts:List AT:=[.st [.i .i64,.i .i64,.s .u64]]
def qr.By.spec:Entry:=entry qr.By.ts qr.By.pre qr.By.out
def Bq.K3.pre:List Atom→Bool
 | [.i a]=>Ak a
 | _=>false
def Bq.K3.out:List Atom→DV
 | [.i a]=>.int .i64 (Bz a)
 | _=>.undef
abbrev Bq.K3.ts:List AT:=[.i .u64]
def Bq.K3.spec:Entry:=entry Bq.K3.ts Bq.K3.pre Bq.K3.out
def Ai.Br.pre:List Atom→Bool
 | [.l x]=>Cy x
 | _=>false
def Ai.Br.out:List Atom→DV
 | [.l x]=>.int .u64 (Bl x)
 | _=>.undef
abbrev Ai.Br.ts:List AT:=[.s .u64]
def Ai.Br.spec:Entry:=entry Ai.Br.ts Ai.Br.pre Ai.Br.out
def math.Sqrt.pre:List Atom→Bool
 | [.f _x]=>true
 | _=>false
def math.Sqrt.out:List Atom→DV
 | [.f x]=>.fl (((Ieee.double.sqrt x).getD nanBits))
 | _=>.undef
abbrev math.Sqrt.ts:List AT:=[.fl]
def math.Sqrt.spec:Entry:=entry math.Sqrt.ts math.Sqrt.pre math.Sqrt.out
def Ai.Sqrt.pre:List Atom→Bool
 | [.i a]=>Ak a
 | _=>false
def Ai.Sqrt.out:List Atom→DV
 | [.i a]=>.int .u64 (Gc a)
 | _=>.undef
abbrev Ai.Sqrt.ts:List AT:=[.i .u64]
def Ai.Sqrt.spec:Entry:=entry Ai.Sqrt.ts Ai.Sqrt.pre Ai.Sqrt.out
def Ai.Norm.pre:List Atom→Bool
 | [.l x]=>Cy x
 | _=>false
def Ai.Norm.out:List Atom→DV
 | [.l x]=>.int .u64 (Dz x)
 | _=>.undef
abbrev Ai.Norm.ts:List AT:=[.s .u64]
def Ai.Norm.spec:Entry:=entry Ai.Norm.ts Ai.Norm.pre Ai.Norm.out
def Bf.Bw.pre:List Atom→Bool
 | [.l x]=>Cy x
 | _=>false
def Bf.Bw.out:List Atom→DV
 | [.l x]=>.bool (En (List.drop 1 x))
 | _=>.undef
abbrev Bf.Bw.ts:List AT:=[.s .u64]
def Bf.Bw.spec:Entry:=entry Bf.Bw.ts Bf.Bw.pre Bf.Bw.out
def Bf.lead.pre:List Atom→Bool
 | [.l x]=>Cy x
 | _=>false
def Bf.lead.out:List Atom→DV
 | [.l x]=>.int .i64 (Qr x 0)
 | _=>.undef
abbrev Bf.lead.ts:List AT:=[.s .u64]
def Bf.lead.spec:Entry:=entry Bf.lead.ts Bf.lead.pre Bf.lead.out
def Bf.Dw.pre:List Atom→Bool
 | [.l x]=>Cy x&&Co (1≤length x∧length x≤64)
 | _=>false
def Bf.Dw.out:List Atom→DV
 | [.l x]=>.tup [.agg [.ints .fresh .u64 ((J0 x).1),.int .u64 ((J0 x).2.1),.int .u64 ((J0 x).2.2.1)],.bool (decide ((J0 x).2.2.2=0))]
 | _=>.undef
abbrev Bf.Dw.ts:List AT:=[.s .u64]
def Bf.Dw.spec:Entry:=entry Bf.Dw.ts Bf.Dw.pre Bf.Dw.out
def Bf.Apply.pre:List Atom→Bool
 | [.i r,.i c,.l l,.i i,.i k,.l v,.i t]=>((A0 r c l&&Ic r c i k v)&&(Ag l&&Ag v))&&Ak t
 | _=>false
def Bf.Apply.out:List Atom→DV
 | [.i r,.i c,.l l,.i i,.i k,.l v,.i t]=>.agg [.int .i64 r,.int .i64 c,.ints .arg .u64 (Fk (toNat r) (toNat c) l i k v t)]
 | _=>.undef
abbrev Bf.Apply.ts:List AT:=[.st [.i .i64,.i .i64,.s .u64],.i .i64,.i .i64,.s .u64,.i .u64]
def Bf.Apply.spec:Entry:=entry Bf.Apply.ts Bf.Apply.pre Bf.Apply.out
def Cm.Dr.pre:List Atom→Bool
 | [.i r,.i c,.l l,.i j,.i _b]=>A0 r c l&&Co (0≤j∧j<r∧j<c)
 | _=>false
def Cm.Dr.out:List Atom→DV
 | [.i r,.i c,.l l,.i j,.i b]=>.agg [.int .i64 r,.int .i64 c,.ints .arg .u64 (Nt (toNat r) (toNat c) l (toNat j) b)]
 | _=>.undef
abbrev Cm.Dr.ts:List AT:=[.st [.i .i64,.i .i64,.s .u64],.i .i64,.i .u64]
def Cm.Dr.spec:Entry:=entry Cm.Dr.ts Cm.Dr.pre Cm.Dr.out
def Cm.By.pre:List Atom→Bool
 | [.i r,.i c,.l l]=>(A0 r c l&&Dj l)&&Ag l
 | _=>false
def Cm.By.out:List Atom→DV
 | [.i r,.i c,.l l]=>.agg [.int .i64 ((qX r c l).1),.int .i64 ((qX r c l).2.1),.ints .arg .u64 ((qX r c l).2.2.1),.int .i64 ((rX r c l).1),.int .i64 ((rX r c l).2.1),.ints .arg .u64 ((rX r c l).2.2.1),.bool (decide (Gs r c l=0))]
 | _=>.undef
abbrev Cm.By.ts:List AT:=[.st [.i .i64,.i .i64,.s .u64]]
def Cm.By.spec:Entry:=entry Cm.By.ts Cm.By.pre Cm.By.out
def Af.Bn.own.pre:List Atom→Bool
 | [.i a,.i b]=>Bv a&&Bv b
 | _=>false
def Af.Bn.own.out:List Atom→DV
 | [.i a,.i b]=>.agg [.int .i64 a,.int .i64 b,.ints (.own 10 37) .u64 (Cx (toNat a) (toNat b) (fun _ _=>0))]
 | _=>.undef
abbrev Af.Bn.own.ts:List AT:=[.i .i64,.i .i64]
def Af.Bn.own.spec:Entry:=entry Af.Bn.own.ts Af.Bn.own.pre Af.Bn.own.out
def Af.Sub.pre:List Atom→Bool
 | [.i r,.i c,.l l,.i p,.i q,.l m]=>(A0 r c l&&A0 p q m)&&((Ag l&&Ag m)&&decide (p=r∧q=c))
 | _=>false
def Af.Sub.out:List Atom→DV
 | [.i r,.i c,.l l,.i _p,.i q,.l m]=>.agg [.int .i64 r,.int .i64 c,.ints .fresh .u64 (Cx (toNat r) (toNat c) (fun j1 j2=>Dl (D0 c l j1 j2) (D0 q m j1 j2)))]
 | _=>.undef
abbrev Af.Sub.ts:List AT:=[.st [.i .i64,.i .i64,.s .u64],.st [.i .i64,.i .i64,.s .u64]]
def Af.Sub.spec:Entry:=entry Af.Sub.ts Af.Sub.pre Af.Sub.out
def A0r.Ha.pre:List Atom→Bool
 | []=>true
 | _=>false
def rq.both.pre:List Atom→Bool
 | [.i _r,.i _c,.l _l,.i _p,.i _q,.l _m]=>true
 | _=>false
def rq.both.out:List Atom→DV
 | [.i r,.i c,.l l,.i p,.i q,.l m]=>.tup [.agg [.int .i64 ((Ap p q m).1),.int .i64 ((Ap p q m).2.1),.ints .fresh .u64 ((Ap p q m).2.2.1)],.agg [.int .i64 ((Ap r c l).1),.int .i64 ((Ap r c l).2.1),.ints .fresh .u64 ((Ap r c l).2.2.1)]]
 | _=>.undef
abbrev rq.both.ts:List AT:=[.st [.i .i64,.i .i64,.s .u64],.st [.i .i64,.i .i64,.s .u64]]
def rq.both.spec:Entry:=entry rq.both.ts rq.both.pre rq.both.out
def rq.Lq.pre:List Atom→Bool
 | [.i _r,.i _c,.l l]=>Ag l
 | _=>false
def rq.Lq.out:List Atom→DV
 | [.i r,.i c,.l l]=>.tup [.agg [.int .i64 ((Nm r c l).1),.int .i64 ((Nm r c l).2.1),.ints .fresh .u64 ((Nm r c l).2.2.1)],.agg [.int .i64 ((P8 r c l).1),.int .i64 ((P8 r c l).2.1),.ints .fresh .u64 ((P8 r c l).2.2.1)],.int .i64 (Qp r c l)]
 | _=>.undef
abbrev rq.Lq.ts:List AT:=[.st [.i .i64,.i .i64,.s .u64]]
def rq.Lq.spec:Entry:=entry rq.Lq.ts rq.Lq.pre rq.Lq.out
def Bh.Check.pre:List Atom→Bool
 | [.i _r,.i _c,.l l,.i _p,.i _q,.l m,.i _u,.i _v,.l h]=>Pn l m h
 | _=>false
def Bh.Check.out:List Atom→DV
 | [.i r,.i c,.l l,.i p,.i q,.l m,.i u,.i v,.l h]=>.int .i64 (Ix r c l p q m u v h)
 | _=>.undef
abbrev Bh.Check.ts:List AT:=[.st [.i .i64,.i .i64,.s .u64,.i .i64,.i .i64,.s .u64,.i .i64,.i .i64,.s .u64]]
def Bh.Check.spec:Entry:=entry Bh.Check.ts Bh.Check.pre Bh.Check.out
def Bh.Et.pre:List Atom→Bool
 | [.i _r,.i _c,.l _l,.i x,.i y]=>Co (-100≤x∧x≤100∧-100≤y∧y≤100)
 | _=>false
def Bh.Et.out:List Atom→DV
 | [.i r,.i c,.l l,.i x,.i y]=>.agg [.int .i64 ((Az r c l x 0 (y-x) c).1),.int .i64 ((Az r c l x 0 (y-x) c).2.1),.ints .fresh .u64 ((Az r c l x 0 (y-x) c).2.2.1)]
 | _=>.undef
abbrev Bh.Et.ts:List AT:=[.st [.i .i64,.i .i64,.s .u64],.i .i64,.i .i64]
def Bh.Et.spec:Entry:=entry Bh.Et.ts Bh.Et.pre Bh.Et.out
def Bh.apart.pre:List Atom→Bool
 | [.i r,.i c,.l l,.i p,.i q,.l m,.i u,.i v,.l h]=>Pn l m h&&decide (Ix r c l p q m u v h=0)
 | _=>false
def Bh.apart.out:List Atom→DV
 | [.i r,.i c,.l l,.i p,.i q,.l m,.i u,.i v,.l h]=>.tup [.agg [.int .i64 ((Ou (gE r c l p q m u v h) (gT r c l)).1),.int .i64 ((Ou (gE r c l p q m u v h) (gT r c l)).2.1),.ints .fresh .u64 ((Ou (gE r c l p q m u v h) (gT r c l)).2.2.1),.int .i64 ((Ou (gE r c l p q m u v h) (Dx c (gC r c l u v h))).1),.int .i64 ((Ou (gE r c l p q m u v h) (Dx c (gC r c l u v h))).2.1),.ints .fresh .u64 ((Ou (gE r c l p q m u v h) (Dx c (gC r c l u v h))).2.2.1),.int .i64 ((Ou (gE r c l p q m u v h) (Eg r c (gC r c l u v h))).1),.int .i64 ((Ou (gE r c l p q m u v h) (Eg r c (gC r c l u v h))).2.1),.ints .fresh .u64 ((Ou (gE r c l p q m u v h) (Eg r c (gC r c l u v h))).2.2.1),.int .i64 ((Ou (gE r c l p q m u v h) (Dx c (gC r c l p q m))).1),.int .i64 ((Ou (gE r c l p q m u v h) (Dx c (gC r c l p q m))).2.1),.ints .fresh .u64 ((Ou (gE r c l p q m u v h) (Dx c (gC r c l p q m))).2.2.1),.int .i64 ((Ou (gE r c l p q m u v h) (Eg r c (gC r c l p q m))).1),.int .i64 ((Ou (gE r c l p q m u v h) (Eg r c (gC r c l p q m))).2.1),.ints .fresh .u64 ((Ou (gE r c l p q m u v h) (Eg r c (gC r c l p q m))).2.2.1)],.int .i64 (gE r c l p q m u v h)]
 | _=>.undef
abbrev Bh.apart.ts:List AT:=[.st [.i .i64,.i .i64,.s .u64,.i .i64,.i .i64,.s .u64,.i .i64,.i .i64,.s .u64]]
def Bh.apart.spec:Entry:=entry Bh.apart.ts Bh.apart.pre Bh.apart.out
def Bh.errors.pre:List Atom→Bool
 | [.i _r,.i _c,.l l,.i _p,.i _q,.l m]=>Ag l&&Ag m
 | _=>false
def Bh.errors.out:List Atom→DV
 | [.i r,.i c,.l l,.i p,.i q,.l m]=>.tup [.agg [.int .i64 ((erZ (r,c,l,0) (p,q,m,0)).1),.int .i64 ((erZ (r,c,l,0) (p,q,m,0)).2.1),.ints .fresh .u64 ((erZ (r,c,l,0) (p,q,m,0)).2.2.1)],.int .i64 ((erZ (r,c,l,0) (p,q,m,0)).2.2.2)]
 | _=>.undef
abbrev Bh.errors.ts:List AT:=[.st [.i .i64,.i .i64,.s .u64],.st [.i .i64,.i .i64,.s .u64]]
def Bh.errors.spec:Entry:=entry Bh.errors.ts Bh.errors.pre Bh.errors.out
def Bh.Solve.pre:List Atom→Bool
 | [.i _r,.i _c,.l l,.i _p,.i _q,.l m,.i _u,.i _v,.l h]=>Pn l m h
 | _=>false
def Bh.Solve.out:List Atom→DV
 | [.i r,.i c,.l l,.i p,.i q,.l m,.i u,.i v,.l h]=>.tup [.agg [.int .i64 ((gX r c l p q m u v h).1),.int .i64 ((gX r c l p q m u v h).2.1),.ints .fresh .u64 ((gX r c l p q m u v h).2.2.1)],.agg [.int .i64 ((gY r c l p q m u v h).1),.int .i64 ((gY r c l p q m u v h).2.1),.ints .fresh .u64 ((gY r c l p q m u v h).2.2.1)],.int .i64 ((gX r c l p q m u v h).2.2.2)]
 | _=>.undef
abbrev Bh.Solve.ts:List AT:=[.st [.i .i64,.i .i64,.s .u64,.i .i64,.i .i64,.s .u64,.i .i64,.i .i64,.s .u64]]
def Bh.Solve.spec:Entry:=entry Bh.Solve.ts Bh.Solve.pre Bh.Solve.out
def Hw.Lq.pre:List Atom→Bool
 | [.i r,.i c,.l l]=>(A0 r c l&&Dj l)&&Ag l
 | _=>false
def Hw.Lq.out:List Atom→DV
 | [.i r,.i c,.l l]=>.agg [.int .i64 ((P8 r c l).1),.int .i64 ((P8 r c l).2.1),.ints .arg .u64 ((P8 r c l).2.2.1),.int .i64 ((Nm r c l).1),.int .i64 ((Nm r c l).2.1),.ints .arg .u64 ((Nm r c l).2.2.1),.bool (decide (Qp r c l=0))]
 | _=>.undef
abbrev Hw.Lq.ts:List AT:=[.st [.i .i64,.i .i64,.s .u64]]
def Hw.Lq.spec:Entry:=entry Hw.Lq.ts Hw.Lq.pre Hw.Lq.out
def A8.Check.pre:List Atom→Bool
 | [.i _r,.i _c,.l l,.i _p,.i _q,.l m,.i _u,.i _v,.l h]=>Pn l m h
 | _=>false
def A8.Check.out:List Atom→DV
 | [.i r,.i c,.l l,.i p,.i q,.l m,.i u,.i v,.l h]=>.int .i64 (Ix r c l p q m u v h)
 | _=>.undef
abbrev A8.Check.ts:List AT:=[.st [.i .i64,.i .i64,.s .u64,.i .i64,.i .i64,.s .u64,.i .i64,.i .i64,.s .u64]]
def A8.Check.spec:Entry:=entry A8.Check.ts A8.Check.pre A8.Check.out
def A8.Hz.pre:List Atom→Bool
 | [.i _e]=>true
 | _=>false
def A8.Hz.out:List Atom→DV
 | [.i e]=>.agg [.int .i64 (0:Int),.int .i64 (0:Int),.ints .arg .u64 [],.int .i64 (0:Int),.int .i64 (0:Int),.ints .arg .u64 [],.int .i64 e]
 | _=>.undef
abbrev A8.Hz.ts:List AT:=[.i .i64]
def A8.Hz.spec:Entry:=entry A8.Hz.ts A8.Hz.pre A8.Hz.out
def A8.rows.pre:List Atom→Bool
 | [.i r,.i c,.l l,.i x,.i y]=>(A0 r c l&&Co (-100≤x∧x≤100∧-100≤y∧y≤100))&&E7 r c x 0 (y-x) c
 | _=>false
def A8.rows.out:List Atom→DV
 | [.i r,.i c,.l l,.i x,.i y]=>.agg [.int .i64 ((Az r c l x 0 (y-x) c).1),.int .i64 ((Az r c l x 0 (y-x) c).2.1),.ints .fresh .u64 ((Az r c l x 0 (y-x) c).2.2.1)]
 | _=>.undef
abbrev A8.rows.ts:List AT:=[.st [.i .i64,.i .i64,.s .u64],.i .i64,.i .i64]
def A8.rows.spec:Entry:=entry A8.rows.ts A8.rows.pre A8.rows.out
def A8.least.pre:List Atom→Bool
 | [.i r,.i c,.l l,.i _p,.i _q,.l m]=>((A0 r c l&&Dj l)&&(Ag l&&Ag m))&&decide (r≤c)
 | _=>false
def A8.least.out:List Atom→DV
 | [.i r,.i c,.l l,.i p,.i q,.l m]=>.tup [.agg [.int .i64 ((Tc (r,c,l,0) (p,q,m,0)).1),.int .i64 ((Tc (r,c,l,0) (p,q,m,0)).2.1),.ints .arg .u64 ((Tc (r,c,l,0) (p,q,m,0)).2.2.1)],.int .i64 ((Tc (r,c,l,0) (p,q,m,0)).2.2.2)]
 | _=>.undef
abbrev A8.least.ts:List AT:=[.st [.i .i64,.i .i64,.s .u64],.st [.i .i64,.i .i64,.s .u64]]
def A8.least.spec:Entry:=entry A8.least.ts A8.least.pre A8.least.out
def A8.Solve.pre:List Atom→Bool
 | [.i _r,.i _c,.l l,.i _p,.i _q,.l m,.i _u,.i _v,.l h]=>Pn l m h
 | _=>false
def A8.Solve.out:List Atom→DV
 | [.i r,.i c,.l l,.i p,.i q,.l m,.i u,.i v,.l h]=>.agg [.int .i64 ((gX r c l p q m u v h).1),.int .i64 ((gX r c l p q m u v h).2.1),.ints .arg .u64 ((gX r c l p q m u v h).2.2.1),.int .i64 ((gY r c l p q m u v h).1),.int .i64 ((gY r c l p q m u v h).2.1),.ints .arg .u64 ((gY r c l p q m u v h).2.2.1),.int .i64 ((gX r c l p q m u v h).2.2.2)]
 | _=>.undef
abbrev A8.Solve.ts:List AT:=[.st [.i .i64,.i .i64,.s .u64,.i .i64,.i .i64,.s .u64,.i .i64,.i .i64,.s .u64]]
def A8.Solve.spec:Entry:=entry A8.Solve.ts A8.Solve.pre A8.Solve.out
def Ai.C9.pre:List Atom→Bool
 | [.l x]=>Cy x&&Co (length x=1)
 | _=>false
def Ai.C9.out:List Atom→DV
 | [.l x]=>.agg [.bool (A6 (sqM (getD x 0 0))),.ints .arg .u32 (Aj (sqM (getD x 0 0))),.int .i64 (sqE (getD x 0 0))]
 | _=>.undef
abbrev Ai.C9.ts:List AT:=[.s .u64]
def Ai.C9.spec:Entry:=entry Ai.C9.ts Ai.C9.pre Ai.C9.out
def B8.one.pre:List Atom→Bool
 | [.i _b]=>true
 | _=>false
def B8.one.out:List Atom→DV
 | [.i b]=>.agg [.int .i64 (1:Int),.int .i64 (1:Int),.ints .fresh .u64 ([b])]
 | _=>.undef
abbrev B8.one.ts:List AT:=[.i .u64]
def B8.one.spec:Entry:=entry B8.one.ts B8.one.pre B8.one.out
def B8.Ha.pre:List Atom→Bool
 | []=>true
 | _=>false
def B8.Ha.out:List Atom→DV
 | []=>.bool true
 | _=>.undef
abbrev B8.Ha.ts:List AT:=[]
def B8.Ha.spec:Entry:=entry B8.Ha.ts B8.Ha.pre B8.Ha.out
def B8.task.pre:List Atom→Bool
 | [.i _r,.i _c,.l _l,.i _p,.i _q,.l _m,.i _u,.i _v,.l _h]=>true
 | _=>false
def B8.task.out:List Atom→DV
 | [.i r,.i c,.l l,.i p,.i q,.l m,.i u,.i v,.l h]=>.agg [.int .i64 r,.int .i64 c,.ints .arg .u64 l,.int .i64 p,.int .i64 q,.ints .arg .u64 m,.int .i64 u,.int .i64 v,.ints .arg .u64 h]
 | _=>.undef
abbrev B8.task.ts:List AT:=[.st [.i .i64,.i .i64,.s .u64,.i .i64,.i .i64,.s .u64,.i .i64,.i .i64,.s .u64]]
def B8.task.spec:Entry:=entry B8.task.ts B8.task.pre B8.task.out
def B8.Dd.pre:List Atom→Bool
 | [.i _r,.i _c,.l l,.i _p,.i _q,.l m,.i _u,.i _v,.l h]=>Pn l m h&&((Gp l&&Gp m)&&Gp h)
 | _=>false
def B8.Dd.out:List Atom→DV
 | [.i _r,.i _c,.l _l,.i _p,.i _q,.l _m,.i _u,.i _v,.l _h]=>.bool true
 | _=>.undef
abbrev B8.Dd.ts:List AT:=[.st [.i .i64,.i .i64,.s .u64,.i .i64,.i .i64,.s .u64,.i .i64,.i .i64,.s .u64]]
def B8.Dd.spec:Entry:=entry B8.Dd.ts B8.Dd.pre B8.Dd.out
def Bh.Solve.one.pre:List Atom→Bool
 | [.i r,.i c,.l l,.i p,.i q,.l m,.i u,.i v,.l h]=>Pn l m h&&Co (r=1∧c=0∧length ((0:Int)::l)=1∧p=1∧q=1∧m=[4607182418800017408]∧u=1∧v=1∧h=[4613937818241073152])
 | _=>false
def Bh.Solve.one.out:List Atom→DV
 | [.i _r,.i _c,.l _l,.i _p,.i _q,.l _m,.i _u,.i _v,.l _h]=>.tup [.agg [.int .i64 (0:Int),.int .i64 (1:Int),.ints .fresh .u64 []],.agg [.int .i64 (1:Int),.int .i64 (1:Int),.ints .fresh .u64 ([(4613937818241073152:Int)])],.int .i64 (0:Int)]
 | _=>.undef
abbrev Bh.Solve.one.ts:List AT:=[.st [.i .i64,.i .i64,.s .u64,.i .i64,.i .i64,.s .u64,.i .i64,.i .i64,.s .u64]]
def Bh.Solve.one.spec:Entry:=entry Bh.Solve.one.ts Bh.Solve.one.pre Bh.Solve.one.out
def Af.Part.m.pre:List Atom→Bool
 | [.i r,.i c,.l l,.i x,.i y,.i a,.i b]=>A0 r c l&&E7 r c x y a b
 | _=>false
def Af.Part.m.out:List Atom→DV
 | [.i r,.i c,.l l,.i x,.i y,.i a,.i b]=>.agg [.int .i64 ((Az r c l x y a b).1),.int .i64 ((Az r c l x y a b).2.1),.ints .fresh .u64 ((Az r c l x y a b).2.2.1)]
 | _=>.undef
abbrev Af.Part.m.ts:List AT:=[.st [.i .i64,.i .i64,.s .u64],.i .i64,.i .i64,.i .i64,.i .i64]
def Af.Part.m.spec:Entry:=entry Af.Part.m.ts Af.Part.m.pre Af.Part.m.out
def Af.Mul.m.pre:List Atom→Bool
 | [.i r,.i c,.l l,.i p,.i q,.l m]=>(A0 r c l&&A0 p q m)&&((Ag l&&Ag m)&&decide (c=p))
 | _=>false
def Af.Mul.m.out:List Atom→DV
 | [.i r,.i c,.l l,.i p,.i q,.l m]=>.agg [.int .i64 ((Fo r c l p q m).1),.int .i64 ((Fo r c l p q m).2.1),.ints .fresh .u64 ((Fo r c l p q m).2.2.1)]
 | _=>.undef
abbrev Af.Mul.m.ts:List AT:=[.st [.i .i64,.i .i64,.s .u64],.st [.i .i64,.i .i64,.s .u64]]
def Af.Mul.m.spec:Entry:=entry Af.Mul.m.ts Af.Mul.m.pre Af.Mul.m.out
def Af.Sub.m.pre:List Atom→Bool
 | [.i r,.i c,.l l,.i p,.i q,.l m]=>(A0 r c l&&A0 p q m)&&((Ag l&&Ag m)&&decide (p=r∧q=c))
 | _=>false
def Af.Sub.m.out:List Atom→DV
 | [.i r,.i c,.l l,.i p,.i q,.l m]=>.agg [.int .i64 ((Ok r c l p q m).1),.int .i64 ((Ok r c l p q m).2.1),.ints .fresh .u64 ((Ok r c l p q m).2.2.1)]
 | _=>.undef
abbrev Af.Sub.m.ts:List AT:=[.st [.i .i64,.i .i64,.s .u64],.st [.i .i64,.i .i64,.s .u64]]
def Af.Sub.m.spec:Entry:=entry Af.Sub.m.ts Af.Sub.m.pre Af.Sub.m.out
def Af.Cb.m.pre:List Atom→Bool
 | [.i r,.i c,.l l]=>A0 r c l
 | _=>false
def Af.Cb.m.out:List Atom→DV
 | [.i r,.i c,.l l]=>.agg [.int .i64 ((Ap r c l).1),.int .i64 ((Ap r c l).2.1),.ints .fresh .u64 ((Ap r c l).2.2.1)]
 | _=>.undef
abbrev Af.Cb.m.ts:List AT:=[.st [.i .i64,.i .i64,.s .u64]]
def Af.Cb.m.spec:Entry:=entry Af.Cb.m.ts Af.Cb.m.pre Af.Cb.m.out
def A3.Flat.m.pre:List Atom→Bool
 | [.i r,.i c,.l l]=>(A0 r c l&&Ag l)&&Dj l
 | _=>false
def A3.Flat.m.out:List Atom→DV
 | [.i r,.i c,.l l]=>.bool ((Jv r c l).1)
 | _=>.undef
abbrev A3.Flat.m.ts:List AT:=[.st [.i .i64,.i .i64,.s .u64]]
def A3.Flat.m.spec:Entry:=entry A3.Flat.m.ts A3.Flat.m.pre A3.Flat.m.out
def Af.Fp.arg.pre:List Atom→Bool
 | [.i r,.i c,.l l,.i i,.i k,.i _b]=>Cj r c l i k
 | _=>false
def Af.Fp.arg.out:List Atom→DV
 | [.i r,.i c,.l l,.i i,.i k,.i b]=>.agg [.int .i64 r,.int .i64 c,.ints .arg .u64 (List.set l (toNat (i*c+k)) b)]
 | _=>.undef
abbrev Af.Fp.arg.ts:List AT:=[.st [.i .i64,.i .i64,.s .u64],.i .i64,.i .i64,.i .u64]
def Af.Fp.arg.spec:Entry:=entry Af.Fp.arg.ts Af.Fp.arg.pre Af.Fp.arg.out
def Af.Ew.arg.pre:List Atom→Bool
 | [.i n]=>Bv n
 | _=>false
def Af.Ew.arg.out:List Atom→DV
 | [.i n]=>.agg [.int .i64 n,.int .i64 n,.ints .arg .u64 (Jg (toNat n))]
 | _=>.undef
abbrev Af.Ew.arg.ts:List AT:=[.i .i64]
def Af.Ew.arg.spec:Entry:=entry Af.Ew.arg.ts Af.Ew.arg.pre Af.Ew.arg.out
def Ep.Canon.nb.pre:List Atom→Bool
 | [.f _x]=>true
 | _=>false
def Ep.Canon.nb.out:List Atom→DV
 | [.f x]=>.int .u64 (Ge x)
 | _=>.undef
abbrev Ep.Canon.nb.ts:List AT:=[.nb]
def Ep.Canon.nb.spec:Entry:=entry Ep.Canon.nb.ts Ep.Canon.nb.pre Ep.Canon.nb.out
def Cz.K1.pre:List Atom→Bool
 | [.i x]=>Ak x
 | _=>false
def Cz.K1.out:List Atom→DV
 | [.i x]=>.int .i64 (Ff x)
 | _=>.undef
abbrev Cz.K1.ts:List AT:=[.i .u64]
def Cz.K1.spec:Entry:=entry Cz.K1.ts Cz.K1.pre Cz.K1.out
def Ae.plus.own.pre:List Atom→Bool
 | [.l a,.l b]=>Gq a&&Gq b
 | _=>false
def Ae.plus.own.out:List Atom→DV
 | [.l a,.l b]=>.ints (.own 100005 173) .u32 (Jj a b)
 | _=>.undef
abbrev Ae.plus.own.ts:List AT:=[.s .u32,.s .u32]
def Ae.plus.own.spec:Entry:=entry Ae.plus.own.ts Ae.plus.own.pre Ae.plus.own.out
theorem tt0:∀ a b c:Bool,((a==a)&&(b&&(c&&true)))=(b&&c):=by decide
theorem tt1:∀ a b:Bool,(bif a then b else false)=(a&&b):=by decide
theorem Th:∀ a:Bool,(((!a)||(a==true))&&true)=true:=by decide
theorem L7:∀ a:Bool,((!(a==true))||((((!(a==true))||(a==true))&&true)&&true))=true:=by decide
theorem Oj:∀ a:Bool,((!(a==true))||true)=true:=by decide
theorem tt5:∀ a b:Bool,(bif a then true else b)=(a||b):=by decide
theorem Ye:∀ a:Bool,((!(!a))||(a==false))=true:=by decide
theorem Sr:∀ a:Bool,((!(a==false))||((((!(a==false))||(a==false))&&true)&&true))=true:=by decide
theorem tt8:∀ a:Bool,((!(a==false))||((((!(a==false))||(a==false))&&(((!(a==false))||(a==false))&&true))&&true))=true:=by decide
theorem Uc:∀ a:Bool,((!(a==false))||true)=true:=by decide
theorem Cd:∀ a:Bool,(a&&true)=a:=by decide
theorem A0b:∀ a b c d e:Bool,(bif a then (bif b then true else (bif c then (bif d then true else e) else false)) else false)=(a&&(b||(c&&(d||e)))):=by decide
theorem A0a:∀ a b:Bool,((!(a==true))||(((!(a==true))||(a==true))&&((!(!b))||((a==true)&&(b==false)))))=true:=by decide
theorem Az9:∀ a b c:Bool,((!((a==true)&&(b==false)))||(((!((a==true)&&(b==false)))||((a==true)&&(b==false)))&&(((!c)||(((a==true)&&(b==false))&&(c==true)))&&true)))=true:=by decide
theorem Az8:∀ a b c d:Bool,((!(((a==true)&&(b==false))&&(c==true)))||(((!(((a==true)&&(b==false))&&(c==true)))||(((a==true)&&(b==false))&&(c==true)))&&((!(!d))||((((a==true)&&(b==false))&&(c==true))&&(d==false)))))=true:=by decide
theorem Ax5:∀ a b c d:Bool,((!((((a==true)&&(b==false))&&(c==true))&&(d==false)))||((((!((((a==true)&&(b==false))&&(c==true))&&(d==false)))||((((a==true)&&(b==false))&&(c==true))&&(d==false)))&&true)&&true))=true:=by decide
theorem Az7:∀ a b c d:Bool,((!((((a==true)&&(b==false))&&(c==true))&&(d==false)))||true)=true:=by decide
theorem Az6:∀ a b c:Bool,((!(((a==true)&&(b==false))&&(c==true)))||((((!(((a==true)&&(b==false))&&(c==true)))||(((a==true)&&(b==false))&&(c==true)))&&true)&&true))=true:=by decide
theorem Az5:∀ a b c:Bool,((!(((a==true)&&(b==false))&&(c==true)))||true)=true:=by decide
theorem Az4:∀ a b:Bool,((!((a==true)&&(b==false)))||((((!((a==true)&&(b==false)))||((a==true)&&(b==false)))&&true)&&true))=true:=by decide
theorem Az3:∀ a b:Bool,((!((a==true)&&(b==false)))||((((!((a==true)&&(b==false)))||((a==true)&&(b==false)))&&(((!((a==true)&&(b==false)))||((a==true)&&(b==false)))&&true))&&true))=true:=by decide
theorem Ax4:∀ a b:Bool,((!((a==true)&&(b==false)))||true)=true:=by decide
theorem Ac2:∀ a:Bool,((!(a==true))||((((!(a==true))||(a==true))&&(((!(a==true))||(a==true))&&true))&&true))=true:=by decide
theorem Ava:∀ a b:Bool,(bif (!a) then true else b)=((!a)||b):=by decide
theorem Ac1:∀ a:Bool,((!(!(!a)))||((!a)==false))=true:=by decide
theorem Q0:∀ a:Bool,((!((!a)==false))||((((!((!a)==false))||((!a)==false))&&true)&&true))=true:=by decide
theorem Aaw:∀ a:Bool,((!((!a)==false))||true)=true:=by decide
theorem Az2:∀ a b:Bool,(bif a then (!b) else false)=(a&&(!b)):=by decide
theorem Asa:∀ a b:Bool,(bif (!a) then true else (!b))=((!a)||(!b)):=by decide
theorem Aol:∀ a b:Bool,((!((!a)==false))||((((!((!a)==false))||((!a)==false))&&true)&&b))=((!a)||b):=by decide
theorem Ax3:∀ a b c d:Bool,(bif (bif a then b else false) then true else (bif c then d else false))=((a&&b)||(c&&d)):=by decide
theorem Ax2:∀ a b:Bool,((!(!(bif a then b else false)))||((bif a then b else false)==false))=true:=by decide
theorem Ax1:∀ a b c:Bool,((!((bif a then b else false)==false))||(((!((bif a then b else false)==false))||((bif a then b else false)==false))&&(((!c)||(((bif a then b else false)==false)&&(c==true)))&&true)))=true:=by decide
theorem Ax0:∀ a b c:Bool,((!(((bif a then b else false)==false)&&(c==true)))||((((!(((bif a then b else false)==false)&&(c==true)))||(((bif a then b else false)==false)&&(c==true)))&&true)&&true))=true:=by decide
theorem Axz:∀ a b c:Bool,((!(((bif a then b else false)==false)&&(c==true)))||true)=true:=by decide
theorem Ar9:∀ a b:Bool,((!((bif a then b else false)==false))||((((!((bif a then b else false)==false))||((bif a then b else false)==false))&&true)&&true))=true:=by decide
theorem Axy:∀ a b:Bool,((!((bif a then b else false)==false))||true)=true:=by decide
theorem I9:∀ a b:Bool,((a&&b)&&true)=(a&&b):=by decide
theorem Az1:∀ a b c:Bool,(bif (bif (!a) then true else (!b)) then true else c)=(((!a)||(!b))||c):=by decide
theorem Axx:∀ a b:Bool,((!(!(bif (!a) then true else (!b))))||((bif (!a) then true else (!b))==false))=true:=by decide
theorem Axw:∀ a b:Bool,((!((bif (!a) then true else (!b))==false))||((((!((bif (!a) then true else (!b))==false))||((bif (!a) then true else (!b))==false))&&(((!((bif (!a) then true else (!b))==false))||((bif (!a) then true else (!b))==false))&&true))&&true))=true:=by decide
theorem Ah9:∀ a b:Bool,((!((bif (!a) then true else (!b))==false))||((((!((bif (!a) then true else (!b))==false))||((bif (!a) then true else (!b))==false))&&true)&&true))=true:=by decide
theorem Aok:∀ a b:Bool,((!((bif (!a) then true else (!b))==false))||true)=true:=by decide
theorem Axv:∀ a b c d:Bool,(((a&&b)&&(c&&d))&&true)=((a&&b)&&(c&&d)):=by decide
theorem Az0:∀ a b c d e f g h:Bool,(bif (bif (bif (bif (bif (bif (bif a then true else b) then true else c) then true else d) then true else e) then true else f) then true else g) then true else h)=(((((((a||b)||c)||d)||e)||f)||g)||h):=by decide
theorem Azz:∀ a b c d e f g:Bool,((!(!(bif (bif (bif (bif (bif (bif a then true else b) then true else c) then true else d) then true else e) then true else f) then true else g)))||((bif (bif (bif (bif (bif (bif a then true else b) then true else c) then true else d) then true else e) then true else f) then true else g)==false))=true:=by decide
theorem Axu:∀ a b c d e f g:Bool,((!((bif (bif (bif (bif (bif (bif a then true else b) then true else c) then true else d) then true else e) then true else f) then true else g)==false))||((((!((bif (bif (bif (bif (bif (bif a then true else b) then true else c) then true else d) then true else e) then true else f) then true else g)==false))||((bif (bif (bif (bif (bif (bif a then true else b) then true else c) then true else d) then true else e) then true else f) then true else g)==false))&&(((!((bif (bif (bif (bif (bif (bif a then true else b) then true else c) then true else d) then true else e) then true else f) then true else g)==false))||((bif (bif (bif (bif (bif (bif a then true else b) then true else c) then true else d) then true else e) then true else f) then true else g)==false))&&true))&&true))=true:=by decide
theorem Au9:∀ a b c d e f g:Bool,((!((bif (bif (bif (bif (bif (bif a then true else b) then true else c) then true else d) then true else e) then true else f) then true else g)==false))||true)=true:=by decide
theorem Azy:∀ a b c d e f g:Bool,((!((bif (bif (bif (bif (bif (bif a then true else b) then true else c) then true else d) then true else e) then true else f) then true else g)==false))||((((!((bif (bif (bif (bif (bif (bif a then true else b) then true else c) then true else d) then true else e) then true else f) then true else g)==false))||((bif (bif (bif (bif (bif (bif a then true else b) then true else c) then true else d) then true else e) then true else f) then true else g)==false))&&true)&&true))=true:=by decide
theorem Azx:∀ a b c d e f:Bool,((!(!(bif (bif (bif (bif (bif a then true else b) then true else c) then true else d) then true else e) then true else f)))||((bif (bif (bif (bif (bif a then true else b) then true else c) then true else d) then true else e) then true else f)==false))=true:=by decide
theorem Axt:∀ a b c d e f:Bool,((!((bif (bif (bif (bif (bif a then true else b) then true else c) then true else d) then true else e) then true else f)==false))||((((!((bif (bif (bif (bif (bif a then true else b) then true else c) then true else d) then true else e) then true else f)==false))||((bif (bif (bif (bif (bif a then true else b) then true else c) then true else d) then true else e) then true else f)==false))&&(((!((bif (bif (bif (bif (bif a then true else b) then true else c) then true else d) then true else e) then true else f)==false))||((bif (bif (bif (bif (bif a then true else b) then true else c) then true else d) then true else e) then true else f)==false))&&true))&&true))=true:=by decide
theorem Au8:∀ a b c d e f:Bool,((!((bif (bif (bif (bif (bif a then true else b) then true else c) then true else d) then true else e) then true else f)==false))||true)=true:=by decide
theorem Azw:∀ a b c d e f:Bool,((!((bif (bif (bif (bif (bif a then true else b) then true else c) then true else d) then true else e) then true else f)==false))||((((!((bif (bif (bif (bif (bif a then true else b) then true else c) then true else d) then true else e) then true else f)==false))||((bif (bif (bif (bif (bif a then true else b) then true else c) then true else d) then true else e) then true else f)==false))&&true)&&true))=true:=by decide
theorem Azv:∀ a b c d e:Bool,((!(!(bif (bif (bif (bif a then true else b) then true else c) then true else d) then true else e)))||((bif (bif (bif (bif a then true else b) then true else c) then true else d) then true else e)==false))=true:=by decide
theorem Azu:∀ a b c d e:Bool,((!((bif (bif (bif (bif a then true else b) then true else c) then true else d) then true else e)==false))||((((!((bif (bif (bif (bif a then true else b) then true else c) then true else d) then true else e)==false))||((bif (bif (bif (bif a then true else b) then true else c) then true else d) then true else e)==false))&&(((!((bif (bif (bif (bif a then true else b) then true else c) then true else d) then true else e)==false))||((bif (bif (bif (bif a then true else b) then true else c) then true else d) then true else e)==false))&&true))&&true))=true:=by decide
theorem Azt:∀ a b c d e:Bool,((!((bif (bif (bif (bif a then true else b) then true else c) then true else d) then true else e)==false))||((((!((bif (bif (bif (bif a then true else b) then true else c) then true else d) then true else e)==false))||((bif (bif (bif (bif a then true else b) then true else c) then true else d) then true else e)==false))&&true)&&true))=true:=by decide
theorem Axs:∀ a b c d e:Bool,((!((bif (bif (bif (bif a then true else b) then true else c) then true else d) then true else e)==false))||true)=true:=by decide
theorem Ar8:∀ a b c d:Bool,((!(!(bif (bif (bif a then true else b) then true else c) then true else d)))||((bif (bif (bif a then true else b) then true else c) then true else d)==false))=true:=by decide
theorem Alu:∀ a b c d:Bool,((!((bif (bif (bif a then true else b) then true else c) then true else d)==false))||((((!((bif (bif (bif a then true else b) then true else c) then true else d)==false))||((bif (bif (bif a then true else b) then true else c) then true else d)==false))&&(((!((bif (bif (bif a then true else b) then true else c) then true else d)==false))||((bif (bif (bif a then true else b) then true else c) then true else d)==false))&&true))&&true))=true:=by decide
theorem Aav:∀ a b c d:Bool,((!((bif (bif (bif a then true else b) then true else c) then true else d)==false))||((((!((bif (bif (bif a then true else b) then true else c) then true else d)==false))||((bif (bif (bif a then true else b) then true else c) then true else d)==false))&&true)&&true))=true:=by decide
theorem Aau:∀ a b c d:Bool,((!((bif (bif (bif a then true else b) then true else c) then true else d)==false))||true)=true:=by decide
theorem Ar7:∀ a b c:Bool,((!(!(bif (bif a then true else b) then true else c)))||((bif (bif a then true else b) then true else c)==false))=true:=by decide
theorem Als:∀ a b c:Bool,((!((bif (bif a then true else b) then true else c)==false))||((((!((bif (bif a then true else b) then true else c)==false))||((bif (bif a then true else b) then true else c)==false))&&true)&&true))=true:=by decide
theorem Alr:∀ a b c:Bool,((!((bif (bif a then true else b) then true else c)==false))||true)=true:=by decide
theorem Ar6:∀ a b:Bool,((!(!(bif a then true else b)))||((bif a then true else b)==false))=true:=by decide
theorem Ac0:∀ a b:Bool,((!((bif a then true else b)==false))||((((!((bif a then true else b)==false))||((bif a then true else b)==false))&&true)&&true))=true:=by decide
theorem Alq:∀ a b:Bool,((!((bif a then true else b)==false))||true)=true:=by decide
theorem Azs:∀ a b:Bool,(!(a&&(b&&true)))=(!(a&&b)):=by decide
theorem Azr:∀ a b c d:Bool,(((!(bif (bif (bif a then b else false) then c else false) then d else false))||((bif (bif (bif a then b else false) then c else false) then d else false)==true))&&true)=true:=by decide
theorem Axr:∀ a b c d:Bool,((!((bif (bif (bif a then b else false) then c else false) then d else false)==true))||((((!((bif (bif (bif a then b else false) then c else false) then d else false)==true))||((bif (bif (bif a then b else false) then c else false) then d else false)==true))&&(((!((bif (bif (bif a then b else false) then c else false) then d else false)==true))||((bif (bif (bif a then b else false) then c else false) then d else false)==true))&&true))&&true))=true:=by decide
theorem Ar5:∀ a b c d:Bool,((!((bif (bif (bif a then b else false) then c else false) then d else false)==true))||((((!((bif (bif (bif a then b else false) then c else false) then d else false)==true))||((bif (bif (bif a then b else false) then c else false) then d else false)==true))&&true)&&true))=true:=by decide
theorem Au7:∀ a b c d:Bool,((!((bif (bif (bif a then b else false) then c else false) then d else false)==true))||true)=true:=by decide
theorem Axq:∀ a b c:Bool,(((!(bif (bif a then b else false) then c else false))||((bif (bif a then b else false) then c else false)==true))&&true)=true:=by decide
theorem Axp:∀ a b c:Bool,((!((bif (bif a then b else false) then c else false)==true))||((((!((bif (bif a then b else false) then c else false)==true))||((bif (bif a then b else false) then c else false)==true))&&true)&&true))=true:=by decide
theorem Axo:∀ a b c:Bool,((!((bif (bif a then b else false) then c else false)==true))||true)=true:=by decide
theorem Au6:∀ a b:Bool,(((!(bif a then b else false))||((bif a then b else false)==true))&&true)=true:=by decide
theorem Aoj:∀ a b:Bool,((!((bif a then b else false)==true))||((((!((bif a then b else false)==true))||((bif a then b else false)==true))&&true)&&true))=true:=by decide
theorem Aoi:∀ a b:Bool,((!((bif a then b else false)==true))||true)=true:=by decide
theorem Axn:∀ a b c:Bool,((!((bif a then b else false)==true))||((((!((bif a then b else false)==true))||((bif a then b else false)==true))&&(((!((bif a then b else false)==true))||((bif a then b else false)==true))&&true))&&c))=((!(a&&b))||c):=by decide
theorem Azq:∀ a b c:Bool,((!(a==true))||((((!(a==true))||(a==true))&&(((!(a==true))||(a==true))&&true))&&(b&&c)))=((!a)||(b&&c)):=by decide
theorem Axm:∀ a:Bool,(((a&&true)&&true)&&true)=a:=by decide
theorem Au4:∀ a b:Bool,((!(a==true))||((((!(a==true))||(a==true))&&true)&&b))=((!a)||b):=by decide
theorem Azp:∀ a b c:Bool,(bif (!(a==b)) then true else c)=((!(a==b))||c):=by decide
theorem Azo:∀ a b:Bool,((!(!(!(a==b))))||((!(a==b))==false))=true:=by decide
theorem Azn:∀ a b:Bool,((!((!(a==b))==false))||((((!((!(a==b))==false))||((!(a==b))==false))&&(((!((!(a==b))==false))||((!(a==b))==false))&&true))&&true))=true:=by decide
theorem Ar4:∀ a b:Bool,((!((!(a==b))==false))||((((!((!(a==b))==false))||((!(a==b))==false))&&true)&&true))=true:=by decide
theorem Axl:∀ a b:Bool,((!((!(a==b))==false))||true)=true:=by decide
theorem Au3:∀ a b:Bool,((!(a==true))||((((!(a==true))||(a==true))&&(((!(a==true))||(a==true))&&true))&&b))=((!a)||b):=by decide
theorem Alp:∀ a b:Bool,((!(a==false))||((((!(a==false))||(a==false))&&true)&&b))=(a||b):=by decide
theorem Axk:∀ a b:Bool,(bif a then true else (!b))=(a||(!b)):=by decide
theorem Au2:∀ a b c:Bool,((a&&b)&&((a&&c)&&true))=((a&&b)&&(a&&c)):=by decide
theorem Azm:∀ a:Bool,((a&&true)&&true)=a:=by decide
theorem Au1:∀ a b c d e:Bool,(bif (bif (bif (bif a then true else b) then true else c) then true else d) then true else e)=((((a||b)||c)||d)||e):=by decide
theorem Axj:∀ a b:Bool,((!((bif a then true else b)==false))||((((!((bif a then true else b)==false))||((bif a then true else b)==false))&&(((!((bif a then true else b)==false))||((bif a then true else b)==false))&&true))&&true))=true:=by decide
theorem Aya:∀ a b c:Bool,((!((bif (!a) then true else (!b))==false))||((((!((bif (!a) then true else (!b))==false))||((bif (!a) then true else (!b))==false))&&(((!((bif (!a) then true else (!b))==false))||((bif (!a) then true else (!b))==false))&&true))&&c))=(((!a)||(!b))||c):=by decide
theorem Ax9:∀ a b:Bool,((!((!a)==false))||((((!((!a)==false))||((!a)==false))&&(((!((!a)==false))||((!a)==false))&&true))&&b))=((!a)||b):=by decide
theorem Auj:∀ a b c:Bool,((!((bif (bif a then true else b) then true else c)==false))||((((!((bif (bif a then true else b) then true else c)==false))||((bif (bif a then true else b) then true else c)==false))&&(((!((bif (bif a then true else b) then true else c)==false))||((bif (bif a then true else b) then true else c)==false))&&true))&&true))=true:=by decide
theorem Ax8:∀ a b:Bool,((a==true)&&((((!(a==true))||(a==true))&&true)&&b))=(a&&b):=by decide
theorem Ax7:∀ a:Bool,((a==true)&&true)=a:=by decide
theorem Ax6:∀ a b c:Bool,(bif (bif (!a) then true else (!b)) then true else (!c))=(((!a)||(!b))||(!c)):=by decide
open Go Go.Den Go.Rnd Go.Proofs
set_option maxRecDepth 100000
namespace EqSoft
def soft.Split.Bc:List (Nat × Entry):=[]
def soft.Split.E:Env:=Be (Bb soft.Split.Bc) (fun _=>false) (fun _=>none) (fun _=>none)
theorem soft.Split.ev (N:Nat) (x:Int):Bu soft.Split.E N f206 (Am f206) [.int .u64 x]=some (.agg [.bool ((Dy .u64 x 63)==(1:Int)),.int .i64 (Ab (E6 .u64 (Dy .u64 x 52) 2047)),.int .u64 (E6 .u64 x 4503599627370495)]):=by kernel_rfl
abbrev _root_.Go.Proofs.S1.soft.Split.Kn:=A7 prog 206 soft.Split.spec
theorem soft.Split.Ac (hk:A1 prog soft.Split.Bc) (h:Hyp soft.Split.E f206 soft.Split.ts soft.Split.pre soft.Split.out):soft.Split.Kn :=
 Al (A2 hk _ _ _) func206 (by kernel_rfl) (by kernel_rfl) h
def soft.Kind.Bc:List (Nat × Entry):=[(206,soft.Split.spec)]
def soft.Kind.E:Env:=Be (Bb soft.Kind.Bc) (fun _=>false) (fun _=>none) (fun _=>none)
theorem soft.Kind.ev (N:Nat) (x:Int):Bu soft.Kind.E N f155 (Am f155) [.int .u64 x]=bif (Ak x) then bif (((L8 x)==(2047:Int))&&((Da x)==(0:Int))) then some (.int .i64 3) else bif ((L8 x)==(2047:Int)) then some (.int .i64 4) else bif (Bd 0 (L8 x)) then some (.int .i64 2) else bif (Bd 0 (Da x)) then some (.int .i64 1) else some (.int .i64 0) else none :=
 Eq.trans (by kernel_rfl)
 (Ec (Cp (tt0 (D4 x) ((L8 x)==(2047:Int)) ((Da x)==(0:Int))) rfl rfl) rfl)
abbrev _root_.Go.Proofs.S1.soft.Kind.Kn:=A7 prog 155 soft.Kind.spec
theorem soft.Kind.Ac (hk:A1 prog soft.Kind.Bc) (h:Hyp soft.Kind.E f155 soft.Kind.ts soft.Kind.pre soft.Kind.out):soft.Kind.Kn :=
 Al (A2 hk _ _ _) func155 (by kernel_rfl) (by kernel_rfl) h
def soft.Sign.Bc:List (Nat × Entry):=[]
def soft.Sign.E:Env:=Be (Bb soft.Sign.Bc) (fun _=>false) (fun _=>none) (fun _=>none)
theorem soft.Sign.ev (N:Nat) (x:Int):Bu soft.Sign.E N f213 (Am f213) [.int .u64 x]=some (.bool ((Dy .u64 x 63)==(1:Int))):=by kernel_rfl
abbrev _root_.Go.Proofs.S1.soft.Sign.Kn:=A7 prog 213 soft.Sign.spec
theorem soft.Sign.Ac (hk:A1 prog soft.Sign.Bc) (h:Hyp soft.Sign.E f213 soft.Sign.ts soft.Sign.pre soft.Sign.out):soft.Sign.Kn :=
 Al (A2 hk _ _ _) func213 (by kernel_rfl) (by kernel_rfl) h
def soft.Finite.Bc:List (Nat × Entry):=[(155,soft.Kind.spec)]
def soft.Finite.E:Env:=Be (Bb soft.Finite.Bc) (fun _=>false) (fun _=>none) (fun _=>none)
theorem soft.Finite.ev (N:Nat) (x:Int):Bu soft.Finite.E N f148 (Am f148) [.int .u64 x]=bif (Ak x) then bif ((Bk x)==(3:Int)) then some (.bool false) else bif ((Bk x)==(4:Int)) then some (.bool false) else some (.bool true) else none:=by kernel_rfl
abbrev _root_.Go.Proofs.S1.soft.Finite.Kn:=A7 prog 148 soft.Finite.spec
theorem soft.Finite.Ac (hk:A1 prog soft.Finite.Bc) (h:Hyp soft.Finite.E f148 soft.Finite.ts soft.Finite.pre soft.Finite.out):soft.Finite.Kn :=
 Al (A2 hk _ _ _) func148 (by kernel_rfl) (by kernel_rfl) h
def soft.Dp.Bc:List (Nat × Entry):=[]
def soft.Dp.E:Env:=Be (Bb soft.Dp.Bc) (fun _=>false) (fun _=>none) (fun _=>none)
theorem soft.Dp.ev (N:Nat) (x:Int):Bu soft.Dp.E N f233 (Am f233) [.int .u64 x]=some (.int .u64 (Aub .u64 x 9223372036854775808)):=by kernel_rfl
abbrev _root_.Go.Proofs.S1.soft.Dp.Kn:=A7 prog 233 soft.Dp.spec
theorem soft.Dp.Ac (hk:A1 prog soft.Dp.Bc) (h:Hyp soft.Dp.E f233 soft.Dp.ts soft.Dp.pre soft.Dp.out):soft.Dp.Kn :=
 Al (A2 hk _ _ _) func233 (by kernel_rfl) (by kernel_rfl) h
def soft.Fz.Bc:List (Nat × Entry):=[(206,soft.Split.spec)]
def soft.Fz.E:Env:=Be (Bb soft.Fz.Bc) (fun _=>false) (fun _=>none) (fun _=>none)
theorem soft.Fz.ev (N:Nat) (x:Int):Bu soft.Fz.E N f211 (Am f211) [.int .u64 x]=bif (Ak x) then bif ((L8 x)==(0:Int)) then some (.tup [.int .u64 (Da x),.int .i64 (-1074:Int)]) else some (.tup [.int .u64 (Iu .u64 (Da x) 4503599627370496),.int .i64 (Ab ((L8 x)-1075))]) else none:=by kernel_rfl
abbrev _root_.Go.Proofs.S1.soft.Fz.Kn:=A7 prog 211 soft.Fz.spec
theorem soft.Fz.Ac (hk:A1 prog soft.Fz.Bc) (h:Hyp soft.Fz.E f211 soft.Fz.ts soft.Fz.pre soft.Fz.out):soft.Fz.Kn :=
 Al (A2 hk _ _ _) func211 (by kernel_rfl) (by kernel_rfl) h
def soft.Pack.Bc:List (Nat × Entry):=[(233,soft.Dp.spec)]
def soft.Pack.E (rk:Nat):Env:=Be (Bb ((239,Amb [.b,.i .u64,.i .i64] soft.Pack.pre soft.Pack.out soft.Pack.mu rk)::soft.Pack.Bc)) (fun _=>false) (fun _=>none) (fun _=>none)
theorem soft.Pack.ev (N rk:Nat) (n:Bool) (m e:Int):Bu (soft.Pack.E rk) N f239 (Am f239) [.bool n,.int .u64 m,.int .i64 e]=bif (m==(0:Int)) then bif n then bif (Ak 0) then some (.int .u64 (Dk 0)) else none else some (.int .u64 0) else bif (Es 9007199254740992 m) then bif ((Lk (Dy .u64 m 1) (Ab (e+1)))&&(Co ((P1 (Dy .u64 m 1) (Ab (e+1)))<rk))) then some (.int .u64 (U0 n (Dy .u64 m 1) (Ab (e+1)))) else none else bif ((Bd m 4503599627370496)&&(Bd (-1074:Int) e)) then bif ((Lk (B9 .u64 m 1) (Ab (e-1)))&&(Co ((P1 (B9 .u64 m 1) (Ab (e-1)))<rk))) then some (.int .u64 (U0 n (B9 .u64 m 1) (Ab (e-1)))) else none else bif (Bd m 4503599627370496) then bif n then bif (Ak m) then some (.int .u64 (Dk m)) else none else some (.int .u64 m) else bif (Es 2047 (Ab (e+1075))) then bif n then bif (Ak 9218868437227405312) then some (.int .u64 (Dk 9218868437227405312)) else none else some (.int .u64 9218868437227405312) else bif n then bif (Ak (Iu .u64 (B9 .u64 (Bm (Ab (e+1075))) 52) (E6 .u64 m 4503599627370495))) then some (.int .u64 (Dk (Iu .u64 (B9 .u64 (Bm (Ab (e+1075))) 52) (E6 .u64 m 4503599627370495)))) else none else some (.int .u64 (Iu .u64 (B9 .u64 (Bm (Ab (e+1075))) 52) (E6 .u64 m 4503599627370495))) :=
 Eq.trans (by kernel_rfl)
 (Ec rfl (Ec rfl (Ax (Oj (Bd m 4503599627370496)) (Ax (L7 (Bd m 4503599627370496)) (Ax (Th (Bd m 4503599627370496)) (Cp (tt1 (Bd m 4503599627370496) (Bd (-1074:Int) e)) rfl rfl))))))
theorem soft.Pack.Ac (hk:A1 prog soft.Pack.Bc) (h:∀ (rk:Nat) (n:Bool) (m e:Int),soft.Pack.pre [.b n,.i m,.i e]=true→soft.Pack.mu [.b n,.i m,.i e]<rk+1→∃ N dv drops,Bu (soft.Pack.E rk) N f239 (Am f239) [.bool n,.int .u64 m,.int .i64 e]=some dv∧Wk drops dv (soft.Pack.out [.b n,.i m,.i e])):A7 prog 239 soft.Pack.spec:=by
 have call:=Qh (f:=239) func239 (by kernel_rfl) (show f239.body=some (Am f239) by kernel_rfl)
 refine ⟨Aiy (E:=soft.Pack.E) func239 (show f239.body=some (Am f239) by kernel_rfl) soft.Pack.mu (fun rk hm=>A2 (.cons ⟨hm,call⟩ hk) _ _ _) fun rk ats dvs he hp hr=>?_,call⟩
 obtain ⟨n,_,_,rfl,rfl,he0⟩:=he.Ayw
 obtain ⟨m,_,_,rfl,rfl,he1⟩:=he0.Aqj
 obtain ⟨e,_,_,rfl,rfl,he2⟩:=he1.Aqj
 obtain ⟨rfl,rfl⟩:=he2.X1
 exact h rk n m e hp hr
abbrev _root_.Go.Proofs.S1.soft.Pack.Kn:Prop:=A7 prog 239 soft.Pack.spec
def soft.Du.hint:Nat→Option Bg
 | 0=>some { keep:=[0,1,2,3,10],objs:=[],boxes:=[] }
 | _=>none
def soft.Du.Bc:List (Nat × Entry):=[(155,soft.Kind.spec),(239,soft.Pack.spec)]
def soft.Du.live:Nat→Option (List Nat)
 | 7=>some [0,1,2,3,10]
 | 12=>some [0,2,3,10,11,12,13,14]
 | 14=>some [0,2,10,11,14]
 | 16=>some [0,2,10,11,14]
 | 18=>some [14,15,16]
 | _=>none
def soft.Du.E:Env:=Be (Bb soft.Du.Bc) (fun _=>false) soft.Du.hint soft.Du.live
section
variable (N:Nat) (p14_3:Bool) (p15:Int) (M:Nat) (n:Bool) (m e p11 p10_4:Int) (p14_2:Bool) (p10_3 p11_2:Int) (p14_1 r:Bool) (p10_2 p11_1 p12 p13:Int) (p14:Bool) (p10_1 p10:Int)
def soft.Du.L0:Option DV:=Bx soft.Du.E N f212 (Am f212) [1,1,1,0,0] [] M ⟨E5 111 [(0,.bool n),(1,.int .u64 m),(2,.int .i64 e),(3,.bool r),(10,.int .i64 p10)],[]⟩
def soft.Du.C7:Option DV:=cutAt soft.Du.E N f212 (Am f212) [1,1,1,1] [] ⟨E5 111 [(0,.bool n),(1,.int .u64 m),(2,.int .i64 e),(3,.bool r),(10,.int .i64 p10_1)],[]⟩
def soft.Du.C12:Option DV:=cutAt soft.Du.E N f212 (Am f212) [1,1,1,1,1,1,1,1,0] [] ⟨E5 111 [(0,.bool n),(2,.int .i64 e),(3,.bool r),(10,.int .i64 p10_2),(11,.int .u64 p11_1),(12,.int .u64 p12),(13,.int .u64 p13),(14,.bool p14)],[]⟩
def soft.Du.C14:Option DV:=cutAt soft.Du.E N f212 (Am f212) [1,1,1,1,1,1,1,1,1,0] [] ⟨E5 111 [(0,.bool n),(2,.int .i64 e),(10,.int .i64 p10_3),(11,.int .u64 p11_2),(14,.bool p14_1)],[]⟩
def soft.Du.C16:Option DV:=cutAt soft.Du.E N f212 (Am f212) [1,1,1,1,1,1,1,1,1,1] [] ⟨E5 111 [(0,.bool n),(2,.int .i64 e),(10,.int .i64 p10_4),(11,.int .u64 p11),(14,.bool p14_2)],[]⟩
def soft.Du.C18:Option DV:=cutAt soft.Du.E N f212 (Am f212) [1,1,1,1,1,1,1,1,1,1,1,1,0] [] ⟨E5 111 [(14,.bool p14_3),(15,.int .u64 p15),(16,.int .u8 0)],[]⟩
theorem soft.Du.Av:soft.Du.L0 N (M+1) n m e r p10=bif (decide (0≤p10)) then bif ((Es 9007199254740992 (Dy .u64 m p10))||(Bd (Ab (e+p10)) (-1074:Int))) then bif ((Ab (p10+1))==(63:Int)) then soft.Du.C7 N n m e r (Ab (p10+1)) else soft.Du.L0 N M n m e r (Ab (p10+1)) else soft.Du.C7 N n m e r p10 else none :=
 Eq.trans (by kernel_rfl)
 (Ec (Ax (Uc (Es 9007199254740992 (Dy .u64 m p10))) (Ax (Uc (Es 9007199254740992 (Dy .u64 m p10))) (Ax (tt8 (Es 9007199254740992 (Dy .u64 m p10))) (Ax (Sr (Es 9007199254740992 (Dy .u64 m p10))) (Ax (Ye (Es 9007199254740992 (Dy .u64 m p10))) (Cp (tt5 (Es 9007199254740992 (Dy .u64 m p10)) (Bd (Ab (e+p10)) (-1074:Int))) rfl rfl)))))) rfl)
theorem soft.Du.Aru:soft.Du.C7 N n m e r p10_1=bif (decide (0≤p10_1)) then bif (decide (0≤p10_1)) then bif (Bd 0 p10_1) then bif (decide (0≤(Ab (p10_1-1)))) then soft.Du.C12 N n e r p10_1 (Dy .u64 m p10_1) (E6 .u64 m (Bm ((B9 .u64 1 p10_1)-1))) (B9 .u64 1 (Ab (p10_1-1))) (bif ((E6 .u64 m (Bm ((B9 .u64 1 p10_1)-1)))==(0:Int)) then (!r) else false) else none else soft.Du.C12 N n e r p10_1 (Dy .u64 m p10_1) (E6 .u64 m (Bm ((B9 .u64 1 p10_1)-1))) 0 (bif ((E6 .u64 m (Bm ((B9 .u64 1 p10_1)-1)))==(0:Int)) then (!r) else false) else none else none :=
 Eq.trans ((Dt _ _ _ _ _ _ _).trans (by kernel_rfl))
 (Cp (Cd (decide (0≤p10_1))) (Cp (Cd (decide (0≤p10_1))) (Ec (Ec (Ax (Oj ((E6 .u64 m (Bm ((B9 .u64 1 p10_1)-1)))==(0:Int))) (Ax (L7 ((E6 .u64 m (Bm ((B9 .u64 1 p10_1)-1)))==(0:Int))) (Ax (Th ((E6 .u64 m (Bm ((B9 .u64 1 p10_1)-1)))==(0:Int))) rfl))) rfl) (Ax (Oj ((E6 .u64 m (Bm ((B9 .u64 1 p10_1)-1)))==(0:Int))) (Ax (L7 ((E6 .u64 m (Bm ((B9 .u64 1 p10_1)-1)))==(0:Int))) (Ax (Th ((E6 .u64 m (Bm ((B9 .u64 1 p10_1)-1)))==(0:Int))) rfl)))) rfl) rfl)
theorem soft.Du.Ua:soft.Du.C12 N n e r p10_2 p11_1 p12 p13 p14=bif ((Bd 0 p10_2)&&((Bd p13 p12)||((p12==p13)&&(r||((E6 .u64 p11_1 1)==(1:Int)))))) then soft.Du.C14 N n e p10_2 (Bm (p11_1+1)) p14 else soft.Du.C14 N n e p10_2 p11_1 p14 :=
 Eq.trans ((Dt _ _ _ _ _ _ _).trans (by kernel_rfl))
 (Ax (Oj (Bd 0 p10_2)) (Ax (Oj (Bd 0 p10_2)) (Ax (Ac2 (Bd 0 p10_2)) (Ax (L7 (Bd 0 p10_2)) (Ax (Ax4 (Bd 0 p10_2) (Bd p13 p12)) (Ax (Ax4 (Bd 0 p10_2) (Bd p13 p12)) (Ax (Az3 (Bd 0 p10_2) (Bd p13 p12)) (Ax (Az4 (Bd 0 p10_2) (Bd p13 p12)) (Ax (Az5 (Bd 0 p10_2) (Bd p13 p12) (p12==p13)) (Ax (Az6 (Bd 0 p10_2) (Bd p13 p12) (p12==p13)) (Ax (Az7 (Bd 0 p10_2) (Bd p13 p12) (p12==p13) r) (Ax (Ax5 (Bd 0 p10_2) (Bd p13 p12) (p12==p13) r) (Ax (Ax5 (Bd 0 p10_2) (Bd p13 p12) (p12==p13) r) (Ax (Az8 (Bd 0 p10_2) (Bd p13 p12) (p12==p13) r) (Ax (Az9 (Bd 0 p10_2) (Bd p13 p12) (p12==p13)) (Ax (A0a (Bd 0 p10_2) (Bd p13 p12)) (Ax (Th (Bd 0 p10_2)) (Cp (A0b (Bd 0 p10_2) (Bd p13 p12) (p12==p13) r ((E6 .u64 p11_1 1)==(1:Int))) rfl rfl))))))))))))))))))
theorem soft.Du.Aat:soft.Du.C14 N n e p10_3 p11_2 p14_1=bif (Bd (Ab (e+p10_3)) (-1074:Int)) then soft.Du.C16 N n e 0 p10_3 p14_1 else soft.Du.C16 N n e p11_2 p10_3 p14_1:=(Dt _ _ _ _ _ _ _).trans (by kernel_rfl)
theorem soft.Du.Awp:soft.Du.C16 N n e p11 p10_4 p14_2=bif (Lk p11 (max (Ab (e+p10_4)) (-1074:Int))) then soft.Du.C18 N p14_2 (U0 n p11 (max (Ab (e+p10_4)) (-1074:Int))) else none:=(Dt _ _ _ _ _ _ _).trans (by kernel_rfl)
theorem soft.Du.Ajy:soft.Du.C18 N p14_3 p15=bif ((!p14_3)||((G5 .u64 p15 9223372036854775808)==(9218868437227405312:Int))) then bif (Ak p15) then bif ((Bk p15)==(3:Int)) then some (.tup [.int .u64 p15,.int .u8 5]) else bif ((Bk p15)==(0:Int)) then bif ((Bk p15)==(0:Int)) then some (.tup [.int .u64 p15,.int .u8 3]) else some (.tup [.int .u64 p15,.int .u8 1]) else bif ((Bk p15)==(1:Int)) then some (.tup [.int .u64 p15,.int .u8 3]) else some (.tup [.int .u64 p15,.int .u8 1]) else none else some (.tup [.int .u64 p15,.int .u8 0]) :=
 Eq.trans ((Dt _ _ _ _ _ _ _).trans (by kernel_rfl))
 (Ax (Aaw p14_3) (Ax (Q0 p14_3) (Ax (Q0 p14_3) (Ax (Ac1 p14_3) (Cp (Ava p14_3 ((G5 .u64 p15 9223372036854775808)==(9218868437227405312:Int))) rfl rfl)))))
theorem soft.Du.ev:Bu soft.Du.E N f212 (Am f212) [.bool n,.int .u64 m,.int .i64 e,.bool r]=bif ((m==(0:Int))&&(!r)) then bif (Lk 0 (-1074:Int)) then some (.tup [.int .u64 (U0 n 0 (-1074:Int)),.int .u8 0]) else none else soft.Du.L0 N N n m e r 0 :=
 Eq.trans (by kernel_rfl)
 (Ax (Oj (m==(0:Int))) (Ax (L7 (m==(0:Int))) (Ax (Th (m==(0:Int))) (Cp (Az2 (m==(0:Int)) r) rfl rfl))))
end
abbrev _root_.Go.Proofs.S1.soft.Du.Kn:=A7 prog 212 soft.Du.spec
theorem soft.Du.Ac (hk:A1 prog soft.Du.Bc) (h:Hyp soft.Du.E f212 soft.Du.ts soft.Du.pre soft.Du.out):soft.Du.Kn :=
 Al (A2 hk _ _ _) func212 (by kernel_rfl) (by kernel_rfl) h
end EqSoft
theorem Ad {a b:Bool}:(a&&b)=true↔a=true∧b=true:=by simp
theorem Akn {n:Nat} (hn:n<2^64):((Dy .u64 (n:Int) (63:Int))==(1:Int))=D4 n:=by
 rw [show (63:Int)=((63:Nat):Int) from rfl,Ii .u64 n 63 (by decide)]
 unfold D4 B0
 rw [A06,A1k]
 simp only [beq_iff_eq,A1b]
 omega
theorem Ast {n:Nat} (hn:n<2^64):Ab (E6 .u64 (Dy .u64 (n:Int) (52:Int)) (2047:Int))=L8 n:=by
 rw [show (52:Int)=((52:Nat):Int) from rfl,Ii .u64 n 52 (by decide),show (2047:Int)=((2^11-1:Nat):Int) from rfl,Ji 11 (by omega) (by decide)]
 unfold L8 Ea
 rw [A06,An (by omega) (by omega)]
theorem Aqn {n:Nat} (hn:n<2^64):E6 .u64 (n:Int) (4503599627370495:Int)=Da n:=by
 rw [show (4503599627370495:Int)=((2^52-1:Nat):Int) from rfl,Ji 52 hn (by decide)]
 unfold Da Di
 rw [A06]
theorem soft.Split.known:soft.Split.Kn:=EqSoft.soft.Split.Ac .nil fun x hp=>by
 obtain ⟨n,rfl,hn⟩:=Bo (x:=x) hp
 refine ⟨0,soft.Split.out [.i n],[],?_,Wk.Gy (.cons .bool (.cons .int (.cons .int .nil)))⟩
 rw [EqSoft.soft.Split.ev,Akn hn,Ast hn,Aqn hn]
 rfl
theorem soft.Kind.known:soft.Kind.Kn:=EqSoft.soft.Kind.Ac (.cons soft.Split.known .nil) fun x hp=>by
 obtain ⟨n,rfl,hn⟩:=Bo (x:=x) hp
 refine ⟨0,soft.Kind.out [.i n],[],?_,.int⟩
 rw [EqSoft.soft.Kind.ev,Ce hn]
 show _=some (DV.int .i64 (Bk n))
 unfold Bk Ao L8 Da
 simp only [A06,A04,Aw]
 have:=Jx n
 by_cases h1:Ea n=2047
 ·by_cases h2:Di n=0
  ·simp [h1,h2]
  ·have:((Di n:Int)==0)=false:=by simp; exact h2
   simp [h1,this,h2]
 ·have h1':((Ea n:Int)==2047)=false:=by simp; omega
  rw [h1']
  by_cases h3:0<Ea n
  ·simp [h1,h3]
  ·by_cases h4:0<Di n
   ·simp [h1,h3,h4]
   ·simp [h1,h3,h4]
theorem soft.Sign.known:soft.Sign.Kn:=EqSoft.soft.Sign.Ac .nil fun x hp=>by
 obtain ⟨n,rfl,hn⟩:=Bo (x:=x) hp
 refine ⟨0,soft.Sign.out [.i n],[],?_,.bool⟩
 rw [EqSoft.soft.Sign.ev,Akn hn]
 rfl
theorem Zu (n:Nat):Ku n=!(decide (Ao n=3)||decide (Ao n=4)):=by
 have:=Jx n
 unfold Ku Ao
 by_cases h1:Ea n=2047
 ·by_cases h2:Di n=0<;>simp [h1,h2]
 ·have:Ea n<2047:=by omega
  by_cases h3:0<Ea n
  ·simp [h1,h3,this]
  ·by_cases h4:0<Di n<;>simp [h1,h3,h4,this]
theorem soft.Finite.known:soft.Finite.Kn:=EqSoft.soft.Finite.Ac (.cons soft.Kind.known .nil) fun x hp=>by
 obtain ⟨n,rfl,hn⟩:=Bo (x:=x) hp
 refine ⟨0,soft.Finite.out [.i n],[],?_,.bool⟩
 rw [EqSoft.soft.Finite.ev,Ce hn]
 show _=some (DV.bool (Dg n))
 unfold Dg Bk
 rw [A06,Zu]
 by_cases h3:Ao n=3
 ·simp [h3]
 ·by_cases h4:Ao n=4
  ·simp [h4]
  ·have e3:((Ao n:Int)==3)=false:=by simp; omega
   have e4:((Ao n:Int)==4)=false:=by simp; omega
   simp [h3,h4,e3,e4]
theorem Amu {n:Nat} (hn:n<2^64):Aub .u64 (n:Int) (9223372036854775808:Int)=Dk n:=by
 rw [show (9223372036854775808:Int)=((2^63:Nat):Int) from rfl,Ari hn (by decide),Arz hn]
 unfold Dk H4
 rw [A06]
theorem soft.Dp.known:soft.Dp.Kn:=EqSoft.soft.Dp.Ac .nil fun x hp=>by
 obtain ⟨n,rfl,hn⟩:=Bo (x:=x) hp
 refine ⟨0,soft.Dp.out [.i n],[],?_,.int⟩
 rw [EqSoft.soft.Dp.ev,Amu hn]
 rfl
theorem soft.Fz.known:soft.Fz.Kn:=EqSoft.soft.Fz.Ac (.cons soft.Split.known .nil) fun x hp=>by
 obtain ⟨n,rfl,hn⟩:=Bo (x:=x) hp
 refine ⟨0,soft.Fz.out [.i n],[],?_,Wk.Gv (.cons .int (.cons .int .nil))⟩
 rw [EqSoft.soft.Fz.ev,Ce hn]
 show _=some (DV.tup [.int .u64 (B1 n),.int .i64 (Ba n)])
 have hf:=Ks n
 have hp:=Jx n
 unfold B1 Ba L8 Da Ay A9
 rw [A06]
 by_cases h:Ea n=0
 ·simp [h]
 ·have e:((Ea n:Int)==0)=false:=by simp; omega
  have e2:Iu .u64 ((Di n:Nat):Int) (4503599627370496:Int)=((Di n+2^52:Nat):Int):=by
   rw [show (4503599627370496:Int)=((1*2^52:Nat):Int) from rfl,Ans (by omega) (by omega)]
   congr 1; omega
  rw [e,e2,An (by omega) (by omega)]
  simp [h]
namespace EqRefD
def A5.Neg.Bc:List (Nat × Entry):=[]
def A5.Neg.E:Env:=Be (Bb A5.Neg.Bc) (fun _=>false) (fun _=>none) (fun _=>none)
theorem A5.Neg.ev (N:Nat) (x:Int):Bu A5.Neg.E N f142 (Am f142) [.int .u64 x]=some (.bool ((Bm (Int.tdiv x 9223372036854775808))==(1:Int))):=by kernel_rfl
abbrev _root_.Go.Proofs.S1.A5.Neg.Kn:=A7 prog 142 A5.Neg.spec
theorem A5.Neg.Ac (hk:A1 prog A5.Neg.Bc) (h:Hyp A5.Neg.E f142 A5.Neg.ts A5.Neg.pre A5.Neg.out):A5.Neg.Kn :=
 Al (A2 hk _ _ _) func142 (by kernel_rfl) (by kernel_rfl) h
def A5.Power.Bc:List (Nat × Entry):=[]
def A5.Power.E:Env:=Be (Bb A5.Power.Bc) (fun _=>false) (fun _=>none) (fun _=>none)
theorem A5.Power.ev (N:Nat) (x:Int):Bu A5.Power.E N f140 (Am f140) [.int .u64 x]=some (.int .i64 (Ab (Bm (Int.tdiv (Int.tmod x 9223372036854775808) 4503599627370496)))):=by kernel_rfl
abbrev _root_.Go.Proofs.S1.A5.Power.Kn:=A7 prog 140 A5.Power.spec
theorem A5.Power.Ac (hk:A1 prog A5.Power.Bc) (h:Hyp A5.Power.E f140 A5.Power.ts A5.Power.pre A5.Power.out):A5.Power.Kn :=
 Al (A2 hk _ _ _) func140 (by kernel_rfl) (by kernel_rfl) h
def A5.K2.Bc:List (Nat × Entry):=[]
def A5.K2.E:Env:=Be (Bb A5.K2.Bc) (fun _=>false) (fun _=>none) (fun _=>none)
theorem A5.K2.ev (N:Nat) (x:Int):Bu A5.K2.E N f141 (Am f141) [.int .u64 x]=some (.int .u64 (Int.tmod x 4503599627370496)):=by kernel_rfl
abbrev _root_.Go.Proofs.S1.A5.K2.Kn:=A7 prog 141 A5.K2.spec
theorem A5.K2.Ac (hk:A1 prog A5.K2.Bc) (h:Hyp A5.K2.E f141 A5.K2.ts A5.K2.pre A5.K2.out):A5.K2.Kn :=
 Al (A2 hk _ _ _) func141 (by kernel_rfl) (by kernel_rfl) h
def A5.Kind.Bc:List (Nat × Entry):=[(141,A5.K2.spec),(140,A5.Power.spec)]
def A5.Kind.E:Env:=Be (Bb A5.Kind.Bc) (fun _=>false) (fun _=>none) (fun _=>none)
theorem A5.Kind.ev (N:Nat) (x:Int):Bu A5.Kind.E N f62 (Am f62) [.int .u64 x]=bif (K9 x) then bif ((L8 x)==(2047:Int)) then bif (K9 x) then bif ((Da x)==(0:Int)) then some (.int .i64 3) else some (.int .i64 4) else none else bif (K9 x) then bif (Bd 0 (L8 x)) then some (.int .i64 2) else bif (K9 x) then bif (Bd 0 (Da x)) then some (.int .i64 1) else some (.int .i64 0) else none else none else none:=by kernel_rfl
abbrev _root_.Go.Proofs.S1.A5.Kind.Kn:=A7 prog 62 A5.Kind.spec
theorem A5.Kind.Ac (hk:A1 prog A5.Kind.Bc) (h:Hyp A5.Kind.E f62 A5.Kind.ts A5.Kind.pre A5.Kind.out):A5.Kind.Kn :=
 Al (A2 hk _ _ _) func62 (by kernel_rfl) (by kernel_rfl) h
def A5.Finite.Bc:List (Nat × Entry):=[(140,A5.Power.spec)]
def A5.Finite.E:Env:=Be (Bb A5.Finite.Bc) (fun _=>false) (fun _=>none) (fun _=>none)
theorem A5.Finite.ev (N:Nat) (x:Int):Bu A5.Finite.E N f131 (Am f131) [.int .u64 x]=bif (K9 x) then some (.bool (Bd (L8 x) 2047)) else none:=by kernel_rfl
abbrev _root_.Go.Proofs.S1.A5.Finite.Kn:=A7 prog 131 A5.Finite.spec
theorem A5.Finite.Ac (hk:A1 prog A5.Finite.Bc) (h:Hyp A5.Finite.E f131 A5.Finite.ts A5.Finite.pre A5.Finite.out):A5.Finite.Kn :=
 Al (A2 hk _ _ _) func131 (by kernel_rfl) (by kernel_rfl) h
def A5.Dp.Bc:List (Nat × Entry):=[(142,A5.Neg.spec)]
def A5.Dp.E:Env:=Be (Bb A5.Dp.Bc) (fun _=>false) (fun _=>none) (fun _=>none)
theorem A5.Dp.ev (N:Nat) (x:Int):Bu A5.Dp.E N f163 (Am f163) [.int .u64 x]=bif (Ak x) then bif (D4 x) then some (.int .u64 (Bm (x-9223372036854775808))) else some (.int .u64 (Bm (x+9223372036854775808))) else none:=by kernel_rfl
abbrev _root_.Go.Proofs.S1.A5.Dp.Kn:=A7 prog 163 A5.Dp.spec
theorem A5.Dp.Ac (hk:A1 prog A5.Dp.Bc) (h:Hyp A5.Dp.E f163 A5.Dp.ts A5.Dp.pre A5.Dp.out):A5.Dp.Kn :=
 Al (A2 hk _ _ _) func163 (by kernel_rfl) (by kernel_rfl) h
def Ep.Canon.Bc:List (Nat × Entry):=[(62,A5.Kind.spec)]
def Ep.Canon.E:Env:=Be (Bb Ep.Canon.Bc) (fun _=>false) (fun _=>none) (fun _=>none)
theorem Ep.Canon.ev (N:Nat) (x:Int):Bu Ep.Canon.E N f168 (Am f168) [.int .u64 x]=bif (K9 x) then bif ((Bk x)==(4:Int)) then some (.int .u64 9221120237041090560) else some (.int .u64 x) else none:=by kernel_rfl
abbrev _root_.Go.Proofs.S1.Ep.Canon.Kn:=A7 prog 168 Ep.Canon.spec
theorem Ep.Canon.Ac (hk:A1 prog Ep.Canon.Bc) (h:Hyp Ep.Canon.E f168 Ep.Canon.ts Ep.Canon.pre Ep.Canon.out):Ep.Canon.Kn :=
 Al (A2 hk _ _ _) func168 (by kernel_rfl) (by kernel_rfl) h
abbrev _root_.Go.Proofs.S1.Ep.Canon.nb.Kn:Prop:=A7 prog 168 Ep.Canon.nb.spec
end EqRefD
open EqRefD
theorem Jo (n m:Nat):Int.tdiv (n:Int) (m:Int)=((n / m:Nat):Int):=rfl
theorem Jn (n m:Nat):Int.tmod (n:Int) (m:Int)=((n%m:Nat):Int):=rfl
theorem Auq:(9223372036854775808:Int)=((2^63:Nat):Int):=rfl
theorem Aur:(4503599627370496:Int)=((2^52:Nat):Int):=rfl
theorem A5.Neg.known:A5.Neg.Kn:=A5.Neg.Ac .nil fun x hp=>by
 obtain ⟨n,rfl,hn⟩:=Bo (x:=x) hp
 refine ⟨0,A5.Neg.out [.i n],[],?_,.bool⟩
 rw [A5.Neg.ev,Auq,Jo,Dh (by omega) (by omega)]
 show _=some (DV.bool (D4 n))
 unfold D4 B0
 rw [A06]
 congr 2
 rw [A1k]
 simp only [beq_iff_eq,A1b]
 omega
theorem A5.Power.known:A5.Power.Kn:=A5.Power.Ac .nil fun x hp=>by
 obtain ⟨n,rfl⟩:=U9 (x:=x) hp
 refine ⟨0,A5.Power.out [.i n],[],?_,.int⟩
 rw [A5.Power.ev,Auq,Aur,Jn,Jo,Dh (by omega) (by omega),An (by omega) (by omega)]
 show _=some (DV.int .i64 (L8 n))
 unfold L8 Ea
 rw [A06]
 congr 2
 have:n%2^63 / 2^52=n / 2^52%2048:=by omega
 rw [this]
theorem A5.K2.known:A5.K2.Kn:=A5.K2.Ac .nil fun x hp=>by
 obtain ⟨n,rfl⟩:=U9 (x:=x) hp
 refine ⟨0,A5.K2.out [.i n],[],?_,.int⟩
 rw [A5.K2.ev,Aur,Jn]
 rfl
theorem A5.Kind.known:A5.Kind.Kn:=A5.Kind.Ac (.cons A5.K2.known (.cons A5.Power.known .nil)) fun x hp=>by
 obtain ⟨n,rfl⟩:=U9 (x:=x) hp
 refine ⟨0,A5.Kind.out [.i n],[],?_,.int⟩
 rw [A5.Kind.ev,I2]
 show _=some (DV.int .i64 (Bk n))
 unfold Bk Ao L8 Da
 simp only [A06,A04,Aw]
 have:=Jx n
 by_cases h1:Ea n=2047
 ·by_cases h2:Di n=0
  ·simp [h1,h2]
  ·have:((Di n:Int)==0)=false:=by simp; exact h2
   simp [h1,this,h2]
 ·have h1':((Ea n:Int)==2047)=false:=by simp; omega
  rw [h1']
  by_cases h3:0<Ea n
  ·simp [h1,h3]
  ·by_cases h4:0<Di n
   ·simp [h1,h3,h4]
   ·simp [h1,h3,h4]
theorem A5.Finite.known:A5.Finite.Kn:=A5.Finite.Ac (.cons A5.Power.known .nil) fun x hp=>by
 obtain ⟨n,rfl,hn⟩:=Bo (x:=x) hp
 refine ⟨0,A5.Finite.out [.i n],[],?_,.bool⟩
 rw [A5.Finite.ev,I2,A04,Aw]
 show _=some (DV.bool (Dg n))
 unfold Dg Ku L8
 rw [A06]
 have:decide ((Ea n:Int)<2047)=decide (Ea n<2047):=decide_eq_decide.2 (by omega)
 rw [this]
theorem A5.Dp.known:A5.Dp.Kn:=A5.Dp.Ac (.cons A5.Neg.known .nil) fun x hp=>by
 obtain ⟨n,rfl,hn⟩:=Bo (x:=x) hp
 refine ⟨0,A5.Dp.out [.i n],[],?_,.int⟩
 rw [A5.Dp.ev,Ce hn,A04]
 show _=some (DV.int .u64 (Dk n))
 unfold Dk H4 D4 B0
 rw [A06,Ow,Ow]
 by_cases h:2^63≤n
 ·have e:((n:Int)-9223372036854775808)%18446744073709551616=((n-2^63:Nat):Int):=by omega
  rw [A1r h,A05 h,A04,e]
 ·have e:((n:Int)+9223372036854775808)%18446744073709551616=((n+2^63:Nat):Int):=by omega
  rw [A1q h,A09 h,A08,e]
theorem Ep.Canon.known:Ep.Canon.Kn:=Ep.Canon.Ac (.cons A5.Kind.known .nil) fun x hp=>by
 obtain ⟨n,rfl⟩:=U9 (x:=x) hp
 refine ⟨0,Ep.Canon.out [.i n],[],?_,.int⟩
 rw [Ep.Canon.ev,I2,A04]
 show _=some (DV.int .u64 (Aal n))
 unfold Aal D8 Bk
 rw [A06]
 by_cases h:Ao n=4
 ·have:((Ao n:Int)==4)=true:=by simp; omega
  rw [this,A1r h]; rfl
 ·have:((Ao n:Int)==4)=false:=by simp; omega
  rw [this,A1q h]; rfl
theorem Anb {n m:Nat} (h:Qx n m):D8 n=D8 m:=by
 rcases h with rfl | ⟨h1,h2⟩
 ·rfl
 ·unfold F4 at h1 h2
  rw [Zc n] at h1
  rw [Zc m] at h2
  unfold D8
  rw [A1r (A1u h1),A1r (A1u h2)]
theorem As2 {c:Ctx} {w:World} {d:DV} {vs:List Value} (h:Bi c w [d] vs):∃ v,vs=[v]∧As c w d v:=by
 simp only [Bi] at h
 obtain ⟨u,us,rfl,hv,rfl⟩:=h
 exact ⟨u,rfl,hv⟩
theorem Ep.Canon.Apm:Ep.Canon.nb.Kn:=by
 refine ⟨fun args ha=>?_,Ep.Canon.known.call⟩
 unfold Ep.Canon.nb.spec entry at ha ⊢
 simp only at ha ⊢
 cases hd:Mu [.nb] args with
 | none=>rw [hd] at ha; cases ha
 | some bs =>
   rw [hd] at ha
   obtain ⟨ds,h1,h2⟩:=Mt hd
   obtain ⟨x,_,_,rfl,rfl,he⟩:=h1.Avy
   obtain ⟨rfl,rfl⟩:=he.X1
   refine Ot.args (args:=[.nb x]) ?_ h2
   intro w vals I hI hl
   obtain ⟨v,hv,hr⟩:=As2 hl
   simp only [As] at hr
   obtain ⟨m,rfl,hm⟩:=hr
   have e:Ep.Canon.nb.out [.f x]=Ep.Canon.spec.out [.int .u64 (m:Int)]:=by
    show DV.int .u64 (Ge x)=DV.int .u64 (Aal (m:Int))
    unfold Ge Aal
    rw [A06,Anb hm]
   show Calls _ _ _ _ fun e' w'=>∃ v own,e'=.returned v∧Go.RowKit.Below w.heap.size w w'∧Ali own w w'∧As (D6 I own w w') w' (Ep.Canon.nb.out [.f x]) v
   rw [e]
   exact Ep.Canon.known.meets [.int .u64 (m:Int)] (I2 m) w vals I hI (by rw [hv]; exact ⟨_,_,rfl,rfl,rfl⟩)
end Go.Proofs.S1
end
