/- A verified evaluator of the program's form and its use for this seat: S1Specs, S1Tt, S1EqSoft, S1PSoft, S1EqRefD, S1PRefD, S1EqRefA, S1PRefA, S1PRefAa, S1EqRefB. -/
import Derived.Test.YtjbokjpbiobjpaaGreatTE
set_option linter.unusedVariables false
set_option linter.unusedSimpArgs false
noncomputable section
namespace Go.Proofs.S1
open Go Go.Den Go.Rnd
def soft.Split.pre:List Atom→Bool
  | [.i x]=>Ai x
  | _=>false
def soft.Split.out:List Atom→DV
  | [.i x]=>.agg [.bool (Df x),.int .i64 (Kt x),.int .u64 (Cd x)]
  | _=>.undef
def soft.Split.spec:Entry:=entry [.i .u64] soft.Split.pre soft.Split.out
def soft.Kind.pre:List Atom→Bool
  | [.i x]=>Ai x
  | _=>false
def soft.Kind.out:List Atom→DV
  | [.i x]=>.int .i64 (A8 x)
  | _=>.undef
def soft.Kind.spec:Entry:=entry [.i .u64] soft.Kind.pre soft.Kind.out
def soft.Sign.pre:List Atom→Bool
  | [.i x]=>Ai x
  | _=>false
def soft.Sign.out:List Atom→DV
  | [.i x]=>.bool (Df x)
  | _=>.undef
def soft.Sign.spec:Entry:=entry [.i .u64] soft.Sign.pre soft.Sign.out
def soft.Finite.pre:List Atom→Bool
  | [.i x]=>Ai x
  | _=>false
def soft.Finite.out:List Atom→DV
  | [.i x]=>.bool (C9 x)
  | _=>.undef
def soft.Finite.spec:Entry:=entry [.i .u64] soft.Finite.pre soft.Finite.out
def soft.Fc.pre:List Atom→Bool
  | [.i x]=>Ai x
  | _=>false
def soft.Fc.out:List Atom→DV
  | [.i x]=>.int .u64 (Dd x)
  | _=>.undef
def soft.Fc.spec:Entry:=entry [.i .u64] soft.Fc.pre soft.Fc.out
def soft.E4.pre:List Atom→Bool
  | [.i x]=>Ai x
  | _=>false
def soft.E4.out:List Atom→DV
  | [.i x]=>.tup [.int .u64 (Bg x),.int .i64 (Aw x)]
  | _=>.undef
def soft.E4.spec:Entry:=entry [.i .u64] soft.E4.pre soft.E4.out
def soft.Pack.mu:List Atom→Nat
  | [.b _n,.i m,.i e]=>L9 m e
  | _=>0
def soft.Pack.pre:List Atom→Bool
  | [.b _n,.i m,.i e]=>Ix m e
  | _=>false
def soft.Pack.out:List Atom→DV
  | [.b n,.i m,.i e]=>.int .u64 (Qk n m e)
  | _=>.undef
def soft.Pack.spec:Entry:=entry [.b,.i .u64,.i .i64] soft.Pack.pre soft.Pack.out
def soft.Cr.pre:List Atom→Bool
  | [.b _n,.i m,.i e,.b r]=>Di m e r
  | _=>false
def soft.Cr.out:List Atom→DV
  | [.b n,.i m,.i e,.b r]=>.tup [.int .u64 (D0 n m e r),.int .u8 (Dz n m e r)]
  | _=>.undef
def soft.Cr.spec:Entry:=entry [.b,.i .u64,.i .i64,.b] soft.Cr.pre soft.Cr.out
def sum.right.pre:List Atom→Bool
  | [.i m,.i d]=>Ai m&&Cn (0≤d∧d<1000000)
  | _=>false
def sum.right.out:List Atom→DV
  | [.i m,.i d]=>.int .u64 (D9 m d)
  | _=>.undef
def sum.right.spec:Entry:=entry [.i .u64,.i .i64] sum.right.pre sum.right.out
def sum.Dt.pre:List Atom→Bool
  | [.i a,.i b]=>(Ai a&&Ai b)&&(!(C9 a)||!(C9 b))
  | _=>false
def sum.Dt.out:List Atom→DV
  | [.i a,.i b]=>.tup [.int .u64 (Jn a b),.int .u8 (Sv a b)]
  | _=>.undef
def sum.Dt.spec:Entry:=entry [.i .u64,.i .u64] sum.Dt.pre sum.Dt.out
def sum.Add.pre:List Atom→Bool
  | [.i a,.i b]=>Ai a&&Ai b
  | _=>false
def sum.Add.out:List Atom→DV
  | [.i a,.i b]=>.tup [.int .u64 (Jn a b),.int .u8 (Sv a b)]
  | _=>.undef
def sum.Add.spec:Entry:=entry [.i .u64,.i .u64] sum.Add.pre sum.Add.out
def sum.Sub.pre:List Atom→Bool
  | [.i a,.i b]=>Ai a&&Ai b
  | _=>false
def sum.Sub.out:List Atom→DV
  | [.i a,.i b]=>.tup [.int .u64 (Dm a b),.int .u8 (Ap8 a b)]
  | _=>.undef
def sum.Sub.spec:Entry:=entry [.i .u64,.i .u64] sum.Sub.pre sum.Sub.out
def Bd.Neg.pre:List Atom→Bool
  | [.i x]=>Ai x
  | _=>false
def Bd.Neg.out:List Atom→DV
  | [.i x]=>.bool (Df x)
  | _=>.undef
def Bd.Neg.spec:Entry:=entry [.i .u64] Bd.Neg.pre Bd.Neg.out
def Bd.Power.pre:List Atom→Bool
  | [.i x]=>Xy x
  | _=>false
def Bd.Power.out:List Atom→DV
  | [.i x]=>.int .i64 (Kt x)
  | _=>.undef
def Bd.Power.spec:Entry:=entry [.i .u64] Bd.Power.pre Bd.Power.out
def Bd.J1.pre:List Atom→Bool
  | [.i x]=>Xy x
  | _=>false
def Bd.J1.out:List Atom→DV
  | [.i x]=>.int .u64 (Cd x)
  | _=>.undef
def Bd.J1.spec:Entry:=entry [.i .u64] Bd.J1.pre Bd.J1.out
def Bd.Finite.pre:List Atom→Bool
  | [.i x]=>Ai x
  | _=>false
def Bd.Finite.out:List Atom→DV
  | [.i x]=>.bool (C9 x)
  | _=>.undef
def Bd.Finite.spec:Entry:=entry [.i .u64] Bd.Finite.pre Bd.Finite.out
def B9.Bk.pre:List Atom→Bool
  | [.i x]=>Ai x
  | _=>false
def B9.Bk.out:List Atom→DV
  | [.i x]=>.int .i64 (64-D1 x)
  | _=>.undef
def B9.Bk.spec:Entry:=entry [.i .u64] B9.Bk.pre B9.Bk.out
def B9.Gp.pre:List Atom→Bool
  | [.i x,.i y]=>Ai x&&Ai y
  | _=>false
def B9.Gp.out:List Atom→DV
  | [.i x,.i y]=>.tup [.int .u64 (O3 x y),.int .u64 (K0 x y)]
  | _=>.undef
def B9.Gp.spec:Entry:=entry [.i .u64,.i .u64] B9.Gp.pre B9.Gp.out
def times.signed.pre:List Atom→Bool
  | [.i b,.b _n]=>Ai b
  | _=>false
def times.signed.out:List Atom→DV
  | [.i b,.b n]=>.int .u64 (Oz n b)
  | _=>.undef
def times.signed.spec:Entry:=entry [.i .u64,.b] times.signed.pre times.signed.out
def times.nan.pre:List Atom→Bool
  | [.i a,.i b]=>Ai a&&Ai b
  | _=>false
def times.nan.out:List Atom→DV
  | [.i a,.i b]=>.bool (Ahn a b)
  | _=>.undef
def times.nan.spec:Entry:=entry [.i .u64,.i .u64] times.nan.pre times.nan.out
def times.norm.pre:List Atom→Bool
  | [.i b]=>Ai b&&Jv b
  | _=>false
def times.norm.out:List Atom→DV
  | [.i b]=>.tup [.int .u64 (Ca b),.int .i64 (F1 b)]
  | _=>.undef
def times.norm.spec:Entry:=entry [.i .u64] times.norm.pre times.norm.out
def times.wide.pre:List Atom→Bool
  | [.b _n,.i m,.i e,.b _r]=>L5 m e
  | _=>false
def times.wide.out:List Atom→DV
  | [.b n,.i m,.i e,.b r]=>.tup [.int .u64 (D0 n m e r),.int .u8 (Dz n m e r)]
  | _=>.undef
def times.wide.spec:Entry:=entry [.b,.i .u64,.i .i64,.b] times.wide.pre times.wide.out
def times.Mul.pre:List Atom→Bool
  | [.i a,.i b]=>Ai a&&Ai b
  | _=>false
def times.Mul.out:List Atom→DV
  | [.i a,.i b]=>.tup [.int .u64 (El a b),.int .u8 (Aqh a b)]
  | _=>.undef
def times.Mul.spec:Entry:=entry [.i .u64,.i .u64] times.Mul.pre times.Mul.out
def times.Div.pre:List Atom→Bool
  | [.i a,.i b]=>Ai a&&Ai b
  | _=>false
def times.Div.out:List Atom→DV
  | [.i a,.i b]=>.tup [.int .u64 (E8 a b),.int .u8 (Aqq a b)]
  | _=>.undef
def times.Div.spec:Entry:=entry [.i .u64,.i .u64] times.Div.pre times.Div.out
def Ae.Add.pre:List Atom→Bool
  | [.i a,.i b]=>Ai a&&Ai b
  | _=>false
def Ae.Add.out:List Atom→DV
  | [.i a,.i b]=>.int .u64 (Jn a b)
  | _=>.undef
def Ae.Add.spec:Entry:=entry [.i .u64,.i .u64] Ae.Add.pre Ae.Add.out
def Ae.Sub.pre:List Atom→Bool
  | [.i a,.i b]=>Ai a&&Ai b
  | _=>false
def Ae.Sub.out:List Atom→DV
  | [.i a,.i b]=>.int .u64 (Dm a b)
  | _=>.undef
def Ae.Sub.spec:Entry:=entry [.i .u64,.i .u64] Ae.Sub.pre Ae.Sub.out
def Ae.Mul.pre:List Atom→Bool
  | [.i a,.i b]=>Ai a&&Ai b
  | _=>false
def Ae.Mul.out:List Atom→DV
  | [.i a,.i b]=>.int .u64 (El a b)
  | _=>.undef
def Ae.Mul.spec:Entry:=entry [.i .u64,.i .u64] Ae.Mul.pre Ae.Mul.out
def Ae.fit.pre:List Atom→Bool
  | [.l _x,.l _y]=>true
  | _=>false
def Ae.fit.out:List Atom→DV
  | [.l x,.l y]=>.bool (Rx x y)
  | _=>.undef
def Ae.fit.spec:Entry:=entry [.s .u64,.s .u64] Ae.fit.pre Ae.fit.out
def Ae.M6.pre:List Atom→Bool
  | [.l x,.l y]=>(Rx x y&&Ah x)&&Ah y
  | _=>false
def Ae.M6.out:List Atom→DV
  | [.l x,.l y]=>.tup [.int .u64 (Ov x y),.int .i64 (0:Int)]
  | _=>.undef
def Ae.M6.spec:Entry:=entry [.s .u64,.s .u64] Ae.M6.pre Ae.M6.out
def Aa.size.pre:List Atom→Bool
  | [.i _n]=>true
  | _=>false
def Aa.size.out:List Atom→DV
  | [.i n]=>.bool (Bl n)
  | _=>.undef
def Aa.size.spec:Entry:=entry [.i .i64] Aa.size.pre Aa.size.out
def Aa.Check.pre:List Atom→Bool
  | [.i _r,.i _c,.l _l]=>true
  | _=>false
def Aa.Check.out:List Atom→DV
  | [.i r,.i c,.l l]=>.int .i64 (It r c l)
  | _=>.undef
def Aa.Check.spec:Entry:=entry [.st [.i .i64,.i .i64,.s .u64]] Aa.Check.pre Aa.Check.out
def Aa.get.pre:List Atom→Bool
  | [.i r,.i c,.l l,.i i,.i k]=>D2 r c l i k
  | _=>false
def Aa.get.out:List Atom→DV
  | [.i _r,.i c,.l l,.i i,.i k]=>.int .u64 (Eh c l i k)
  | _=>.undef
def Aa.get.spec:Entry:=entry [.st [.i .i64,.i .i64,.s .u64],.i .i64,.i .i64] Aa.get.pre Aa.get.out
def Aa.two.pre:List Atom→Bool
  | [.i _r,.i _c,.l _l,.i _p,.i _q,.l _m]=>true
  | _=>false
def Aa.two.out:List Atom→DV
  | [.i r,.i c,.l l,.i p,.i q,.l m]=>.int .i64 (Tp r c l p q m)
  | _=>.undef
def Aa.two.spec:Entry:=entry [.st [.i .i64,.i .i64,.s .u64],.st [.i .i64,.i .i64,.s .u64]] Aa.two.pre Aa.two.out
def Aa.Row.pre:List Atom→Bool
  | [.i r,.i c,.l l,.i i,.i f]=>Xl r c l i&&decide (f=0)
  | _=>false
def Aa.Row.out:List Atom→DV
  | [.i _r,.i c,.l l,.i i,.i _f]=>.ints .fresh .u64 (La c l i)
  | _=>.undef
def Aa.Row.spec:Entry:=entry [.st [.i .i64,.i .i64,.s .u64],.i .i64,.i .i64] Aa.Row.pre Aa.Row.out
def Aa.C4.pre:List Atom→Bool
  | [.i r,.i c,.l l,.i k,.i f]=>Kl r c l k&&Cn (0≤f∧f≤r)
  | _=>false
def Aa.C4.out:List Atom→DV
  | [.i r,.i c,.l l,.i k,.i f]=>.ints .fresh .u64 (Dh c l k f (Int.toNat (r-f)))
  | _=>.undef
def Aa.C4.spec:Entry:=entry [.st [.i .i64,.i .i64,.s .u64],.i .i64,.i .i64] Aa.C4.pre Aa.C4.out
def Aa.Dl.pre:List Atom→Bool
  | [.i _i,.i _k]=>true
  | _=>false
def Aa.Dl.out:List Atom→DV
  | [.i _i,.i _k]=>.int .u64 (0:Int)
  | _=>.undef
def Aa.Dl.spec:Entry:=entry [.i .i64,.i .i64] Aa.Dl.pre Aa.Dl.out
def Aa.Gr.pre:List Atom→Bool
  | [.i _i,.i _k]=>true
  | _=>false
def Aa.Gr.out:List Atom→DV
  | [.i i,.i k]=>.int .u64 (R0 i k)
  | _=>.undef
def Aa.Gr.spec:Entry:=entry [.i .i64,.i .i64] Aa.Gr.pre Aa.Gr.out
def Aa.Et.pre:List Atom→Bool
  | [.i i,.i k,.i r,.i c,.l l]=>D2 r c l k i
  | _=>false
def Aa.Et.out:List Atom→DV
  | [.i i,.i k,.i _r,.i c,.l l]=>.int .u64 (Eh c l k i)
  | _=>.undef
def Aa.Et.spec:Entry:=entry [.i .i64,.i .i64,.cp [.i .i64,.i .i64,.s .u64]] Aa.Et.pre Aa.Et.out
def Aa.Ev.pre:List Atom→Bool
  | [.i i,.i k,.i r,.i c,.l l,.i x,.i y]=>D2 r c l (x+i) (y+k)&&Rj x y i k
  | _=>false
def Aa.Ev.out:List Atom→DV
  | [.i i,.i k,.i _r,.i c,.l l,.i x,.i y]=>.int .u64 (Eh c l (x+i) (y+k))
  | _=>.undef
def Aa.Ev.spec:Entry:=entry [.i .i64,.i .i64,.cp [.i .i64,.i .i64,.s .u64],.cp [.i .i64],.cp [.i .i64]] Aa.Ev.pre Aa.Ev.out
def Aa.Gl.pre:List Atom→Bool
  | [.i i,.i k,.i r,.i c,.l l,.i p,.i q,.l m]=>((D2 r c l i k&&D2 p q m i k)&&Ah l)&&Ah m
  | _=>false
def Aa.Gl.out:List Atom→DV
  | [.i i,.i k,.i _r,.i c,.l l,.i _p,.i q,.l m]=>.int .u64 (Dm (Eh c l i k) (Eh q m i k))
  | _=>.undef
def Aa.Gl.spec:Entry:=entry [.i .i64,.i .i64,.cp [.i .i64,.i .i64,.s .u64],.cp [.i .i64,.i .i64,.s .u64]] Aa.Gl.pre Aa.Gl.out
def Aa.Gn.pre:List Atom→Bool
  | [.i i,.i k,.i r,.i c,.l l,.i p,.i q,.l m]=>Pm r c l p q m i k
  | _=>false
def Aa.Gn.out:List Atom→DV
  | [.i i,.i k,.i _r,.i c,.l l,.i p,.i q,.l m]=>.int .u64 (Ov (La c l i) (Pv p q m k))
  | _=>.undef
def Aa.Gn.spec:Entry:=entry [.i .i64,.i .i64,.cp [.i .i64,.i .i64,.s .u64],.cp [.i .i64,.i .i64,.s .u64]] Aa.Gn.pre Aa.Gn.out
def Aa.of.Gs.pre:List Atom→Bool
  | [.i a,.i b]=>(Bl a&&Bl b)
  | _=>false
def Aa.of.Gs.out:List Atom→DV
  | [.i a,.i b]=>.agg [.int .i64 a,.int .i64 b,.ints .fresh .u64 (Cq (Int.toNat a) (Int.toNat b) (fun j1 j2=>R0 j1 j2))]
  | _=>.undef
def Aa.of.Gs.spec:Entry:=entry [.i .i64,.i .i64,.fn 246 []] Aa.of.Gs.pre Aa.of.Gs.out
def Aa.of.C3.pre:List Atom→Bool
  | [.i a,.i b,.i r,.i c,.l l]=>(Bl a&&Bl b)&&Bf r c l&&decide (a=c∧b=r)
  | _=>false
def Aa.of.C3.out:List Atom→DV
  | [.i a,.i b,.i _r,.i c,.l l]=>.agg [.int .i64 a,.int .i64 b,.ints .fresh .u64 (Cq (Int.toNat a) (Int.toNat b) (fun j1 j2=>Eh c l j2 j1))]
  | _=>.undef
def Aa.of.C3.spec:Entry:=entry [.i .i64,.i .i64,.fn 220 [.cp [.i .i64,.i .i64,.s .u64]]] Aa.of.C3.pre Aa.of.C3.out
def Aa.of.Part.pre:List Atom→Bool
  | [.i a,.i b,.i r,.i c,.l l,.i x,.i y]=>(Bl a&&Bl b)&&Bf r c l&&O0 r c x y a b
  | _=>false
def Aa.of.Part.out:List Atom→DV
  | [.i a,.i b,.i _r,.i c,.l l,.i x,.i y]=>.agg [.int .i64 a,.int .i64 b,.ints .fresh .u64 (Cq (Int.toNat a) (Int.toNat b) (fun j1 j2=>Eh c l (x+j1) (y+j2)))]
  | _=>.undef
def Aa.of.Part.spec:Entry:=entry [.i .i64,.i .i64,.fn 192 [.cp [.i .i64,.i .i64,.s .u64],.cp [.i .i64],.cp [.i .i64]]] Aa.of.Part.pre Aa.of.Part.out
def Aa.of.Sub.pre:List Atom→Bool
  | [.i a,.i b,.i r,.i c,.l l,.i p,.i q,.l m]=>(Bl a&&Bl b)&&((Bf r c l&&Bf p q m)&&(Ah l&&Ah m))&&decide (a=r∧b=c∧p=r∧q=c)
  | _=>false
def Aa.of.Sub.out:List Atom→DV
  | [.i a,.i b,.i _r,.i c,.l l,.i _p,.i q,.l m]=>.agg [.int .i64 a,.int .i64 b,.ints .fresh .u64 (Cq (Int.toNat a) (Int.toNat b) (fun j1 j2=>Dm (Eh c l j1 j2) (Eh q m j1 j2)))]
  | _=>.undef
def Aa.of.Sub.spec:Entry:=entry [.i .i64,.i .i64,.fn 194 [.cp [.i .i64,.i .i64,.s .u64],.cp [.i .i64,.i .i64,.s .u64]]] Aa.of.Sub.pre Aa.of.Sub.out
def Aa.of.Mul.pre:List Atom→Bool
  | [.i a,.i b,.i r,.i c,.l l,.i p,.i q,.l m]=>(Bl a&&Bl b)&&((Bf r c l&&Bf p q m)&&(Ah l&&Ah m))&&decide (a=r∧b=q∧c=p)
  | _=>false
def Aa.of.Mul.out:List Atom→DV
  | [.i a,.i b,.i _r,.i c,.l l,.i p,.i q,.l m]=>.agg [.int .i64 a,.int .i64 b,.ints .fresh .u64 (Cq (Int.toNat a) (Int.toNat b) (fun j1 j2=>Ov (La c l j1) (Pv p q m j2)))]
  | _=>.undef
def Aa.of.Mul.spec:Entry:=entry [.i .i64,.i .i64,.fn 188 [.cp [.i .i64,.i .i64,.s .u64],.cp [.i .i64,.i .i64,.s .u64]]] Aa.of.Mul.pre Aa.of.Mul.out
def Aa.Gs.pre:List Atom→Bool
  | [.i _n]=>true
  | _=>false
def Aa.Gs.out:List Atom→DV
  | [.i n]=>.tup [.agg [.int .i64 ((Kj n).1),.int .i64 ((Kj n).2.1),.ints .fresh .u64 ((Kj n).2.2.1)],.int .i64 ((Kj n).2.2.2)]
  | _=>.undef
def Aa.Gs.spec:Entry:=entry [.i .i64] Aa.Gs.pre Aa.Gs.out
def Aa.C3.pre:List Atom→Bool
  | [.i _r,.i _c,.l _l]=>true
  | _=>false
def Aa.C3.out:List Atom→DV
  | [.i r,.i c,.l l]=>.tup [.agg [.int .i64 ((A6 r c l).1),.int .i64 ((A6 r c l).2.1),.ints .fresh .u64 ((A6 r c l).2.2.1)],.int .i64 ((A6 r c l).2.2.2)]
  | _=>.undef
def Aa.C3.spec:Entry:=entry [.st [.i .i64,.i .i64,.s .u64]] Aa.C3.pre Aa.C3.out
def Aa.Part.pre:List Atom→Bool
  | [.i _r,.i _c,.l _l,.i _x,.i _y,.i _a,.i _b]=>true
  | _=>false
def Aa.Part.out:List Atom→DV
  | [.i r,.i c,.l l,.i x,.i y,.i a,.i b]=>.tup [.agg [.int .i64 ((D5 r c l x y a b).1),.int .i64 ((D5 r c l x y a b).2.1),.ints .fresh .u64 ((D5 r c l x y a b).2.2.1)],.int .i64 ((D5 r c l x y a b).2.2.2)]
  | _=>.undef
def Aa.Part.spec:Entry:=entry [.st [.i .i64,.i .i64,.s .u64],.i .i64,.i .i64,.i .i64,.i .i64] Aa.Part.pre Aa.Part.out
def Aa.Sub.pre:List Atom→Bool
  | [.i _r,.i _c,.l l,.i _p,.i _q,.l m]=>Ah l&&Ah m
  | _=>false
def Aa.Sub.out:List Atom→DV
  | [.i r,.i c,.l l,.i p,.i q,.l m]=>.tup [.agg [.int .i64 ((Re r c l p q m).1),.int .i64 ((Re r c l p q m).2.1),.ints .fresh .u64 ((Re r c l p q m).2.2.1)],.int .i64 ((Re r c l p q m).2.2.2)]
  | _=>.undef
def Aa.Sub.spec:Entry:=entry [.st [.i .i64,.i .i64,.s .u64],.st [.i .i64,.i .i64,.s .u64]] Aa.Sub.pre Aa.Sub.out
def Aa.Mul.pre:List Atom→Bool
  | [.i _r,.i _c,.l l,.i _p,.i _q,.l m]=>Ah l&&Ah m
  | _=>false
def Aa.Mul.out:List Atom→DV
  | [.i r,.i c,.l l,.i p,.i q,.l m]=>.tup [.agg [.int .i64 ((M4 r c l p q m).1),.int .i64 ((M4 r c l p q m).2.1),.ints .fresh .u64 ((M4 r c l p q m).2.2.1)],.int .i64 ((M4 r c l p q m).2.2.2)]
  | _=>.undef
def Aa.Mul.spec:Entry:=entry [.st [.i .i64,.i .i64,.s .u64],.st [.i .i64,.i .i64,.s .u64]] Aa.Mul.pre Aa.Mul.out
def Gg.Gm.pre:List Atom→Bool
  | [.i _r,.i _c,.l _l]=>true
  | _=>false
def Gg.Gm.out:List Atom→DV
  | [.i r,.i c,.l l]=>.bool (Bf r c l)
  | _=>.undef
def Gg.Gm.spec:Entry:=entry [.st [.i .i64,.i .i64,.s .u64]] Gg.Gm.pre Gg.Gm.out
def Ac.Hl.pre:List Atom→Bool
  | [.l l,.i _i]=>E6 l
  | _=>false
def Ac.Hl.out:List Atom→DV
  | [.l l,.i i]=>.int .u64 (Fs l i)
  | _=>.undef
def Ac.Hl.spec:Entry:=entry [.s .u32,.i .i64] Ac.Hl.pre Ac.Hl.out
def Ac.Made.pre:List Atom→Bool
  | [.b _n,.l l]=>E6 l
  | _=>false
def Ac.Made.out:List Atom→DV
  | [.b n,.l l]=>.agg [.bool (As (wv n l)),.ints .arg .u32 (Ag (wv n l))]
  | _=>.undef
def Ac.Made.spec:Entry:=entry [.b,.s .u32] Ac.Made.pre Ac.Made.out
def Ac.Of.pre:List Atom→Bool
  | [.i n]=>Adu n
  | _=>false
def Ac.Of.out:List Atom→DV
  | [.i n]=>.agg [.bool (As (n)),.ints .arg .u32 (Ag (n))]
  | _=>.undef
def Ac.Of.spec:Entry:=entry [.i .i64] Ac.Of.pre Ac.Of.out
def Ac.Gy.pre:List Atom→Bool
  | [.l a,.l b]=>E6 a&&E6 b
  | _=>false
def Ac.Gy.out:List Atom→DV
  | [.l a,.l b]=>.int .i64 (R4 (Bq a) (Bq b))
  | _=>.undef
def Ac.Gy.spec:Entry:=entry [.s .u32,.s .u32] Ac.Gy.pre Ac.Gy.out
def Ac.plus.pre:List Atom→Bool
  | [.l a,.l b]=>E6 a&&E6 b
  | _=>false
def Ac.plus.out:List Atom→DV
  | [.l a,.l b]=>.ints .arg .u32 (G3 a b)
  | _=>.undef
def Ac.plus.spec:Entry:=entry [.s .u32,.s .u32] Ac.plus.pre Ac.plus.out
def Ac.minus.pre:List Atom→Bool
  | [.l a,.l b]=>(E6 a&&E6 b)&&leL b a
  | _=>false
def Ac.minus.out:List Atom→DV
  | [.l a,.l b]=>.ints .arg .u32 (F3 a b)
  | _=>.undef
def Ac.minus.spec:Entry:=entry [.s .u32,.s .u32] Ac.minus.pre Ac.minus.out
def Ac.Add.pre:List Atom→Bool
  | [.b n,.l a,.b m,.l b]=>Jt n a&&Jt m b
  | _=>false
def Ac.Add.out:List Atom→DV
  | [.b n,.l a,.b m,.l b]=>.agg [.bool (As (wv n a+wv m b)),.ints .arg .u32 (Ag (wv n a+wv m b))]
  | _=>.undef
def Ac.Add.spec:Entry:=entry [.st [.b,.s .u32],.st [.b,.s .u32]] Ac.Add.pre Ac.Add.out
def Ac.Neg.pre:List Atom→Bool
  | [.b n,.l a]=>Jt n a
  | _=>false
def Ac.Neg.out:List Atom→DV
  | [.b n,.l a]=>.agg [.bool (As (- wv n a)),.ints .arg .u32 (Ag (- wv n a))]
  | _=>.undef
def Ac.Neg.spec:Entry:=entry [.st [.b,.s .u32]] Ac.Neg.pre Ac.Neg.out
def Ac.Ey.pre:List Atom→Bool
  | [.b n,.l a]=>Jt n a
  | _=>false
def Ac.Ey.out:List Atom→DV
  | [.b n,.l a]=>.agg [.bool (As (2*wv n a)),.ints .arg .u32 (Ag (2*wv n a))]
  | _=>.undef
def Ac.Ey.spec:Entry:=entry [.st [.b,.s .u32]] Ac.Ey.pre Ac.Ey.out
def Ac.Ge.pre:List Atom→Bool
  | [.b n,.l a]=>Jt n a
  | _=>false
def Ac.Ge.out:List Atom→DV
  | [.b n,.l a]=>.agg [.bool (As (Iw (wv n a) 1)),.ints .arg .u32 (Ag (Iw (wv n a) 1))]
  | _=>.undef
def Ac.Ge.spec:Entry:=entry [.st [.b,.s .u32]] Ac.Ge.pre Ac.Ge.out
def Ac.Bp.pre:List Atom→Bool
  | [.b n,.l a,.i k]=>Vl n a&&Ans k
  | _=>false
def Ac.Bp.out:List Atom→DV
  | [.b n,.l a,.i k]=>.agg [.bool (As (Gt (wv n a) k)),.ints .arg .u32 (Ag (Gt (wv n a) k))]
  | _=>.undef
def Ac.Bp.spec:Entry:=entry [.st [.b,.s .u32],.i .i64] Ac.Bp.pre Ac.Bp.out
def Ac.Tl.pre:List Atom→Bool
  | [.b n,.l a]=>Jt n a
  | _=>false
def Ac.Tl.out:List Atom→DV
  | [.b n,.l a]=>.bool (Aez (wv n a))
  | _=>.undef
def Ac.Tl.spec:Entry:=entry [.st [.b,.s .u32]] Ac.Tl.pre Ac.Tl.out
def Ac.Dw.pre:List Atom→Bool
  | [.b n,.l a,.b m,.l b]=>Jt n a&&Jt m b
  | _=>false
def Ac.Dw.out:List Atom→DV
  | [.b n,.l a,.b m,.l b]=>.bool (Ty (wv n a) (wv m b))
  | _=>.undef
def Ac.Dw.spec:Entry:=entry [.st [.b,.s .u32],.st [.b,.s .u32]] Ac.Dw.pre Ac.Dw.out
def Az.Of.pre:List Atom→Bool
  | [.b n,.l a,.i e]=>Jt n a&&Rr e
  | _=>false
def Az.Of.out:List Atom→DV
  | [.b n,.l a,.i e]=>.agg [.bool (As (mD (wv n a))),.ints .arg .u32 (Ag (mD (wv n a))),.int .i64 (eD (wv n a) e)]
  | _=>.undef
def Az.Of.spec:Entry:=entry [.st [.b,.s .u32],.i .i64] Az.Of.pre Az.Of.out
def Az.Tm.pre:List Atom→Bool
  | [.b n,.l a,.i _e,.b m,.l b,.i _f]=>Jt n a&&Jt m b
  | _=>false
def Az.Tm.out:List Atom→DV
  | [.b n,.l a,.i e,.b m,.l b,.i f]=>.int .i64 (C1 (wv n a) e (wv m b) f)
  | _=>.undef
def Az.Tm.spec:Entry:=entry [.st [.b,.s .u32,.i .i64],.st [.b,.s .u32,.i .i64]] Az.Tm.pre Az.Tm.out
def Az.Level.pre:List Atom→Bool
  | [.b n,.l a,.i e,.i f]=>Vl n a&&Zz (wv n a) e f
  | _=>false
def Az.Level.out:List Atom→DV
  | [.b n,.l a,.i e,.i f]=>.agg [.bool (As (Gt (wv n a) (e-f))),.ints .arg .u32 (Ag (Gt (wv n a) (e-f)))]
  | _=>.undef
def Az.Level.spec:Entry:=entry [.st [.b,.s .u32,.i .i64],.i .i64] Az.Level.pre Az.Level.out
def Az.Add.pre:List Atom→Bool
  | [.b n,.l a,.i e,.b m,.l b,.i f]=>((Vl n a&&Vl m b)&&Tb e)&&Tb f
  | _=>false
def Az.Add.out:List Atom→DV
  | [.b n,.l a,.i e,.b m,.l b,.i f]=>.agg [.bool (As (Aa9 (wv n a) e (wv m b) f)),.ints .arg .u32 (Ag (Aa9 (wv n a) e (wv m b) f)),.int .i64 (Ajo (wv n a) e (wv m b) f)]
  | _=>.undef
def Az.Add.spec:Entry:=entry [.st [.b,.s .u32,.i .i64],.st [.b,.s .u32,.i .i64]] Az.Add.pre Az.Add.out
def Az.Dw.pre:List Atom→Bool
  | [.b n,.l a,.i _e,.b m,.l b,.i _f]=>Jt n a&&Jt m b
  | _=>false
def Az.Dw.out:List Atom→DV
  | [.b n,.l a,.i e,.b m,.l b,.i f]=>.bool (((decide (e=f))&&Ty (wv n a) (wv m b)))
  | _=>.undef
def Az.Dw.spec:Entry:=entry [.st [.b,.s .u32,.i .i64],.st [.b,.s .u32,.i .i64]] Az.Dw.pre Az.Dw.out
def Bd.Value.pre:List Atom→Bool
  | [.i x]=>Ai x
  | _=>false
def Bd.Value.out:List Atom→DV
  | [.i x]=>.agg [.bool (As (mD (A7 x))),.ints .arg .u32 (Ag (mD (A7 x))),.int .i64 (eD (A7 x) (Aw x))]
  | _=>.undef
def Bd.Value.spec:Entry:=entry [.i .u64] Bd.Value.pre Bd.Value.out
def Ac.single.pre:List Atom→Bool
  | [.l a,.i x]=>E6 a&&Adt x
  | _=>false
def Ac.single.out:List Atom→DV
  | [.l a,.i x]=>.ints .arg .u32 (singleL a x)
  | _=>.undef
def Ac.single.spec:Entry:=entry [.s .u32,.i .u32] Ac.single.pre Ac.single.out
def Ac.Mul.pre:List Atom→Bool
  | [.b n,.l a,.b m,.l b]=>Xr n a&&Xr m b
  | _=>false
def Ac.Mul.out:List Atom→DV
  | [.b n,.l a,.b m,.l b]=>.agg [.bool (As (wv n a*wv m b)),.ints .arg .u32 (Ag (wv n a*wv m b))]
  | _=>.undef
def Ac.Mul.spec:Entry:=entry [.st [.b,.s .u32],.st [.b,.s .u32]] Ac.Mul.pre Ac.Mul.out
def Az.Mul.pre:List Atom→Bool
  | [.b n,.l a,.i e,.b m,.l b,.i f]=>(Xr n a&&Xr m b)&&(Tb e&&Tb f)
  | _=>false
def Az.Mul.out:List Atom→DV
  | [.b n,.l a,.i e,.b m,.l b,.i f]=>.agg [.bool (As (mD (wv n a*wv m b))),.ints .arg .u32 (Ag (mD (wv n a*wv m b))),.int .i64 (eD (wv n a*wv m b) (e+f))]
  | _=>.undef
def Az.Mul.spec:Entry:=entry [.st [.b,.s .u32,.i .i64],.st [.b,.s .u32,.i .i64]] Az.Mul.pre Az.Mul.out
def compare.Jr.pre:List Atom→Bool
  | [.i b]=>Ai b
  | _=>false
def compare.Jr.out:List Atom→DV
  | [.i b]=>.int .i64 (V7 b)
  | _=>.undef
def compare.Jr.spec:Entry:=entry [.i .u64] compare.Jr.pre compare.Jr.out
def compare.Order.pre:List Atom→Bool
  | [.i a,.i b]=>Ai a&&Ai b
  | _=>false
def compare.Order.out:List Atom→DV
  | [.i a,.i b]=>.tup [.int .i64 (Ab2 a b),.bool (Aqd a b)]
  | _=>.undef
def compare.Order.spec:Entry:=entry [.i .u64,.i .u64] compare.Order.pre compare.Order.out
def compare.J0.pre:List Atom→Bool
  | [.i a,.i b]=>Ai a&&Ai b
  | _=>false
def compare.J0.out:List Atom→DV
  | [.i a,.i b]=>.bool (decide (Ab2 a b<0))
  | _=>.undef
def compare.J0.spec:Entry:=entry [.i .u64,.i .u64] compare.J0.pre compare.J0.out
def compare.Sy.pre:List Atom→Bool
  | [.i a]=>Ai a
  | _=>false
def compare.Sy.out:List Atom→DV
  | [.i a]=>.int .u64 (Z9 a)
  | _=>.undef
def compare.Sy.spec:Entry:=entry [.i .u64] compare.Sy.pre compare.Sy.out
def compare.D6.pre:List Atom→Bool
  | [.i a,.i n]=>Ej a n
  | _=>false
def compare.D6.out:List Atom→DV
  | [.i a,.i n]=>.tup [.int .u64 (B8 a n),.int .u8 (Akh a n)]
  | _=>.undef
def compare.D6.spec:Entry:=entry [.i .u64,.i .i64] compare.D6.pre compare.D6.out
def Ae.Bp.pre:List Atom→Bool
  | [.i a,.i n]=>Ej a n
  | _=>false
def Ae.Bp.out:List Atom→DV
  | [.i a,.i n]=>.int .u64 (B8 a n)
  | _=>.undef
def Ae.Bp.spec:Entry:=entry [.i .u64,.i .i64] Ae.Bp.pre Ae.Bp.out
def Ae.Div.pre:List Atom→Bool
  | [.i a,.i b]=>Ai a&&Ai b
  | _=>false
def Ae.Div.out:List Atom→DV
  | [.i a,.i b]=>.int .u64 (E8 a b)
  | _=>.undef
def Ae.Div.spec:Entry:=entry [.i .u64,.i .u64] Ae.Div.pre Ae.Div.out
def Ae.Cf.pre:List Atom→Bool
  | [.l x]=>Cu x
  | _=>false
def Ae.Cf.out:List Atom→DV
  | [.l x]=>.int .u64 (Bm x)
  | _=>.undef
def Ae.Cf.spec:Entry:=entry [.s .u64] Ae.Cf.pre Ae.Cf.out
def Ae.Finite.pre:List Atom→Bool
  | [.l x]=>Cu x
  | _=>false
def Ae.Finite.out:List Atom→DV
  | [.l x]=>.bool (D8 x)
  | _=>.undef
def Ae.Finite.spec:Entry:=entry [.s .u64] Ae.Finite.pre Ae.Finite.out
def B4.Check.pre:List Atom→Bool
  | [.i _r,.i _c,.l l]=>Ah l
  | _=>false
def B4.Check.out:List Atom→DV
  | [.i r,.i c,.l l]=>.int .i64 (Bx r c l)
  | _=>.undef
def B4.Check.spec:Entry:=entry [.st [.i .i64,.i .i64,.s .u64]] B4.Check.pre B4.Check.out
def solve.check.pre:List Atom→Bool
  | [.i _r,.i _c,.l l,.i _p,.i _q,.l m]=>Ah l&&Ah m
  | _=>false
def solve.check.out:List Atom→DV
  | [.i r,.i c,.l l,.i p,.i q,.l m]=>.int .i64 (M5 r c l p q m)
  | _=>.undef
def solve.check.spec:Entry:=entry [.st [.i .i64,.i .i64,.s .u64],.st [.i .i64,.i .i64,.s .u64]] solve.check.pre solve.check.out
def Cl.Ck.up.pre:List Atom→Bool
  | [.i n,.i k]=>Cn (0≤k∧k<n∧n≤10)
  | _=>false
def Cl.Ck.up.out:List Atom→DV
  | [.i n,.i k]=>.int .i64 (n-1-k)
  | _=>.undef
def Cl.Ck.up.spec:Entry:=entry [.i .i64,.i .i64] Cl.Ck.up.pre Cl.Ck.up.out
def solve.Du.pre:List Atom→Bool
  | [.i _i,.i _k]=>true
  | _=>false
def solve.Du.out:List Atom→DV
  | [.i i,.i k]=>.bool (decide (i<k))
  | _=>.undef
def solve.Du.spec:Entry:=entry [.i .i64,.i .i64] solve.Du.pre solve.Du.out
def Aa.of.B3.own.pre:List Atom→Bool
  | [.i a,.i b]=>Bl a&&Bl b
  | _=>false
def Aa.of.B3.own.out:List Atom→DV
  | [.i a,.i b]=>.agg [.int .i64 a,.int .i64 b,.ints (.own 108002 37) .u64 (Cq (Int.toNat a) (Int.toNat b) (fun _ _=>0))]
  | _=>.undef
def Aa.of.B3.own.spec:Entry:=entry [.i .i64,.i .i64,.fn 205 []] Aa.of.B3.own.pre Aa.of.B3.own.out
def Aa.B3.own.pre:List Atom→Bool
  | [.i a,.i b]=>Bl a&&Bl b
  | _=>false
def Aa.B3.own.out:List Atom→DV
  | [.i a,.i b]=>.tup [.agg [.int .i64 a,.int .i64 b,.ints (.own 1136 37) .u64 (Cq (Int.toNat a) (Int.toNat b) (fun _ _=>0))],.int .i64 (0:Int)]
  | _=>.undef
def Aa.B3.own.spec:Entry:=entry [.i .i64,.i .i64] Aa.B3.own.pre Aa.B3.own.out
def solve.Aq.Up.pre:List Atom→Bool
  | [.i r,.i c,.l l,.i p,.i q,.l m,.i n]=>Na r c l p q m&&decide (n=r)
  | _=>false
def solve.Aq.Up.out:List Atom→DV
  | [.i r,.i c,.l l,.i _p,.i q,.l m,.i _n]=>.tup [.agg [.int .i64 ((Is r q (Y6 c l q m (Int.toNat r) (Int.toNat q))).1),.int .i64 ((Is r q (Y6 c l q m (Int.toNat r) (Int.toNat q))).2.1),.ints .fresh .u64 ((Is r q (Y6 c l q m (Int.toNat r) (Int.toNat q))).2.2.1)],.int .i64 ((Is r q (Y6 c l q m (Int.toNat r) (Int.toNat q))).2.2.2)]
  | _=>.undef
def solve.Aq.Up.spec:Entry:=entry [.st [.i .i64,.i .i64,.s .u64],.st [.i .i64,.i .i64,.s .u64],.fm 103 [.i .i64],.fn 104 []] solve.Aq.Up.pre solve.Aq.Up.out
def solve.Gk.pre:List Atom→Bool
  | [.i _r,.i _c,.l l,.i _p,.i _q,.l m]=>Ah l&&Ah m
  | _=>false
def solve.Gk.out:List Atom→DV
  | [.i r,.i c,.l l,.i p,.i q,.l m]=>.tup [.agg [.int .i64 ((Vv r c l p q m).1),.int .i64 ((Vv r c l p q m).2.1),.ints .fresh .u64 ((Vv r c l p q m).2.2.1)],.int .i64 ((Vv r c l p q m).2.2.2)]
  | _=>.undef
def solve.Gk.spec:Entry:=entry [.st [.i .i64,.i .i64,.s .u64],.st [.i .i64,.i .i64,.s .u64]] solve.Gk.pre solve.Gk.out
def solve.Flat.pre:List Atom→Bool
  | [.i _r,.i _c,.l l]=>Ah l
  | _=>false
def solve.Flat.out:List Atom→DV
  | [.i r,.i c,.l l]=>.tup [.bool ((Mz r c l).1),.int .i64 ((Mz r c l).2)]
  | _=>.undef
def solve.Flat.spec:Entry:=entry [.st [.i .i64,.i .i64,.s .u64]] solve.Flat.pre solve.Flat.out
def qr.Ed.pre:List Atom→Bool
  | [.i _r,.i _c,.l l,.i _p,.i _q,.l m]=>Ah l&&Ah m
  | _=>false
def qr.Ed.out:List Atom→DV
  | [.i r,.i c,.l l,.i p,.i q,.l m]=>.tup [.agg [.int .i64 ((Ef r c l p q m).1),.int .i64 ((Ef r c l p q m).2.1),.ints .fresh .u64 ((Ef r c l p q m).2.2.1)],.int .i64 ((Ef r c l p q m).2.2.2)]
  | _=>.undef
def qr.Ed.spec:Entry:=entry [.st [.i .i64,.i .i64,.s .u64],.st [.i .i64,.i .i64,.s .u64]] qr.Ed.pre qr.Ed.out
def B5.Finite.pre:List Atom→Bool
  | [.l x]=>Cu x
  | _=>false
def B5.Finite.out:List Atom→DV
  | [.l x]=>.bool (D8 x)
  | _=>.undef
def B5.Finite.spec:Entry:=entry [.s .u64] B5.Finite.pre B5.Finite.out
def Gf.Check.pre:List Atom→Bool
  | [.i _r,.i _c,.l l]=>Ah l
  | _=>false
def Gf.Check.out:List Atom→DV
  | [.i r,.i c,.l l]=>.int .i64 (Bx r c l)
  | _=>.undef
def Gf.Check.spec:Entry:=entry [.st [.i .i64,.i .i64,.s .u64]] Gf.Check.pre Gf.Check.out
def Cl.Ck.down.pre:List Atom→Bool
  | [.i _n,.i _k]=>true
  | _=>false
def Cl.Ck.down.out:List Atom→DV
  | [.i _n,.i k]=>.int .i64 k
  | _=>.undef
def Cl.Ck.down.spec:Entry:=entry [.i .i64,.i .i64] Cl.Ck.down.pre Cl.Ck.down.out
def solve.Dv.pre:List Atom→Bool
  | [.i _i,.i _k]=>true
  | _=>false
def solve.Dv.out:List Atom→DV
  | [.i i,.i k]=>.bool (decide (k<i))
  | _=>.undef
def solve.Dv.spec:Entry:=entry [.i .i64,.i .i64] solve.Dv.pre solve.Dv.out
def solve.Aq.Lo.pre:List Atom→Bool
  | [.i r,.i c,.l l,.i p,.i q,.l m,.i n]=>Na r c l p q m&&decide (n=r)
  | _=>false
def solve.Aq.Lo.out:List Atom→DV
  | [.i r,.i c,.l l,.i _p,.i q,.l m,.i _n]=>.tup [.agg [.int .i64 ((Is r q (loG c l q m (Int.toNat r) (Int.toNat q))).1),.int .i64 ((Is r q (loG c l q m (Int.toNat r) (Int.toNat q))).2.1),.ints .fresh .u64 ((Is r q (loG c l q m (Int.toNat r) (Int.toNat q))).2.2.1)],.int .i64 ((Is r q (loG c l q m (Int.toNat r) (Int.toNat q))).2.2.2)]
  | _=>.undef
def solve.Aq.Lo.spec:Entry:=entry [.st [.i .i64,.i .i64,.s .u64],.st [.i .i64,.i .i64,.s .u64],.fm 77 [.i .i64],.fn 78 []] solve.Aq.Lo.pre solve.Aq.Lo.out
def solve.Gq.pre:List Atom→Bool
  | [.i _r,.i _c,.l l,.i _p,.i _q,.l m]=>Ah l&&Ah m
  | _=>false
def solve.Gq.out:List Atom→DV
  | [.i r,.i c,.l l,.i p,.i q,.l m]=>.tup [.agg [.int .i64 ((loX r c l p q m).1),.int .i64 ((loX r c l p q m).2.1),.ints .fresh .u64 ((loX r c l p q m).2.2.1)],.int .i64 ((loX r c l p q m).2.2.2)]
  | _=>.undef
def solve.Gq.spec:Entry:=entry [.st [.i .i64,.i .i64,.s .u64],.st [.i .i64,.i .i64,.s .u64]] solve.Gq.pre solve.Gq.out
def root.Fm.pre:List Atom→Bool
  | [.i m]=>Cn (0≤m∧m<9223372036854775808)
  | _=>false
def root.Fm.out:List Atom→DV
  | [.i m]=>.tup [.int .u64 (Qu m),.bool (Qv m)]
  | _=>.undef
def root.Fm.spec:Entry:=entry [.i .u64] root.Fm.pre root.Fm.out
def root.Sqrt.pre:List Atom→Bool
  | [.i a]=>Ai a
  | _=>false
def root.Sqrt.out:List Atom→DV
  | [.i a]=>.tup [.int .u64 (G6 a),.int .u8 (Nb a)]
  | _=>.undef
def root.Sqrt.spec:Entry:=entry [.i .u64] root.Sqrt.pre root.Sqrt.out
def Ae.Sqrt.pre:List Atom→Bool
  | [.i a]=>Ai a
  | _=>false
def Ae.Sqrt.out:List Atom→DV
  | [.i a]=>.int .u64 (G6 a)
  | _=>.undef
def Ae.Sqrt.spec:Entry:=entry [.i .u64] Ae.Sqrt.pre Ae.Sqrt.out
def compare.Sx.pre:List Atom→Bool
  | [.i a]=>Ai a
  | _=>false
def compare.Sx.out:List Atom→DV
  | [.i a]=>.int .i64 (B0 a)
  | _=>.undef
def compare.Sx.spec:Entry:=entry [.i .u64] compare.Sx.pre compare.Sx.out
def Ae.Norm.pre:List Atom→Bool
  | [.l x]=>Cu x&&Cn (List.length x≤64)
  | _=>false
def Ae.Norm.out:List Atom→DV
  | [.l x]=>.tup [.int .u64 (Ea x),.int .i64 (0:Int)]
  | _=>.undef
def Ae.Norm.spec:Entry:=entry [.s .u64] Ae.Norm.pre Ae.Norm.out
def Ak.Cp.pre:List Atom→Bool
  | [.l x]=>Cu x
  | _=>false
def Ak.Cp.out:List Atom→DV
  | [.l x]=>.bool (I4 x)
  | _=>.undef
def Ak.Cp.spec:Entry:=entry [.s .u64] Ak.Cp.pre Ak.Cp.out
def Ak.lead.pre:List Atom→Bool
  | [.l x]=>Cu x
  | _=>false
def Ak.lead.out:List Atom→DV
  | [.l x]=>.int .u64 (O5 x)
  | _=>.undef
def Ak.lead.spec:Entry:=entry [.s .u64] Ak.lead.pre Ak.lead.out
def Ak.Cs.pre:List Atom→Bool
  | [.l x,.i k]=>Cu x&&Cn (List.length x≤1000∧-2300≤k∧k≤2300)
  | _=>false
def Ak.Cs.out:List Atom→DV
  | [.l x,.i k]=>.ints .fresh .u64 (Bi x k)
  | _=>.undef
def Ak.Cs.spec:Entry:=entry [.s .u64,.i .i64] Ak.Cs.pre Ak.Cs.out
def Ak.Ex.pre:List Atom→Bool
  | [.i _i]=>true
  | _=>false
def Ak.Ex.out:List Atom→DV
  | [.i _i]=>.int .u64 (0:Int)
  | _=>.undef
def Ak.Ex.spec:Entry:=entry [.i .i64] Ak.Ex.pre Ak.Ex.out
def Ak.Ew.pre:List Atom→Bool
  | [.i i,.l y,.i d]=>(Cn (0≤i∧i<List.length y)&&Ah y)&&Ai d
  | _=>false
def Ak.Ew.out:List Atom→DV
  | [.i i,.l y,.i d]=>.int .u64 (E8 (List.getD y (Int.toNat i) 0) d)
  | _=>.undef
def Ak.Ew.spec:Entry:=entry [.i .i64,.cp [.s .u64],.cp [.i .u64]] Ak.Ew.pre Ak.Ew.out
def Ak.row.Zero.pre:List Atom→Bool
  | [.i n]=>Cn (1≤n∧n≤64)
  | _=>false
def Ak.row.Zero.out:List Atom→DV
  | [.i n]=>.ints .fresh .u64 (Il (Int.toNat n) (fun _=>0))
  | _=>.undef
def Ak.row.Zero.spec:Entry:=entry [.i .i64,.fn 254 []] Ak.row.Zero.pre Ak.row.Zero.out
def Ak.row.Div.pre:List Atom→Bool
  | [.i n,.l y,.i d]=>(Cn (1≤n∧n≤64∧n=List.length y)&&Ah y)&&Ai d
  | _=>false
def Ak.row.Div.out:List Atom→DV
  | [.i n,.l y,.i d]=>.ints .fresh .u64 (Il (Int.toNat n) (fun j=>E8 (List.getD y j 0) d))
  | _=>.undef
def Ak.row.Div.spec:Entry:=entry [.i .i64,.fn 259 [.cp [.s .u64],.cp [.i .u64]]] Ak.row.Div.pre Ak.row.Div.out
def Ak.Iu.pre:List Atom→Bool
  | [.l x]=>Cu x
  | _=>false
def Ak.Iu.out:List Atom→DV
  | [.l x]=>.tup [.ints .fresh .u64 ((B7 x).1),.int .u64 ((B7 x).2.1),.int .u64 ((B7 x).2.2.1),.int .i64 ((B7 x).2.2.2)]
  | _=>.undef
def Ak.Iu.spec:Entry:=entry [.s .u64] Ak.Iu.pre Ak.Iu.out
def Ak.Apply.pre:List Atom→Bool
  | [.i r,.i c,.l l,.i i,.i k,.l v,.i t]=>((Bf r c l&&Li r c i k v)&&(Ah l&&Ah v))&&Ai t
  | _=>false
def Ak.Apply.out:List Atom→DV
  | [.i r,.i c,.l l,.i i,.i k,.l v,.i t]=>.tup [.agg [.int .i64 r,.int .i64 c,.ints (.own 114002 37) .u64 (Fu (Int.toNat r) (Int.toNat c) l i k v t)],.int .i64 (0:Int)]
  | _=>.undef
def Ak.Apply.spec:Entry:=entry [.st [.i .i64,.i .i64,.s .u64],.i .i64,.i .i64,.s .u64,.i .u64] Ak.Apply.pre Ak.Apply.out
def qr.down.pre:List Atom→Bool
  | [.i r,.i c,.l l]=>(Bf r c l&&D8 l)&&Ah l
  | _=>false
def qr.down.out:List Atom→DV
  | [.i r,.i c,.l l]=>.tup [.agg [.int .i64 ((E3 r c l).1),.int .i64 ((E3 r c l).2.1),.ints .arg .u64 ((E3 r c l).2.2.1)],.recs .fresh 2 (Iq r c l),.int .i64 ((E3 r c l).2.2.2)]
  | _=>.undef
def qr.down.spec:Entry:=entry [.st [.i .i64,.i .i64,.s .u64]] qr.down.pre qr.down.out
def qr.Cx.pre:List Atom→Bool
  | [.i _r,.i _c,.l l]=>Ah l
  | _=>false
def qr.Cx.out:List Atom→DV
  | [.i r,.i c,.l l]=>.tup [.agg [.int .i64 ((qX r c l).1),.int .i64 ((qX r c l).2.1),.ints .arg .u64 ((qX r c l).2.2.1)],.agg [.int .i64 ((rX r c l).1),.int .i64 ((rX r c l).2.1),.ints .arg .u64 ((rX r c l).2.2.1)],.int .i64 (Hd r c l)]
  | _=>.undef
def qr.Cx.spec:Entry:=entry [.st [.i .i64,.i .i64,.s .u64]] qr.Cx.pre qr.Cx.out
def law20.Gb.pre:List Atom→Bool
  | []=>true
  | _=>false
def rq.both.pre:List Atom→Bool
  | [.i _r,.i _c,.l _l,.i _p,.i _q,.l _m]=>true
  | _=>false
def rq.both.out:List Atom→DV
  | [.i r,.i c,.l l,.i p,.i q,.l m]=>.tup [.agg [.int .i64 ((A6 p q m).1),.int .i64 ((A6 p q m).2.1),.ints .fresh .u64 ((A6 p q m).2.2.1)],.agg [.int .i64 ((A6 r c l).1),.int .i64 ((A6 r c l).2.1),.ints .fresh .u64 ((A6 r c l).2.2.1)]]
  | _=>.undef
def rq.both.spec:Entry:=entry [.st [.i .i64,.i .i64,.s .u64],.st [.i .i64,.i .i64,.s .u64]] rq.both.pre rq.both.out
def rq.Lq.pre:List Atom→Bool
  | [.i _r,.i _c,.l l]=>Ah l
  | _=>false
def rq.Lq.out:List Atom→DV
  | [.i r,.i c,.l l]=>.tup [.agg [.int .i64 ((lqL r c l).1),.int .i64 ((lqL r c l).2.1),.ints .fresh .u64 ((lqL r c l).2.2.1)],.agg [.int .i64 ((Y0 r c l).1),.int .i64 ((Y0 r c l).2.1),.ints .fresh .u64 ((Y0 r c l).2.2.1)],.int .i64 (Te r c l)]
  | _=>.undef
def rq.Lq.spec:Entry:=entry [.st [.i .i64,.i .i64,.s .u64]] rq.Lq.pre rq.Lq.out
def A2.Check.pre:List Atom→Bool
  | [.i _r,.i _c,.l l,.i _p,.i _q,.l m,.i _u,.i _v,.l h]=>N1 l m h
  | _=>false
def A2.Check.out:List Atom→DV
  | [.i r,.i c,.l l,.i p,.i q,.l m,.i u,.i v,.l h]=>.int .i64 (F8 r c l p q m u v h)
  | _=>.undef
def A2.Check.spec:Entry:=entry [.st [.i .i64,.i .i64,.s .u64,.i .i64,.i .i64,.s .u64,.i .i64,.i .i64,.s .u64]] A2.Check.pre A2.Check.out
def A2.D3.pre:List Atom→Bool
  | [.i _r,.i _c,.l _l,.i x,.i y]=>Cn (-100≤x∧x≤100∧-100≤y∧y≤100)
  | _=>false
def A2.D3.out:List Atom→DV
  | [.i r,.i c,.l l,.i x,.i y]=>.agg [.int .i64 ((D5 r c l x 0 (y-x) c).1),.int .i64 ((D5 r c l x 0 (y-x) c).2.1),.ints .fresh .u64 ((D5 r c l x 0 (y-x) c).2.2.1)]
  | _=>.undef
def A2.D3.spec:Entry:=entry [.st [.i .i64,.i .i64,.s .u64],.i .i64,.i .i64] A2.D3.pre A2.D3.out
def A2.apart.pre:List Atom→Bool
  | [.i r,.i c,.l l,.i p,.i q,.l m,.i u,.i v,.l h]=>N1 l m h&&decide (F8 r c l p q m u v h=0)
  | _=>false
def A2.apart.out:List Atom→DV
  | [.i r,.i c,.l l,.i p,.i q,.l m,.i u,.i v,.l h]=>.tup [.agg [.int .i64 ((Mf (gE r c l p q m u v h) (gT r c l)).1),.int .i64 ((Mf (gE r c l p q m u v h) (gT r c l)).2.1),.ints .fresh .u64 ((Mf (gE r c l p q m u v h) (gT r c l)).2.2.1),.int .i64 ((Mf (gE r c l p q m u v h) (G5 c (gC r c l u v h))).1),.int .i64 ((Mf (gE r c l p q m u v h) (G5 c (gC r c l u v h))).2.1),.ints .fresh .u64 ((Mf (gE r c l p q m u v h) (G5 c (gC r c l u v h))).2.2.1),.int .i64 ((Mf (gE r c l p q m u v h) (Fl r c (gC r c l u v h))).1),.int .i64 ((Mf (gE r c l p q m u v h) (Fl r c (gC r c l u v h))).2.1),.ints .fresh .u64 ((Mf (gE r c l p q m u v h) (Fl r c (gC r c l u v h))).2.2.1),.int .i64 ((Mf (gE r c l p q m u v h) (G5 c (gC r c l p q m))).1),.int .i64 ((Mf (gE r c l p q m u v h) (G5 c (gC r c l p q m))).2.1),.ints .fresh .u64 ((Mf (gE r c l p q m u v h) (G5 c (gC r c l p q m))).2.2.1),.int .i64 ((Mf (gE r c l p q m u v h) (Fl r c (gC r c l p q m))).1),.int .i64 ((Mf (gE r c l p q m u v h) (Fl r c (gC r c l p q m))).2.1),.ints .fresh .u64 ((Mf (gE r c l p q m u v h) (Fl r c (gC r c l p q m))).2.2.1)],.int .i64 (gE r c l p q m u v h)]
  | _=>.undef
def A2.apart.spec:Entry:=entry [.st [.i .i64,.i .i64,.s .u64,.i .i64,.i .i64,.s .u64,.i .i64,.i .i64,.s .u64]] A2.apart.pre A2.apart.out
def A2.errors.pre:List Atom→Bool
  | [.i _r,.i _c,.l l,.i _p,.i _q,.l m]=>Ah l&&Ah m
  | _=>false
def A2.errors.out:List Atom→DV
  | [.i r,.i c,.l l,.i p,.i q,.l m]=>.tup [.agg [.int .i64 ((erZ (r,c,l,0) (p,q,m,0)).1),.int .i64 ((erZ (r,c,l,0) (p,q,m,0)).2.1),.ints .fresh .u64 ((erZ (r,c,l,0) (p,q,m,0)).2.2.1)],.int .i64 ((erZ (r,c,l,0) (p,q,m,0)).2.2.2)]
  | _=>.undef
def A2.errors.spec:Entry:=entry [.st [.i .i64,.i .i64,.s .u64],.st [.i .i64,.i .i64,.s .u64]] A2.errors.pre A2.errors.out
def A2.Solve.pre:List Atom→Bool
  | [.i _r,.i _c,.l l,.i _p,.i _q,.l m,.i _u,.i _v,.l h]=>N1 l m h
  | _=>false
def A2.Solve.out:List Atom→DV
  | [.i r,.i c,.l l,.i p,.i q,.l m,.i u,.i v,.l h]=>.tup [.agg [.int .i64 ((gX r c l p q m u v h).1),.int .i64 ((gX r c l p q m u v h).2.1),.ints .fresh .u64 ((gX r c l p q m u v h).2.2.1)],.agg [.int .i64 ((gY r c l p q m u v h).1),.int .i64 ((gY r c l p q m u v h).2.1),.ints .fresh .u64 ((gY r c l p q m u v h).2.2.1)],.int .i64 ((gX r c l p q m u v h).2.2.2)]
  | _=>.undef
def A2.Solve.spec:Entry:=entry [.st [.i .i64,.i .i64,.s .u64,.i .i64,.i .i64,.s .u64,.i .i64,.i .i64,.s .u64]] A2.Solve.pre A2.Solve.out
def Fz.Check.pre:List Atom→Bool
  | [.i _r,.i _c,.l l,.i _p,.i _q,.l m,.i _u,.i _v,.l h]=>N1 l m h
  | _=>false
def Fz.Check.out:List Atom→DV
  | [.i r,.i c,.l l,.i p,.i q,.l m,.i u,.i v,.l h]=>.int .i64 (F8 r c l p q m u v h)
  | _=>.undef
def Fz.Check.spec:Entry:=entry [.st [.i .i64,.i .i64,.s .u64,.i .i64,.i .i64,.s .u64,.i .i64,.i .i64,.s .u64]] Fz.Check.pre Fz.Check.out
def B5.Ce.pre:List Atom→Bool
  | [.l x]=>Cu x&&Cn (List.length x=1)
  | _=>false
def B5.Ce.out:List Atom→DV
  | [.l x]=>.agg [.bool (As (sqM (List.getD x 0 0))),.ints .arg .u32 (Ag (sqM (List.getD x 0 0))),.int .i64 (sqE (List.getD x 0 0))]
  | _=>.undef
def B5.Ce.spec:Entry:=entry [.s .u64] B5.Ce.pre B5.Ce.out
def Br.one.pre:List Atom→Bool
  | [.i _b]=>true
  | _=>false
def Br.one.out:List Atom→DV
  | [.i b]=>.agg [.int .i64 (1:Int),.int .i64 (1:Int),.ints .fresh .u64 ([b])]
  | _=>.undef
def Br.one.spec:Entry:=entry [.i .u64] Br.one.pre Br.one.out
def Br.Gb.pre:List Atom→Bool
  | []=>true
  | _=>false
def Br.Gb.out:List Atom→DV
  | []=>.bool true
  | _=>.undef
def Br.Gb.spec:Entry:=entry [] Br.Gb.pre Br.Gb.out
def Br.task.pre:List Atom→Bool
  | [.i _r,.i _c,.l _l,.i _p,.i _q,.l _m,.i _u,.i _v,.l _h]=>true
  | _=>false
def Br.task.out:List Atom→DV
  | [.i r,.i c,.l l,.i p,.i q,.l m,.i u,.i v,.l h]=>.agg [.int .i64 r,.int .i64 c,.ints .arg .u64 l,.int .i64 p,.int .i64 q,.ints .arg .u64 m,.int .i64 u,.int .i64 v,.ints .arg .u64 h]
  | _=>.undef
def Br.task.spec:Entry:=entry [.st [.i .i64,.i .i64,.s .u64,.i .i64,.i .i64,.s .u64,.i .i64,.i .i64,.s .u64]] Br.task.pre Br.task.out
def Br.Cm.pre:List Atom→Bool
  | [.i _r,.i _c,.l l,.i _p,.i _q,.l m,.i _u,.i _v,.l h]=>N1 l m h
  | _=>false
def Br.Cm.out:List Atom→DV
  | [.i _r,.i _c,.l _l,.i _p,.i _q,.l _m,.i _u,.i _v,.l _h]=>.bool true
  | _=>.undef
def Br.Cm.spec:Entry:=entry [.st [.i .i64,.i .i64,.s .u64,.i .i64,.i .i64,.s .u64,.i .i64,.i .i64,.s .u64]] Br.Cm.pre Br.Cm.out
def B9.Jc.pre:List Atom→Bool
  | [.i x]=>Ai x
  | _=>false
def B9.Jc.out:List Atom→DV
  | [.i x]=>.int .i64 (D1 x)
  | _=>.undef
def B9.Jc.spec:Entry:=entry [.i .u64] B9.Jc.pre B9.Jc.out
def Ac.plus.own.pre:List Atom→Bool
  | [.l a,.l b]=>E6 a&&E6 b
  | _=>false
def Ac.plus.own.out:List Atom→DV
  | [.l a,.l b]=>.ints (.own 100005 173) .u32 (G3 a b)
  | _=>.undef
def Ac.plus.own.spec:Entry:=entry [.s .u32,.s .u32] Ac.plus.own.pre Ac.plus.own.out
theorem tt0:∀ a b c:Bool,((a==a)&&(b&&(c&&true)))=(b&&c):=by decide
theorem tt1:∀ a b:Bool,(bif a then b else false)=(a&&b):=by decide
theorem Sc:∀ a:Bool,(((!a)||(a==true))&&true)=true:=by decide
theorem Ks:∀ a:Bool,((!(a==true))||((((!(a==true))||(a==true))&&true)&&true))=true:=by decide
theorem Ot:∀ a:Bool,((!(a==true))||true)=true:=by decide
theorem tt5:∀ a b:Bool,(bif a then true else b)=(a||b):=by decide
theorem Y8:∀ a:Bool,((!(!a))||(a==false))=true:=by decide
theorem Rd:∀ a:Bool,((!(a==false))||((((!(a==false))||(a==false))&&true)&&true))=true:=by decide
theorem tt8:∀ a:Bool,((!(a==false))||((((!(a==false))||(a==false))&&(((!(a==false))||(a==false))&&true))&&true))=true:=by decide
theorem Tq:∀ a:Bool,((!(a==false))||true)=true:=by decide
theorem Cz:∀ a:Bool,(a&&true)=a:=by decide
theorem tt11:∀ a b c d e:Bool,(bif a then (bif b then true else (bif c then (bif d then true else e) else false)) else false)=(a&&(b||(c&&(d||e)))):=by decide
theorem tt12:∀ a b:Bool,((!(a==true))||(((!(a==true))||(a==true))&&((!(!b))||((a==true)&&(b==false)))))=true:=by decide
theorem tt13:∀ a b c:Bool,((!((a==true)&&(b==false)))||(((!((a==true)&&(b==false)))||((a==true)&&(b==false)))&&(((!c)||(((a==true)&&(b==false))&&(c==true)))&&true)))=true:=by decide
theorem tt14:∀ a b c d:Bool,((!(((a==true)&&(b==false))&&(c==true)))||(((!(((a==true)&&(b==false))&&(c==true)))||(((a==true)&&(b==false))&&(c==true)))&&((!(!d))||((((a==true)&&(b==false))&&(c==true))&&(d==false)))))=true:=by decide
theorem Ap1:∀ a b c d:Bool,((!((((a==true)&&(b==false))&&(c==true))&&(d==false)))||((((!((((a==true)&&(b==false))&&(c==true))&&(d==false)))||((((a==true)&&(b==false))&&(c==true))&&(d==false)))&&true)&&true))=true:=by decide
theorem tt16:∀ a b c d:Bool,((!((((a==true)&&(b==false))&&(c==true))&&(d==false)))||true)=true:=by decide
theorem tt17:∀ a b c:Bool,((!(((a==true)&&(b==false))&&(c==true)))||((((!(((a==true)&&(b==false))&&(c==true)))||(((a==true)&&(b==false))&&(c==true)))&&true)&&true))=true:=by decide
theorem tt18:∀ a b c:Bool,((!(((a==true)&&(b==false))&&(c==true)))||true)=true:=by decide
theorem tt19:∀ a b:Bool,((!((a==true)&&(b==false)))||((((!((a==true)&&(b==false)))||((a==true)&&(b==false)))&&true)&&true))=true:=by decide
theorem tt20:∀ a b:Bool,((!((a==true)&&(b==false)))||((((!((a==true)&&(b==false)))||((a==true)&&(b==false)))&&(((!((a==true)&&(b==false)))||((a==true)&&(b==false)))&&true))&&true))=true:=by decide
theorem Ap0:∀ a b:Bool,((!((a==true)&&(b==false)))||true)=true:=by decide
theorem Agp:∀ a:Bool,((!(a==true))||((((!(a==true))||(a==true))&&(((!(a==true))||(a==true))&&true))&&true))=true:=by decide
theorem Apz:∀ a b:Bool,(bif (!a) then true else b)=((!a)||b):=by decide
theorem Aee:∀ a:Bool,((!(!(!a)))||((!a)==false))=true:=by decide
theorem Tr:∀ a:Bool,((!((!a)==false))||((((!((!a)==false))||((!a)==false))&&true)&&true))=true:=by decide
theorem Aed:∀ a:Bool,((!((!a)==false))||true)=true:=by decide
theorem tt27:∀ a b:Bool,(bif a then (!b) else false)=(a&&(!b)):=by decide
theorem Am9:∀ a b:Bool,(bif (!a) then true else (!b))=((!a)||(!b)):=by decide
theorem Am8:∀ a b:Bool,((!((!a)==false))||((((!((!a)==false))||((!a)==false))&&true)&&b))=((!a)||b):=by decide
theorem Apy:∀ a b c d:Bool,(bif (bif a then b else false) then true else (bif c then d else false))=((a&&b)||(c&&d)):=by decide
theorem Apx:∀ a b:Bool,((!(!(bif a then b else false)))||((bif a then b else false)==false))=true:=by decide
theorem Apw:∀ a b c:Bool,((!((bif a then b else false)==false))||(((!((bif a then b else false)==false))||((bif a then b else false)==false))&&(((!c)||(((bif a then b else false)==false)&&(c==true)))&&true)))=true:=by decide
theorem Apv:∀ a b c:Bool,((!(((bif a then b else false)==false)&&(c==true)))||((((!(((bif a then b else false)==false)&&(c==true)))||(((bif a then b else false)==false)&&(c==true)))&&true)&&true))=true:=by decide
theorem Apu:∀ a b c:Bool,((!(((bif a then b else false)==false)&&(c==true)))||true)=true:=by decide
theorem Aka:∀ a b:Bool,((!((bif a then b else false)==false))||((((!((bif a then b else false)==false))||((bif a then b else false)==false))&&true)&&true))=true:=by decide
theorem Apt:∀ a b:Bool,((!((bif a then b else false)==false))||true)=true:=by decide
theorem Ll:∀ a b:Bool,((a&&b)&&true)=(a&&b):=by decide
theorem tt38:∀ a b c:Bool,(bif (bif (!a) then true else (!b)) then true else c)=(((!a)||(!b))||c):=by decide
theorem tt39:∀ a b:Bool,((!(!(bif (!a) then true else (!b))))||((bif (!a) then true else (!b))==false))=true:=by decide
theorem Aps:∀ a b:Bool,((!((bif (!a) then true else (!b))==false))||((((!((bif (!a) then true else (!b))==false))||((bif (!a) then true else (!b))==false))&&(((!((bif (!a) then true else (!b))==false))||((bif (!a) then true else (!b))==false))&&true))&&true))=true:=by decide
theorem Aj9:∀ a b:Bool,((!((bif (!a) then true else (!b))==false))||((((!((bif (!a) then true else (!b))==false))||((bif (!a) then true else (!b))==false))&&true)&&true))=true:=by decide
theorem Am7:∀ a b:Bool,((!((bif (!a) then true else (!b))==false))||true)=true:=by decide
theorem tt43:∀ a b c d:Bool,(((a&&b)&&(c&&d))&&true)=((a&&b)&&(c&&d)):=by decide
theorem tt44:∀ a b c d e f g h:Bool,(bif (bif (bif (bif (bif (bif (bif a then true else b) then true else c) then true else d) then true else e) then true else f) then true else g) then true else h)=(((((((a||b)||c)||d)||e)||f)||g)||h):=by decide
theorem tt45:∀ a b c d e f g:Bool,((!(!(bif (bif (bif (bif (bif (bif a then true else b) then true else c) then true else d) then true else e) then true else f) then true else g)))||((bif (bif (bif (bif (bif (bif a then true else b) then true else c) then true else d) then true else e) then true else f) then true else g)==false))=true:=by decide
theorem Apr:∀ a b c d e f g:Bool,((!((bif (bif (bif (bif (bif (bif a then true else b) then true else c) then true else d) then true else e) then true else f) then true else g)==false))||((((!((bif (bif (bif (bif (bif (bif a then true else b) then true else c) then true else d) then true else e) then true else f) then true else g)==false))||((bif (bif (bif (bif (bif (bif a then true else b) then true else c) then true else d) then true else e) then true else f) then true else g)==false))&&(((!((bif (bif (bif (bif (bif (bif a then true else b) then true else c) then true else d) then true else e) then true else f) then true else g)==false))||((bif (bif (bif (bif (bif (bif a then true else b) then true else c) then true else d) then true else e) then true else f) then true else g)==false))&&true))&&true))=true:=by decide
theorem Am6:∀ a b c d e f g:Bool,((!((bif (bif (bif (bif (bif (bif a then true else b) then true else c) then true else d) then true else e) then true else f) then true else g)==false))||true)=true:=by decide
theorem tt48:∀ a b c d e f g:Bool,((!((bif (bif (bif (bif (bif (bif a then true else b) then true else c) then true else d) then true else e) then true else f) then true else g)==false))||((((!((bif (bif (bif (bif (bif (bif a then true else b) then true else c) then true else d) then true else e) then true else f) then true else g)==false))||((bif (bif (bif (bif (bif (bif a then true else b) then true else c) then true else d) then true else e) then true else f) then true else g)==false))&&true)&&true))=true:=by decide
theorem tt49:∀ a b c d e f:Bool,((!(!(bif (bif (bif (bif (bif a then true else b) then true else c) then true else d) then true else e) then true else f)))||((bif (bif (bif (bif (bif a then true else b) then true else c) then true else d) then true else e) then true else f)==false))=true:=by decide
theorem Apq:∀ a b c d e f:Bool,((!((bif (bif (bif (bif (bif a then true else b) then true else c) then true else d) then true else e) then true else f)==false))||((((!((bif (bif (bif (bif (bif a then true else b) then true else c) then true else d) then true else e) then true else f)==false))||((bif (bif (bif (bif (bif a then true else b) then true else c) then true else d) then true else e) then true else f)==false))&&(((!((bif (bif (bif (bif (bif a then true else b) then true else c) then true else d) then true else e) then true else f)==false))||((bif (bif (bif (bif (bif a then true else b) then true else c) then true else d) then true else e) then true else f)==false))&&true))&&true))=true:=by decide
theorem Am5:∀ a b c d e f:Bool,((!((bif (bif (bif (bif (bif a then true else b) then true else c) then true else d) then true else e) then true else f)==false))||true)=true:=by decide
theorem tt52:∀ a b c d e f:Bool,((!((bif (bif (bif (bif (bif a then true else b) then true else c) then true else d) then true else e) then true else f)==false))||((((!((bif (bif (bif (bif (bif a then true else b) then true else c) then true else d) then true else e) then true else f)==false))||((bif (bif (bif (bif (bif a then true else b) then true else c) then true else d) then true else e) then true else f)==false))&&true)&&true))=true:=by decide
theorem tt53:∀ a b c d e:Bool,((!(!(bif (bif (bif (bif a then true else b) then true else c) then true else d) then true else e)))||((bif (bif (bif (bif a then true else b) then true else c) then true else d) then true else e)==false))=true:=by decide
theorem tt54:∀ a b c d e:Bool,((!((bif (bif (bif (bif a then true else b) then true else c) then true else d) then true else e)==false))||((((!((bif (bif (bif (bif a then true else b) then true else c) then true else d) then true else e)==false))||((bif (bif (bif (bif a then true else b) then true else c) then true else d) then true else e)==false))&&(((!((bif (bif (bif (bif a then true else b) then true else c) then true else d) then true else e)==false))||((bif (bif (bif (bif a then true else b) then true else c) then true else d) then true else e)==false))&&true))&&true))=true:=by decide
theorem tt55:∀ a b c d e:Bool,((!((bif (bif (bif (bif a then true else b) then true else c) then true else d) then true else e)==false))||((((!((bif (bif (bif (bif a then true else b) then true else c) then true else d) then true else e)==false))||((bif (bif (bif (bif a then true else b) then true else c) then true else d) then true else e)==false))&&true)&&true))=true:=by decide
theorem Apo:∀ a b c d e:Bool,((!((bif (bif (bif (bif a then true else b) then true else c) then true else d) then true else e)==false))||true)=true:=by decide
theorem Aj7:∀ a b c d:Bool,((!(!(bif (bif (bif a then true else b) then true else c) then true else d)))||((bif (bif (bif a then true else b) then true else c) then true else d)==false))=true:=by decide
theorem Aec:∀ a b c d:Bool,((!((bif (bif (bif a then true else b) then true else c) then true else d)==false))||((((!((bif (bif (bif a then true else b) then true else c) then true else d)==false))||((bif (bif (bif a then true else b) then true else c) then true else d)==false))&&(((!((bif (bif (bif a then true else b) then true else c) then true else d)==false))||((bif (bif (bif a then true else b) then true else c) then true else d)==false))&&true))&&true))=true:=by decide
theorem Vi:∀ a b c d:Bool,((!((bif (bif (bif a then true else b) then true else c) then true else d)==false))||((((!((bif (bif (bif a then true else b) then true else c) then true else d)==false))||((bif (bif (bif a then true else b) then true else c) then true else d)==false))&&true)&&true))=true:=by decide
theorem Vh:∀ a b c d:Bool,((!((bif (bif (bif a then true else b) then true else c) then true else d)==false))||true)=true:=by decide
theorem Aj6:∀ a b c:Bool,((!(!(bif (bif a then true else b) then true else c)))||((bif (bif a then true else b) then true else c)==false))=true:=by decide
theorem Aeb:∀ a b c:Bool,((!((bif (bif a then true else b) then true else c)==false))||((((!((bif (bif a then true else b) then true else c)==false))||((bif (bif a then true else b) then true else c)==false))&&true)&&true))=true:=by decide
theorem Aea:∀ a b c:Bool,((!((bif (bif a then true else b) then true else c)==false))||true)=true:=by decide
theorem Aj5:∀ a b:Bool,((!(!(bif a then true else b)))||((bif a then true else b)==false))=true:=by decide
theorem Xb:∀ a b:Bool,((!((bif a then true else b)==false))||((((!((bif a then true else b)==false))||((bif a then true else b)==false))&&true)&&true))=true:=by decide
theorem Ad9:∀ a b:Bool,((!((bif a then true else b)==false))||true)=true:=by decide
theorem tt67:∀ a b:Bool,(!(a&&(b&&true)))=(!(a&&b)):=by decide
theorem tt68:∀ a b c d:Bool,(((!(bif (bif (bif a then b else false) then c else false) then d else false))||((bif (bif (bif a then b else false) then c else false) then d else false)==true))&&true)=true:=by decide
theorem Apn:∀ a b c d:Bool,((!((bif (bif (bif a then b else false) then c else false) then d else false)==true))||((((!((bif (bif (bif a then b else false) then c else false) then d else false)==true))||((bif (bif (bif a then b else false) then c else false) then d else false)==true))&&(((!((bif (bif (bif a then b else false) then c else false) then d else false)==true))||((bif (bif (bif a then b else false) then c else false) then d else false)==true))&&true))&&true))=true:=by decide
theorem Aj4:∀ a b c d:Bool,((!((bif (bif (bif a then b else false) then c else false) then d else false)==true))||((((!((bif (bif (bif a then b else false) then c else false) then d else false)==true))||((bif (bif (bif a then b else false) then c else false) then d else false)==true))&&true)&&true))=true:=by decide
theorem Am4:∀ a b c d:Bool,((!((bif (bif (bif a then b else false) then c else false) then d else false)==true))||true)=true:=by decide
theorem tt72:∀ a b c:Bool,(((!(bif (bif a then b else false) then c else false))||((bif (bif a then b else false) then c else false)==true))&&true)=true:=by decide
theorem Apm:∀ a b c:Bool,((!((bif (bif a then b else false) then c else false)==true))||((((!((bif (bif a then b else false) then c else false)==true))||((bif (bif a then b else false) then c else false)==true))&&true)&&true))=true:=by decide
theorem tt74:∀ a b c:Bool,((!((bif (bif a then b else false) then c else false)==true))||true)=true:=by decide
theorem Apl:∀ a b:Bool,(((!(bif a then b else false))||((bif a then b else false)==true))&&true)=true:=by decide
theorem Am3:∀ a b:Bool,((!((bif a then b else false)==true))||((((!((bif a then b else false)==true))||((bif a then b else false)==true))&&true)&&true))=true:=by decide
theorem Apk:∀ a b:Bool,((!((bif a then b else false)==true))||true)=true:=by decide
theorem tt78:∀ a b c:Bool,((!((bif a then b else false)==true))||((((!((bif a then b else false)==true))||((bif a then b else false)==true))&&(((!((bif a then b else false)==true))||((bif a then b else false)==true))&&true))&&c))=((!(a&&b))||c):=by decide
theorem tt79:∀ a b c:Bool,((!(a==true))||((((!(a==true))||(a==true))&&(((!(a==true))||(a==true))&&true))&&(b&&c)))=((!a)||(b&&c)):=by decide
theorem Apj:∀ a:Bool,(((a&&true)&&true)&&true)=a:=by decide
theorem Api:∀ a b:Bool,((!(a==true))||((((!(a==true))||(a==true))&&true)&&b))=((!a)||b):=by decide
theorem tt82:∀ a b c:Bool,(bif (!(a==b)) then true else c)=((!(a==b))||c):=by decide
theorem tt83:∀ a b:Bool,((!(!(!(a==b))))||((!(a==b))==false))=true:=by decide
theorem tt84:∀ a b:Bool,((!((!(a==b))==false))||((((!((!(a==b))==false))||((!(a==b))==false))&&(((!((!(a==b))==false))||((!(a==b))==false))&&true))&&true))=true:=by decide
theorem Aj3:∀ a b:Bool,((!((!(a==b))==false))||((((!((!(a==b))==false))||((!(a==b))==false))&&true)&&true))=true:=by decide
theorem Aph:∀ a b:Bool,((!((!(a==b))==false))||true)=true:=by decide
theorem tt87:∀ a b:Bool,((!(a==true))||((((!(a==true))||(a==true))&&(((!(a==true))||(a==true))&&true))&&b))=((!a)||b):=by decide
theorem Apg:∀ a b:Bool,((!(a==false))||((((!(a==false))||(a==false))&&true)&&b))=(a||b):=by decide
theorem tt89:∀ a b:Bool,(bif a then true else (!b))=(a||(!b)):=by decide
theorem Am2:∀ a b c:Bool,((a&&b)&&((a&&c)&&true))=((a&&b)&&(a&&c)):=by decide
theorem tt91:∀ a:Bool,((a&&true)&&true)=a:=by decide
theorem Am1:∀ a b c d e:Bool,(bif (bif (bif (bif a then true else b) then true else c) then true else d) then true else e)=((((a||b)||c)||d)||e):=by decide
theorem Apf:∀ a b:Bool,((!((bif a then true else b)==false))||((((!((bif a then true else b)==false))||((bif a then true else b)==false))&&(((!((bif a then true else b)==false))||((bif a then true else b)==false))&&true))&&true))=true:=by decide
theorem tt95:∀ a b c:Bool,((!((bif a then b else false)==true))||((((!((bif a then b else false)==true))||((bif a then b else false)==true))&&true)&&c))=((!(a&&b))||c):=by decide
theorem Amd:∀ a b c:Bool,((!((bif (bif a then true else b) then true else c)==false))||((((!((bif (bif a then true else b) then true else c)==false))||((bif (bif a then true else b) then true else c)==false))&&(((!((bif (bif a then true else b) then true else c)==false))||((bif (bif a then true else b) then true else c)==false))&&true))&&true))=true:=by decide
theorem Ap5:∀ a b c:Bool,(((bif a then b else false)==true)&&((((!((bif a then b else false)==true))||((bif a then b else false)==true))&&true)&&c))=((a&&b)&&c):=by decide
theorem Ap4:∀ a b:Bool,(((bif a then b else false)==true)&&true)=(a&&b):=by decide
theorem Ap3:∀ a:Bool,((((!a)||(a==true))&&true)&&true)=true:=by decide
theorem Ap2:∀ a:Bool,(((!(a==true))||true)&&true)=true:=by decide
open Go Go.Den Go.Rnd Go.Proofs
set_option maxRecDepth 100000
namespace EqSoft
def soft.Split.Ba:List (Nat × Entry):=[]
def soft.Split.E:Env:=Bb (A9 soft.Split.Ba) (fun _=>false) (fun _=>none) (fun _=>none)
theorem soft.Split.ev (N:Nat) (x:Int):Bv soft.Split.E N Tryz.f206 (Am Tryz.f206) [.int .u64 x]=some (.agg [.bool ((Cv .u64 x 63)==(1:Int)),.int .i64 (Ab (E9 .u64 (Cv .u64 x 52) 2047)),.int .u64 (E9 .u64 x 4503599627370495)]):=by kernel_rfl
abbrev _root_.Go.Proofs.S1.soft.Split.Kn:=A4 Tryz.prog 206 soft.Split.spec
theorem soft.Split.Ad (hk:Ax Tryz.prog soft.Split.Ba) (h:∀ (x:Int),soft.Split.pre [.i x]=true→Bc soft.Split.E Tryz.f206 [.int .u64 x] (soft.Split.out [.i x])):soft.Split.Kn :=
  Al (Ay hk _ _ _) Tryz.func206 (by kernel_rfl) (by kernel_rfl) h
def soft.Kind.Ba:List (Nat × Entry):=[(206,soft.Split.spec)]
def soft.Kind.E:Env:=Bb (A9 soft.Kind.Ba) (fun _=>false) (fun _=>none) (fun _=>none)
theorem soft.Kind.ev (N:Nat) (x:Int):Bv soft.Kind.E N Tryz.f155 (Am Tryz.f155) [.int .u64 x]=bif (Ai x) then bif (((Kt x)==(2047:Int))&&((Cd x)==(0:Int))) then some (.int .i64 3) else bif ((Kt x)==(2047:Int)) then some (.int .i64 4) else bif (A1 0 (Kt x)) then some (.int .i64 2) else bif (A1 0 (Cd x)) then some (.int .i64 1) else some (.int .i64 0) else none :=
  Eq.trans (by kernel_rfl)
  (E2 (Cy (tt0 (Df x) ((Kt x)==(2047:Int)) ((Cd x)==(0:Int))) rfl rfl) rfl)
abbrev _root_.Go.Proofs.S1.soft.Kind.Kn:=A4 Tryz.prog 155 soft.Kind.spec
theorem soft.Kind.Ad (hk:Ax Tryz.prog soft.Kind.Ba) (h:∀ (x:Int),soft.Kind.pre [.i x]=true→Bc soft.Kind.E Tryz.f155 [.int .u64 x] (soft.Kind.out [.i x])):soft.Kind.Kn :=
  Al (Ay hk _ _ _) Tryz.func155 (by kernel_rfl) (by kernel_rfl) h
def soft.Sign.Ba:List (Nat × Entry):=[]
def soft.Sign.E:Env:=Bb (A9 soft.Sign.Ba) (fun _=>false) (fun _=>none) (fun _=>none)
theorem soft.Sign.ev (N:Nat) (x:Int):Bv soft.Sign.E N Tryz.f213 (Am Tryz.f213) [.int .u64 x]=some (.bool ((Cv .u64 x 63)==(1:Int))):=by kernel_rfl
abbrev _root_.Go.Proofs.S1.soft.Sign.Kn:=A4 Tryz.prog 213 soft.Sign.spec
theorem soft.Sign.Ad (hk:Ax Tryz.prog soft.Sign.Ba) (h:∀ (x:Int),soft.Sign.pre [.i x]=true→Bc soft.Sign.E Tryz.f213 [.int .u64 x] (soft.Sign.out [.i x])):soft.Sign.Kn :=
  Al (Ay hk _ _ _) Tryz.func213 (by kernel_rfl) (by kernel_rfl) h
def soft.Finite.Ba:List (Nat × Entry):=[(155,soft.Kind.spec)]
def soft.Finite.E:Env:=Bb (A9 soft.Finite.Ba) (fun _=>false) (fun _=>none) (fun _=>none)
theorem soft.Finite.ev (N:Nat) (x:Int):Bv soft.Finite.E N Tryz.f148 (Am Tryz.f148) [.int .u64 x]=bif (Ai x) then bif ((A8 x)==(3:Int)) then some (.bool false) else bif ((A8 x)==(4:Int)) then some (.bool false) else some (.bool true) else none:=by kernel_rfl
abbrev _root_.Go.Proofs.S1.soft.Finite.Kn:=A4 Tryz.prog 148 soft.Finite.spec
theorem soft.Finite.Ad (hk:Ax Tryz.prog soft.Finite.Ba) (h:∀ (x:Int),soft.Finite.pre [.i x]=true→Bc soft.Finite.E Tryz.f148 [.int .u64 x] (soft.Finite.out [.i x])):soft.Finite.Kn :=
  Al (Ay hk _ _ _) Tryz.func148 (by kernel_rfl) (by kernel_rfl) h
def soft.Fc.Ba:List (Nat × Entry):=[]
def soft.Fc.E:Env:=Bb (A9 soft.Fc.Ba) (fun _=>false) (fun _=>none) (fun _=>none)
theorem soft.Fc.ev (N:Nat) (x:Int):Bv soft.Fc.E N Tryz.f233 (Am Tryz.f233) [.int .u64 x]=some (.int .u64 (Al2 .u64 x 9223372036854775808)):=by kernel_rfl
abbrev _root_.Go.Proofs.S1.soft.Fc.Kn:=A4 Tryz.prog 233 soft.Fc.spec
theorem soft.Fc.Ad (hk:Ax Tryz.prog soft.Fc.Ba) (h:∀ (x:Int),soft.Fc.pre [.i x]=true→Bc soft.Fc.E Tryz.f233 [.int .u64 x] (soft.Fc.out [.i x])):soft.Fc.Kn :=
  Al (Ay hk _ _ _) Tryz.func233 (by kernel_rfl) (by kernel_rfl) h
def soft.E4.Ba:List (Nat × Entry):=[(206,soft.Split.spec)]
def soft.E4.E:Env:=Bb (A9 soft.E4.Ba) (fun _=>false) (fun _=>none) (fun _=>none)
theorem soft.E4.ev (N:Nat) (x:Int):Bv soft.E4.E N Tryz.f211 (Am Tryz.f211) [.int .u64 x]=bif (Ai x) then bif ((Kt x)==(0:Int)) then some (.tup [.int .u64 (Cd x),.int .i64 (-1074:Int)]) else some (.tup [.int .u64 (Ha .u64 (Cd x) 4503599627370496),.int .i64 (Ab ((Kt x)-1075))]) else none:=by kernel_rfl
abbrev _root_.Go.Proofs.S1.soft.E4.Kn:=A4 Tryz.prog 211 soft.E4.spec
theorem soft.E4.Ad (hk:Ax Tryz.prog soft.E4.Ba) (h:∀ (x:Int),soft.E4.pre [.i x]=true→Bc soft.E4.E Tryz.f211 [.int .u64 x] (soft.E4.out [.i x])):soft.E4.Kn :=
  Al (Ay hk _ _ _) Tryz.func211 (by kernel_rfl) (by kernel_rfl) h
def soft.Pack.Ba:List (Nat × Entry):=[(233,soft.Fc.spec)]
def soft.Pack.E (rk:Nat):Env:=Bb (A9 ((239,Aet [.b,.i .u64,.i .i64] soft.Pack.pre soft.Pack.out soft.Pack.mu rk)::soft.Pack.Ba)) (fun _=>false) (fun _=>none) (fun _=>none)
theorem soft.Pack.ev (N rk:Nat) (n:Bool) (m e:Int):Bv (soft.Pack.E rk) N Tryz.f239 (Am Tryz.f239) [.bool n,.int .u64 m,.int .i64 e]=bif (m==(0:Int)) then bif n then bif (Ai 0) then some (.int .u64 (Dd 0)) else none else some (.int .u64 0) else bif (Dk 9007199254740992 m) then bif ((Ix (Cv .u64 m 1) (Ab (e+1)))&&(Cn ((L9 (Cv .u64 m 1) (Ab (e+1)))<rk))) then some (.int .u64 (Qk n (Cv .u64 m 1) (Ab (e+1)))) else none else bif ((A1 m 4503599627370496)&&(A1 (-1074:Int) e)) then bif ((Ix (Bn .u64 m 1) (Ab (e-1)))&&(Cn ((L9 (Bn .u64 m 1) (Ab (e-1)))<rk))) then some (.int .u64 (Qk n (Bn .u64 m 1) (Ab (e-1)))) else none else bif (A1 m 4503599627370496) then bif n then bif (Ai m) then some (.int .u64 (Dd m)) else none else some (.int .u64 m) else bif (Dk 2047 (Ab (e+1075))) then bif n then bif (Ai 9218868437227405312) then some (.int .u64 (Dd 9218868437227405312)) else none else some (.int .u64 9218868437227405312) else bif n then bif (Ai (Ha .u64 (Bn .u64 (A3 (Ab (e+1075))) 52) (E9 .u64 m 4503599627370495))) then some (.int .u64 (Dd (Ha .u64 (Bn .u64 (A3 (Ab (e+1075))) 52) (E9 .u64 m 4503599627370495)))) else none else some (.int .u64 (Ha .u64 (Bn .u64 (A3 (Ab (e+1075))) 52) (E9 .u64 m 4503599627370495))) :=
  Eq.trans (by kernel_rfl)
  (E2 rfl (E2 rfl (Ap (Ot (A1 m 4503599627370496)) (Ap (Ks (A1 m 4503599627370496)) (Ap (Sc (A1 m 4503599627370496)) (Cy (tt1 (A1 m 4503599627370496) (A1 (-1074:Int) e)) rfl rfl))))))
theorem soft.Pack.Ad (hk:Ax Tryz.prog soft.Pack.Ba) (h:∀ (rk:Nat) (n:Bool) (m e:Int),soft.Pack.pre [.b n,.i m,.i e]=true→soft.Pack.mu [.b n,.i m,.i e]<rk+1→∃ N dv drops,Bv (soft.Pack.E rk) N Tryz.f239 (Am Tryz.f239) [.bool n,.int .u64 m,.int .i64 e]=some dv∧Wk drops dv (soft.Pack.out [.b n,.i m,.i e])):A4 Tryz.prog 239 soft.Pack.spec:=by
  have call:=Ml (f:=239) Tryz.func239 (by kernel_rfl) (show Tryz.f239.body=some (Am Tryz.f239) by kernel_rfl)
  refine ⟨Aca (E:=soft.Pack.E) Tryz.func239 (show Tryz.f239.body=some (Am Tryz.f239) by kernel_rfl) soft.Pack.mu (fun rk hm=>Ay (.cons ⟨hm,call⟩ hk) _ _ _) fun rk ats dvs he hp hr=>?_,call⟩
  obtain ⟨n,_,_,rfl,rfl,he0⟩:=he.Aqs
  obtain ⟨m,_,_,rfl,rfl,he1⟩:=he0.Aih
  obtain ⟨e,_,_,rfl,rfl,he2⟩:=he1.Aih
  obtain ⟨rfl,rfl⟩:=he2.Xx
  exact h rk n m e hp hr
abbrev _root_.Go.Proofs.S1.soft.Pack.Kn:Prop:=A4 Tryz.prog 239 soft.Pack.spec
def soft.Cr.hint:Nat→Option A5
  | 0=>some { keep:=[0,1,2,3,10],objs:=[],boxes:=[] }
  | _=>none
def soft.Cr.Ba:List (Nat × Entry):=[(155,soft.Kind.spec),(239,soft.Pack.spec)]
def soft.Cr.live:Nat→Option (List Nat)
  | 7=>some [0,1,2,3,10]
  | 12=>some [0,2,3,10,11,12,13,14]
  | 14=>some [0,2,10,11,14]
  | 16=>some [0,2,10,11,14]
  | 18=>some [14,15,16]
  | _=>none
def soft.Cr.E:Env:=Bb (A9 soft.Cr.Ba) (fun _=>false) soft.Cr.hint soft.Cr.live
def soft.Cr.L0 (N M:Nat) (n:Bool) (m e:Int) (r:Bool) (p10:Int):Option DV:=B2 soft.Cr.E N Tryz.f212 (Am Tryz.f212) [1,1,1,0,0] [] M ⟨Fw 111 [(0,.bool n),(1,.int .u64 m),(2,.int .i64 e),(3,.bool r),(10,.int .i64 p10)],[]⟩
def soft.Cr.C7 (N:Nat) (n:Bool) (m e:Int) (r:Bool) (p10_1:Int):Option DV:=cutAt soft.Cr.E N Tryz.f212 (Am Tryz.f212) [1,1,1,1] [] ⟨Fw 111 [(0,.bool n),(1,.int .u64 m),(2,.int .i64 e),(3,.bool r),(10,.int .i64 p10_1)],[]⟩
def soft.Cr.C12 (N:Nat) (n:Bool) (e:Int) (r:Bool) (p10_2 p11_1:Int) (p12 p13:Int) (p14:Bool):Option DV:=cutAt soft.Cr.E N Tryz.f212 (Am Tryz.f212) [1,1,1,1,1,1,1,1,0] [] ⟨Fw 111 [(0,.bool n),(2,.int .i64 e),(3,.bool r),(10,.int .i64 p10_2),(11,.int .u64 p11_1),(12,.int .u64 p12),(13,.int .u64 p13),(14,.bool p14)],[]⟩
def soft.Cr.C14 (N:Nat) (n:Bool) (e p10_3 p11_2:Int) (p14_1:Bool):Option DV:=cutAt soft.Cr.E N Tryz.f212 (Am Tryz.f212) [1,1,1,1,1,1,1,1,1,0] [] ⟨Fw 111 [(0,.bool n),(2,.int .i64 e),(10,.int .i64 p10_3),(11,.int .u64 p11_2),(14,.bool p14_1)],[]⟩
def soft.Cr.C16 (N:Nat) (n:Bool) (e p11 p10_4:Int) (p14_2:Bool):Option DV:=cutAt soft.Cr.E N Tryz.f212 (Am Tryz.f212) [1,1,1,1,1,1,1,1,1,1] [] ⟨Fw 111 [(0,.bool n),(2,.int .i64 e),(10,.int .i64 p10_4),(11,.int .u64 p11),(14,.bool p14_2)],[]⟩
def soft.Cr.C18 (N:Nat) (p14_3:Bool) (p15:Int):Option DV:=cutAt soft.Cr.E N Tryz.f212 (Am Tryz.f212) [1,1,1,1,1,1,1,1,1,1,1,1,0] [] ⟨Fw 111 [(14,.bool p14_3),(15,.int .u64 p15),(16,.int .u8 0)],[]⟩
theorem soft.Cr.At (N M:Nat) (n:Bool) (m e:Int) (r:Bool) (p10:Int):soft.Cr.L0 N (M+1) n m e r p10=bif (decide (0≤p10)) then bif ((Dk 9007199254740992 (Cv .u64 m p10))||(A1 (Ab (e+p10)) (-1074:Int))) then bif ((Ab (p10+1))==(63:Int)) then soft.Cr.C7 N n m e r (Ab (p10+1)) else soft.Cr.L0 N M n m e r (Ab (p10+1)) else soft.Cr.C7 N n m e r p10 else none :=
  Eq.trans (by kernel_rfl)
  (E2 (Ap (Tq (Dk 9007199254740992 (Cv .u64 m p10))) (Ap (Tq (Dk 9007199254740992 (Cv .u64 m p10))) (Ap (tt8 (Dk 9007199254740992 (Cv .u64 m p10))) (Ap (Rd (Dk 9007199254740992 (Cv .u64 m p10))) (Ap (Y8 (Dk 9007199254740992 (Cv .u64 m p10))) (Cy (tt5 (Dk 9007199254740992 (Cv .u64 m p10)) (A1 (Ab (e+p10)) (-1074:Int))) rfl rfl)))))) rfl)
theorem soft.Cr.Ajs (N:Nat) (n:Bool) (m e:Int) (r:Bool) (p10_1:Int):soft.Cr.C7 N n m e r p10_1=bif (decide (0≤p10_1)) then bif (decide (0≤p10_1)) then bif (A1 0 p10_1) then bif (decide (0≤(Ab (p10_1-1)))) then soft.Cr.C12 N n e r p10_1 (Cv .u64 m p10_1) (E9 .u64 m (A3 ((Bn .u64 1 p10_1)-1))) (Bn .u64 1 (Ab (p10_1-1))) (bif ((E9 .u64 m (A3 ((Bn .u64 1 p10_1)-1)))==(0:Int)) then (!r) else false) else none else soft.Cr.C12 N n e r p10_1 (Cv .u64 m p10_1) (E9 .u64 m (A3 ((Bn .u64 1 p10_1)-1))) 0 (bif ((E9 .u64 m (A3 ((Bn .u64 1 p10_1)-1)))==(0:Int)) then (!r) else false) else none else none :=
  Eq.trans ((Dr _ _ _ _ _ _ _).trans (by kernel_rfl))
  (Cy (Cz (decide (0≤p10_1))) (Cy (Cz (decide (0≤p10_1))) (E2 (E2 (Ap (Ot ((E9 .u64 m (A3 ((Bn .u64 1 p10_1)-1)))==(0:Int))) (Ap (Ks ((E9 .u64 m (A3 ((Bn .u64 1 p10_1)-1)))==(0:Int))) (Ap (Sc ((E9 .u64 m (A3 ((Bn .u64 1 p10_1)-1)))==(0:Int))) rfl))) rfl) (Ap (Ot ((E9 .u64 m (A3 ((Bn .u64 1 p10_1)-1)))==(0:Int))) (Ap (Ks ((E9 .u64 m (A3 ((Bn .u64 1 p10_1)-1)))==(0:Int))) (Ap (Sc ((E9 .u64 m (A3 ((Bn .u64 1 p10_1)-1)))==(0:Int))) rfl)))) rfl) rfl)
theorem soft.Cr.Vf (N:Nat) (n:Bool) (e:Int) (r:Bool) (p10_2 p11_1:Int) (p12 p13:Int) (p14:Bool):soft.Cr.C12 N n e r p10_2 p11_1 p12 p13 p14=bif ((A1 0 p10_2)&&((A1 p13 p12)||((p12==p13)&&(r||((E9 .u64 p11_1 1)==(1:Int)))))) then soft.Cr.C14 N n e p10_2 (A3 (p11_1+1)) p14 else soft.Cr.C14 N n e p10_2 p11_1 p14 :=
  Eq.trans ((Dr _ _ _ _ _ _ _).trans (by kernel_rfl))
  (Ap (Ot (A1 0 p10_2)) (Ap (Ot (A1 0 p10_2)) (Ap (Agp (A1 0 p10_2)) (Ap (Ks (A1 0 p10_2)) (Ap (Ap0 (A1 0 p10_2) (A1 p13 p12)) (Ap (Ap0 (A1 0 p10_2) (A1 p13 p12)) (Ap (tt20 (A1 0 p10_2) (A1 p13 p12)) (Ap (tt19 (A1 0 p10_2) (A1 p13 p12)) (Ap (tt18 (A1 0 p10_2) (A1 p13 p12) (p12==p13)) (Ap (tt17 (A1 0 p10_2) (A1 p13 p12) (p12==p13)) (Ap (tt16 (A1 0 p10_2) (A1 p13 p12) (p12==p13) r) (Ap (Ap1 (A1 0 p10_2) (A1 p13 p12) (p12==p13) r) (Ap (Ap1 (A1 0 p10_2) (A1 p13 p12) (p12==p13) r) (Ap (tt14 (A1 0 p10_2) (A1 p13 p12) (p12==p13) r) (Ap (tt13 (A1 0 p10_2) (A1 p13 p12) (p12==p13)) (Ap (tt12 (A1 0 p10_2) (A1 p13 p12)) (Ap (Sc (A1 0 p10_2)) (Cy (tt11 (A1 0 p10_2) (A1 p13 p12) (p12==p13) r ((E9 .u64 p11_1 1)==(1:Int))) rfl rfl))))))))))))))))))
theorem soft.Cr.Ve (N:Nat) (n:Bool) (e p10_3 p11_2:Int) (p14_1:Bool):soft.Cr.C14 N n e p10_3 p11_2 p14_1=bif (A1 (Ab (e+p10_3)) (-1074:Int)) then soft.Cr.C16 N n e 0 p10_3 p14_1 else soft.Cr.C16 N n e p11_2 p10_3 p14_1:=(Dr _ _ _ _ _ _ _).trans (by kernel_rfl)
theorem soft.Cr.Aol (N:Nat) (n:Bool) (e p11 p10_4:Int) (p14_2:Bool):soft.Cr.C16 N n e p11 p10_4 p14_2=bif (Ix p11 (max (Ab (e+p10_4)) (-1074:Int))) then soft.Cr.C18 N p14_2 (Qk n p11 (max (Ab (e+p10_4)) (-1074:Int))) else none:=(Dr _ _ _ _ _ _ _).trans (by kernel_rfl)
theorem soft.Cr.Aoj (N:Nat) (p14_3:Bool) (p15:Int):soft.Cr.C18 N p14_3 p15=bif ((!p14_3)||((Mn .u64 p15 9223372036854775808)==(9218868437227405312:Int))) then bif (Ai p15) then bif ((A8 p15)==(3:Int)) then some (.tup [.int .u64 p15,.int .u8 5]) else bif ((A8 p15)==(0:Int)) then bif ((A8 p15)==(0:Int)) then some (.tup [.int .u64 p15,.int .u8 3]) else some (.tup [.int .u64 p15,.int .u8 1]) else bif ((A8 p15)==(1:Int)) then some (.tup [.int .u64 p15,.int .u8 3]) else some (.tup [.int .u64 p15,.int .u8 1]) else none else some (.tup [.int .u64 p15,.int .u8 0]) :=
  Eq.trans ((Dr _ _ _ _ _ _ _).trans (by kernel_rfl))
  (Ap (Aed p14_3) (Ap (Tr p14_3) (Ap (Tr p14_3) (Ap (Aee p14_3) (Cy (Apz p14_3 ((Mn .u64 p15 9223372036854775808)==(9218868437227405312:Int))) rfl rfl)))))
theorem soft.Cr.ev (N:Nat) (n:Bool) (m e:Int) (r:Bool):Bv soft.Cr.E N Tryz.f212 (Am Tryz.f212) [.bool n,.int .u64 m,.int .i64 e,.bool r]=bif ((m==(0:Int))&&(!r)) then bif (Ix 0 (-1074:Int)) then some (.tup [.int .u64 (Qk n 0 (-1074:Int)),.int .u8 0]) else none else soft.Cr.L0 N N n m e r 0 :=
  Eq.trans (by kernel_rfl)
  (Ap (Ot (m==(0:Int))) (Ap (Ks (m==(0:Int))) (Ap (Sc (m==(0:Int))) (Cy (tt27 (m==(0:Int)) r) rfl rfl))))
abbrev _root_.Go.Proofs.S1.soft.Cr.Kn:=A4 Tryz.prog 212 soft.Cr.spec
theorem soft.Cr.Ad (hk:Ax Tryz.prog soft.Cr.Ba) (h:∀ (n:Bool) (m e:Int) (r:Bool),soft.Cr.pre [.b n,.i m,.i e,.b r]=true→Bc soft.Cr.E Tryz.f212 [.bool n,.int .u64 m,.int .i64 e,.bool r] (soft.Cr.out [.b n,.i m,.i e,.b r])):soft.Cr.Kn :=
  Al (Ay hk _ _ _) Tryz.func212 (by kernel_rfl) (by kernel_rfl) h
end EqSoft
theorem Af {a b:Bool}:(a&&b)=true↔a=true∧b=true:=by simp
theorem Adn {n:Nat} (hn:n<2^64):((Cv .u64 (n:Int) (63:Int))==(1:Int))=Df n:=by
  rw [show (63:Int)=((63:Nat):Int) from rfl,Ga .u64 n 63 (by decide)]
  unfold Df D4
  rw [Aq0,Are]
  simp only [beq_iff_eq,Aq5]
  omega
theorem Akl {n:Nat} (hn:n<2^64):Ab (E9 .u64 (Cv .u64 (n:Int) (52:Int)) (2047:Int))=Kt n:=by
  rw [show (52:Int)=((52:Nat):Int) from rfl,Ga .u64 n 52 (by decide),show (2047:Int)=((2^11-1:Nat):Int) from rfl,G0 11 (by omega) (by decide)]
  unfold Kt G7
  rw [Aq0,An (by omega) (by omega)]
theorem Ail {n:Nat} (hn:n<2^64):E9 .u64 (n:Int) (4503599627370495:Int)=Cd n:=by
  rw [show (4503599627370495:Int)=((2^52-1:Nat):Int) from rfl,G0 52 hn (by decide)]
  unfold Cd Ft
  rw [Aq0]
theorem soft.Split.known:soft.Split.Kn:=EqSoft.soft.Split.Ad .nil fun x hp=>by
  obtain ⟨n,rfl,hn⟩:=Bt (x:=x) hp
  refine ⟨0,soft.Split.out [.i n],[],?_,Wk.Ig (.cons .bool (.cons .int (.cons .int .nil)))⟩
  rw [EqSoft.soft.Split.ev,Adn hn,Akl hn,Ail hn]
  rfl
theorem soft.Kind.known:soft.Kind.Kn:=EqSoft.soft.Kind.Ad (.cons soft.Split.known .nil) fun x hp=>by
  obtain ⟨n,rfl,hn⟩:=Bt (x:=x) hp
  refine ⟨0,soft.Kind.out [.i n],[],?_,.int⟩
  rw [EqSoft.soft.Kind.ev,B1 hn]
  show _=some (DV.int .i64 (A8 n))
  unfold A8 Au Kt Cd
  simp only [Aq0,Aqy,Ar]
  have:=Js n
  by_cases h1:G7 n=2047
  · by_cases h2:Ft n=0
    · simp [h1,h2]
    · have:((Ft n:Int)==0)=false:=by simp; exact h2
      simp [h1,this,h2]
  · have h1':((G7 n:Int)==2047)=false:=by simp; omega
    rw [h1']
    by_cases h3:0<G7 n
    · simp [h1,h3]
    · by_cases h4:0<Ft n
      · simp [h1,h3,h4]
      · simp [h1,h3,h4]
theorem soft.Sign.known:soft.Sign.Kn:=EqSoft.soft.Sign.Ad .nil fun x hp=>by
  obtain ⟨n,rfl,hn⟩:=Bt (x:=x) hp
  refine ⟨0,soft.Sign.out [.i n],[],?_,.bool⟩
  rw [EqSoft.soft.Sign.ev,Adn hn]
  rfl
theorem Ur (n:Nat):Le n=!(decide (Au n=3)||decide (Au n=4)):=by
  have:=Js n
  unfold Le Au
  by_cases h1:G7 n=2047
  · by_cases h2:Ft n=0<;>simp [h1,h2]
  · have:G7 n<2047:=by omega
    by_cases h3:0<G7 n
    · simp [h1,h3,this]
    · by_cases h4:0<Ft n<;>simp [h1,h3,h4,this]
theorem soft.Finite.known:soft.Finite.Kn:=EqSoft.soft.Finite.Ad (.cons soft.Kind.known .nil) fun x hp=>by
  obtain ⟨n,rfl,hn⟩:=Bt (x:=x) hp
  refine ⟨0,soft.Finite.out [.i n],[],?_,.bool⟩
  rw [EqSoft.soft.Finite.ev,B1 hn]
  show _=some (DV.bool (C9 n))
  unfold C9 A8
  rw [Aq0,Ur]
  by_cases h3:Au n=3
  · simp [h3]
  · by_cases h4:Au n=4
    · simp [h4]
    · have e3:((Au n:Int)==3)=false:=by simp; omega
      have e4:((Au n:Int)==4)=false:=by simp; omega
      simp [h3,h4,e3,e4]
theorem Afb {n:Nat} (hn:n<2^64):Al2 .u64 (n:Int) (9223372036854775808:Int)=Dd n:=by
  rw [show (9223372036854775808:Int)=((2^63:Nat):Int) from rfl,Ajg hn (by decide),Ajv hn]
  unfold Dd Pn
  rw [Aq0]
theorem soft.Fc.known:soft.Fc.Kn:=EqSoft.soft.Fc.Ad .nil fun x hp=>by
  obtain ⟨n,rfl,hn⟩:=Bt (x:=x) hp
  refine ⟨0,soft.Fc.out [.i n],[],?_,.int⟩
  rw [EqSoft.soft.Fc.ev,Afb hn]
  rfl
theorem soft.E4.known:soft.E4.Kn:=EqSoft.soft.E4.Ad (.cons soft.Split.known .nil) fun x hp=>by
  obtain ⟨n,rfl,hn⟩:=Bt (x:=x) hp
  refine ⟨0,soft.E4.out [.i n],[],?_,Wk.Gd (.cons .int (.cons .int .nil))⟩
  rw [EqSoft.soft.E4.ev,B1 hn]
  show _=some (DV.tup [.int .u64 (Bg n),.int .i64 (Aw n)])
  have hf:=Q2 n
  have hp:=Js n
  unfold Bg Aw Kt Cd Av Be
  rw [Aq0]
  by_cases h:G7 n=0
  · simp [h]
  · have e:((G7 n:Int)==0)=false:=by simp; omega
    have e2:Ha .u64 ((Ft n:Nat):Int) (4503599627370496:Int)=((Ft n+2^52:Nat):Int):=by
      rw [show (4503599627370496:Int)=((1*2^52:Nat):Int) from rfl,Afz (by omega) (by omega)]
      congr 1; omega
    rw [e,e2,An (by omega) (by omega)]
    simp [h]
namespace EqRefD
def Bd.Neg.Ba:List (Nat × Entry):=[]
def Bd.Neg.E:Env:=Bb (A9 Bd.Neg.Ba) (fun _=>false) (fun _=>none) (fun _=>none)
theorem Bd.Neg.ev (N:Nat) (x:Int):Bv Bd.Neg.E N Tryz.f142 (Am Tryz.f142) [.int .u64 x]=some (.bool ((A3 (Int.tdiv x 9223372036854775808))==(1:Int))):=by kernel_rfl
abbrev _root_.Go.Proofs.S1.Bd.Neg.Kn:=A4 Tryz.prog 142 Bd.Neg.spec
theorem Bd.Neg.Ad (hk:Ax Tryz.prog Bd.Neg.Ba) (h:∀ (x:Int),Bd.Neg.pre [.i x]=true→Bc Bd.Neg.E Tryz.f142 [.int .u64 x] (Bd.Neg.out [.i x])):Bd.Neg.Kn :=
  Al (Ay hk _ _ _) Tryz.func142 (by kernel_rfl) (by kernel_rfl) h
def Bd.Power.Ba:List (Nat × Entry):=[]
def Bd.Power.E:Env:=Bb (A9 Bd.Power.Ba) (fun _=>false) (fun _=>none) (fun _=>none)
theorem Bd.Power.ev (N:Nat) (x:Int):Bv Bd.Power.E N Tryz.f140 (Am Tryz.f140) [.int .u64 x]=some (.int .i64 (Ab (A3 (Int.tdiv (Int.tmod x 9223372036854775808) 4503599627370496)))):=by kernel_rfl
abbrev _root_.Go.Proofs.S1.Bd.Power.Kn:=A4 Tryz.prog 140 Bd.Power.spec
theorem Bd.Power.Ad (hk:Ax Tryz.prog Bd.Power.Ba) (h:∀ (x:Int),Bd.Power.pre [.i x]=true→Bc Bd.Power.E Tryz.f140 [.int .u64 x] (Bd.Power.out [.i x])):Bd.Power.Kn :=
  Al (Ay hk _ _ _) Tryz.func140 (by kernel_rfl) (by kernel_rfl) h
def Bd.J1.Ba:List (Nat × Entry):=[]
def Bd.J1.E:Env:=Bb (A9 Bd.J1.Ba) (fun _=>false) (fun _=>none) (fun _=>none)
theorem Bd.J1.ev (N:Nat) (x:Int):Bv Bd.J1.E N Tryz.f141 (Am Tryz.f141) [.int .u64 x]=some (.int .u64 (Int.tmod x 4503599627370496)):=by kernel_rfl
abbrev _root_.Go.Proofs.S1.Bd.J1.Kn:=A4 Tryz.prog 141 Bd.J1.spec
theorem Bd.J1.Ad (hk:Ax Tryz.prog Bd.J1.Ba) (h:∀ (x:Int),Bd.J1.pre [.i x]=true→Bc Bd.J1.E Tryz.f141 [.int .u64 x] (Bd.J1.out [.i x])):Bd.J1.Kn :=
  Al (Ay hk _ _ _) Tryz.func141 (by kernel_rfl) (by kernel_rfl) h
def Bd.Finite.Ba:List (Nat × Entry):=[(140,Bd.Power.spec)]
def Bd.Finite.E:Env:=Bb (A9 Bd.Finite.Ba) (fun _=>false) (fun _=>none) (fun _=>none)
theorem Bd.Finite.ev (N:Nat) (x:Int):Bv Bd.Finite.E N Tryz.f131 (Am Tryz.f131) [.int .u64 x]=bif (Xy x) then some (.bool (A1 (Kt x) 2047)) else none:=by kernel_rfl
abbrev _root_.Go.Proofs.S1.Bd.Finite.Kn:=A4 Tryz.prog 131 Bd.Finite.spec
theorem Bd.Finite.Ad (hk:Ax Tryz.prog Bd.Finite.Ba) (h:∀ (x:Int),Bd.Finite.pre [.i x]=true→Bc Bd.Finite.E Tryz.f131 [.int .u64 x] (Bd.Finite.out [.i x])):Bd.Finite.Kn :=
  Al (Ay hk _ _ _) Tryz.func131 (by kernel_rfl) (by kernel_rfl) h
end EqRefD
open EqRefD
theorem H2 (n m:Nat):Int.tdiv (n:Int) (m:Int)=((n / m:Nat):Int):=rfl
theorem Hb (n m:Nat):Int.tmod (n:Int) (m:Int)=((n%m:Nat):Int):=rfl
theorem Amj:(9223372036854775808:Int)=((2^63:Nat):Int):=rfl
theorem Amk:(4503599627370496:Int)=((2^52:Nat):Int):=rfl
theorem Bd.Neg.known:Bd.Neg.Kn:=Bd.Neg.Ad .nil fun x hp=>by
  obtain ⟨n,rfl,hn⟩:=Bt (x:=x) hp
  refine ⟨0,Bd.Neg.out [.i n],[],?_,.bool⟩
  rw [Bd.Neg.ev,Amj,H2,Cg (by omega) (by omega)]
  show _=some (DV.bool (Df n))
  unfold Df D4
  rw [Aq0]
  congr 2
  rw [Are]
  simp only [beq_iff_eq,Aq5]
  omega
theorem Bd.Power.known:Bd.Power.Kn:=Bd.Power.Ad .nil fun x hp=>by
  obtain ⟨n,rfl⟩:=Z1 (x:=x) hp
  refine ⟨0,Bd.Power.out [.i n],[],?_,.int⟩
  rw [Bd.Power.ev,Amj,Amk,Hb,H2,Cg (by omega) (by omega),An (by omega) (by omega)]
  show _=some (DV.int .i64 (Kt n))
  unfold Kt G7
  rw [Aq0]
  congr 2
  have:n%2^63 / 2^52=n / 2^52%2048:=by omega
  rw [this]
theorem Bd.J1.known:Bd.J1.Kn:=Bd.J1.Ad .nil fun x hp=>by
  obtain ⟨n,rfl⟩:=Z1 (x:=x) hp
  refine ⟨0,Bd.J1.out [.i n],[],?_,.int⟩
  rw [Bd.J1.ev,Amk,Hb]
  rfl
theorem Bd.Finite.known:Bd.Finite.Kn:=Bd.Finite.Ad (.cons Bd.Power.known .nil) fun x hp=>by
  obtain ⟨n,rfl,hn⟩:=Bt (x:=x) hp
  refine ⟨0,Bd.Finite.out [.i n],[],?_,.bool⟩
  rw [Bd.Finite.ev,Z0,Aqy,Ar]
  show _=some (DV.bool (C9 n))
  unfold C9 Le Kt
  rw [Aq0]
  have:decide ((G7 n:Int)<2047)=decide (G7 n<2047):=decide_eq_decide.2 (by omega)
  rw [this]
namespace EqRefA
def Ac.Hl.Ba:List (Nat × Entry):=[]
def Ac.Hl.E:Env:=Bb (A9 Ac.Hl.Ba) (fun _=>false) (fun _=>none) (fun _=>none)
theorem Ac.Hl.ev (N:Nat) (l:List Int) (i:Int):Bv Ac.Hl.E N Tryz.f221 (Am Tryz.f221) [.ints .arg .u32 l,.int .i64 i]=bif ((Dk 0 i)&&(A1 i (List.length l:Int))) then bif ((decide (0≤i))&&(decide (i<(List.length l:Int)))) then some (.int .u64 (A3 (List.getD l (Int.toNat i) 0))) else none else some (.int .u64 0) :=
  Eq.trans (by kernel_rfl)
  (Ap (Ot (Dk 0 i)) (Ap (Ot (Dk 0 i)) (Ap (Ks (Dk 0 i)) (Ap (Agp (Dk 0 i)) (Ap (Sc (Dk 0 i)) (Cy (tt1 (Dk 0 i) (A1 i (List.length l:Int))) rfl rfl))))))
abbrev _root_.Go.Proofs.S1.Ac.Hl.Kn:=A4 Tryz.prog 221 Ac.Hl.spec
theorem Ac.Hl.Ad (hk:Ax Tryz.prog Ac.Hl.Ba) (h:∀ (l:List Int) (i:Int),Ac.Hl.pre [.l l,.i i]=true→Bc Ac.Hl.E Tryz.f221 [.ints .arg .u32 l,.int .i64 i] (Ac.Hl.out [.l l,.i i])):Ac.Hl.Kn :=
  Al (Ay hk _ _ _) Tryz.func221 (by kernel_rfl) (by kernel_rfl) h
def Ac.Made.hint:Nat→Option A5
  | 0=>some { keep:=[0,1,4,5],objs:=[],boxes:=[4] }
  | _=>none
def Ac.Made.Ba:List (Nat × Entry):=[]
def Ac.Made.E:Env:=Bb (A9 Ac.Made.Ba) (fun _=>false) Ac.Made.hint (fun _=>none)
def Ac.Made.L0 (N M:Nat) (n:Bool) (l:List Int) (p5:Int):Option DV:=B2 Ac.Made.E N Tryz.f171 (Am Tryz.f171) [1,1,0,0] [] M ⟨Fw 28 [(0,.bool n),(1,.ints .arg .u32 l),(4,.ptr 4 0 0),(5,.int .i64 p5)],[(4,false,.box [.bool false,.nil])]⟩
theorem Ac.Made.At (N M:Nat) (n:Bool) (l:List Int) (p5:Int):Ac.Made.L0 N (M+1) n l p5=bif ((!(A1 0 p5))||((decide (0≤(Ab (p5-1))))&&(decide ((Ab (p5-1))<(List.length l:Int))))) then bif ((A1 0 p5)&&((List.getD l (Int.toNat (Ab (p5-1))) 0)==(0:Int))) then Ac.Made.L0 N M n l (Ab (p5-1)) else bif (p5==(0:Int)) then some (.agg [.bool false,.nil]) else bif ((decide ((0:Int)≤p5))&&(decide (p5≤(List.length l:Int)))) then some (.agg [.bool n,.ints .arg .u32 (List.take (Int.toNat p5) l)]) else none else none :=
  Eq.trans (by kernel_rfl)
  (Ap (Ot (A1 0 p5)) (Ap (Ot (A1 0 p5)) (Ap (Ks (A1 0 p5)) (Cy (tt79 (A1 0 p5) (decide (0≤(Ab (p5-1)))) (decide ((Ab (p5-1))<(List.length l:Int)))) (Ap (Ks (A1 0 p5)) (Ap (Ks (A1 0 p5)) (Ap (Sc (A1 0 p5)) (Cy (tt1 (A1 0 p5) ((List.getD l (Int.toNat (Ab (p5-1))) 0)==(0:Int))) rfl (E2 rfl (Cy (Ll (decide ((0:Int)≤p5)) (decide (p5≤(List.length l:Int)))) rfl rfl)))))) rfl))))
theorem Ac.Made.ev (N:Nat) (n:Bool) (l:List Int):Bv Ac.Made.E N Tryz.f171 (Am Tryz.f171) [.bool n,.ints .arg .u32 l] =
  Ac.Made.L0 N N n l (List.length l:Int):=by kernel_rfl
abbrev _root_.Go.Proofs.S1.Ac.Made.Kn:=A4 Tryz.prog 171 Ac.Made.spec
theorem Ac.Made.Ad (hk:Ax Tryz.prog Ac.Made.Ba) (h:∀ (n:Bool) (l:List Int),Ac.Made.pre [.b n,.l l]=true→Bc Ac.Made.E Tryz.f171 [.bool n,.ints .arg .u32 l] (Ac.Made.out [.b n,.l l])):Ac.Made.Kn :=
  Al (Ay hk _ _ _) Tryz.func171 (by kernel_rfl) (by kernel_rfl) h
def Ac.Of.Ba:List (Nat × Entry):=[(171,Ac.Made.spec)]
def Ac.Of.E:Env:=Bb (A9 Ac.Of.Ba) (fun _=>false) (fun _=>none) (fun _=>none)
theorem Ac.Of.ev (N:Nat) (n:Int):Bv Ac.Of.E N Tryz.f115 (Am Tryz.f115) [.int .i64 n]=bif (A1 n 0) then bif (E6 [(Hn (Int.tmod (A3 ((A3 (Ab (0-(Ab (n+1)))))+1)) 4294967296)),(Hn (A3 (Int.tdiv (A3 ((A3 (Ab (0-(Ab (n+1)))))+1)) 4294967296)))]) then some (.agg [.bool (As (wv true [(Hn (Int.tmod (A3 ((A3 (Ab (0-(Ab (n+1)))))+1)) 4294967296)),(Hn (A3 (Int.tdiv (A3 ((A3 (Ab (0-(Ab (n+1)))))+1)) 4294967296)))])),.ints .arg .u32 (Ag (wv true [(Hn (Int.tmod (A3 ((A3 (Ab (0-(Ab (n+1)))))+1)) 4294967296)),(Hn (A3 (Int.tdiv (A3 ((A3 (Ab (0-(Ab (n+1)))))+1)) 4294967296)))]))]) else none else bif (E6 [(Hn (Int.tmod n 4294967296)),(Hn (Ab (Int.tdiv n 4294967296)))]) then some (.agg [.bool (As (wv false [(Hn (Int.tmod n 4294967296)),(Hn (Ab (Int.tdiv n 4294967296)))])),.ints .arg .u32 (Ag (wv false [(Hn (Int.tmod n 4294967296)),(Hn (Ab (Int.tdiv n 4294967296)))]))]) else none:=by kernel_rfl
abbrev _root_.Go.Proofs.S1.Ac.Of.Kn:=A4 Tryz.prog 115 Ac.Of.spec
theorem Ac.Of.Ad (hk:Ax Tryz.prog Ac.Of.Ba) (h:∀ (n:Int),Ac.Of.pre [.i n]=true→Bc Ac.Of.E Tryz.f115 [.int .i64 n] (Ac.Of.out [.i n])):Ac.Of.Kn :=
  Al (Ay hk _ _ _) Tryz.func115 (by kernel_rfl) (by kernel_rfl) h
def Ac.Gy.hint:Nat→Option A5
  | 0=>some { keep:=[0,1,5],objs:=[],boxes:=[] }
  | _=>none
def Ac.Gy.Ba:List (Nat × Entry):=[(221,Ac.Hl.spec)]
def Ac.Gy.E:Env:=Bb (A9 Ac.Gy.Ba) (fun _=>false) Ac.Gy.hint (fun _=>none)
def Ac.Gy.L0 (N M:Nat) (a b:List Int) (p5:Int):Option DV:=B2 Ac.Gy.E N Tryz.f176 (Am Tryz.f176) [1,0,1,0] [] M ⟨Fw 29 [(0,.ints .arg .u32 a),(1,.ints .arg .u32 b),(5,.int .i64 p5)],[]⟩
theorem Ac.Gy.At (N M:Nat) (a b:List Int) (p5:Int):Ac.Gy.L0 N (M+1) a b p5=bif (Dk 0 p5) then bif (E6 a) then bif (E6 b) then bif (A1 (Fs a p5) (Fs b p5)) then some (.int .i64 (-1:Int)) else bif (E6 a) then bif (E6 b) then bif (A1 (Fs b p5) (Fs a p5)) then some (.int .i64 1) else Ac.Gy.L0 N M a b (Ab (p5-1)) else none else none else none else none else some (.int .i64 0):=by kernel_rfl
theorem Ac.Gy.ev (N:Nat) (a b:List Int):Bv Ac.Gy.E N Tryz.f176 (Am Tryz.f176) [.ints .arg .u32 a,.ints .arg .u32 b] =
  Ac.Gy.L0 N N a b (max (List.length a:Int) (List.length b:Int)):=by kernel_rfl
abbrev _root_.Go.Proofs.S1.Ac.Gy.Kn:=A4 Tryz.prog 176 Ac.Gy.spec
theorem Ac.Gy.Ad (hk:Ax Tryz.prog Ac.Gy.Ba) (h:∀ (a b:List Int),Ac.Gy.pre [.l a,.l b]=true→Bc Ac.Gy.E Tryz.f176 [.ints .arg .u32 a,.ints .arg .u32 b] (Ac.Gy.out [.l a,.l b])):Ac.Gy.Kn :=
  Al (Ay hk _ _ _) Tryz.func176 (by kernel_rfl) (by kernel_rfl) h
def Ac.plus.hint:Nat→Option A5
  | 0=>some { keep:=[0,1,5,6,7],objs:=[(0,5,100005,.ints 173 .u32 [])],boxes:=[] }
  | _=>none
def Ac.plus.Ba:List (Nat × Entry):=[(221,Ac.Hl.spec)]
def Ac.plus.E:Env:=Bb (A9 Ac.plus.Ba) (fun _=>false) Ac.plus.hint (fun _=>none)
def Ac.plus.L0 (N M:Nat) (a b:List Int) (p6 p7:Int) (p5:List Int):Option DV:=B2 Ac.plus.E N Tryz.f174 (Am Tryz.f174) [1,1,1,0,1,0] [] M ⟨Fw 37 [(0,.ints .arg .u32 a),(1,.ints .arg .u32 b),(5,.oref 100005),(6,.int .u64 p6),(7,.int .i64 p7)],[(100005,false,.ints 173 .u32 p5)]⟩
theorem Ac.plus.At (N M:Nat) (a b:List Int) (p6 p7:Int) (p5:List Int):Ac.plus.L0 N (M+1) a b p6 p7 p5=bif (Dk p7 (max (List.length a:Int) (List.length b:Int))) then bif (E6 a) then bif (E6 b) then bif (decide ((List.length p5)+1≤Gv)) then Ac.plus.L0 N M a b (A3 (Int.tdiv (A3 ((A3 ((Fs a p7)+(Fs b p7)))+p6)) 4294967296)) (Ab (p7+1)) (p5++[(Hn (Int.tmod (A3 ((A3 ((Fs a p7)+(Fs b p7)))+p6)) 4294967296))]) else none else none else none else some (.ints (.own 100005 173) .u32 p5):=by kernel_rfl
theorem Ac.plus.ev (N:Nat) (a b:List Int):Bv Ac.plus.E N Tryz.f174 (Am Tryz.f174) [.ints .arg .u32 a,.ints .arg .u32 b] =
  Ac.plus.L0 N N a b 0 0 []:=by kernel_rfl
abbrev _root_.Go.Proofs.S1.Ac.plus.Kn:=A4 Tryz.prog 174 Ac.plus.spec
theorem Ac.plus.Ad (hk:Ax Tryz.prog Ac.plus.Ba) (h:∀ (a b:List Int),Ac.plus.pre [.l a,.l b]=true→Bc Ac.plus.E Tryz.f174 [.ints .arg .u32 a,.ints .arg .u32 b] (Ac.plus.out [.l a,.l b])):Ac.plus.Kn :=
  Al (Ay hk _ _ _) Tryz.func174 (by kernel_rfl) (by kernel_rfl) h
def Ac.minus.hint:Nat→Option A5
  | 0=>some { keep:=[0,1,5,6,7],objs:=[(0,5,100005,.ints 173 .u32 [])],boxes:=[] }
  | _=>none
def Ac.minus.Ba:List (Nat × Entry):=[(221,Ac.Hl.spec)]
def Ac.minus.E:Env:=Bb (A9 Ac.minus.Ba) (fun _=>false) Ac.minus.hint (fun _=>none)
def Ac.minus.L0 (N M:Nat) (a b:List Int) (p6 p7:Int) (p5:List Int):Option DV:=B2 Ac.minus.E N Tryz.f177 (Am Tryz.f177) [1,1,1,0,1,0] [] M ⟨Fw 36 [(0,.ints .arg .u32 a),(1,.ints .arg .u32 b),(5,.oref 100005),(6,.int .u64 p6),(7,.int .i64 p7)],[(100005,false,.ints 173 .u32 p5)]⟩
theorem Ac.minus.At (N M:Nat) (a b:List Int) (p6 p7:Int) (p5:List Int):Ac.minus.L0 N (M+1) a b p6 p7 p5=bif (A1 p7 (List.length a:Int)) then bif (E6 a) then bif (E6 b) then bif (decide ((List.length p5)+1≤Gv)) then Ac.minus.L0 N M a b (A3 ((1:Int)-(A3 (Int.tdiv (A3 ((A3 ((A3 ((4294967296:Int)+(Fs a p7)))-(Fs b p7)))-p6)) 4294967296)))) (Ab (p7+1)) (p5++[(Hn (Int.tmod (A3 ((A3 ((A3 ((4294967296:Int)+(Fs a p7)))-(Fs b p7)))-p6)) 4294967296))]) else none else none else none else some (.ints (.own 100005 173) .u32 p5):=by kernel_rfl
theorem Ac.minus.ev (N:Nat) (a b:List Int):Bv Ac.minus.E N Tryz.f177 (Am Tryz.f177) [.ints .arg .u32 a,.ints .arg .u32 b] =
  Ac.minus.L0 N N a b 0 0 []:=by kernel_rfl
abbrev _root_.Go.Proofs.S1.Ac.minus.Kn:=A4 Tryz.prog 177 Ac.minus.spec
theorem Ac.minus.Ad (hk:Ax Tryz.prog Ac.minus.Ba) (h:∀ (a b:List Int),Ac.minus.pre [.l a,.l b]=true→Bc Ac.minus.E Tryz.f177 [.ints .arg .u32 a,.ints .arg .u32 b] (Ac.minus.out [.l a,.l b])):Ac.minus.Kn :=
  Al (Ay hk _ _ _) Tryz.func177 (by kernel_rfl) (by kernel_rfl) h
def Ac.Add.Ba:List (Nat × Entry):=[(171,Ac.Made.spec),(176,Ac.Gy.spec),(177,Ac.minus.spec),(174,Ac.plus.spec)]
def Ac.Add.E:Env:=Bb (A9 Ac.Add.Ba) (fun _=>false) (fun _=>none) (fun _=>none)
theorem Ac.Add.ev (N:Nat) (n:Bool) (a:List Int) (m:Bool) (b:List Int):Bv Ac.Add.E N Tryz.f112 (Am Tryz.f112) [.agg [.bool n,.ints .arg .u32 a],.agg [.bool m,.ints .arg .u32 b]]=bif (n==m) then bif (E6 a&&E6 b) then bif (E6 (G3 a b)) then some (.agg [.bool (As (wv n (G3 a b))),.ints .arg .u32 (Ag (wv n (G3 a b)))]) else none else none else bif (E6 a&&E6 b) then bif (A1 (R4 (Bq a) (Bq b)) 0) then bif ((E6 b&&E6 a)&&leL a b) then bif (E6 (F3 b a)) then some (.agg [.bool (As (wv m (F3 b a))),.ints .arg .u32 (Ag (wv m (F3 b a)))]) else none else none else bif ((E6 a&&E6 b)&&leL b a) then bif (E6 (F3 a b)) then some (.agg [.bool (As (wv n (F3 a b))),.ints .arg .u32 (Ag (wv n (F3 a b)))]) else none else none else none :=
  Eq.trans (by kernel_rfl)
  (E2 (Cy (Cz (E6 a&&E6 b)) (Cy (Cz (E6 (G3 a b))) rfl rfl) rfl) (E2 (E2 (Cy (Cz ((E6 b&&E6 a)&&leL a b)) (Cy (Cz (E6 (F3 b a))) rfl rfl) rfl) (Cy (Cz ((E6 a&&E6 b)&&leL b a)) (Cy (Cz (E6 (F3 a b))) rfl rfl) rfl)) rfl))
abbrev _root_.Go.Proofs.S1.Ac.Add.Kn:=A4 Tryz.prog 112 Ac.Add.spec
theorem Ac.Add.Ad (hk:Ax Tryz.prog Ac.Add.Ba) (h:∀ (n:Bool) (a:List Int) (m:Bool) (b:List Int),Ac.Add.pre [.b n,.l a,.b m,.l b]=true→Bc Ac.Add.E Tryz.f112 [.agg [.bool n,.ints .arg .u32 a],.agg [.bool m,.ints .arg .u32 b]] (Ac.Add.out [.b n,.l a,.b m,.l b])):Ac.Add.Kn :=
  Al (Ay hk _ _ _) Tryz.func112 (by kernel_rfl) (by kernel_rfl) h
def Ac.Neg.Ba:List (Nat × Entry):=[(171,Ac.Made.spec)]
def Ac.Neg.E:Env:=Bb (A9 Ac.Neg.Ba) (fun _=>false) (fun _=>none) (fun _=>none)
theorem Ac.Neg.ev (N:Nat) (n:Bool) (a:List Int):Bv Ac.Neg.E N Tryz.f143 (Am Tryz.f143) [.agg [.bool n,.ints .arg .u32 a]]=bif (E6 a) then some (.agg [.bool (As (wv (!n) a)),.ints .arg .u32 (Ag (wv (!n) a))]) else none:=by kernel_rfl
abbrev _root_.Go.Proofs.S1.Ac.Neg.Kn:=A4 Tryz.prog 143 Ac.Neg.spec
theorem Ac.Neg.Ad (hk:Ax Tryz.prog Ac.Neg.Ba) (h:∀ (n:Bool) (a:List Int),Ac.Neg.pre [.b n,.l a]=true→Bc Ac.Neg.E Tryz.f143 [.agg [.bool n,.ints .arg .u32 a]] (Ac.Neg.out [.b n,.l a])):Ac.Neg.Kn :=
  Al (Ay hk _ _ _) Tryz.func143 (by kernel_rfl) (by kernel_rfl) h
end EqRefA
open EqRefA
theorem Ac.Hl.known:Ac.Hl.Kn:=Ac.Hl.Ad .nil fun l i hp=>by
  obtain ⟨hl,hi⟩:=H7 hp
  refine ⟨0,Ac.Hl.out [.l l,.i i],[],?_,.int⟩
  rw [Ac.Hl.ev,D7,Ar]
  show _=some (DV.int .u64 (Fs l i))
  by_cases h0:0≤i
  · obtain ⟨k,rfl⟩:∃ k:Nat,i=k:=⟨i.toNat,by omega⟩
    have hv:=F6 hi k
    have hg:=Mg hi k
    rw [hv,Aq0,hg,Aqz h0,Bool.true_and]
    by_cases h1:(k:Int)<(l.length:Int)
    · rw [Aqz h1,Aqy,Aqy,Cg (by omega) (by omega)]
    · have h2:l.getD k 0=0:=by
        rw [Aq8,List.getElem?_eq_none (by omega)]; rfl
      rw [h2] at hg
      rw [Aq3 h1,Aq2,← hg]
  · have:Fs l i=0:=by unfold Fs; rw [if_neg h0]
    rw [Aq3 h0,Bool.false_and,Aq2,this]
theorem W6 {drops:List Nat} {b:Bool} {l:List Int}:Wk drops (.agg [.bool b,.ints .arg .u32 l]) (.agg [.bool b,.ints .arg .u32 l]):=Wk.Ig (.cons .bool (.cons .Aa3 .nil))
theorem Ae3:As 0=false:=rfl
theorem Aaj:Ag 0=[]:=rfl
theorem Afc (N:Nat) (n:Bool) {l:List Int} (hl:l.length<1073741824) (hi:Qz l):∀ (p F:Nat),p≤l.length→p<F→Bq l<2^(32*p) →
    ∃ dv,Ac.Made.L0 N F n l (p:Int)=some dv∧Wk [] dv (.agg [.bool (As (wv n l)),.ints .arg .u32 (Ag (wv n l))]):=by
  have hlast:∀ p,p≤l.length→Da (Bq l)=p→p≠0→some (DV.agg [.bool n,.ints .arg .u32 (l.take p)])=some (DV.agg [.bool (As (wv n l)),.ints .arg .u32 (Ag (wv n l))]):=by
    intro p hp hq h0
    have h1:=Acg hi
    rw [hq] at h1
    have h2:Bq l≠0:=fun h=>by rw [h] at hq; exact h0 hq.symm
    have e:(wv n l).natAbs=Bq l:=by unfold wv Ih; split<;>omega
    have e1:Ag (wv n l)=Mu (Bq l):=by unfold Ag; rw [e]
    have e2:As (wv n l)=n:=by unfold As wv Ih; cases n<;>simp<;>omega
    rw [h1,e1,e2]
  intro p
  induction p with
  | zero =>
    intro F hp hF hv
    obtain ⟨F,rfl⟩:∃ G,F=G+1:=⟨F-1,by omega⟩
    have hz:wv n l=0:=by
      have:Bq l=0:=by rw [Nat.mul_zero,Nat.pow_zero] at hv; omega
      unfold wv Ih; rw [this]; cases n<;>rfl
    refine ⟨.agg [.bool false,.nil],?_,?_⟩
    · rw [Ac.Made.At,Ar]; rfl
    · rw [hz,Ae3,Aaj]
      exact Wk.Ig (.cons .bool (.cons (.nil _ _) .nil))
  | succ p ih =>
    intro F hp hF hv
    obtain ⟨F,rfl⟩:∃ G,F=G+1:=⟨F-1,by omega⟩
    rw [Ac.Made.At,Ar,An (by omega) (by omega)]
    have e0:((p+1:Nat):Int)-1=(p:Int):=by omega
    have t0:decide ((0:Int)<((p+1:Nat):Int))=true:=Aqz (by omega)
    have t1:decide ((0:Int)≤(p:Int))=true:=by simp
    have t2:decide ((p:Int)<(l.length:Int))=true:=by simp; omega
    have hg:=Mg hi p
    have hq:Bq l / 2^(32*p)<4294967296:=by
      rw [Nat.div_lt_iff_lt_mul (Cc _),← Jk]; exact hv
    rw [Arb hq] at hg
    rw [e0,t0,t1,t2,Aq0,hg]
    simp only [Bool.not_true,Aq4,Bool.false_or,Aqy,Bool.true_and]
    by_cases hz:Bq l / 2^(32*p)=0
    · have:(((Bq l / 2^(32*p):Nat):Int)==0)=true:=by rw [hz]; rfl
      rw [this,Aqy]
      refine ih F (by omega) (by omega) ?_
      rcases Nat.lt_or_ge (Bq l) (2^(32*p)) with h | h
      · exact h
      · have:=Nat.div_pos h (Cc _); omega
    · have:(((Bq l / 2^(32*p):Nat):Int)==0)=false:=by simp only [beq_eq_false_iff_ne,ne_eq]; omega
      have t3:(((p+1:Nat):Int)==0)=false:=by simp only [beq_eq_false_iff_ne,ne_eq]; omega
      have t4:decide (((p+1:Nat):Int)≤(l.length:Int))=true:=by simp; omega
      have t5:decide ((0:Int)≤((p+1:Nat):Int))=true:=Aqz (by omega)
      rw [this,Aq2,t3,Aq2,t4,t5,Aq4,Aqy,Aq0]
      have hlen:Da (Bq l)=p+1:=by
        have a1:=Jy hv
        have a2:=Ala (n:=Bq l) (k:=p) (by
          rcases Nat.lt_or_ge (Bq l) (2^(32*p)) with h | h
          · exact absurd (Nat.div_eq_of_lt h) hz
          · exact h)
        omega
      exact ⟨_,hlast (p+1) hp hlen (by omega),W6⟩
theorem Ac.Made.known:Ac.Made.Kn:=Ac.Made.Ad .nil fun n l hp=>by
  obtain ⟨hl,hi⟩:=H7 hp
  obtain ⟨dv,h1,h2⟩:=Afc (l.length+1) n hl hi l.length (l.length+1) (Nat.le_refl _) (by omega) (H0 hi)
  exact ⟨l.length+1,dv,[],by rw [Ac.Made.ev]; exact h1,h2⟩
theorem Vw {a b:Int} (ha:0≤a∧a<4294967296) (hb:0≤b∧b<4294967296):E6 [a,b]=true :=
  H6 (show 2<1073741824 by decide) fun x hx=>by
    rcases List.mem_cons.1 hx with rfl | hx
    · exact ha
    · rcases List.mem_cons.1 hx with rfl | hx
      · exact hb
      · cases hx
theorem Aah:(4294967296:Int)=((4294967296:Nat):Int):=rfl
theorem Ac.Of.known:Ac.Of.Kn:=Ac.Of.Ad (.cons Ac.Made.known .nil) fun n hp=>by
  have hp:=Ao.1 hp
  refine ⟨0,Ac.Of.out [.i n],[],?_,W6⟩
  rw [Ac.Of.ev,Ar]
  show _=some (DV.agg [.bool (As n),.ints .arg .u32 (Ag n)])
  by_cases h:n<0
  · obtain ⟨k,rfl⟩:∃ k:Nat,n=-(k:Int):=⟨(-n).toNat,by omega⟩
    have e1:A3 (A3 (Ab (0-Ab (-(k:Int)+1)))+1)=(k:Int):=by
      rw [An (x:=-(k:Int)+1) (by omega) (by omega),An (by omega) (by omega),Cg (x:=0-(-(k:Int)+1)) (by omega) (by omega),Cg (by omega) (by omega)]; omega
    rw [Aqz h,Aqy,e1,Aah,Hb,H2,Hz (by omega) (by omega),Cg (by omega) (by omega),Hz (by omega) (by omega),
      Vw (by omega) (by omega),Aqy]
    have e2:wv true [((k%4294967296:Nat):Int),((k / 4294967296:Nat):Int)]=-(k:Int):=by
      unfold wv Ih Bq Bq Bq
      rw [if_pos rfl,Aq0,Aq0]
      omega
    rw [e2]
  · obtain ⟨k,rfl⟩:∃ k:Nat,n=(k:Int):=⟨n.toNat,by omega⟩
    rw [Aq3 h,Aq2,Aah,Hb,H2,Hz (by omega) (by omega),An (by omega) (by omega),Hz (by omega) (by omega),
      Vw (by omega) (by omega),Aqy]
    have e2:wv false [((k%4294967296:Nat):Int),((k / 4294967296:Nat):Int)]=(k:Int):=by
      unfold wv Ih Bq Bq Bq
      rw [if_neg (by decide),Aq0,Aq0]
      omega
    rw [e2]
theorem Ac.Neg.known:Ac.Neg.Kn:=Ac.Neg.Ad (.cons Ac.Made.known .nil) fun n a hp=>by
  obtain ⟨v,rfl,rfl,hv⟩:=H5 hp
  refine ⟨0,Ac.Neg.out [.b (As v),.l (Ag v)],[],?_,W6⟩
  rw [Ac.Neg.ev,Ls (by omega),Aqy,Ams]
  rfl
open EqRefA
theorem Afa (N:Nat) {a b:List Int} (ha:E6 a=true) (hb:E6 b=true):∀ (j F:Nat),j<4000000000→j<F→Bq a / 2^(32*j)=Bq b / 2^(32*j) →
    Ac.Gy.L0 N F a b ((j:Int)-1)=some (.int .i64 (R4 (Bq a) (Bq b))):=by
  have ia:=(H7 ha).2
  have ib:=(H7 hb).2
  intro j
  induction j with
  | zero =>
    intro F hj hF h
    obtain ⟨F,rfl⟩:∃ G,F=G+1:=⟨F-1,by omega⟩
    rw [Nat.mul_zero,Nat.pow_zero,Nat.div_one,Nat.div_one] at h
    have e:R4 (Bq a) (Bq b)=0:=by unfold R4; rw [if_neg (by omega),if_neg (by omega)]
    rw [Ac.Gy.At,D7,e]
    rfl
  | succ j ih =>
    intro F hj hF h
    obtain ⟨F,rfl⟩:∃ G,F=G+1:=⟨F-1,by omega⟩
    have e0:((j+1:Nat):Int)-1=(j:Int):=by omega
    have t0:decide ((0:Int)≤(j:Int))=true:=Aqz (by omega)
    rw [Jk,Nat.mul_comm,← Nat.div_div_eq_div_mul,← Nat.div_div_eq_div_mul] at h
    have up:Bq a / 2^(32*j)<Bq b / 2^(32*j)→Bq a<Bq b:=fun k=>by
      rcases Nat.lt_or_ge (Bq a) (Bq b) with h1 | h1
      · exact h1
      · have:=Nat.div_le_div_right (c:=2^(32*j)) h1; omega
    have down:Bq b / 2^(32*j)<Bq a / 2^(32*j)→Bq b<Bq a:=fun k=>by
      rcases Nat.lt_or_ge (Bq b) (Bq a) with h1 | h1
      · exact h1
      · have:=Nat.div_le_div_right (c:=2^(32*j)) h1; omega
    rw [Ac.Gy.At,e0,D7,t0,Aqy,ha,hb,Aqy,Aqy,Ar,Ar,F6 ia,F6 ib,An (by omega) (by omega)]
    have ih:=ih F (by omega) (by omega)
    generalize Bq a / 2^(32*j)=x at *
    generalize Bq b / 2^(32*j)=y at *
    by_cases h1:x%4294967296<y%4294967296
    · have e:R4 (Bq a) (Bq b)=-1:=by unfold R4; rw [if_pos (up (by omega))]
      rw [Aqz (by omega),Aqy,e]
    · rw [Aq3 (by omega),Aq2]
      by_cases h2:y%4294967296<x%4294967296
      · have:=down (by omega)
        have e:R4 (Bq a) (Bq b)=1:=by unfold R4; rw [if_neg (by omega),if_pos this]
        rw [Aqz (by omega),Aqy,e]
        rfl
      · rw [Aq3 (by omega),Aq2]
        exact ih (by omega)
theorem Ady {l:List Int} (h:Qz l) {j:Nat} (hj:l.length≤j):Bq l / 2^(32*j)=0 :=
  Nat.div_eq_of_lt (Nat.lt_of_lt_of_le (H0 h) (Ard (by decide) (by omega)))
theorem Ac.Gy.known:Ac.Gy.Kn:=Ac.Gy.Ad (.cons Ac.Hl.known .nil) fun a b hp=>by
  obtain ⟨ha,hb⟩:=Af.1 hp
  obtain ⟨la,ia⟩:=H7 ha
  obtain ⟨lb,ib⟩:=H7 hb
  refine ⟨max a.length b.length+2,Ac.Gy.out [.l a,.l b],[],?_,.int⟩
  rw [Ac.Gy.ev]
  have e:max (a.length:Int) (b.length:Int)=((max a.length b.length+1:Nat):Int)-1:=by omega
  rw [e]
  exact Afa _ ha hb _ _ (by omega) (by omega) (by rw [Ady ia (by omega),Ady ib (by omega)])
theorem V8 (N:Nat) {a b:List Int} (ha:E6 a=true) (hb:E6 b=true):∀ (k i c F:Nat),i+k=max a.length b.length+1→k<F→c≤1 →
    Bq a / 2^(32*i)+Bq b / 2^(32*i)+c=(Bq a+Bq b) / 2^(32*i) →
    Ac.plus.L0 N F a b (c:Int) (i:Int) (digits i (Bq a+Bq b))=some (.ints (.own 100005 tW) .u32 (G3 a b)):=by
  obtain ⟨la,ia⟩:=H7 ha
  obtain ⟨lb,ib⟩:=H7 hb
  intro k
  induction k with
  | zero =>
    intro i c F hi hF hc h
    obtain ⟨F,rfl⟩:∃ G,F=G+1:=⟨F-1,by omega⟩
    have t0:decide ((i:Int)≤max (a.length:Int) (b.length:Int))=false:=Aq3 (by omega)
    rw [Ac.plus.At,D7,t0,Aq2]
    unfold G3
    rw [show i=max a.length b.length+1 by omega]
  | succ k ih =>
    intro i c F hi hF hc h
    obtain ⟨F,rfl⟩:∃ G,F=G+1:=⟨F-1,by omega⟩
    have t0:decide ((i:Int)≤max (a.length:Int) (b.length:Int))=true:=Aqz (by omega)
    have t1:decide ((digits i (Bq a+Bq b)).length+1≤Gv)=true:=Aqz (by rw [De]; unfold Gv; omega)
    rw [Ac.plus.At,D7,t0,ha,hb,t1]
    simp only [Aqy]
    rw [F6 ia,F6 ib]
    have ih:=ih (i+1)
    rw [Jk,Nat.mul_comm 4294967296,← Nat.div_div_eq_div_mul,← Nat.div_div_eq_div_mul,← Nat.div_div_eq_div_mul,Hv] at ih
    generalize Bq a / 2^(32*i)=x at *
    generalize Bq b / 2^(32*i)=y at *
    generalize (Bq a+Bq b) / 2^(32*i)=z at *
    have e1:A3 (A3 (((x%4294967296:Nat):Int)+((y%4294967296:Nat):Int))+(c:Int))=((x%4294967296+y%4294967296+c:Nat):Int):=by
      rw [Cg (x:=((x%4294967296:Nat):Int)+((y%4294967296:Nat):Int)) (by omega) (by omega),Cg (by omega) (by omega)]; omega
    rw [e1,Aah,Hb,H2,Hz (by omega) (by omega),Cg (by omega) (by omega),An (by omega) (by omega)]
    have e2:(x%4294967296+y%4294967296+c)%4294967296=z%4294967296:=by omega
    rw [e2]
    exact ih ((x%4294967296+y%4294967296+c) / 4294967296) F (by omega) (by omega) (by omega) (by omega)
theorem Xn {i:Nat} {e:TypeId} {k:IntKind} {l:List Int}:Wk [i] (.ints (.own i e) k l) (.ints .arg k l):=.dropA i e k l (List.mem_singleton.2 rfl)
theorem Ac.plus.known:Ac.plus.Kn:=Ac.plus.Ad (.cons Ac.Hl.known .nil) fun a b hp=>by
  obtain ⟨ha,hb⟩:=Af.1 hp
  refine ⟨max a.length b.length+2,.ints (.own 100005 tW) .u32 (G3 a b),[100005],?_,Xn⟩
  rw [Ac.plus.ev]
  exact V8 _ ha hb (max a.length b.length+1) 0 0 _ (by omega) (by omega) (by omega) (by simp)
theorem Ab8 (N:Nat) {a b:List Int} (ha:E6 a=true) (hb:E6 b=true):∀ (k i w F:Nat),i+k=a.length→k<F→w≤1 →
    Bq a / 2^(32*i)=Bq b / 2^(32*i)+(Bq a-Bq b) / 2^(32*i)+w →
    Ac.minus.L0 N F a b (w:Int) (i:Int) (digits i (Bq a-Bq b))=some (.ints (.own 100005 tW) .u32 (F3 a b)):=by
  obtain ⟨la,ia⟩:=H7 ha
  obtain ⟨lb,ib⟩:=H7 hb
  intro k
  induction k with
  | zero =>
    intro i c F hi hF hc h
    obtain ⟨F,rfl⟩:∃ G,F=G+1:=⟨F-1,by omega⟩
    have t0:decide ((i:Int)<(a.length:Int))=false:=Aq3 (by omega)
    rw [Ac.minus.At,Ar,t0,Aq2]
    unfold F3
    rw [show i=a.length by omega]
  | succ k ih =>
    intro i w F hi hF hc h
    obtain ⟨F,rfl⟩:∃ G,F=G+1:=⟨F-1,by omega⟩
    have t0:decide ((i:Int)<(a.length:Int))=true:=Aqz (by omega)
    have t1:decide ((digits i (Bq a-Bq b)).length+1≤Gv)=true:=Aqz (by rw [De]; unfold Gv; omega)
    rw [Ac.minus.At,Ar,t0,ha,hb,t1]
    simp only [Aqy]
    rw [F6 ia,F6 ib]
    have ih:=ih (i+1)
    rw [Jk,Nat.mul_comm 4294967296,← Nat.div_div_eq_div_mul,← Nat.div_div_eq_div_mul,← Nat.div_div_eq_div_mul,Hv] at ih
    generalize Bq a / 2^(32*i)=x at *
    generalize Bq b / 2^(32*i)=y at *
    generalize (Bq a-Bq b) / 2^(32*i)=z at *
    have e1:A3 (A3 (A3 ((4294967296:Int)+((x%4294967296:Nat):Int))-((y%4294967296:Nat):Int))-(w:Int))=((4294967296+x%4294967296-y%4294967296-w:Nat):Int):=by
      rw [Cg (x:=(4294967296:Int)+((x%4294967296:Nat):Int)) (by omega) (by omega),Cg (x:=(4294967296:Int)+((x%4294967296:Nat):Int)-((y%4294967296:Nat):Int)) (by omega) (by omega),Cg (by omega) (by omega)]; omega
    have e2:(4294967296+x%4294967296-y%4294967296-w)%4294967296=z%4294967296:=by omega
    have e3:A3 ((1:Int)-(((4294967296+x%4294967296-y%4294967296-w) / 4294967296:Nat):Int))=((1-(4294967296+x%4294967296-y%4294967296-w) / 4294967296:Nat):Int):=by
      rw [Cg (by omega) (by omega)]; omega
    rw [e1,Aah,Hb,H2,Hz (by omega) (by omega),Cg (x:=(((4294967296+x%4294967296-y%4294967296-w) / 4294967296:Nat):Int)) (by omega) (by omega),An (by omega) (by omega),e2,e3]
    exact ih (1-(4294967296+x%4294967296-y%4294967296-w) / 4294967296) F (by omega) (by omega) (by omega) (by omega)
theorem Ac.minus.known:Ac.minus.Kn:=Ac.minus.Ad (.cons Ac.Hl.known .nil) fun a b hp=>by
  obtain ⟨h1,hle⟩:=Af.1 hp
  obtain ⟨ha,hb⟩:=Af.1 h1
  have hle:=Ao.1 hle
  refine ⟨a.length+1,.ints (.own 100005 tW) .u32 (F3 a b),[100005],?_,Xn⟩
  rw [Ac.minus.ev]
  exact Ab8 _ ha hb a.length 0 0 _ (by omega) (by omega) (by omega) (by simp; omega)
theorem Fe (v:Int):Qz (Ag v):=Aai _
theorem Agb {v w:Int} (h:As v=As w):wv (As v) (G3 (Ag v) (Ag w))=v+w:=by
  unfold wv
  rw [V9 (Fe _) (Fe _),Dc,Dc]
  unfold As at h ⊢
  unfold Ih
  rw [decide_eq_decide] at h
  by_cases hv:v<0
  · have hw:=h.1 hv
    rw [Aqz hv,if_pos rfl]; omega
  · have hw:¬ w<0:=fun k=>hv (h.2 k)
    rw [Aq3 hv,if_neg (by decide)]; omega
theorem Ac8 {v w:Int} (h:As v≠As w) (hl:w.natAbs≤v.natAbs):wv (As v) (F3 (Ag v) (Ag w))=v+w:=by
  unfold wv
  rw [Ab9 _ (Fe _),Dc,Dc]
  unfold As at h ⊢
  unfold Ih
  rw [ne_eq,decide_eq_decide] at h
  by_cases hv:v<0
  · have hw:¬ w<0:=fun k=>h ⟨fun _=>k,fun _=>hv⟩
    rw [Aqz hv,if_pos rfl]; omega
  · have hw:w<0:=by
      rcases Int.lt_or_le w 0 with k | k
      · exact k
      · exact absurd ⟨fun k'=>absurd k' hv,fun k'=>by omega⟩ h
    rw [Aq3 hv,if_neg (by decide)]; omega
theorem Ac.Add.known:Ac.Add.Kn:=Ac.Add.Ad (.cons Ac.Made.known (.cons Ac.Gy.known (.cons Ac.minus.known (.cons Ac.plus.known .nil)))) fun n a m b hp=>by
  obtain ⟨h1,h2⟩:=Af.1 hp
  obtain ⟨v,rfl,rfl,hv⟩:=H5 h1
  obtain ⟨w,rfl,rfl,hw⟩:=H5 h2
  refine ⟨0,Ac.Add.out [.b (As v),.l (Ag v),.b (As w),.l (Ag w)],[],?_,W6⟩
  have o1:E6 (Ag v)=true:=Ls (by omega)
  have o2:E6 (Ag w)=true:=Ls (by omega)
  rw [Ac.Add.ev,o1,o2,Aq4,Aqy]
  show _=some (DV.agg [.bool (As (wv (As v) (Ag v)+wv (As w) (Ag w))),.ints .arg .u32 (Ag (wv (As v) (Ag v)+wv (As w) (Ag w)))])
  rw [Fy,Fy]
  by_cases hs:As v=As w
  · have:(As v==As w)=true:=by simp [hs]
    have o3:E6 (G3 (Ag v) (Ag w))=true:=H6 (by rw [L8,By,By]; omega) (T5 _ _)
    rw [this,Aqy,o3,Aqy,Agb hs]
  · have:(As v==As w)=false:=by simp [hs]
    rw [this,Aq2,Aqy,Ar,Dc,Dc,Bool.true_and,Bool.true_and]
    by_cases hl:v.natAbs<w.natAbs
    · have e:decide (R4 v.natAbs w.natAbs<0)=true:=Aqz (by unfold R4; rw [if_pos hl]; decide)
      have o3:E6 (F3 (Ag w) (Ag v))=true:=H6 (by rw [O4,By]; omega) (Wg _ _)
      have o4:leL (Ag v) (Ag w)=true:=Ao.2 (by rw [Dc,Dc]; omega)
      rw [e,Aqy,o4,Aqy,o3,Aqy,Ac8 (fun k=>hs k.symm) (by omega),Int.add_comm]
    · have e:decide (R4 v.natAbs w.natAbs<0)=false:=Aq3 (by unfold R4; rw [if_neg hl]; split<;>decide)
      have o3:E6 (F3 (Ag v) (Ag w))=true:=H6 (by rw [O4,By]; omega) (Wg _ _)
      have o4:leL (Ag w) (Ag v)=true:=Ao.2 (by rw [Dc,Dc]; omega)
      rw [e,Aq2,o4,Aqy,o3,Aqy,Ac8 hs (by omega)]
namespace EqRefB
def Ac.Ey.Ba:List (Nat × Entry):=[(171,Ac.Made.spec),(174,Ac.plus.spec)]
def Ac.Ey.E:Env:=Bb (A9 Ac.Ey.Ba) (fun _=>false) (fun _=>none) (fun _=>none)
theorem Ac.Ey.ev (N:Nat) (n:Bool) (a:List Int):Bv Ac.Ey.E N Tryz.f222 (Am Tryz.f222) [.agg [.bool n,.ints .arg .u32 a]]=bif (E6 a&&E6 a) then bif (E6 (G3 a a)) then some (.agg [.bool (As (wv n (G3 a a))),.ints .arg .u32 (Ag (wv n (G3 a a)))]) else none else none :=
  Eq.trans (by kernel_rfl)
  (Cy (Cz (E6 a&&E6 a)) (Cy (Cz (E6 (G3 a a))) rfl rfl) rfl)
abbrev _root_.Go.Proofs.S1.Ac.Ey.Kn:=A4 Tryz.prog 222 Ac.Ey.spec
theorem Ac.Ey.Ad (hk:Ax Tryz.prog Ac.Ey.Ba) (h:∀ (n:Bool) (a:List Int),Ac.Ey.pre [.b n,.l a]=true→Bc Ac.Ey.E Tryz.f222 [.agg [.bool n,.ints .arg .u32 a]] (Ac.Ey.out [.b n,.l a])):Ac.Ey.Kn :=
  Al (Ay hk _ _ _) Tryz.func222 (by kernel_rfl) (by kernel_rfl) h
def Ac.Ge.hint:Nat→Option A5
  | 0=>some { keep:=[1,2,3,4],objs:=[(0,3,100003,.ints 173 .u32 [])],boxes:=[1,2] }
  | _=>none
def Ac.Ge.Ba:List (Nat × Entry):=[(171,Ac.Made.spec),(221,Ac.Hl.spec)]
def Ac.Ge.E:Env:=Bb (A9 Ac.Ge.Ba) (fun _=>false) Ac.Ge.hint (fun _=>none)
def Ac.Ge.L0 (N M:Nat) (n:Bool) (a:List Int) (p4:Int) (p3:List Int):Option DV:=B2 Ac.Ge.E N Tryz.f173 (Am Tryz.f173) [1,1,0,1,0] [] M ⟨Fw 37 [(1,.ptr 1 0 0),(2,.ptr 2 0 0),(3,.oref 100003),(4,.int .i64 p4)],[(1,false,.box [.bool n,.ints .arg .u32 a]),(2,false,.box [.bool false,.nil]),(100003,false,.ints 173 .u32 p3)]⟩
theorem Ac.Ge.At (N M:Nat) (n:Bool) (a:List Int) (p4:Int) (p3:List Int):Ac.Ge.L0 N (M+1) n a p4 p3=bif (A1 p4 (List.length a:Int)) then bif (E6 a) then bif (E6 a) then bif ((decide (0≤p4))&&(decide (p4<(List.length p3:Int)))) then bif (decide ((Int.toNat p4)<(List.length p3))) then Ac.Ge.L0 N M n a (Ab (p4+1)) (List.set p3 (Int.toNat p4) (Hn (A3 (Int.tdiv (A3 ((A3 ((Int.tmod (Fs a (Ab (p4+1))) 2)*4294967296))+(Fs a p4))) 2)))) else none else none else none else none else bif (E6 p3) then some (.agg [.bool (As (wv n p3)),.ints .arg .u32 (Ag (wv n p3))]) else none :=
  Eq.trans (by kernel_rfl)
  (E2 (Cy (Cz (E6 a)) (Cy (Cz (E6 a)) (Cy (Ll (decide (0≤p4)) (decide (p4<(List.length p3:Int)))) (Cy (Cz (decide ((Int.toNat p4)<(List.length p3)))) rfl rfl) rfl) rfl) rfl) rfl)
theorem Ac.Ge.ev (N:Nat) (n:Bool) (a:List Int):Bv Ac.Ge.E N Tryz.f173 (Am Tryz.f173) [.agg [.bool n,.ints .arg .u32 a]]=bif (((decide ((0:Int)≤(List.length a:Int)))&&(decide ((List.length a:Int)≤(List.length a:Int))))&&(decide ((List.length a:Int)≤Gv))) then Ac.Ge.L0 N N n a 0 (List.replicate (Int.toNat (List.length a:Int)) 0) else none:=by kernel_rfl
abbrev _root_.Go.Proofs.S1.Ac.Ge.Kn:=A4 Tryz.prog 173 Ac.Ge.spec
theorem Ac.Ge.Ad (hk:Ax Tryz.prog Ac.Ge.Ba) (h:∀ (n:Bool) (a:List Int),Ac.Ge.pre [.b n,.l a]=true→Bc Ac.Ge.E Tryz.f173 [.agg [.bool n,.ints .arg .u32 a]] (Ac.Ge.out [.b n,.l a])):Ac.Ge.Kn :=
  Al (Ay hk _ _ _) Tryz.func173 (by kernel_rfl) (by kernel_rfl) h
def Ac.Bp.hint:Nat→Option A5
  | 0=>some { keep:=[1,2,4],objs:=[],boxes:=[2,4] }
  | 2=>some { keep:=[1,2,4],objs:=[],boxes:=[2,4] }
  | 4=>some { keep:=[1,2,4],objs:=[],boxes:=[2,4] }
  | 6=>some { keep:=[1,2,4],objs:=[],boxes:=[2,4] }
  | _=>none
def Ac.Bp.Ba:List (Nat × Entry):=[(222,Ac.Ey.spec),(173,Ac.Ge.spec),(171,Ac.Made.spec)]
def Ac.Bp.E:Env:=Bb (A9 Ac.Bp.Ba) (fun _=>false) Ac.Bp.hint (fun _=>none)
def Ac.Bp.L0 (N M:Nat) (p1:Int) (p2:Bool) (p2_1:List Int):Option DV:=B2 Ac.Bp.E N Tryz.f178 (Am Tryz.f178) [1,0,0] [] M ⟨Fw 63 [(1,.int .i64 p1),(2,.ptr 2 0 0),(4,.ptr 4 0 0)],[(2,false,.box [.bool p2,.ints .arg .u32 p2_1]),(4,false,.box [.bool false,.nil])]⟩
def Ac.Bp.L1 (N M:Nat) (p1_1:Int) (p2_2:Bool) (p2_3:List Int):Option DV:=B2 Ac.Bp.E N Tryz.f178 (Am Tryz.f178) [1,1,0,0] [] M ⟨Fw 63 [(1,.int .i64 p1_1),(2,.ptr 2 0 0),(4,.ptr 4 0 0)],[(2,false,.box [.bool p2_2,.ints .arg .u32 p2_3]),(4,false,.box [.bool false,.nil])]⟩
def Ac.Bp.L2 (N M:Nat) (p1_2:Int) (p2_4:Bool) (p2_5:List Int):Option DV:=B2 Ac.Bp.E N Tryz.f178 (Am Tryz.f178) [1,1,1,0,0] [] M ⟨Fw 63 [(1,.int .i64 p1_2),(2,.ptr 2 0 0),(4,.ptr 4 0 0)],[(2,false,.box [.bool p2_4,.ints .arg .u32 p2_5]),(4,false,.box [.bool false,.nil])]⟩
def Ac.Bp.L3 (N M:Nat) (p1_3:Int) (p2_6:Bool) (p2_7:List Int):Option DV:=B2 Ac.Bp.E N Tryz.f178 (Am Tryz.f178) [1,1,1,1,0,0] [] M ⟨Fw 63 [(1,.int .i64 p1_3),(2,.ptr 2 0 0),(4,.ptr 4 0 0)],[(2,false,.box [.bool p2_6,.ints .arg .u32 p2_7]),(4,false,.box [.bool false,.nil])]⟩
theorem Ac.Bp.At (N M:Nat) (p1:Int) (p2:Bool) (p2_1:List Int):Ac.Bp.L0 N (M+1) p1 p2 p2_1=bif ((Dk 32 p1)&&(A1 0 (List.length p2_1:Int))) then bif (decide (1+(List.length p2_1)≤Gv)) then bif (E6 ([(0:Int)]++p2_1)) then Ac.Bp.L0 N M (Ab (p1-32)) (As (wv p2 ([(0:Int)]++p2_1))) (Ag (wv p2 ([(0:Int)]++p2_1))) else none else none else Ac.Bp.L1 N N p1 p2 p2_1 :=
  Eq.trans (by kernel_rfl)
  (Ap (Ot (Dk 32 p1)) (Ap (Ks (Dk 32 p1)) (Ap (Ks (Dk 32 p1)) (Ap (Ks (Dk 32 p1)) (Ap (Sc (Dk 32 p1)) (Cy (tt1 (Dk 32 p1) (A1 0 (List.length p2_1:Int))) (Cy (Cz (decide (1+(List.length p2_1)≤Gv))) (Cy (Cz (E6 ([(0:Int)]++p2_1))) rfl rfl) rfl) rfl))))))
theorem Ac.Bp.Cb (N M:Nat) (p1_1:Int) (p2_2:Bool) (p2_3:List Int):Ac.Bp.L1 N (M+1) p1_1 p2_2 p2_3=bif ((A1 0 p1_1)&&(A1 0 (List.length p2_3:Int))) then bif (Jt p2_2 p2_3) then Ac.Bp.L1 N M (Ab (p1_1-1)) (As (2*wv p2_2 p2_3)) (Ag (2*wv p2_2 p2_3)) else none else Ac.Bp.L2 N N p1_1 p2_2 p2_3 :=
  Eq.trans (by kernel_rfl)
  (Ap (Ot (A1 0 p1_1)) (Ap (Ks (A1 0 p1_1)) (Ap (Ks (A1 0 p1_1)) (Ap (Ks (A1 0 p1_1)) (Ap (Sc (A1 0 p1_1)) (Cy (tt1 (A1 0 p1_1) (A1 0 (List.length p2_3:Int))) rfl rfl))))))
theorem Ac.Bp.G2 (N M:Nat) (p1_2:Int) (p2_4:Bool) (p2_5:List Int):Ac.Bp.L2 N (M+1) p1_2 p2_4 p2_5=bif ((Dk p1_2 (-32:Int))&&(A1 0 (List.length p2_5:Int))) then bif (decide ((1:Int)≤(List.length p2_5:Int))) then bif (E6 (List.drop 1 p2_5)) then Ac.Bp.L2 N M (Ab (p1_2+32)) (As (wv p2_4 (List.drop 1 p2_5))) (Ag (wv p2_4 (List.drop 1 p2_5))) else none else none else Ac.Bp.L3 N N p1_2 p2_4 p2_5 :=
  Eq.trans (by kernel_rfl)
  (Ap (Ot (Dk p1_2 (-32:Int))) (Ap (Ks (Dk p1_2 (-32:Int))) (Ap (Ks (Dk p1_2 (-32:Int))) (Ap (Ks (Dk p1_2 (-32:Int))) (Ap (Sc (Dk p1_2 (-32:Int))) (Cy (tt1 (Dk p1_2 (-32:Int)) (A1 0 (List.length p2_5:Int))) (Cy (Apj (decide ((1:Int)≤(List.length p2_5:Int)))) (Cy (Cz (E6 (List.drop 1 p2_5))) rfl rfl) rfl) rfl))))))
theorem Ac.Bp.Yx (N M:Nat) (p1_3:Int) (p2_6:Bool) (p2_7:List Int):Ac.Bp.L3 N (M+1) p1_3 p2_6 p2_7=bif ((A1 p1_3 0)&&(A1 0 (List.length p2_7:Int))) then bif (Jt p2_6 p2_7) then Ac.Bp.L3 N M (Ab (p1_3+1)) (As (Iw (wv p2_6 p2_7) 1)) (Ag (Iw (wv p2_6 p2_7) 1)) else none else some (.agg [.bool p2_6,.ints .arg .u32 p2_7]) :=
  Eq.trans (by kernel_rfl)
  (Ap (Ot (A1 p1_3 0)) (Ap (Ks (A1 p1_3 0)) (Ap (Ks (A1 p1_3 0)) (Ap (Ks (A1 p1_3 0)) (Ap (Sc (A1 p1_3 0)) (Cy (tt1 (A1 p1_3 0) (A1 0 (List.length p2_7:Int))) rfl rfl))))))
theorem Ac.Bp.ev (N:Nat) (n:Bool) (a:List Int) (k:Int):Bv Ac.Bp.E N Tryz.f178 (Am Tryz.f178) [.agg [.bool n,.ints .arg .u32 a],.int .i64 k] =
  Ac.Bp.L0 N N k n a:=by kernel_rfl
abbrev _root_.Go.Proofs.S1.Ac.Bp.Kn:=A4 Tryz.prog 178 Ac.Bp.spec
theorem Ac.Bp.Ad (hk:Ax Tryz.prog Ac.Bp.Ba) (h:∀ (n:Bool) (a:List Int) (k:Int),Ac.Bp.pre [.b n,.l a,.i k]=true→Bc Ac.Bp.E Tryz.f178 [.agg [.bool n,.ints .arg .u32 a],.int .i64 k] (Ac.Bp.out [.b n,.l a,.i k])):Ac.Bp.Kn :=
  Al (Ay hk _ _ _) Tryz.func178 (by kernel_rfl) (by kernel_rfl) h
def Ac.Tl.Ba:List (Nat × Entry):=[]
def Ac.Tl.E:Env:=Bb (A9 Ac.Tl.Ba) (fun _=>false) (fun _=>none) (fun _=>none)
theorem Ac.Tl.ev (N:Nat) (n:Bool) (a:List Int):Bv Ac.Tl.E N Tryz.f172 (Am Tryz.f172) [.agg [.bool n,.ints .arg .u32 a]]=bif ((!(A1 0 (List.length a:Int)))||(decide ((0:Int)<(List.length a:Int)))) then some (.bool (bif (A1 0 (List.length a:Int)) then ((Int.tmod (List.getD a 0 0) 2)==(1:Int)) else false)) else none :=
  Eq.trans (by kernel_rfl)
  (Ap (Ot (A1 0 (List.length a:Int))) (Ap (Ks (A1 0 (List.length a:Int))) (Cy (Api (A1 0 (List.length a:Int)) (decide ((0:Int)<(List.length a:Int)))) (Ap (Ks (A1 0 (List.length a:Int))) (Ap (Ks (A1 0 (List.length a:Int))) (Ap (Ks (A1 0 (List.length a:Int))) (Ap (Sc (A1 0 (List.length a:Int))) rfl)))) rfl)))
abbrev _root_.Go.Proofs.S1.Ac.Tl.Kn:=A4 Tryz.prog 172 Ac.Tl.spec
theorem Ac.Tl.Ad (hk:Ax Tryz.prog Ac.Tl.Ba) (h:∀ (n:Bool) (a:List Int),Ac.Tl.pre [.b n,.l a]=true→Bc Ac.Tl.E Tryz.f172 [.agg [.bool n,.ints .arg .u32 a]] (Ac.Tl.out [.b n,.l a])):Ac.Tl.Kn :=
  Al (Ay hk _ _ _) Tryz.func172 (by kernel_rfl) (by kernel_rfl) h
def Ac.Dw.hint:Nat→Option A5
  | 0=>some { keep:=[2,3,5],objs:=[],boxes:=[2,3] }
  | _=>none
def Ac.Dw.Ba:List (Nat × Entry):=[]
def Ac.Dw.E:Env:=Bb (A9 Ac.Dw.Ba) (fun _=>false) Ac.Dw.hint (fun _=>none)
def Ac.Dw.L0 (N M:Nat) (n:Bool) (a:List Int) (m:Bool) (b:List Int) (p5:Int):Option DV:=B2 Ac.Dw.E N Tryz.f133 (Am Tryz.f133) [1,1,0,1,0] [] M ⟨Fw 38 [(2,.ptr 2 0 0),(3,.ptr 3 0 0),(5,.int .i64 p5)],[(2,false,.box [.bool n,.ints .arg .u32 a]),(3,false,.box [.bool m,.ints .arg .u32 b])]⟩
theorem Ac.Dw.At (N M:Nat) (n:Bool) (a:List Int) (m:Bool) (b:List Int) (p5:Int):Ac.Dw.L0 N (M+1) n a m b p5=bif (A1 p5 (List.length a:Int)) then bif ((decide (0≤p5))&&(decide (p5<(List.length a:Int)))) then bif ((decide (0≤p5))&&(decide (p5<(List.length b:Int)))) then bif ((List.getD a (Int.toNat p5) 0) !=(List.getD b (Int.toNat p5) 0)) then some (.bool false) else Ac.Dw.L0 N M n a m b (Ab (p5+1)) else none else none else some (.bool true) :=
  Eq.trans (by kernel_rfl)
  (E2 (Cy (Ll (decide (0≤p5)) (decide (p5<(List.length a:Int)))) (Cy (Ll (decide (0≤p5)) (decide (p5<(List.length b:Int)))) rfl rfl) rfl) rfl)
theorem Ac.Dw.ev (N:Nat) (n:Bool) (a:List Int) (m:Bool) (b:List Int):Bv Ac.Dw.E N Tryz.f133 (Am Tryz.f133) [.agg [.bool n,.ints .arg .u32 a],.agg [.bool m,.ints .arg .u32 b]]=bif ((!(n==m))||((List.length a:Int) !=(List.length b:Int))) then some (.bool false) else Ac.Dw.L0 N N n a m b 0 :=
  Eq.trans (by kernel_rfl)
  (Ap (Aph n m) (Ap (Aj3 n m) (Ap (Aj3 n m) (Ap (Aph n m) (Ap (Aj3 n m) (Ap (Aj3 n m) (Ap (tt84 n m) (Ap (tt83 n m) (Cy (tt82 n m ((List.length a:Int) !=(List.length b:Int))) rfl rfl)))))))))
abbrev _root_.Go.Proofs.S1.Ac.Dw.Kn:=A4 Tryz.prog 133 Ac.Dw.spec
theorem Ac.Dw.Ad (hk:Ax Tryz.prog Ac.Dw.Ba) (h:∀ (n:Bool) (a:List Int) (m:Bool) (b:List Int),Ac.Dw.pre [.b n,.l a,.b m,.l b]=true→Bc Ac.Dw.E Tryz.f133 [.agg [.bool n,.ints .arg .u32 a],.agg [.bool m,.ints .arg .u32 b]] (Ac.Dw.out [.b n,.l a,.b m,.l b])):Ac.Dw.Kn :=
  Al (Ay hk _ _ _) Tryz.func133 (by kernel_rfl) (by kernel_rfl) h
end EqRefB
end Go.Proofs.S1
end
