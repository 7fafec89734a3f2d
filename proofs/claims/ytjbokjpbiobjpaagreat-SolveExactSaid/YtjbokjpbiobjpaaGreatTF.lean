/- A verified evaluator of the program's form and its use for this seat: S1Specs, S1Tt, S1EqSoft, S1PSoft, S1EqRefD, S1PRefD, S1EqRefA, S1PRefA, S1PRefAa, S1EqRefB. -/
import Derived.Test.YtjbokjpbiobjpaaGreatTE
set_option linter.unusedVariables false
set_option linter.unusedSimpArgs false
noncomputable section
open Int (toNat)
open List (length getD)
open Go.Proofs.Tryz
namespace Go.Proofs.S1
open Go Go.Den Go.C4
def soft.Split.pre:List Atom→Bool
 | [.i x]=>Ah x
 | _=>false
def soft.Split.out:List Atom→DV
 | [.i x]=>.agg [.bool (Dk x),.int .i64 (Jr x),.int .u64 (Cl x)]
 | _=>.undef
abbrev soft.Split.ts:List AT:=[.i .u64]
def soft.Split.spec:Entry:=entry soft.Split.ts soft.Split.pre soft.Split.out
def soft.Kind.pre:List Atom→Bool
 | [.i x]=>Ah x
 | _=>false
def soft.Kind.out:List Atom→DV
 | [.i x]=>.int .i64 (Bd x)
 | _=>.undef
abbrev soft.Kind.ts:List AT:=[.i .u64]
def soft.Kind.spec:Entry:=entry soft.Kind.ts soft.Kind.pre soft.Kind.out
def soft.Sign.pre:List Atom→Bool
 | [.i x]=>Ah x
 | _=>false
def soft.Sign.out:List Atom→DV
 | [.i x]=>.bool (Dk x)
 | _=>.undef
abbrev soft.Sign.ts:List AT:=[.i .u64]
def soft.Sign.spec:Entry:=entry soft.Sign.ts soft.Sign.pre soft.Sign.out
def soft.Finite.pre:List Atom→Bool
 | [.i x]=>Ah x
 | _=>false
def soft.Finite.out:List Atom→DV
 | [.i x]=>.bool (Dd x)
 | _=>.undef
abbrev soft.Finite.ts:List AT:=[.i .u64]
def soft.Finite.spec:Entry:=entry soft.Finite.ts soft.Finite.pre soft.Finite.out
def soft.Ew.pre:List Atom→Bool
 | [.i x]=>Ah x
 | _=>false
def soft.Ew.out:List Atom→DV
 | [.i x]=>.int .u64 (C6 x)
 | _=>.undef
abbrev soft.Ew.ts:List AT:=[.i .u64]
def soft.Ew.spec:Entry:=entry soft.Ew.ts soft.Ew.pre soft.Ew.out
def soft.Ep.pre:List Atom→Bool
 | [.i x]=>Ah x
 | _=>false
def soft.Ep.out:List Atom→DV
 | [.i x]=>.tup [.int .u64 (Bk x),.int .i64 (Az x)]
 | _=>.undef
abbrev soft.Ep.ts:List AT:=[.i .u64]
def soft.Ep.spec:Entry:=entry soft.Ep.ts soft.Ep.pre soft.Ep.out
def soft.Pack.mu:List Atom→Nat
 | [.b _n,.i m,.i e]=>Mr m e
 | _=>0
def soft.Pack.pre:List Atom→Bool
 | [.b _n,.i m,.i e]=>I6 m e
 | _=>false
def soft.Pack.out:List Atom→DV
 | [.b n,.i m,.i e]=>.int .u64 (Q6 n m e)
 | _=>.undef
abbrev soft.Pack.ts:List AT:=[.b,.i .u64,.i .i64]
def soft.Pack.spec:Entry:=entry soft.Pack.ts soft.Pack.pre soft.Pack.out
def soft.Cx.pre:List Atom→Bool
 | [.b _n,.i m,.i e,.b r]=>Du m e r
 | _=>false
def soft.Cx.out:List Atom→DV
 | [.b n,.i m,.i e,.b r]=>.tup [.int .u64 (D5 n m e r),.int .u8 (D4 n m e r)]
 | _=>.undef
abbrev soft.Cx.ts:List AT:=[.b,.i .u64,.i .i64,.b]
def soft.Cx.spec:Entry:=entry soft.Cx.ts soft.Cx.pre soft.Cx.out
def sum.right.pre:List Atom→Bool
 | [.i m,.i d]=>Ah m&&Cf (0≤d∧d<1000000)
 | _=>false
def sum.right.out:List Atom→DV
 | [.i m,.i d]=>.int .u64 (Ea m d)
 | _=>.undef
abbrev sum.right.ts:List AT:=[.i .u64,.i .i64]
def sum.right.spec:Entry:=entry sum.right.ts sum.right.pre sum.right.out
def sum.Dl.pre:List Atom→Bool
 | [.i a,.i b]=>(Ah a&&Ah b)&&(!(Dd a)||!(Dd b))
 | _=>false
def sum.Dl.out:List Atom→DV
 | [.i a,.i b]=>.tup [.int .u64 (Hx a b),.int .u8 (Tv a b)]
 | _=>.undef
abbrev sum.Dl.ts:List AT:=[.i .u64,.i .u64]
def sum.Dl.spec:Entry:=entry sum.Dl.ts sum.Dl.pre sum.Dl.out
def sum.Add.pre:List Atom→Bool
 | [.i a,.i b]=>Ah a&&Ah b
 | _=>false
def sum.Add.out:List Atom→DV
 | [.i a,.i b]=>.tup [.int .u64 (Hx a b),.int .u8 (Tv a b)]
 | _=>.undef
abbrev sum.Add.ts:List AT:=[.i .u64,.i .u64]
def sum.Add.spec:Entry:=entry sum.Add.ts sum.Add.pre sum.Add.out
def sum.Sub.pre:List Atom→Bool
 | [.i a,.i b]=>Ah a&&Ah b
 | _=>false
def sum.Sub.out:List Atom→DV
 | [.i a,.i b]=>.tup [.int .u64 (El a b),.int .u8 (Ass a b)]
 | _=>.undef
abbrev sum.Sub.ts:List AT:=[.i .u64,.i .u64]
def sum.Sub.spec:Entry:=entry sum.Sub.ts sum.Sub.pre sum.Sub.out
def A4.Neg.pre:List Atom→Bool
 | [.i x]=>Ah x
 | _=>false
def A4.Neg.out:List Atom→DV
 | [.i x]=>.bool (Dk x)
 | _=>.undef
abbrev A4.Neg.ts:List AT:=[.i .u64]
def A4.Neg.spec:Entry:=entry A4.Neg.ts A4.Neg.pre A4.Neg.out
def A4.Power.pre:List Atom→Bool
 | [.i x]=>Pk x
 | _=>false
def A4.Power.out:List Atom→DV
 | [.i x]=>.int .i64 (Jr x)
 | _=>.undef
abbrev A4.Power.ts:List AT:=[.i .u64]
def A4.Power.spec:Entry:=entry A4.Power.ts A4.Power.pre A4.Power.out
def A4.Ip.pre:List Atom→Bool
 | [.i x]=>Pk x
 | _=>false
def A4.Ip.out:List Atom→DV
 | [.i x]=>.int .u64 (Cl x)
 | _=>.undef
abbrev A4.Ip.ts:List AT:=[.i .u64]
def A4.Ip.spec:Entry:=entry A4.Ip.ts A4.Ip.pre A4.Ip.out
def A4.Kind.pre:List Atom→Bool
 | [.i x]=>Pk x
 | _=>false
def A4.Kind.out:List Atom→DV
 | [.i x]=>.int .i64 (Bd x)
 | _=>.undef
abbrev A4.Kind.ts:List AT:=[.i .u64]
def A4.Kind.spec:Entry:=entry A4.Kind.ts A4.Kind.pre A4.Kind.out
def A4.Finite.pre:List Atom→Bool
 | [.i x]=>Ah x
 | _=>false
def A4.Finite.out:List Atom→DV
 | [.i x]=>.bool (Dd x)
 | _=>.undef
abbrev A4.Finite.ts:List AT:=[.i .u64]
def A4.Finite.spec:Entry:=entry A4.Finite.ts A4.Finite.pre A4.Finite.out
def Dt.Canon.pre:List Atom→Bool
 | [.i x]=>Pk x
 | _=>false
def Dt.Canon.out:List Atom→DV
 | [.i x]=>.int .u64 (Wb x)
 | _=>.undef
abbrev Dt.Canon.ts:List AT:=[.i .u64]
def Dt.Canon.spec:Entry:=entry Dt.Canon.ts Dt.Canon.pre Dt.Canon.out
def Cd.Bm.pre:List Atom→Bool
 | [.i x]=>Ah x
 | _=>false
def Cd.Bm.out:List Atom→DV
 | [.i x]=>.int .i64 (64-D6 x)
 | _=>.undef
abbrev Cd.Bm.ts:List AT:=[.i .u64]
def Cd.Bm.spec:Entry:=entry Cd.Bm.ts Cd.Bm.pre Cd.Bm.out
def Cd.F7.pre:List Atom→Bool
 | [.i x,.i y]=>Ah x&&Ah y
 | _=>false
def Cd.F7.out:List Atom→DV
 | [.i x,.i y]=>.tup [.int .u64 (Pr x y),.int .u64 (Lc x y)]
 | _=>.undef
abbrev Cd.F7.ts:List AT:=[.i .u64,.i .u64]
def Cd.F7.spec:Entry:=entry Cd.F7.ts Cd.F7.pre Cd.F7.out
def times.signed.pre:List Atom→Bool
 | [.i b,.b _n]=>Ah b
 | _=>false
def times.signed.out:List Atom→DV
 | [.i b,.b n]=>.int .u64 (Po n b)
 | _=>.undef
abbrev times.signed.ts:List AT:=[.i .u64,.b]
def times.signed.spec:Entry:=entry times.signed.ts times.signed.pre times.signed.out
def times.nan.pre:List Atom→Bool
 | [.i a,.i b]=>Ah a&&Ah b
 | _=>false
def times.nan.out:List Atom→DV
 | [.i a,.i b]=>.bool (Ajs a b)
 | _=>.undef
abbrev times.nan.ts:List AT:=[.i .u64,.i .u64]
def times.nan.spec:Entry:=entry times.nan.ts times.nan.pre times.nan.out
def times.norm.pre:List Atom→Bool
 | [.i b]=>Ah b&&J7 b
 | _=>false
def times.norm.out:List Atom→DV
 | [.i b]=>.tup [.int .u64 (Co b),.int .i64 (Gf b)]
 | _=>.undef
abbrev times.norm.ts:List AT:=[.i .u64]
def times.norm.spec:Entry:=entry times.norm.ts times.norm.pre times.norm.out
def times.wide.pre:List Atom→Bool
 | [.b _n,.i m,.i e,.b _r]=>Mm m e
 | _=>false
def times.wide.out:List Atom→DV
 | [.b n,.i m,.i e,.b r]=>.tup [.int .u64 (D5 n m e r),.int .u8 (D4 n m e r)]
 | _=>.undef
abbrev times.wide.ts:List AT:=[.b,.i .u64,.i .i64,.b]
def times.wide.spec:Entry:=entry times.wide.ts times.wide.pre times.wide.out
def times.Mul.pre:List Atom→Bool
 | [.i a,.i b]=>Ah a&&Ah b
 | _=>false
def times.Mul.out:List Atom→DV
 | [.i a,.i b]=>.tup [.int .u64 (Ej a b),.int .u8 (Asz a b)]
 | _=>.undef
abbrev times.Mul.ts:List AT:=[.i .u64,.i .u64]
def times.Mul.spec:Entry:=entry times.Mul.ts times.Mul.pre times.Mul.out
def times.Div.pre:List Atom→Bool
 | [.i a,.i b]=>Ah a&&Ah b
 | _=>false
def times.Div.out:List Atom→DV
 | [.i a,.i b]=>.tup [.int .u64 (Ek a b),.int .u8 (As6 a b)]
 | _=>.undef
abbrev times.Div.ts:List AT:=[.i .u64,.i .u64]
def times.Div.spec:Entry:=entry times.Div.ts times.Div.pre times.Div.out
def Af.Add.pre:List Atom→Bool
 | [.i a,.i b]=>Ah a&&Ah b
 | _=>false
def Af.Add.out:List Atom→DV
 | [.i a,.i b]=>.int .u64 (Hx a b)
 | _=>.undef
abbrev Af.Add.ts:List AT:=[.i .u64,.i .u64]
def Af.Add.spec:Entry:=entry Af.Add.ts Af.Add.pre Af.Add.out
def Af.Sub.pre:List Atom→Bool
 | [.i a,.i b]=>Ah a&&Ah b
 | _=>false
def Af.Sub.out:List Atom→DV
 | [.i a,.i b]=>.int .u64 (El a b)
 | _=>.undef
abbrev Af.Sub.ts:List AT:=[.i .u64,.i .u64]
def Af.Sub.spec:Entry:=entry Af.Sub.ts Af.Sub.pre Af.Sub.out
def Af.Mul.pre:List Atom→Bool
 | [.i a,.i b]=>Ah a&&Ah b
 | _=>false
def Af.Mul.out:List Atom→DV
 | [.i a,.i b]=>.int .u64 (Ej a b)
 | _=>.undef
abbrev Af.Mul.ts:List AT:=[.i .u64,.i .u64]
def Af.Mul.spec:Entry:=entry Af.Mul.ts Af.Mul.pre Af.Mul.out
def Af.fit.pre:List Atom→Bool
 | [.l _x,.l _y]=>true
 | _=>false
def Af.fit.out:List Atom→DV
 | [.l x,.l y]=>.bool (Ss x y)
 | _=>.undef
abbrev Af.fit.ts:List AT:=[.s .u64,.s .u64]
def Af.fit.spec:Entry:=entry Af.fit.ts Af.fit.pre Af.fit.out
def Af.Fs.pre:List Atom→Bool
 | [.l x,.l y]=>(Ss x y&&Ap x)&&Ap y
 | _=>false
def Af.Fs.out:List Atom→DV
 | [.l x,.l y]=>.tup [.int .u64 (Pl x y),.int .i64 (0:Int)]
 | _=>.undef
abbrev Af.Fs.ts:List AT:=[.s .u64,.s .u64]
def Af.Fs.spec:Entry:=entry Af.Fs.ts Af.Fs.pre Af.Fs.out
def Cp.B.pre:List Atom→Bool
 | [.f _x]=>true
 | _=>false
def Cp.B.out:List Atom→DV
 | [.f x]=>.int .u64 (Na x)
 | _=>.undef
abbrev Cp.B.ts:List AT:=[.fl]
def Cp.B.spec:Entry:=entry Cp.B.ts Cp.B.pre Cp.B.out
def Aa.size.pre:List Atom→Bool
 | [.i _n]=>true
 | _=>false
def Aa.size.out:List Atom→DV
 | [.i n]=>.bool (Bn n)
 | _=>.undef
abbrev Aa.size.ts:List AT:=[.i .i64]
def Aa.size.spec:Entry:=entry Aa.size.ts Aa.size.pre Aa.size.out
def Aa.Check.pre:List Atom→Bool
 | [.i _r,.i _c,.l _l]=>true
 | _=>false
def Aa.Check.out:List Atom→DV
 | [.i r,.i c,.l l]=>.int .i64 (I2 r c l)
 | _=>.undef
abbrev Aa.Check.ts:List AT:=[.st [.i .i64,.i .i64,.s .u64]]
def Aa.Check.spec:Entry:=entry Aa.Check.ts Aa.Check.pre Aa.Check.out
def Aa.get.pre:List Atom→Bool
 | [.i r,.i c,.l l,.i i,.i k]=>Ds r c l i k
 | _=>false
def Aa.get.out:List Atom→DV
 | [.i _r,.i c,.l l,.i i,.i k]=>.int .u64 (Cv c l i k)
 | _=>.undef
abbrev Aa.get.ts:List AT:=[.st [.i .i64,.i .i64,.s .u64],.i .i64,.i .i64]
def Aa.get.spec:Entry:=entry Aa.get.ts Aa.get.pre Aa.get.out
def Aa.two.pre:List Atom→Bool
 | [.i _r,.i _c,.l _l,.i _p,.i _q,.l _m]=>true
 | _=>false
def Aa.two.out:List Atom→DV
 | [.i r,.i c,.l l,.i p,.i q,.l m]=>.int .i64 (Yl r c l p q m)
 | _=>.undef
abbrev Aa.two.ts:List AT:=[.st [.i .i64,.i .i64,.s .u64],.st [.i .i64,.i .i64,.s .u64]]
def Aa.two.spec:Entry:=entry Aa.two.ts Aa.two.pre Aa.two.out
def Aa.Row.pre:List Atom→Bool
 | [.i r,.i c,.l l,.i i,.i f]=>Jq r c l i&&decide (f=0)
 | _=>false
def Aa.Row.out:List Atom→DV
 | [.i _r,.i c,.l l,.i i,.i _f]=>.ints .fresh .u64 (Dh c l i)
 | _=>.undef
abbrev Aa.Row.ts:List AT:=[.st [.i .i64,.i .i64,.s .u64],.i .i64,.i .i64]
def Aa.Row.spec:Entry:=entry Aa.Row.ts Aa.Row.pre Aa.Row.out
def Aa.C2.pre:List Atom→Bool
 | [.i r,.i c,.l l,.i k,.i f]=>Gk r c l k&&Cf (0≤f∧f≤r)
 | _=>false
def Aa.C2.out:List Atom→DV
 | [.i r,.i c,.l l,.i k,.i f]=>.ints .fresh .u64 (Cb c l k f (toNat (r-f)))
 | _=>.undef
abbrev Aa.C2.ts:List AT:=[.st [.i .i64,.i .i64,.s .u64],.i .i64,.i .i64]
def Aa.C2.spec:Entry:=entry Aa.C2.ts Aa.C2.pre Aa.C2.out
def Aa.Df.pre:List Atom→Bool
 | [.i _i,.i _k]=>true
 | _=>false
def Aa.Df.out:List Atom→DV
 | [.i _i,.i _k]=>.int .u64 (0:Int)
 | _=>.undef
abbrev Aa.Df.ts:List AT:=[.i .i64,.i .i64]
def Aa.Df.spec:Entry:=entry Aa.Df.ts Aa.Df.pre Aa.Df.out
def Aa.F9.pre:List Atom→Bool
 | [.i _i,.i _k]=>true
 | _=>false
def Aa.F9.out:List Atom→DV
 | [.i i,.i k]=>.int .u64 (Ln i k)
 | _=>.undef
abbrev Aa.F9.ts:List AT:=[.i .i64,.i .i64]
def Aa.F9.spec:Entry:=entry Aa.F9.ts Aa.F9.pre Aa.F9.out
def Aa.Ed.pre:List Atom→Bool
 | [.i i,.i k,.i r,.i c,.l l]=>Ds r c l k i
 | _=>false
def Aa.Ed.out:List Atom→DV
 | [.i i,.i k,.i _r,.i c,.l l]=>.int .u64 (Cv c l k i)
 | _=>.undef
abbrev Aa.Ed.ts:List AT:=[.i .i64,.i .i64,.cp [.i .i64,.i .i64,.s .u64]]
def Aa.Ed.spec:Entry:=entry Aa.Ed.ts Aa.Ed.pre Aa.Ed.out
def Aa.Ee.pre:List Atom→Bool
 | [.i i,.i k,.i r,.i c,.l l,.i x,.i y]=>Ds r c l (x+i) (y+k)&&R7 x y i k
 | _=>false
def Aa.Ee.out:List Atom→DV
 | [.i i,.i k,.i _r,.i c,.l l,.i x,.i y]=>.int .u64 (Cv c l (x+i) (y+k))
 | _=>.undef
abbrev Aa.Ee.ts:List AT:=[.i .i64,.i .i64,.cp [.i .i64,.i .i64,.s .u64],.cp [.i .i64],.cp [.i .i64]]
def Aa.Ee.spec:Entry:=entry Aa.Ee.ts Aa.Ee.pre Aa.Ee.out
def Aa.Aux.pre:List Atom→Bool
 | [.i i,.i k,.i r,.i c,.l l,.i p,.i q,.l m]=>((Ds r c l i k&&Ds p q m i k)&&Ap l)&&Ap m
 | _=>false
def Aa.F6.pre:List Atom→Bool
 | [.i i,.i k,.i r,.i c,.l l,.i p,.i q,.l m]=>P9 r c l p q m i k
 | _=>false
def Aa.F6.out:List Atom→DV
 | [.i i,.i k,.i _r,.i c,.l l,.i p,.i q,.l m]=>.int .u64 (Pl (Dh c l i) (Qj p q m k))
 | _=>.undef
abbrev Aa.F6.ts:List AT:=[.i .i64,.i .i64,.cp [.i .i64,.i .i64,.s .u64],.cp [.i .i64,.i .i64,.s .u64]]
def Aa.F6.spec:Entry:=entry Aa.F6.ts Aa.F6.pre Aa.F6.out
def Aa.of.D8.pre:List Atom→Bool
 | [.i a,.i b]=>(Bn a&&Bn b)
 | _=>false
def Aa.of.D8.out:List Atom→DV
 | [.i a,.i b]=>.agg [.int .i64 a,.int .i64 b,.ints .fresh .u64 (Cj (toNat a) (toNat b) (fun j1 j2=>Ln j1 j2))]
 | _=>.undef
abbrev Aa.of.D8.ts:List AT:=[.i .i64,.i .i64,.fn 246 []]
def Aa.of.D8.spec:Entry:=entry Aa.of.D8.ts Aa.of.D8.pre Aa.of.D8.out
def Aa.of.B7.pre:List Atom→Bool
 | [.i a,.i b,.i r,.i c,.l l]=>(Bn a&&Bn b)&&Bj r c l&&decide (a=c∧b=r)
 | _=>false
def Aa.of.B7.out:List Atom→DV
 | [.i a,.i b,.i _r,.i c,.l l]=>.agg [.int .i64 a,.int .i64 b,.ints .fresh .u64 (Cj (toNat a) (toNat b) (fun j1 j2=>Cv c l j2 j1))]
 | _=>.undef
abbrev Aa.of.B7.ts:List AT:=[.i .i64,.i .i64,.fn 220 [.cp [.i .i64,.i .i64,.s .u64]]]
def Aa.of.B7.spec:Entry:=entry Aa.of.B7.ts Aa.of.B7.pre Aa.of.B7.out
def Aa.of.Part.pre:List Atom→Bool
 | [.i a,.i b,.i r,.i c,.l l,.i x,.i y]=>(Bn a&&Bn b)&&Bj r c l&&Nl r c x y a b
 | _=>false
def Aa.of.Part.out:List Atom→DV
 | [.i a,.i b,.i _r,.i c,.l l,.i x,.i y]=>.agg [.int .i64 a,.int .i64 b,.ints .fresh .u64 (Cj (toNat a) (toNat b) (fun j1 j2=>Cv c l (x+j1) (y+j2)))]
 | _=>.undef
abbrev Aa.of.Part.ts:List AT:=[.i .i64,.i .i64,.fn 192 [.cp [.i .i64,.i .i64,.s .u64],.cp [.i .i64],.cp [.i .i64]]]
def Aa.of.Part.spec:Entry:=entry Aa.of.Part.ts Aa.of.Part.pre Aa.of.Part.out
def Aa.of.Mul.pre:List Atom→Bool
 | [.i a,.i b,.i r,.i c,.l l,.i p,.i q,.l m]=>(Bn a&&Bn b)&&((Bj r c l&&Bj p q m)&&(Ap l&&Ap m))&&decide (a=r∧b=q∧c=p)
 | _=>false
def Aa.of.Mul.out:List Atom→DV
 | [.i a,.i b,.i _r,.i c,.l l,.i p,.i q,.l m]=>.agg [.int .i64 a,.int .i64 b,.ints .fresh .u64 (Cj (toNat a) (toNat b) (fun j1 j2=>Pl (Dh c l j1) (Qj p q m j2)))]
 | _=>.undef
abbrev Aa.of.Mul.ts:List AT:=[.i .i64,.i .i64,.fn 188 [.cp [.i .i64,.i .i64,.s .u64],.cp [.i .i64,.i .i64,.s .u64]]]
def Aa.of.Mul.spec:Entry:=entry Aa.of.Mul.ts Aa.of.Mul.pre Aa.of.Mul.out
def Aa.D8.pre:List Atom→Bool
 | [.i _n]=>true
 | _=>false
def Aa.D8.out:List Atom→DV
 | [.i n]=>.tup [.agg [.int .i64 ((K1 n).1),.int .i64 ((K1 n).2.1),.ints .fresh .u64 ((K1 n).2.2.1)],.int .i64 ((K1 n).2.2.2)]
 | _=>.undef
abbrev Aa.D8.ts:List AT:=[.i .i64]
def Aa.D8.spec:Entry:=entry Aa.D8.ts Aa.D8.pre Aa.D8.out
def Aa.B7.pre:List Atom→Bool
 | [.i _r,.i _c,.l _l]=>true
 | _=>false
def Aa.B7.out:List Atom→DV
 | [.i r,.i c,.l l]=>.tup [.agg [.int .i64 ((E6 r c l).1),.int .i64 ((E6 r c l).2.1),.ints .fresh .u64 ((E6 r c l).2.2.1)],.int .i64 ((E6 r c l).2.2.2)]
 | _=>.undef
abbrev Aa.B7.ts:List AT:=[.st [.i .i64,.i .i64,.s .u64]]
def Aa.B7.spec:Entry:=entry Aa.B7.ts Aa.B7.pre Aa.B7.out
def Aa.Part.pre:List Atom→Bool
 | [.i _r,.i _c,.l _l,.i _x,.i _y,.i _a,.i _b]=>true
 | _=>false
def Aa.Part.out:List Atom→DV
 | [.i r,.i c,.l l,.i x,.i y,.i a,.i b]=>.tup [.agg [.int .i64 ((Hd r c l x y a b).1),.int .i64 ((Hd r c l x y a b).2.1),.ints .fresh .u64 ((Hd r c l x y a b).2.2.1)],.int .i64 ((Hd r c l x y a b).2.2.2)]
 | _=>.undef
abbrev Aa.Part.ts:List AT:=[.st [.i .i64,.i .i64,.s .u64],.i .i64,.i .i64,.i .i64,.i .i64]
def Aa.Part.spec:Entry:=entry Aa.Part.ts Aa.Part.pre Aa.Part.out
def Aa.Mul.pre:List Atom→Bool
 | [.i _r,.i _c,.l l,.i _p,.i _q,.l m]=>Ap l&&Ap m
 | _=>false
def Aa.Mul.out:List Atom→DV
 | [.i r,.i c,.l l,.i p,.i q,.l m]=>.tup [.agg [.int .i64 ((Sn r c l p q m).1),.int .i64 ((Sn r c l p q m).2.1),.ints .fresh .u64 ((Sn r c l p q m).2.2.1)],.int .i64 ((Sn r c l p q m).2.2.2)]
 | _=>.undef
abbrev Aa.Mul.ts:List AT:=[.st [.i .i64,.i .i64,.s .u64],.st [.i .i64,.i .i64,.s .u64]]
def Aa.Mul.spec:Entry:=entry Aa.Mul.ts Aa.Mul.pre Aa.Mul.out
def Ak.F5.pre:List Atom→Bool
 | [.i _r,.i _c,.l _l]=>true
 | _=>false
def Ak.F5.out:List Atom→DV
 | [.i r,.i c,.l l]=>.bool (Bj r c l)
 | _=>.undef
abbrev Ak.F5.ts:List AT:=[.st [.i .i64,.i .i64,.s .u64]]
def Ak.F5.spec:Entry:=entry Ak.F5.ts Ak.F5.pre Ak.F5.out
def Ak.At.pre:List Atom→Bool
 | [.i r,.i c,.l l,.i i,.i k]=>Ds r c l i k
 | _=>false
def Ak.At.out:List Atom→DV
 | [.i _r,.i c,.l l,.i i,.i k]=>.int .u64 (Cv c l i k)
 | _=>.undef
abbrev Ak.At.ts:List AT:=[.st [.i .i64,.i .i64,.s .u64],.i .i64,.i .i64]
def Ak.At.spec:Entry:=entry Ak.At.ts Ak.At.pre Ak.At.out
def Ak.Bc.pre:List Atom→Bool
 | [.i a,.i b]=>Bn a&&Bn b
 | _=>false
def Ak.Bc.out:List Atom→DV
 | [.i a,.i b]=>.agg [.int .i64 a,.int .i64 b,.ints .fresh .u64 (Cj (toNat a) (toNat b) (fun _ _=>0))]
 | _=>.undef
abbrev Ak.Bc.ts:List AT:=[.i .i64,.i .i64]
def Ak.Bc.spec:Entry:=entry Ak.Bc.ts Ak.Bc.pre Ak.Bc.out
def Ak.Eo.pre:List Atom→Bool
 | [.i r,.i c,.l l,.i i,.i k,.i _b]=>Ds r c l i k
 | _=>false
def Ak.Eo.out:List Atom→DV
 | [.i r,.i c,.l l,.i i,.i k,.i b]=>.agg [.int .i64 r,.int .i64 c,.ints .fresh .u64 (List.set l (toNat (i*c+k)) b)]
 | _=>.undef
abbrev Ak.Eo.ts:List AT:=[.st [.i .i64,.i .i64,.s .u64],.i .i64,.i .i64,.i .u64]
def Ak.Eo.spec:Entry:=entry Ak.Eo.ts Ak.Eo.pre Ak.Eo.out
def Ak.Row.pre:List Atom→Bool
 | [.i r,.i c,.l l,.i i]=>Jq r c l i
 | _=>false
def Ak.Row.out:List Atom→DV
 | [.i _r,.i c,.l l,.i i]=>.ints .arg .u64 (Dh c l i)
 | _=>.undef
abbrev Ak.Row.ts:List AT:=[.st [.i .i64,.i .i64,.s .u64],.i .i64]
def Ak.Row.spec:Entry:=entry Ak.Row.ts Ak.Row.pre Ak.Row.out
def Ak.Nr.pre:List Atom→Bool
 | [.i r,.i c,.l l,.i k,.i f]=>Gk r c l k&&Cf (0≤f∧f≤r)
 | _=>false
def Ak.Nr.out:List Atom→DV
 | [.i r,.i c,.l l,.i k,.i f]=>.ints .fresh .u64 (Cb c l k f (toNat (r-f)))
 | _=>.undef
abbrev Ak.Nr.ts:List AT:=[.st [.i .i64,.i .i64,.s .u64],.i .i64,.i .i64]
def Ak.Nr.spec:Entry:=entry Ak.Nr.ts Ak.Nr.pre Ak.Nr.out
def Ak.B7.pre:List Atom→Bool
 | [.i r,.i c,.l l]=>Bj r c l
 | _=>false
def Ak.B7.out:List Atom→DV
 | [.i r,.i c,.l l]=>.agg [.int .i64 c,.int .i64 r,.ints .fresh .u64 (Cj (toNat c) (toNat r) (fun j1 j2=>Cv c l j2 j1))]
 | _=>.undef
abbrev Ak.B7.ts:List AT:=[.st [.i .i64,.i .i64,.s .u64]]
def Ak.B7.spec:Entry:=entry Ak.B7.ts Ak.B7.pre Ak.B7.out
def Ad.G4.pre:List Atom→Bool
 | [.l l,.i _i]=>Fa l
 | _=>false
def Ad.G4.out:List Atom→DV
 | [.l l,.i i]=>.int .u64 (F1 l i)
 | _=>.undef
abbrev Ad.G4.ts:List AT:=[.s .u32,.i .i64]
def Ad.G4.spec:Entry:=entry Ad.G4.ts Ad.G4.pre Ad.G4.out
def Ad.Made.pre:List Atom→Bool
 | [.b _n,.l l]=>Fa l
 | _=>false
def Ad.Made.out:List Atom→DV
 | [.b n,.l l]=>.agg [.bool (Ar (wv n l)),.ints .arg .u32 (Ac (wv n l))]
 | _=>.undef
abbrev Ad.Made.ts:List AT:=[.b,.s .u32]
def Ad.Made.spec:Entry:=entry Ad.Made.ts Ad.Made.pre Ad.Made.out
def Ad.Of.pre:List Atom→Bool
 | [.i n]=>Aff n
 | _=>false
def Ad.Of.out:List Atom→DV
 | [.i n]=>.agg [.bool (Ar (n)),.ints .arg .u32 (Ac (n))]
 | _=>.undef
abbrev Ad.Of.ts:List AT:=[.i .i64]
def Ad.Of.spec:Entry:=entry Ad.Of.ts Ad.Of.pre Ad.Of.out
def Ad.Gp.pre:List Atom→Bool
 | [.l a,.l b]=>Fa a&&Fa b
 | _=>false
def Ad.Gp.out:List Atom→DV
 | [.l a,.l b]=>.int .i64 (Sy (Bv a) (Bv b))
 | _=>.undef
abbrev Ad.Gp.ts:List AT:=[.s .u32,.s .u32]
def Ad.Gp.spec:Entry:=entry Ad.Gp.ts Ad.Gp.pre Ad.Gp.out
def Ad.plus.pre:List Atom→Bool
 | [.l a,.l b]=>Fa a&&Fa b
 | _=>false
def Ad.plus.out:List Atom→DV
 | [.l a,.l b]=>.ints .arg .u32 (G7 a b)
 | _=>.undef
abbrev Ad.plus.ts:List AT:=[.s .u32,.s .u32]
def Ad.plus.spec:Entry:=entry Ad.plus.ts Ad.plus.pre Ad.plus.out
def Ad.minus.pre:List Atom→Bool
 | [.l a,.l b]=>(Fa a&&Fa b)&&leL b a
 | _=>false
def Ad.minus.out:List Atom→DV
 | [.l a,.l b]=>.ints .arg .u32 (Gg a b)
 | _=>.undef
abbrev Ad.minus.ts:List AT:=[.s .u32,.s .u32]
def Ad.minus.spec:Entry:=entry Ad.minus.ts Ad.minus.pre Ad.minus.out
def Ad.Add.pre:List Atom→Bool
 | [.b n,.l a,.b m,.l b]=>Ml n a&&Ml m b
 | _=>false
def Ad.Add.out:List Atom→DV
 | [.b n,.l a,.b m,.l b]=>.agg [.bool (Ar (wv n a+wv m b)),.ints .arg .u32 (Ac (wv n a+wv m b))]
 | _=>.undef
abbrev Ad.Add.ts:List AT:=[.st [.b,.s .u32],.st [.b,.s .u32]]
def Ad.Add.spec:Entry:=entry Ad.Add.ts Ad.Add.pre Ad.Add.out
def Ad.Neg.pre:List Atom→Bool
 | [.b n,.l a]=>Ml n a
 | _=>false
def Ad.Neg.out:List Atom→DV
 | [.b n,.l a]=>.agg [.bool (Ar (- wv n a)),.ints .arg .u32 (Ac (- wv n a))]
 | _=>.undef
abbrev Ad.Neg.ts:List AT:=[.st [.b,.s .u32]]
def Ad.Neg.spec:Entry:=entry Ad.Neg.ts Ad.Neg.pre Ad.Neg.out
def Ad.Eh.pre:List Atom→Bool
 | [.b n,.l a]=>Ml n a
 | _=>false
def Ad.Eh.out:List Atom→DV
 | [.b n,.l a]=>.agg [.bool (Ar (2*wv n a)),.ints .arg .u32 (Ac (2*wv n a))]
 | _=>.undef
abbrev Ad.Eh.ts:List AT:=[.st [.b,.s .u32]]
def Ad.Eh.spec:Entry:=entry Ad.Eh.ts Ad.Eh.pre Ad.Eh.out
def Ad.Gd.pre:List Atom→Bool
 | [.b n,.l a]=>Ml n a
 | _=>false
def Ad.Gd.out:List Atom→DV
 | [.b n,.l a]=>.agg [.bool (Ar (H2 (wv n a) 1)),.ints .arg .u32 (Ac (H2 (wv n a) 1))]
 | _=>.undef
abbrev Ad.Gd.ts:List AT:=[.st [.b,.s .u32]]
def Ad.Gd.spec:Entry:=entry Ad.Gd.ts Ad.Gd.pre Ad.Gd.out
def Ad.Bs.pre:List Atom→Bool
 | [.b n,.l a,.i k]=>Je n a&&Aqd k
 | _=>false
def Ad.Bs.out:List Atom→DV
 | [.b n,.l a,.i k]=>.agg [.bool (Ar (Gs (wv n a) k)),.ints .arg .u32 (Ac (Gs (wv n a) k))]
 | _=>.undef
abbrev Ad.Bs.ts:List AT:=[.st [.b,.s .u32],.i .i64]
def Ad.Bs.spec:Entry:=entry Ad.Bs.ts Ad.Bs.pre Ad.Bs.out
def Ad.S5.pre:List Atom→Bool
 | [.b n,.l a]=>Ml n a
 | _=>false
def Ad.S5.out:List Atom→DV
 | [.b n,.l a]=>.bool (Agm (wv n a))
 | _=>.undef
abbrev Ad.S5.ts:List AT:=[.st [.b,.s .u32]]
def Ad.S5.spec:Entry:=entry Ad.S5.ts Ad.S5.pre Ad.S5.out
def Aq.Of.pre:List Atom→Bool
 | [.b n,.l a,.i e]=>Ml n a&&Sk e
 | _=>false
def Aq.Of.out:List Atom→DV
 | [.b n,.l a,.i e]=>.agg [.bool (Ar (mD (wv n a))),.ints .arg .u32 (Ac (mD (wv n a))),.int .i64 (eD (wv n a) e)]
 | _=>.undef
abbrev Aq.Of.ts:List AT:=[.st [.b,.s .u32],.i .i64]
def Aq.Of.spec:Entry:=entry Aq.Of.ts Aq.Of.pre Aq.Of.out
def Aq.Neg.pre:List Atom→Bool
 | [.b n,.l a,.i _e]=>Ml n a
 | _=>false
def Aq.Neg.out:List Atom→DV
 | [.b n,.l a,.i e]=>.agg [.bool (Ar (- wv n a)),.ints .arg .u32 (Ac (- wv n a)),.int .i64 e]
 | _=>.undef
abbrev Aq.Neg.ts:List AT:=[.st [.b,.s .u32,.i .i64]]
def Aq.Neg.spec:Entry:=entry Aq.Neg.ts Aq.Neg.pre Aq.Neg.out
def Aq.S6.pre:List Atom→Bool
 | [.b n,.l a,.i _e,.b m,.l b,.i _f]=>Ml n a&&Ml m b
 | _=>false
def Aq.S6.out:List Atom→DV
 | [.b n,.l a,.i e,.b m,.l b,.i f]=>.int .i64 (Cz (wv n a) e (wv m b) f)
 | _=>.undef
abbrev Aq.S6.ts:List AT:=[.st [.b,.s .u32,.i .i64],.st [.b,.s .u32,.i .i64]]
def Aq.S6.spec:Entry:=entry Aq.S6.ts Aq.S6.pre Aq.S6.out
def Aq.Level.pre:List Atom→Bool
 | [.b n,.l a,.i e,.i f]=>Je n a&&Aax (wv n a) e f
 | _=>false
def Aq.Level.out:List Atom→DV
 | [.b n,.l a,.i e,.i f]=>.agg [.bool (Ar (Gs (wv n a) (e-f))),.ints .arg .u32 (Ac (Gs (wv n a) (e-f)))]
 | _=>.undef
abbrev Aq.Level.ts:List AT:=[.st [.b,.s .u32,.i .i64],.i .i64]
def Aq.Level.spec:Entry:=entry Aq.Level.ts Aq.Level.pre Aq.Level.out
def Aq.Add.pre:List Atom→Bool
 | [.b n,.l a,.i e,.b m,.l b,.i f]=>((Je n a&&Je m b)&&H3 e)&&H3 f
 | _=>false
def Aq.Add.out:List Atom→DV
 | [.b n,.l a,.i e,.b m,.l b,.i f]=>.agg [.bool (Ar (Hm (wv n a) e (wv m b) f)),.ints .arg .u32 (Ac (Hm (wv n a) e (wv m b) f)),.int .i64 (K6 (wv n a) e (wv m b) f)]
 | _=>.undef
abbrev Aq.Add.ts:List AT:=[.st [.b,.s .u32,.i .i64],.st [.b,.s .u32,.i .i64]]
def Aq.Add.spec:Entry:=entry Aq.Add.ts Aq.Add.pre Aq.Add.out
def Aq.Sub.pre:List Atom→Bool
 | [.b n,.l a,.i e,.b m,.l b,.i f]=>((Je n a&&Je m b)&&H3 e)&&H3 f
 | _=>false
def Aq.Sub.out:List Atom→DV
 | [.b n,.l a,.i e,.b m,.l b,.i f]=>.agg [.bool (Ar (Hm (wv n a) e (- wv m b) f)),.ints .arg .u32 (Ac (Hm (wv n a) e (- wv m b) f)),.int .i64 (K6 (wv n a) e (- wv m b) f)]
 | _=>.undef
abbrev Aq.Sub.ts:List AT:=[.st [.b,.s .u32,.i .i64],.st [.b,.s .u32,.i .i64]]
def Aq.Sub.spec:Entry:=entry Aq.Sub.ts Aq.Sub.pre Aq.Sub.out
def A4.Value.pre:List Atom→Bool
 | [.i x]=>Ah x
 | _=>false
def A4.Value.out:List Atom→DV
 | [.i x]=>.agg [.bool (Ar (mD (Ba x))),.ints .arg .u32 (Ac (mD (Ba x))),.int .i64 (eD (Ba x) (Az x))]
 | _=>.undef
abbrev A4.Value.ts:List AT:=[.i .u64]
def A4.Value.spec:Entry:=entry A4.Value.ts A4.Value.pre A4.Value.out
def Ad.single.pre:List Atom→Bool
 | [.l a,.i x]=>Fa a&&Afe x
 | _=>false
def Ad.single.out:List Atom→DV
 | [.l a,.i x]=>.ints .arg .u32 (singleL a x)
 | _=>.undef
abbrev Ad.single.ts:List AT:=[.s .u32,.i .u32]
def Ad.single.spec:Entry:=entry Ad.single.ts Ad.single.pre Ad.single.out
def Ad.Mul.pre:List Atom→Bool
 | [.b n,.l a,.b m,.l b]=>Pj n a&&Pj m b
 | _=>false
def Ad.Mul.out:List Atom→DV
 | [.b n,.l a,.b m,.l b]=>.agg [.bool (Ar (wv n a*wv m b)),.ints .arg .u32 (Ac (wv n a*wv m b))]
 | _=>.undef
abbrev Ad.Mul.ts:List AT:=[.st [.b,.s .u32],.st [.b,.s .u32]]
def Ad.Mul.spec:Entry:=entry Ad.Mul.ts Ad.Mul.pre Ad.Mul.out
def Aq.Mul.pre:List Atom→Bool
 | [.b n,.l a,.i e,.b m,.l b,.i f]=>(Pj n a&&Pj m b)&&(H3 e&&H3 f)
 | _=>false
def Aq.Mul.out:List Atom→DV
 | [.b n,.l a,.i e,.b m,.l b,.i f]=>.agg [.bool (Ar (mD (wv n a*wv m b))),.ints .arg .u32 (Ac (mD (wv n a*wv m b))),.int .i64 (eD (wv n a*wv m b) (e+f))]
 | _=>.undef
abbrev Aq.Mul.ts:List AT:=[.st [.b,.s .u32,.i .i64],.st [.b,.s .u32,.i .i64]]
def Aq.Mul.spec:Entry:=entry Aq.Mul.ts Aq.Mul.pre Aq.Mul.out
def compare.Iw.pre:List Atom→Bool
 | [.i b]=>Ah b
 | _=>false
def compare.Iw.out:List Atom→DV
 | [.i b]=>.int .i64 (Xd b)
 | _=>.undef
abbrev compare.Iw.ts:List AT:=[.i .u64]
def compare.Iw.spec:Entry:=entry compare.Iw.ts compare.Iw.pre compare.Iw.out
def compare.Order.pre:List Atom→Bool
 | [.i a,.i b]=>Ah a&&Ah b
 | _=>false
def compare.Order.out:List Atom→DV
 | [.i a,.i b]=>.tup [.int .i64 (Ac4 a b),.bool (Asw a b)]
 | _=>.undef
abbrev compare.Order.ts:List AT:=[.i .u64,.i .u64]
def compare.Order.spec:Entry:=entry compare.Order.ts compare.Order.pre compare.Order.out
def compare.I4.pre:List Atom→Bool
 | [.i a,.i b]=>Ah a&&Ah b
 | _=>false
def compare.I4.out:List Atom→DV
 | [.i a,.i b]=>.bool (decide (Ac4 a b<0))
 | _=>.undef
abbrev compare.I4.ts:List AT:=[.i .u64,.i .u64]
def compare.I4.spec:Entry:=entry compare.I4.ts compare.I4.pre compare.I4.out
def compare.Ry.pre:List Atom→Bool
 | [.i a]=>Ah a
 | _=>false
def compare.Ry.out:List Atom→DV
 | [.i a]=>.int .u64 (Aa7 a)
 | _=>.undef
abbrev compare.Ry.ts:List AT:=[.i .u64]
def compare.Ry.spec:Entry:=entry compare.Ry.ts compare.Ry.pre compare.Ry.out
def compare.D0.pre:List Atom→Bool
 | [.i a,.i n]=>Eu a n
 | _=>false
def compare.D0.out:List Atom→DV
 | [.i a,.i n]=>.tup [.int .u64 (Ck a n),.int .u8 (Amx a n)]
 | _=>.undef
abbrev compare.D0.ts:List AT:=[.i .u64,.i .i64]
def compare.D0.spec:Entry:=entry compare.D0.ts compare.D0.pre compare.D0.out
def Af.Bs.pre:List Atom→Bool
 | [.i a,.i n]=>Eu a n
 | _=>false
def Af.Bs.out:List Atom→DV
 | [.i a,.i n]=>.int .u64 (Ck a n)
 | _=>.undef
abbrev Af.Bs.ts:List AT:=[.i .u64,.i .i64]
def Af.Bs.spec:Entry:=entry Af.Bs.ts Af.Bs.pre Af.Bs.out
def Af.Div.pre:List Atom→Bool
 | [.i a,.i b]=>Ah a&&Ah b
 | _=>false
def Af.Div.out:List Atom→DV
 | [.i a,.i b]=>.int .u64 (Ek a b)
 | _=>.undef
abbrev Af.Div.ts:List AT:=[.i .u64,.i .u64]
def Af.Div.spec:Entry:=entry Af.Div.ts Af.Div.pre Af.Div.out
def Af.Ci.pre:List Atom→Bool
 | [.l x]=>Dq x
 | _=>false
def Af.Ci.out:List Atom→DV
 | [.l x]=>.int .u64 (Bq x)
 | _=>.undef
abbrev Af.Ci.ts:List AT:=[.s .u64]
def Af.Ci.spec:Entry:=entry Af.Ci.ts Af.Ci.pre Af.Ci.out
def Af.Finite.pre:List Atom→Bool
 | [.l x]=>Dq x
 | _=>false
def Af.Finite.out:List Atom→DV
 | [.l x]=>.bool (Fg x)
 | _=>.undef
abbrev Af.Finite.ts:List AT:=[.s .u64]
def Af.Finite.spec:Entry:=entry Af.Finite.ts Af.Finite.pre Af.Finite.out
def Cg.Check.pre:List Atom→Bool
 | [.i _r,.i _c,.l l]=>Ap l
 | _=>false
def Cg.Check.out:List Atom→DV
 | [.i r,.i c,.l l]=>.int .i64 (Bt r c l)
 | _=>.undef
abbrev Cg.Check.ts:List AT:=[.st [.i .i64,.i .i64,.s .u64]]
def Cg.Check.spec:Entry:=entry Cg.Check.ts Cg.Check.pre Cg.Check.out
def solve.check.pre:List Atom→Bool
 | [.i _r,.i _c,.l l,.i _p,.i _q,.l m]=>Ap l&&Ap m
 | _=>false
def solve.check.out:List Atom→DV
 | [.i r,.i c,.l l,.i p,.i q,.l m]=>.int .i64 (Om r c l p q m)
 | _=>.undef
abbrev solve.check.ts:List AT:=[.st [.i .i64,.i .i64,.s .u64],.st [.i .i64,.i .i64,.s .u64]]
def solve.check.spec:Entry:=entry solve.check.ts solve.check.pre solve.check.out
def Cn.Cm.up.pre:List Atom→Bool
 | [.i n,.i k]=>Cf (0≤k∧k<n∧n≤10)
 | _=>false
def Cn.Cm.up.out:List Atom→DV
 | [.i n,.i k]=>.int .i64 (n-1-k)
 | _=>.undef
abbrev Cn.Cm.up.ts:List AT:=[.i .i64,.i .i64]
def Cn.Cm.up.spec:Entry:=entry Cn.Cm.up.ts Cn.Cm.up.pre Cn.Cm.up.out
def solve.Dm.pre:List Atom→Bool
 | [.i _i,.i _k]=>true
 | _=>false
def solve.Dm.out:List Atom→DV
 | [.i i,.i k]=>.bool (decide (i<k))
 | _=>.undef
abbrev solve.Dm.ts:List AT:=[.i .i64,.i .i64]
def solve.Dm.spec:Entry:=entry solve.Dm.ts solve.Dm.pre solve.Dm.out
def Aa.of.Bc.own.pre:List Atom→Bool
 | [.i a,.i b]=>Bn a&&Bn b
 | _=>false
def Aa.of.Bc.own.out:List Atom→DV
 | [.i a,.i b]=>.agg [.int .i64 a,.int .i64 b,.ints (.own 108002 37) .u64 (Cj (toNat a) (toNat b) (fun _ _=>0))]
 | _=>.undef
abbrev Aa.of.Bc.own.ts:List AT:=[.i .i64,.i .i64,.fn 205 []]
def Aa.of.Bc.own.spec:Entry:=entry Aa.of.Bc.own.ts Aa.of.Bc.own.pre Aa.of.Bc.own.out
def Aa.Bc.own.pre:List Atom→Bool
 | [.i a,.i b]=>Bn a&&Bn b
 | _=>false
def Aa.Bc.own.out:List Atom→DV
 | [.i a,.i b]=>.tup [.agg [.int .i64 a,.int .i64 b,.ints (.own 1136 37) .u64 (Cj (toNat a) (toNat b) (fun _ _=>0))],.int .i64 (0:Int)]
 | _=>.undef
abbrev Aa.Bc.own.ts:List AT:=[.i .i64,.i .i64]
def Aa.Bc.own.spec:Entry:=entry Aa.Bc.own.ts Aa.Bc.own.pre Aa.Bc.own.out
def solve.Au.Up.pre:List Atom→Bool
 | [.i r,.i c,.l l,.i p,.i q,.l m,.i n]=>Nw r c l p q m&&decide (n=r)
 | _=>false
def solve.Au.Up.out:List Atom→DV
 | [.i r,.i c,.l l,.i _p,.i q,.l m,.i _n]=>.tup [.agg [.int .i64 ((Kc r q (upG c l q m (toNat r) (toNat q))).1),.int .i64 ((Kc r q (upG c l q m (toNat r) (toNat q))).2.1),.ints .fresh .u64 ((Kc r q (upG c l q m (toNat r) (toNat q))).2.2.1)],.int .i64 ((Kc r q (upG c l q m (toNat r) (toNat q))).2.2.2)]
 | _=>.undef
abbrev solve.Au.Up.ts:List AT:=[.st [.i .i64,.i .i64,.s .u64],.st [.i .i64,.i .i64,.s .u64],.fm 103 [.i .i64],.fn 104 []]
def solve.Au.Up.spec:Entry:=entry solve.Au.Up.ts solve.Au.Up.pre solve.Au.Up.out
def solve.Fo.pre:List Atom→Bool
 | [.i _r,.i _c,.l l,.i _p,.i _q,.l m]=>Ap l&&Ap m
 | _=>false
def solve.Fo.out:List Atom→DV
 | [.i r,.i c,.l l,.i p,.i q,.l m]=>.tup [.agg [.int .i64 ((Wj r c l p q m).1),.int .i64 ((Wj r c l p q m).2.1),.ints .fresh .u64 ((Wj r c l p q m).2.2.1)],.int .i64 ((Wj r c l p q m).2.2.2)]
 | _=>.undef
abbrev solve.Fo.ts:List AT:=[.st [.i .i64,.i .i64,.s .u64],.st [.i .i64,.i .i64,.s .u64]]
def solve.Fo.spec:Entry:=entry solve.Fo.ts solve.Fo.pre solve.Fo.out
def solve.Flat.pre:List Atom→Bool
 | [.i _r,.i _c,.l l]=>Ap l
 | _=>false
def solve.Flat.out:List Atom→DV
 | [.i r,.i c,.l l]=>.tup [.bool ((Oj r c l).1),.int .i64 ((Oj r c l).2)]
 | _=>.undef
abbrev solve.Flat.ts:List AT:=[.st [.i .i64,.i .i64,.s .u64]]
def solve.Flat.spec:Entry:=entry solve.Flat.ts solve.Flat.pre solve.Flat.out
def qr.Ec.pre:List Atom→Bool
 | [.i _r,.i _c,.l l,.i _p,.i _q,.l m]=>Ap l&&Ap m
 | _=>false
def qr.Ec.out:List Atom→DV
 | [.i r,.i c,.l l,.i p,.i q,.l m]=>.tup [.agg [.int .i64 ((De r c l p q m).1),.int .i64 ((De r c l p q m).2.1),.ints .fresh .u64 ((De r c l p q m).2.2.1)],.int .i64 ((De r c l p q m).2.2.2)]
 | _=>.undef
abbrev qr.Ec.ts:List AT:=[.st [.i .i64,.i .i64,.s .u64],.st [.i .i64,.i .i64,.s .u64]]
def qr.Ec.spec:Entry:=entry qr.Ec.ts qr.Ec.pre qr.Ec.out
def Cp.Finite.pre:List Atom→Bool
 | [.l x]=>Dq x
 | _=>false
def Cp.Finite.out:List Atom→DV
 | [.l x]=>.bool (Fg x)
 | _=>.undef
abbrev Cp.Finite.ts:List AT:=[.s .u64]
def Cp.Finite.spec:Entry:=entry Cp.Finite.ts Cp.Finite.pre Cp.Finite.out
def Bb.Check.pre:List Atom→Bool
 | [.i _r,.i _c,.l l]=>Ap l
 | _=>false
def Bb.Check.out:List Atom→DV
 | [.i r,.i c,.l l]=>.int .i64 (Bt r c l)
 | _=>.undef
abbrev Bb.Check.ts:List AT:=[.st [.i .i64,.i .i64,.s .u64]]
def Bb.Check.spec:Entry:=entry Bb.Check.ts Bb.Check.pre Bb.Check.out
def Cn.Cm.down.pre:List Atom→Bool
 | [.i _n,.i _k]=>true
 | _=>false
def Cn.Cm.down.out:List Atom→DV
 | [.i _n,.i k]=>.int .i64 k
 | _=>.undef
abbrev Cn.Cm.down.ts:List AT:=[.i .i64,.i .i64]
def Cn.Cm.down.spec:Entry:=entry Cn.Cm.down.ts Cn.Cm.down.pre Cn.Cm.down.out
def solve.Dn.pre:List Atom→Bool
 | [.i _i,.i _k]=>true
 | _=>false
def solve.Dn.out:List Atom→DV
 | [.i i,.i k]=>.bool (decide (k<i))
 | _=>.undef
abbrev solve.Dn.ts:List AT:=[.i .i64,.i .i64]
def solve.Dn.spec:Entry:=entry solve.Dn.ts solve.Dn.pre solve.Dn.out
def solve.Au.Lo.pre:List Atom→Bool
 | [.i r,.i c,.l l,.i p,.i q,.l m,.i n]=>Nw r c l p q m&&decide (n=r)
 | _=>false
def solve.Au.Lo.out:List Atom→DV
 | [.i r,.i c,.l l,.i _p,.i q,.l m,.i _n]=>.tup [.agg [.int .i64 ((Kc r q (loG c l q m (toNat r) (toNat q))).1),.int .i64 ((Kc r q (loG c l q m (toNat r) (toNat q))).2.1),.ints .fresh .u64 ((Kc r q (loG c l q m (toNat r) (toNat q))).2.2.1)],.int .i64 ((Kc r q (loG c l q m (toNat r) (toNat q))).2.2.2)]
 | _=>.undef
abbrev solve.Au.Lo.ts:List AT:=[.st [.i .i64,.i .i64,.s .u64],.st [.i .i64,.i .i64,.s .u64],.fm 77 [.i .i64],.fn 78 []]
def solve.Au.Lo.spec:Entry:=entry solve.Au.Lo.ts solve.Au.Lo.pre solve.Au.Lo.out
def solve.F8.pre:List Atom→Bool
 | [.i _r,.i _c,.l l,.i _p,.i _q,.l m]=>Ap l&&Ap m
 | _=>false
def solve.F8.out:List Atom→DV
 | [.i r,.i c,.l l,.i p,.i q,.l m]=>.tup [.agg [.int .i64 ((loX r c l p q m).1),.int .i64 ((loX r c l p q m).2.1),.ints .fresh .u64 ((loX r c l p q m).2.2.1)],.int .i64 ((loX r c l p q m).2.2.2)]
 | _=>.undef
abbrev solve.F8.ts:List AT:=[.st [.i .i64,.i .i64,.s .u64],.st [.i .i64,.i .i64,.s .u64]]
def solve.F8.spec:Entry:=entry solve.F8.ts solve.F8.pre solve.F8.out
def root.Fj.pre:List Atom→Bool
 | [.i m]=>Cf (0≤m∧m<9223372036854775808)
 | _=>false
def root.Fj.out:List Atom→DV
 | [.i m]=>.tup [.int .u64 (Rh m),.bool (Ri m)]
 | _=>.undef
abbrev root.Fj.ts:List AT:=[.i .u64]
def root.Fj.spec:Entry:=entry root.Fj.ts root.Fj.pre root.Fj.out
def root.Sqrt.pre:List Atom→Bool
 | [.i a]=>Ah a
 | _=>false
def root.Sqrt.out:List Atom→DV
 | [.i a]=>.tup [.int .u64 (G9 a),.int .u8 (Nx a)]
 | _=>.undef
abbrev root.Sqrt.ts:List AT:=[.i .u64]
def root.Sqrt.spec:Entry:=entry root.Sqrt.ts root.Sqrt.pre root.Sqrt.out
def Af.Sqrt.pre:List Atom→Bool
 | [.i a]=>Ah a
 | _=>false
def Af.Sqrt.out:List Atom→DV
 | [.i a]=>.int .u64 (G9 a)
 | _=>.undef
abbrev Af.Sqrt.ts:List AT:=[.i .u64]
def Af.Sqrt.spec:Entry:=entry Af.Sqrt.ts Af.Sqrt.pre Af.Sqrt.out
def compare.Rx.pre:List Atom→Bool
 | [.i a]=>Ah a
 | _=>false
def compare.Rx.out:List Atom→DV
 | [.i a]=>.int .i64 (B8 a)
 | _=>.undef
abbrev compare.Rx.ts:List AT:=[.i .u64]
def compare.Rx.spec:Entry:=entry compare.Rx.ts compare.Rx.pre compare.Rx.out
def Af.Norm.pre:List Atom→Bool
 | [.l x]=>Dq x&&Cf (length x≤64)
 | _=>false
def Af.Norm.out:List Atom→DV
 | [.l x]=>.tup [.int .u64 (Ei x),.int .i64 (0:Int)]
 | _=>.undef
abbrev Af.Norm.ts:List AT:=[.s .u64]
def Af.Norm.spec:Entry:=entry Af.Norm.ts Af.Norm.pre Af.Norm.out
def Ai.Cu.pre:List Atom→Bool
 | [.l x]=>Dq x
 | _=>false
def Ai.Cu.out:List Atom→DV
 | [.l x]=>.bool (Jf x)
 | _=>.undef
abbrev Ai.Cu.ts:List AT:=[.s .u64]
def Ai.Cu.spec:Entry:=entry Ai.Cu.ts Ai.Cu.pre Ai.Cu.out
def Ai.lead.pre:List Atom→Bool
 | [.l x]=>Dq x
 | _=>false
def Ai.lead.out:List Atom→DV
 | [.l x]=>.int .u64 (Pu x)
 | _=>.undef
abbrev Ai.lead.ts:List AT:=[.s .u64]
def Ai.lead.spec:Entry:=entry Ai.lead.ts Ai.lead.pre Ai.lead.out
def Ai.Cw.pre:List Atom→Bool
 | [.l x,.i k]=>Dq x&&Cf (length x≤1000∧-2300≤k∧k≤2300)
 | _=>false
def Ai.Cw.out:List Atom→DV
 | [.l x,.i k]=>.ints .fresh .u64 (Bo x k)
 | _=>.undef
abbrev Ai.Cw.ts:List AT:=[.s .u64,.i .i64]
def Ai.Cw.spec:Entry:=entry Ai.Cw.ts Ai.Cw.pre Ai.Cw.out
def Ai.Eg.pre:List Atom→Bool
 | [.i _i]=>true
 | _=>false
def Ai.Eg.out:List Atom→DV
 | [.i _i]=>.int .u64 (0:Int)
 | _=>.undef
abbrev Ai.Eg.ts:List AT:=[.i .i64]
def Ai.Eg.spec:Entry:=entry Ai.Eg.ts Ai.Eg.pre Ai.Eg.out
def Ai.Ef.pre:List Atom→Bool
 | [.i i,.l y,.i d]=>(Cf (0≤i∧i<length y)&&Ap y)&&Ah d
 | _=>false
def Ai.Ef.out:List Atom→DV
 | [.i i,.l y,.i d]=>.int .u64 (Ek (getD y (toNat i) 0) d)
 | _=>.undef
abbrev Ai.Ef.ts:List AT:=[.i .i64,.cp [.s .u64],.cp [.i .u64]]
def Ai.Ef.spec:Entry:=entry Ai.Ef.ts Ai.Ef.pre Ai.Ef.out
def Ai.row.Zero.pre:List Atom→Bool
 | [.i n]=>Cf (1≤n∧n≤64)
 | _=>false
def Ai.row.Zero.out:List Atom→DV
 | [.i n]=>.ints .fresh .u64 (It (toNat n) (fun _=>0))
 | _=>.undef
abbrev Ai.row.Zero.ts:List AT:=[.i .i64,.fn 254 []]
def Ai.row.Zero.spec:Entry:=entry Ai.row.Zero.ts Ai.row.Zero.pre Ai.row.Zero.out
def Ai.row.Div.pre:List Atom→Bool
 | [.i n,.l y,.i d]=>(Cf (1≤n∧n≤64∧n=length y)&&Ap y)&&Ah d
 | _=>false
def Ai.row.Div.out:List Atom→DV
 | [.i n,.l y,.i d]=>.ints .fresh .u64 (It (toNat n) (fun j=>Ek (getD y j 0) d))
 | _=>.undef
abbrev Ai.row.Div.ts:List AT:=[.i .i64,.fn 259 [.cp [.s .u64],.cp [.i .u64]]]
def Ai.row.Div.spec:Entry:=entry Ai.row.Div.ts Ai.row.Div.pre Ai.row.Div.out
def Ai.Hz.pre:List Atom→Bool
 | [.l x]=>Dq x
 | _=>false
def Ai.Hz.out:List Atom→DV
 | [.l x]=>.tup [.ints .fresh .u64 ((Ch x).1),.int .u64 ((Ch x).2.1),.int .u64 ((Ch x).2.2.1),.int .i64 ((Ch x).2.2.2)]
 | _=>.undef
abbrev Ai.Hz.ts:List AT:=[.s .u64]
def Ai.Hz.spec:Entry:=entry Ai.Hz.ts Ai.Hz.pre Ai.Hz.out
def Ai.Apply.pre:List Atom→Bool
 | [.i r,.i c,.l l,.i i,.i k,.l v,.i t]=>((Bj r c l&&Ls r c i k v)&&(Ap l&&Ap v))&&Ah t
 | _=>false
def Ai.Apply.out:List Atom→DV
 | [.i r,.i c,.l l,.i i,.i k,.l v,.i t]=>.tup [.agg [.int .i64 r,.int .i64 c,.ints (.own 114002 37) .u64 (F4 (toNat r) (toNat c) l i k v t)],.int .i64 (0:Int)]
 | _=>.undef
abbrev Ai.Apply.ts:List AT:=[.st [.i .i64,.i .i64,.s .u64],.i .i64,.i .i64,.s .u64,.i .u64]
def Ai.Apply.spec:Entry:=entry Ai.Apply.ts Ai.Apply.pre Ai.Apply.out
def qr.down.pre:List Atom→Bool
 | [.i r,.i c,.l l]=>(Bj r c l&&Fg l)&&Ap l
 | _=>false
def qr.down.out:List Atom→DV
 | [.i r,.i c,.l l]=>.tup [.agg [.int .i64 ((E5 r c l).1),.int .i64 ((E5 r c l).2.1),.ints .arg .u64 ((E5 r c l).2.2.1)],.recs .fresh 2 (Iy r c l),.int .i64 ((E5 r c l).2.2.2)]
 | _=>.undef
abbrev qr.down.ts:List AT:=[.st [.i .i64,.i .i64,.s .u64]]
def qr.down.spec:Entry:=entry qr.down.ts qr.down.pre qr.down.out
def qr.C3.pre:List Atom→Bool
 | [.i _r,.i _c,.l l]=>Ap l
 | _=>false
def qr.C3.out:List Atom→DV
 | [.i r,.i c,.l l]=>.tup [.agg [.int .i64 ((qX r c l).1),.int .i64 ((qX r c l).2.1),.ints .arg .u64 ((qX r c l).2.2.1)],.agg [.int .i64 ((rX r c l).1),.int .i64 ((rX r c l).2.1),.ints .arg .u64 ((rX r c l).2.2.1)],.int .i64 (F3 r c l)]
 | _=>.undef
abbrev qr.C3.ts:List AT:=[.st [.i .i64,.i .i64,.s .u64]]
def qr.C3.spec:Entry:=entry qr.C3.ts qr.C3.pre qr.C3.out
def qr.I3.pre:List Atom→Bool
 | [.i _r,.i _c,.l l]=>Ap l
 | _=>false
def qr.I3.out:List Atom→DV
 | [.i r,.i c,.l l]=>.tup [.agg [.int .i64 ((Hg r c l).1),.int .i64 ((Hg r c l).2.1),.ints .fresh .u64 ((Hg r c l).2.2.1)],.agg [.int .i64 ((Lw r c l).1),.int .i64 ((Lw r c l).2.1),.ints .fresh .u64 ((Lw r c l).2.2.1)],.int .i64 (F3 r c l)]
 | _=>.undef
abbrev qr.I3.ts:List AT:=[.st [.i .i64,.i .i64,.s .u64]]
def qr.I3.spec:Entry:=entry qr.I3.ts qr.I3.pre qr.I3.out
def solve.Fv.pre:List Atom→Bool
 | [.i _r,.i _c,.l l,.i _p,.i _q,.l m]=>Ap l&&Ap m
 | _=>false
def solve.Fv.out:List Atom→DV
 | [.i r,.i c,.l l,.i p,.i q,.l m]=>.tup [.agg [.int .i64 ((Dx r c l p q m).1),.int .i64 ((Dx r c l p q m).2.1),.ints .fresh .u64 ((Dx r c l p q m).2.2.1)],.int .i64 ((Dx r c l p q m).2.2.2)]
 | _=>.undef
abbrev solve.Fv.ts:List AT:=[.st [.i .i64,.i .i64,.s .u64],.st [.i .i64,.i .i64,.s .u64]]
def solve.Fv.spec:Entry:=entry solve.Fv.ts solve.Fv.pre solve.Fv.out
def Ak.Bc.own.pre:List Atom→Bool
 | [.i a,.i b]=>Bn a&&Bn b
 | _=>false
def Ak.Bc.own.out:List Atom→DV
 | [.i a,.i b]=>.agg [.int .i64 a,.int .i64 b,.ints (.own 10 37) .u64 (Cj (toNat a) (toNat b) (fun _ _=>0))]
 | _=>.undef
abbrev Ak.Bc.own.ts:List AT:=[.i .i64,.i .i64]
def Ak.Bc.own.spec:Entry:=entry Ak.Bc.own.ts Ak.Bc.own.pre Ak.Bc.own.out
def Auv.Fu.pre:List Atom→Bool
 | []=>true
 | _=>false
def Au5.Check.pre:List Atom→Bool
 | [.i _r,.i _c,.l l,.i _p,.i _q,.l m,.i _u,.i _v,.l h]=>Auo l m h
 | _=>false
def Ak.Eo.own.pre:List Atom→Bool
 | [.i r,.i c,.l l,.i i,.i k,.i _b]=>Ds r c l i k
 | _=>false
def Ak.Eo.own.out:List Atom→DV
 | [.i r,.i c,.l l,.i i,.i k,.i b]=>.agg [.int .i64 r,.int .i64 c,.ints (.own 13 37) .u64 (List.set l (toNat (i*c+k)) b)]
 | _=>.undef
abbrev Ak.Eo.own.ts:List AT:=[.st [.i .i64,.i .i64,.s .u64],.i .i64,.i .i64,.i .u64]
def Ak.Eo.own.spec:Entry:=entry Ak.Eo.own.ts Ak.Eo.own.pre Ak.Eo.own.out
def Ak.D8.own.pre:List Atom→Bool
 | [.i n]=>Bn n
 | _=>false
def Ak.D8.own.out:List Atom→DV
 | [.i n]=>.agg [.int .i64 n,.int .i64 n,.ints (.own 104002 37) .u64 (Jv (toNat n))]
 | _=>.undef
abbrev Ak.D8.own.ts:List AT:=[.i .i64]
def Ak.D8.own.spec:Entry:=entry Ak.D8.own.ts Ak.D8.own.pre Ak.D8.own.out
def Bi.whole.pre:List Atom→Bool
 | [.i n]=>Cf (-1000≤n∧n≤1000)
 | _=>false
def Bi.whole.out:List Atom→DV
 | [.i n]=>.int .u64 (Uk n)
 | _=>.undef
abbrev Bi.whole.ts:List AT:=[.i .i64]
def Bi.whole.spec:Entry:=entry Bi.whole.ts Bi.whole.pre Bi.whole.out
def Bb.Fs.pre:List Atom→Bool
 | [.l x,.l y]=>Qh x y
 | _=>false
def Bb.Fs.out:List Atom→DV
 | [.l x,.l y]=>.agg [.bool (Ar (mD (Dv x y))),.ints .arg .u32 (Ac (mD (Dv x y))),.int .i64 (eD (Dv x y) 0)]
 | _=>.undef
abbrev Bb.Fs.ts:List AT:=[.s .u64,.s .u64]
def Bb.Fs.spec:Entry:=entry Bb.Fs.ts Bb.Fs.pre Bb.Fs.out
def Bb.Bh.pre:List Atom→Bool
 | [.i r,.i c,.l l,.i p,.i q,.l m,.i u,.i v,.l h]=>N2 r c l p q m u v h
 | _=>false
def Bb.Bh.out:List Atom→DV
 | [.i _r,.i _c,.l _l,.i _p,.i _q,.l _m,.i _u,.i _v,.l _h]=>.agg [.bool (Ar ((0:Int))),.ints .arg .u32 (Ac ((0:Int))),.int .i64 ((0:Int))]
 | _=>.undef
abbrev Bb.Bh.ts:List AT:=[.st [.i .i64,.i .i64,.s .u64],.st [.i .i64,.i .i64,.s .u64],.st [.i .i64,.i .i64,.s .u64]]
def Bb.Bh.spec:Entry:=entry Bb.Bh.ts Bb.Bh.pre Bb.Bh.out
def Bi.A0.pre:List Atom→Bool
 | [.i n,.l _x,.l _y]=>Cf (0≤n∧n≤255)
 | _=>false
def Bi.A0.out:List Atom→DV
 | [.i _n,.l _x,.l _y]=>.bool true
 | _=>.undef
abbrev Bi.A0.ts:List AT:=[.i .u8,.s .i8,.s .i8]
def Bi.A0.spec:Entry:=entry Bi.A0.ts Bi.A0.pre Bi.A0.out
def Bi.Fu.pre:List Atom→Bool
 | []=>true
 | _=>false
def Bi.Fu.out:List Atom→DV
 | []=>.bool true
 | _=>.undef
abbrev Bi.Fu.ts:List AT:=[]
def Bi.Fu.spec:Entry:=entry Bi.Fu.ts Bi.Fu.pre Bi.Fu.out
def Aq.Sub.zero.pre:List Atom→Bool
 | [.b n,.l a,.i e,.b m,.l b,.i f]=>(((Je n a&&Je m b)&&H3 e)&&H3 f)&&Cf (Hm (wv n a) e (- wv m b) f=0∧K6 (wv n a) e (- wv m b) f=0)
 | _=>false
def Aq.Sub.zero.out:List Atom→DV
 | [.b _n,.l _a,.i _e,.b _m,.l _b,.i _f]=>.agg [.bool (Ar ((0:Int))),.ints .arg .u32 (Ac ((0:Int))),.int .i64 ((0:Int))]
 | _=>.undef
abbrev Aq.Sub.zero.ts:List AT:=[.st [.b,.s .u32,.i .i64],.st [.b,.s .u32,.i .i64]]
def Aq.Sub.zero.spec:Entry:=entry Aq.Sub.zero.ts Aq.Sub.zero.pre Aq.Sub.zero.out
def Aq.Mul.zero.pre:List Atom→Bool
 | [.b n,.l a,.i e,.b m,.l b,.i f]=>((Pj n a&&Pj m b)&&(H3 e&&H3 f))&&Cf (wv n a=0)
 | _=>false
def Aq.Mul.zero.out:List Atom→DV
 | [.b _n,.l _a,.i _e,.b _m,.l _b,.i _f]=>.agg [.bool (Ar ((0:Int))),.ints .arg .u32 (Ac ((0:Int))),.int .i64 ((0:Int))]
 | _=>.undef
abbrev Aq.Mul.zero.ts:List AT:=[.st [.b,.s .u32,.i .i64],.st [.b,.s .u32,.i .i64]]
def Aq.Mul.zero.spec:Entry:=entry Aq.Mul.zero.ts Aq.Mul.zero.pre Aq.Mul.zero.out
def Aq.Add.zero.pre:List Atom→Bool
 | [.b n,.l a,.i e,.b m,.l b,.i f]=>(((Je n a&&Je m b)&&H3 e)&&H3 f)&&Cf (wv n a=0∧wv m b=0)
 | _=>false
def Aq.Add.zero.out:List Atom→DV
 | [.b _n,.l _a,.i _e,.b _m,.l _b,.i _f]=>.agg [.bool (Ar ((0:Int))),.ints .arg .u32 (Ac ((0:Int))),.int .i64 ((0:Int))]
 | _=>.undef
abbrev Aq.Add.zero.ts:List AT:=[.st [.b,.s .u32,.i .i64],.st [.b,.s .u32,.i .i64]]
def Aq.Add.zero.spec:Entry:=entry Aq.Add.zero.ts Aq.Add.zero.pre Aq.Add.zero.out
def Dt.Canon.nb.pre:List Atom→Bool
 | [.f _x]=>true
 | _=>false
def Dt.Canon.nb.out:List Atom→DV
 | [.f x]=>.int .u64 (Na x)
 | _=>.undef
abbrev Dt.Canon.nb.ts:List AT:=[.nb]
def Dt.Canon.nb.spec:Entry:=entry Dt.Canon.nb.ts Dt.Canon.nb.pre Dt.Canon.nb.out
def Cd.Io.pre:List Atom→Bool
 | [.i x]=>Ah x
 | _=>false
def Cd.Io.out:List Atom→DV
 | [.i x]=>.int .i64 (D6 x)
 | _=>.undef
abbrev Cd.Io.ts:List AT:=[.i .u64]
def Cd.Io.spec:Entry:=entry Cd.Io.ts Cd.Io.pre Cd.Io.out
def Ad.plus.own.pre:List Atom→Bool
 | [.l a,.l b]=>Fa a&&Fa b
 | _=>false
def Ad.plus.own.out:List Atom→DV
 | [.l a,.l b]=>.ints (.own 100005 173) .u32 (G7 a b)
 | _=>.undef
abbrev Ad.plus.own.ts:List AT:=[.s .u32,.s .u32]
def Ad.plus.own.spec:Entry:=entry Ad.plus.own.ts Ad.plus.own.pre Ad.plus.own.out
theorem tt0:∀ a b c:Bool,((a==a)&&(b&&(c&&true)))=(b&&c):=by decide
theorem tt1:∀ a b:Bool,(bif a then b else false)=(a&&b):=by decide
theorem S9:∀ a:Bool,(((!a)||(a==true))&&true)=true:=by decide
theorem Kf:∀ a:Bool,((!(a==true))||((((!(a==true))||(a==true))&&true)&&true))=true:=by decide
theorem Nv:∀ a:Bool,((!(a==true))||true)=true:=by decide
theorem tt5:∀ a b:Bool,(bif a then true else b)=(a||b):=by decide
theorem tt6:∀ a:Bool,((!(!a))||(a==false))=true:=by decide
theorem Un:∀ a:Bool,((!(a==false))||((((!(a==false))||(a==false))&&true)&&true))=true:=by decide
theorem tt8:∀ a:Bool,((!(a==false))||((((!(a==false))||(a==false))&&(((!(a==false))||(a==false))&&true))&&true))=true:=by decide
theorem Wl:∀ a:Bool,((!(a==false))||true)=true:=by decide
theorem Cr:∀ a:Bool,(a&&true)=a:=by decide
theorem Auk:∀ a b c d e:Bool,(bif a then (bif b then true else (bif c then (bif d then true else e) else false)) else false)=(a&&(b||(c&&(d||e)))):=by decide
theorem Auj:∀ a b:Bool,((!(a==true))||(((!(a==true))||(a==true))&&((!(!b))||((a==true)&&(b==false)))))=true:=by decide
theorem Aui:∀ a b c:Bool,((!((a==true)&&(b==false)))||(((!((a==true)&&(b==false)))||((a==true)&&(b==false)))&&(((!c)||(((a==true)&&(b==false))&&(c==true)))&&true)))=true:=by decide
theorem Auh:∀ a b c d:Bool,((!(((a==true)&&(b==false))&&(c==true)))||(((!(((a==true)&&(b==false))&&(c==true)))||(((a==true)&&(b==false))&&(c==true)))&&((!(!d))||((((a==true)&&(b==false))&&(c==true))&&(d==false)))))=true:=by decide
theorem Asq:∀ a b c d:Bool,((!((((a==true)&&(b==false))&&(c==true))&&(d==false)))||((((!((((a==true)&&(b==false))&&(c==true))&&(d==false)))||((((a==true)&&(b==false))&&(c==true))&&(d==false)))&&true)&&true))=true:=by decide
theorem Aug:∀ a b c d:Bool,((!((((a==true)&&(b==false))&&(c==true))&&(d==false)))||true)=true:=by decide
theorem Auf:∀ a b c:Bool,((!(((a==true)&&(b==false))&&(c==true)))||((((!(((a==true)&&(b==false))&&(c==true)))||(((a==true)&&(b==false))&&(c==true)))&&true)&&true))=true:=by decide
theorem Aue:∀ a b c:Bool,((!(((a==true)&&(b==false))&&(c==true)))||true)=true:=by decide
theorem Aud:∀ a b:Bool,((!((a==true)&&(b==false)))||((((!((a==true)&&(b==false)))||((a==true)&&(b==false)))&&true)&&true))=true:=by decide
theorem Auc:∀ a b:Bool,((!((a==true)&&(b==false)))||((((!((a==true)&&(b==false)))||((a==true)&&(b==false)))&&(((!((a==true)&&(b==false)))||((a==true)&&(b==false)))&&true))&&true))=true:=by decide
theorem Asj:∀ a b:Bool,((!((a==true)&&(b==false)))||true)=true:=by decide
theorem Af0:∀ a:Bool,((!(a==true))||((((!(a==true))||(a==true))&&(((!(a==true))||(a==true))&&true))&&true))=true:=by decide
theorem Asi:∀ a b:Bool,(bif (!a) then true else b)=((!a)||b):=by decide
theorem Afz:∀ a:Bool,((!(!(!a)))||((!a)==false))=true:=by decide
theorem Uo:∀ a:Bool,((!((!a)==false))||((((!((!a)==false))||((!a)==false))&&true)&&true))=true:=by decide
theorem Afy:∀ a:Bool,((!((!a)==false))||true)=true:=by decide
theorem Aub:∀ a b:Bool,(bif a then (!b) else false)=(a&&(!b)):=by decide
theorem Apy:∀ a b:Bool,(bif (!a) then true else (!b))=((!a)||(!b)):=by decide
theorem Apx:∀ a b:Bool,((!((!a)==false))||((((!((!a)==false))||((!a)==false))&&true)&&b))=((!a)||b):=by decide
theorem Ash:∀ a b c d:Bool,(bif (bif a then b else false) then true else (bif c then d else false))=((a&&b)||(c&&d)):=by decide
theorem Asg:∀ a b:Bool,((!(!(bif a then b else false)))||((bif a then b else false)==false))=true:=by decide
theorem Asf:∀ a b c:Bool,((!((bif a then b else false)==false))||(((!((bif a then b else false)==false))||((bif a then b else false)==false))&&(((!c)||(((bif a then b else false)==false)&&(c==true)))&&true)))=true:=by decide
theorem Ase:∀ a b c:Bool,((!(((bif a then b else false)==false)&&(c==true)))||((((!(((bif a then b else false)==false)&&(c==true)))||(((bif a then b else false)==false)&&(c==true)))&&true)&&true))=true:=by decide
theorem Asd:∀ a b c:Bool,((!(((bif a then b else false)==false)&&(c==true)))||true)=true:=by decide
theorem Amq:∀ a b:Bool,((!((bif a then b else false)==false))||((((!((bif a then b else false)==false))||((bif a then b else false)==false))&&true)&&true))=true:=by decide
theorem Asc:∀ a b:Bool,((!((bif a then b else false)==false))||true)=true:=by decide
theorem J1:∀ a b:Bool,((a&&b)&&true)=(a&&b):=by decide
theorem Aua:∀ a b c:Bool,(bif (bif (!a) then true else (!b)) then true else c)=(((!a)||(!b))||c):=by decide
theorem At9:∀ a b:Bool,((!(!(bif (!a) then true else (!b))))||((bif (!a) then true else (!b))==false))=true:=by decide
theorem Asb:∀ a b:Bool,((!((bif (!a) then true else (!b))==false))||((((!((bif (!a) then true else (!b))==false))||((bif (!a) then true else (!b))==false))&&(((!((bif (!a) then true else (!b))==false))||((bif (!a) then true else (!b))==false))&&true))&&true))=true:=by decide
theorem Amp:∀ a b:Bool,((!((bif (!a) then true else (!b))==false))||((((!((bif (!a) then true else (!b))==false))||((bif (!a) then true else (!b))==false))&&true)&&true))=true:=by decide
theorem Apw:∀ a b:Bool,((!((bif (!a) then true else (!b))==false))||true)=true:=by decide
theorem Asa:∀ a b c d:Bool,(((a&&b)&&(c&&d))&&true)=((a&&b)&&(c&&d)):=by decide
theorem Ar9:∀ a b c d e f g h:Bool,(bif (bif (bif (bif (bif (bif (bif a then true else b) then true else c) then true else d) then true else e) then true else f) then true else g) then true else h)=(((((((a||b)||c)||d)||e)||f)||g)||h):=by decide
theorem Ar8:∀ a b c d e f g:Bool,((!(!(bif (bif (bif (bif (bif (bif a then true else b) then true else c) then true else d) then true else e) then true else f) then true else g)))||((bif (bif (bif (bif (bif (bif a then true else b) then true else c) then true else d) then true else e) then true else f) then true else g)==false))=true:=by decide
theorem Ar7:∀ a b c d e f g:Bool,((!((bif (bif (bif (bif (bif (bif a then true else b) then true else c) then true else d) then true else e) then true else f) then true else g)==false))||((((!((bif (bif (bif (bif (bif (bif a then true else b) then true else c) then true else d) then true else e) then true else f) then true else g)==false))||((bif (bif (bif (bif (bif (bif a then true else b) then true else c) then true else d) then true else e) then true else f) then true else g)==false))&&(((!((bif (bif (bif (bif (bif (bif a then true else b) then true else c) then true else d) then true else e) then true else f) then true else g)==false))||((bif (bif (bif (bif (bif (bif a then true else b) then true else c) then true else d) then true else e) then true else f) then true else g)==false))&&true))&&true))=true:=by decide
theorem Amo:∀ a b c d e f g:Bool,((!((bif (bif (bif (bif (bif (bif a then true else b) then true else c) then true else d) then true else e) then true else f) then true else g)==false))||true)=true:=by decide
theorem Apv:∀ a b c d e f g:Bool,((!((bif (bif (bif (bif (bif (bif a then true else b) then true else c) then true else d) then true else e) then true else f) then true else g)==false))||((((!((bif (bif (bif (bif (bif (bif a then true else b) then true else c) then true else d) then true else e) then true else f) then true else g)==false))||((bif (bif (bif (bif (bif (bif a then true else b) then true else c) then true else d) then true else e) then true else f) then true else g)==false))&&true)&&true))=true:=by decide
theorem Ar6:∀ a b c d e f:Bool,((!(!(bif (bif (bif (bif (bif a then true else b) then true else c) then true else d) then true else e) then true else f)))||((bif (bif (bif (bif (bif a then true else b) then true else c) then true else d) then true else e) then true else f)==false))=true:=by decide
theorem Ar5:∀ a b c d e f:Bool,((!((bif (bif (bif (bif (bif a then true else b) then true else c) then true else d) then true else e) then true else f)==false))||((((!((bif (bif (bif (bif (bif a then true else b) then true else c) then true else d) then true else e) then true else f)==false))||((bif (bif (bif (bif (bif a then true else b) then true else c) then true else d) then true else e) then true else f)==false))&&(((!((bif (bif (bif (bif (bif a then true else b) then true else c) then true else d) then true else e) then true else f)==false))||((bif (bif (bif (bif (bif a then true else b) then true else c) then true else d) then true else e) then true else f)==false))&&true))&&true))=true:=by decide
theorem Amm:∀ a b c d e f:Bool,((!((bif (bif (bif (bif (bif a then true else b) then true else c) then true else d) then true else e) then true else f)==false))||true)=true:=by decide
theorem Apu:∀ a b c d e f:Bool,((!((bif (bif (bif (bif (bif a then true else b) then true else c) then true else d) then true else e) then true else f)==false))||((((!((bif (bif (bif (bif (bif a then true else b) then true else c) then true else d) then true else e) then true else f)==false))||((bif (bif (bif (bif (bif a then true else b) then true else c) then true else d) then true else e) then true else f)==false))&&true)&&true))=true:=by decide
theorem Ar4:∀ a b c d e:Bool,((!(!(bif (bif (bif (bif a then true else b) then true else c) then true else d) then true else e)))||((bif (bif (bif (bif a then true else b) then true else c) then true else d) then true else e)==false))=true:=by decide
theorem Ar3:∀ a b c d e:Bool,((!((bif (bif (bif (bif a then true else b) then true else c) then true else d) then true else e)==false))||((((!((bif (bif (bif (bif a then true else b) then true else c) then true else d) then true else e)==false))||((bif (bif (bif (bif a then true else b) then true else c) then true else d) then true else e)==false))&&(((!((bif (bif (bif (bif a then true else b) then true else c) then true else d) then true else e)==false))||((bif (bif (bif (bif a then true else b) then true else c) then true else d) then true else e)==false))&&true))&&true))=true:=by decide
theorem Apt:∀ a b c d e:Bool,((!((bif (bif (bif (bif a then true else b) then true else c) then true else d) then true else e)==false))||((((!((bif (bif (bif (bif a then true else b) then true else c) then true else d) then true else e)==false))||((bif (bif (bif (bif a then true else b) then true else c) then true else d) then true else e)==false))&&true)&&true))=true:=by decide
theorem Aml:∀ a b c d e:Bool,((!((bif (bif (bif (bif a then true else b) then true else c) then true else d) then true else e)==false))||true)=true:=by decide
theorem Aps:∀ a b c d:Bool,((!(!(bif (bif (bif a then true else b) then true else c) then true else d)))||((bif (bif (bif a then true else b) then true else c) then true else d)==false))=true:=by decide
theorem Apr:∀ a b c d:Bool,((!((bif (bif (bif a then true else b) then true else c) then true else d)==false))||((((!((bif (bif (bif a then true else b) then true else c) then true else d)==false))||((bif (bif (bif a then true else b) then true else c) then true else d)==false))&&(((!((bif (bif (bif a then true else b) then true else c) then true else d)==false))||((bif (bif (bif a then true else b) then true else c) then true else d)==false))&&true))&&true))=true:=by decide
theorem Amk:∀ a b c d:Bool,((!((bif (bif (bif a then true else b) then true else c) then true else d)==false))||((((!((bif (bif (bif a then true else b) then true else c) then true else d)==false))||((bif (bif (bif a then true else b) then true else c) then true else d)==false))&&true)&&true))=true:=by decide
theorem Afx:∀ a b c d:Bool,((!((bif (bif (bif a then true else b) then true else c) then true else d)==false))||true)=true:=by decide
theorem Apq:∀ a b c:Bool,((!(!(bif (bif a then true else b) then true else c)))||((bif (bif a then true else b) then true else c)==false))=true:=by decide
theorem Apo:∀ a b c:Bool,((!((bif (bif a then true else b) then true else c)==false))||((((!((bif (bif a then true else b) then true else c)==false))||((bif (bif a then true else b) then true else c)==false))&&true)&&true))=true:=by decide
theorem Apn:∀ a b c:Bool,((!((bif (bif a then true else b) then true else c)==false))||true)=true:=by decide
theorem Apm:∀ a b:Bool,((!(!(bif a then true else b)))||((bif a then true else b)==false))=true:=by decide
theorem Amj:∀ a b:Bool,((!((bif a then true else b)==false))||((((!((bif a then true else b)==false))||((bif a then true else b)==false))&&true)&&true))=true:=by decide
theorem Aio:∀ a b:Bool,((!((bif a then true else b)==false))||true)=true:=by decide
theorem At8:∀ a b c d:Bool,(((!(bif (bif (bif a then b else false) then c else false) then d else false))||((bif (bif (bif a then b else false) then c else false) then d else false)==true))&&true)=true:=by decide
theorem Ar2:∀ a b c d:Bool,((!((bif (bif (bif a then b else false) then c else false) then d else false)==true))||((((!((bif (bif (bif a then b else false) then c else false) then d else false)==true))||((bif (bif (bif a then b else false) then c else false) then d else false)==true))&&(((!((bif (bif (bif a then b else false) then c else false) then d else false)==true))||((bif (bif (bif a then b else false) then c else false) then d else false)==true))&&true))&&true))=true:=by decide
theorem Ami:∀ a b c d:Bool,((!((bif (bif (bif a then b else false) then c else false) then d else false)==true))||((((!((bif (bif (bif a then b else false) then c else false) then d else false)==true))||((bif (bif (bif a then b else false) then c else false) then d else false)==true))&&true)&&true))=true:=by decide
theorem Apl:∀ a b c d:Bool,((!((bif (bif (bif a then b else false) then c else false) then d else false)==true))||true)=true:=by decide
theorem At7:∀ a b c:Bool,(((!(bif (bif a then b else false) then c else false))||((bif (bif a then b else false) then c else false)==true))&&true)=true:=by decide
theorem Ar1:∀ a b c:Bool,((!((bif (bif a then b else false) then c else false)==true))||((((!((bif (bif a then b else false) then c else false)==true))||((bif (bif a then b else false) then c else false)==true))&&true)&&true))=true:=by decide
theorem At6:∀ a b c:Bool,((!((bif (bif a then b else false) then c else false)==true))||true)=true:=by decide
theorem Ar0:∀ a b:Bool,(((!(bif a then b else false))||((bif a then b else false)==true))&&true)=true:=by decide
theorem Ain:∀ a b:Bool,((!((bif a then b else false)==true))||((((!((bif a then b else false)==true))||((bif a then b else false)==true))&&true)&&true))=true:=by decide
theorem Arz:∀ a b:Bool,((!((bif a then b else false)==true))||true)=true:=by decide
theorem At5:∀ a b c:Bool,((!(a==true))||((((!(a==true))||(a==true))&&(((!(a==true))||(a==true))&&true))&&(b&&c)))=((!a)||(b&&c)):=by decide
theorem Arx:∀ a:Bool,(((a&&true)&&true)&&true)=a:=by decide
theorem At4:∀ a b:Bool,((!(a==true))||((((!(a==true))||(a==true))&&true)&&b))=((!a)||b):=by decide
theorem At3:∀ a b:Bool,((!(a==false))||((((!(a==false))||(a==false))&&true)&&b))=(a||b):=by decide
theorem At2:∀ a b:Bool,(bif a then true else (!b))=(a||(!b)):=by decide
theorem Apk:∀ a b c:Bool,((a&&b)&&((a&&c)&&true))=((a&&b)&&(a&&c)):=by decide
theorem At1:∀ a:Bool,((a&&true)&&true)=a:=by decide
theorem At0:∀ a b c d e:Bool,(bif (bif (bif (bif a then true else b) then true else c) then true else d) then true else e)=((((a||b)||c)||d)||e):=by decide
theorem Arw:∀ a b:Bool,((!((bif a then true else b)==false))||((((!((bif a then true else b)==false))||((bif a then true else b)==false))&&(((!((bif a then true else b)==false))||((bif a then true else b)==false))&&true))&&true))=true:=by decide
theorem Atz:∀ a b c:Bool,((!((bif a then b else false)==true))||((((!((bif a then b else false)==true))||((bif a then b else false)==true))&&true)&&c))=((!(a&&b))||c):=by decide
theorem Asp:∀ a b c:Bool,((!((bif a then true else b)==false))||((((!((bif a then true else b)==false))||((bif a then true else b)==false))&&true)&&c))=((a||b)||c):=by decide
theorem Aso:∀ a b c d:Bool,((!((bif (bif a then true else b) then true else c)==false))||((((!((bif (bif a then true else b) then true else c)==false))||((bif (bif a then true else b) then true else c)==false))&&true)&&d))=(((a||b)||c)||d):=by decide
theorem Asn:∀ a:Bool,(((!(bif a then a else false))||((bif a then a else false)==true))&&true)=true:=by decide
theorem Asm:∀ a:Bool,((!((bif a then a else false)==true))||true)=true:=by decide
theorem Asl:∀ a b:Bool,((a==true)&&((((!(a==true))||(a==true))&&(((!(a==true))||(a==true))&&(((!(a==true))||(a==true))&&true)))&&b))=(a&&b):=by decide
open Go Go.Den Go.C4 Go.Proofs
set_option maxRecDepth 100000
namespace EqSoft
def soft.Split.Bf:List (Nat × Entry):=[]
def soft.Split.E:Env:=Bg (Be soft.Split.Bf) (fun _=>false) (fun _=>none) (fun _=>none)
theorem soft.Split.ev (N:Nat) (x:Int):By soft.Split.E N f206 (An f206) [.int .u64 x]=some (.agg [.bool ((C9 .u64 x 63)==(1:Int)),.int .i64 (Ab (Fe .u64 (C9 .u64 x 52) 2047)),.int .u64 (Fe .u64 x 4503599627370495)]):=by kernel_rfl
abbrev _root_.Go.Proofs.S1.soft.Split.Kn:=A7 prog 206 soft.Split.spec
theorem soft.Split.Ae (hk:A1 prog soft.Split.Bf) (h:Hyp soft.Split.E f206 soft.Split.ts soft.Split.pre soft.Split.out):soft.Split.Kn :=
 Am (A3 hk _ _ _) func206 (by kernel_rfl) (by kernel_rfl) h
def soft.Kind.Bf:List (Nat × Entry):=[(206,soft.Split.spec)]
def soft.Kind.E:Env:=Bg (Be soft.Kind.Bf) (fun _=>false) (fun _=>none) (fun _=>none)
theorem soft.Kind.ev (N:Nat) (x:Int):By soft.Kind.E N f155 (An f155) [.int .u64 x]=bif (Ah x) then bif (((Jr x)==(2047:Int))&&((Cl x)==(0:Int))) then some (.int .i64 3) else bif ((Jr x)==(2047:Int)) then some (.int .i64 4) else bif (A6 0 (Jr x)) then some (.int .i64 2) else bif (A6 0 (Cl x)) then some (.int .i64 1) else some (.int .i64 0) else none :=
 Eq.trans (by kernel_rfl)
 (Fq (Cy (tt0 (Dk x) ((Jr x)==(2047:Int)) ((Cl x)==(0:Int))) rfl rfl) rfl)
abbrev _root_.Go.Proofs.S1.soft.Kind.Kn:=A7 prog 155 soft.Kind.spec
theorem soft.Kind.Ae (hk:A1 prog soft.Kind.Bf) (h:Hyp soft.Kind.E f155 soft.Kind.ts soft.Kind.pre soft.Kind.out):soft.Kind.Kn :=
 Am (A3 hk _ _ _) func155 (by kernel_rfl) (by kernel_rfl) h
def soft.Sign.Bf:List (Nat × Entry):=[]
def soft.Sign.E:Env:=Bg (Be soft.Sign.Bf) (fun _=>false) (fun _=>none) (fun _=>none)
theorem soft.Sign.ev (N:Nat) (x:Int):By soft.Sign.E N f213 (An f213) [.int .u64 x]=some (.bool ((C9 .u64 x 63)==(1:Int))):=by kernel_rfl
abbrev _root_.Go.Proofs.S1.soft.Sign.Kn:=A7 prog 213 soft.Sign.spec
theorem soft.Sign.Ae (hk:A1 prog soft.Sign.Bf) (h:Hyp soft.Sign.E f213 soft.Sign.ts soft.Sign.pre soft.Sign.out):soft.Sign.Kn :=
 Am (A3 hk _ _ _) func213 (by kernel_rfl) (by kernel_rfl) h
def soft.Finite.Bf:List (Nat × Entry):=[(155,soft.Kind.spec)]
def soft.Finite.E:Env:=Bg (Be soft.Finite.Bf) (fun _=>false) (fun _=>none) (fun _=>none)
theorem soft.Finite.ev (N:Nat) (x:Int):By soft.Finite.E N f148 (An f148) [.int .u64 x]=bif (Ah x) then bif ((Bd x)==(3:Int)) then some (.bool false) else bif ((Bd x)==(4:Int)) then some (.bool false) else some (.bool true) else none:=by kernel_rfl
abbrev _root_.Go.Proofs.S1.soft.Finite.Kn:=A7 prog 148 soft.Finite.spec
theorem soft.Finite.Ae (hk:A1 prog soft.Finite.Bf) (h:Hyp soft.Finite.E f148 soft.Finite.ts soft.Finite.pre soft.Finite.out):soft.Finite.Kn :=
 Am (A3 hk _ _ _) func148 (by kernel_rfl) (by kernel_rfl) h
def soft.Ew.Bf:List (Nat × Entry):=[]
def soft.Ew.E:Env:=Bg (Be soft.Ew.Bf) (fun _=>false) (fun _=>none) (fun _=>none)
theorem soft.Ew.ev (N:Nat) (x:Int):By soft.Ew.E N f233 (An f233) [.int .u64 x]=some (.int .u64 (Aom .u64 x 9223372036854775808)):=by kernel_rfl
abbrev _root_.Go.Proofs.S1.soft.Ew.Kn:=A7 prog 233 soft.Ew.spec
theorem soft.Ew.Ae (hk:A1 prog soft.Ew.Bf) (h:Hyp soft.Ew.E f233 soft.Ew.ts soft.Ew.pre soft.Ew.out):soft.Ew.Kn :=
 Am (A3 hk _ _ _) func233 (by kernel_rfl) (by kernel_rfl) h
def soft.Ep.Bf:List (Nat × Entry):=[(206,soft.Split.spec)]
def soft.Ep.E:Env:=Bg (Be soft.Ep.Bf) (fun _=>false) (fun _=>none) (fun _=>none)
theorem soft.Ep.ev (N:Nat) (x:Int):By soft.Ep.E N f211 (An f211) [.int .u64 x]=bif (Ah x) then bif ((Jr x)==(0:Int)) then some (.tup [.int .u64 (Cl x),.int .i64 (-1074:Int)]) else some (.tup [.int .u64 (Ha .u64 (Cl x) 4503599627370496),.int .i64 (Ab ((Jr x)-1075))]) else none:=by kernel_rfl
abbrev _root_.Go.Proofs.S1.soft.Ep.Kn:=A7 prog 211 soft.Ep.spec
theorem soft.Ep.Ae (hk:A1 prog soft.Ep.Bf) (h:Hyp soft.Ep.E f211 soft.Ep.ts soft.Ep.pre soft.Ep.out):soft.Ep.Kn :=
 Am (A3 hk _ _ _) func211 (by kernel_rfl) (by kernel_rfl) h
def soft.Pack.Bf:List (Nat × Entry):=[(233,soft.Ew.spec)]
def soft.Pack.E (rk:Nat):Env:=Bg (Be ((239,Agi [.b,.i .u64,.i .i64] soft.Pack.pre soft.Pack.out soft.Pack.mu rk)::soft.Pack.Bf)) (fun _=>false) (fun _=>none) (fun _=>none)
theorem soft.Pack.ev (N rk:Nat) (n:Bool) (m e:Int):By (soft.Pack.E rk) N f239 (An f239) [.bool n,.int .u64 m,.int .i64 e]=bif (m==(0:Int)) then bif n then bif (Ah 0) then some (.int .u64 (C6 0)) else none else some (.int .u64 0) else bif (Dy 9007199254740992 m) then bif ((I6 (C9 .u64 m 1) (Ab (e+1)))&&(Cf ((Mr (C9 .u64 m 1) (Ab (e+1)))<rk))) then some (.int .u64 (Q6 n (C9 .u64 m 1) (Ab (e+1)))) else none else bif ((A6 m 4503599627370496)&&(A6 (-1074:Int) e)) then bif ((I6 (Br .u64 m 1) (Ab (e-1)))&&(Cf ((Mr (Br .u64 m 1) (Ab (e-1)))<rk))) then some (.int .u64 (Q6 n (Br .u64 m 1) (Ab (e-1)))) else none else bif (A6 m 4503599627370496) then bif n then bif (Ah m) then some (.int .u64 (C6 m)) else none else some (.int .u64 m) else bif (Dy 2047 (Ab (e+1075))) then bif n then bif (Ah 9218868437227405312) then some (.int .u64 (C6 9218868437227405312)) else none else some (.int .u64 9218868437227405312) else bif n then bif (Ah (Ha .u64 (Br .u64 (A8 (Ab (e+1075))) 52) (Fe .u64 m 4503599627370495))) then some (.int .u64 (C6 (Ha .u64 (Br .u64 (A8 (Ab (e+1075))) 52) (Fe .u64 m 4503599627370495)))) else none else some (.int .u64 (Ha .u64 (Br .u64 (A8 (Ab (e+1075))) 52) (Fe .u64 m 4503599627370495))) :=
 Eq.trans (by kernel_rfl)
 (Fq rfl (Fq rfl (Ay (Nv (A6 m 4503599627370496)) (Ay (Kf (A6 m 4503599627370496)) (Ay (S9 (A6 m 4503599627370496)) (Cy (tt1 (A6 m 4503599627370496) (A6 (-1074:Int) e)) rfl rfl))))))
theorem soft.Pack.Ae (hk:A1 prog soft.Pack.Bf) (h:∀ (rk:Nat) (n:Bool) (m e:Int),soft.Pack.pre [.b n,.i m,.i e]=true→soft.Pack.mu [.b n,.i m,.i e]<rk+1→∃ N dv drops,By (soft.Pack.E rk) N f239 (An f239) [.bool n,.int .u64 m,.int .i64 e]=some dv∧Wk drops dv (soft.Pack.out [.b n,.i m,.i e])):A7 prog 239 soft.Pack.spec:=by
 have call:=Nb (f:=239) func239 (by kernel_rfl) (show f239.body=some (An f239) by kernel_rfl)
 refine ⟨Ade (E:=soft.Pack.E) func239 (show f239.body=some (An f239) by kernel_rfl) soft.Pack.mu (fun rk hm=>A3 (.cons ⟨hm,call⟩ hk) _ _ _) fun rk ats dvs he hp hr=>?_,call⟩
 obtain ⟨n,_,_,rfl,rfl,he0⟩:=he.As8
 obtain ⟨m,_,_,rfl,rfl,he1⟩:=he0.Akp
 obtain ⟨e,_,_,rfl,rfl,he2⟩:=he1.Akp
 obtain ⟨rfl,rfl⟩:=he2.T8
 exact h rk n m e hp hr
abbrev _root_.Go.Proofs.S1.soft.Pack.Kn:Prop:=A7 prog 239 soft.Pack.spec
def soft.Cx.hint:Nat→Option A9
 | 0=>some { keep:=[0,1,2,3,10],objs:=[],boxes:=[] }
 | _=>none
def soft.Cx.Bf:List (Nat × Entry):=[(155,soft.Kind.spec),(239,soft.Pack.spec)]
def soft.Cx.live:Nat→Option (List Nat)
 | 7=>some [0,1,2,3,10]
 | 12=>some [0,2,3,10,11,12,13,14]
 | 14=>some [0,2,10,11,14]
 | 16=>some [0,2,10,11,14]
 | 18=>some [14,15,16]
 | _=>none
def soft.Cx.E:Env:=Bg (Be soft.Cx.Bf) (fun _=>false) soft.Cx.hint soft.Cx.live
section
variable (N:Nat) (p14_3:Bool) (p15:Int) (M:Nat) (n:Bool) (m e p11 p10_4:Int) (p14_2:Bool) (p10_3 p11_2:Int) (p14_1 r:Bool) (p10_2 p11_1 p12 p13:Int) (p14:Bool) (p10_1 p10:Int)
def soft.Cx.L0:Option DV:=Bx soft.Cx.E N f212 (An f212) [1,1,1,0,0] [] M ⟨Gm 111 [(0,.bool n),(1,.int .u64 m),(2,.int .i64 e),(3,.bool r),(10,.int .i64 p10)],[]⟩
def soft.Cx.C7:Option DV:=cutAt soft.Cx.E N f212 (An f212) [1,1,1,1] [] ⟨Gm 111 [(0,.bool n),(1,.int .u64 m),(2,.int .i64 e),(3,.bool r),(10,.int .i64 p10_1)],[]⟩
def soft.Cx.C12:Option DV:=cutAt soft.Cx.E N f212 (An f212) [1,1,1,1,1,1,1,1,0] [] ⟨Gm 111 [(0,.bool n),(2,.int .i64 e),(3,.bool r),(10,.int .i64 p10_2),(11,.int .u64 p11_1),(12,.int .u64 p12),(13,.int .u64 p13),(14,.bool p14)],[]⟩
def soft.Cx.C14:Option DV:=cutAt soft.Cx.E N f212 (An f212) [1,1,1,1,1,1,1,1,1,0] [] ⟨Gm 111 [(0,.bool n),(2,.int .i64 e),(10,.int .i64 p10_3),(11,.int .u64 p11_2),(14,.bool p14_1)],[]⟩
def soft.Cx.C16:Option DV:=cutAt soft.Cx.E N f212 (An f212) [1,1,1,1,1,1,1,1,1,1] [] ⟨Gm 111 [(0,.bool n),(2,.int .i64 e),(10,.int .i64 p10_4),(11,.int .u64 p11),(14,.bool p14_2)],[]⟩
def soft.Cx.C18:Option DV:=cutAt soft.Cx.E N f212 (An f212) [1,1,1,1,1,1,1,1,1,1,1,1,0] [] ⟨Gm 111 [(14,.bool p14_3),(15,.int .u64 p15),(16,.int .u8 0)],[]⟩
theorem soft.Cx.Ax:soft.Cx.L0 N (M+1) n m e r p10=bif (decide (0≤p10)) then bif ((Dy 9007199254740992 (C9 .u64 m p10))||(A6 (Ab (e+p10)) (-1074:Int))) then bif ((Ab (p10+1))==(63:Int)) then soft.Cx.C7 N n m e r (Ab (p10+1)) else soft.Cx.L0 N M n m e r (Ab (p10+1)) else soft.Cx.C7 N n m e r p10 else none :=
 Eq.trans (by kernel_rfl)
 (Fq (Ay (Wl (Dy 9007199254740992 (C9 .u64 m p10))) (Ay (Wl (Dy 9007199254740992 (C9 .u64 m p10))) (Ay (tt8 (Dy 9007199254740992 (C9 .u64 m p10))) (Ay (Un (Dy 9007199254740992 (C9 .u64 m p10))) (Ay (tt6 (Dy 9007199254740992 (C9 .u64 m p10))) (Cy (tt5 (Dy 9007199254740992 (C9 .u64 m p10)) (A6 (Ab (e+p10)) (-1074:Int))) rfl rfl)))))) rfl)
theorem soft.Cx.Ata:soft.Cx.C7 N n m e r p10_1=bif (decide (0≤p10_1)) then bif (decide (0≤p10_1)) then bif (A6 0 p10_1) then bif (decide (0≤(Ab (p10_1-1)))) then soft.Cx.C12 N n e r p10_1 (C9 .u64 m p10_1) (Fe .u64 m (A8 ((Br .u64 1 p10_1)-1))) (Br .u64 1 (Ab (p10_1-1))) (bif ((Fe .u64 m (A8 ((Br .u64 1 p10_1)-1)))==(0:Int)) then (!r) else false) else none else soft.Cx.C12 N n e r p10_1 (C9 .u64 m p10_1) (Fe .u64 m (A8 ((Br .u64 1 p10_1)-1))) 0 (bif ((Fe .u64 m (A8 ((Br .u64 1 p10_1)-1)))==(0:Int)) then (!r) else false) else none else none :=
 Eq.trans ((Jm _ _ _ _ _ _ _).trans (by kernel_rfl))
 (Cy (Cr (decide (0≤p10_1))) (Cy (Cr (decide (0≤p10_1))) (Fq (Fq (Ay (Nv ((Fe .u64 m (A8 ((Br .u64 1 p10_1)-1)))==(0:Int))) (Ay (Kf ((Fe .u64 m (A8 ((Br .u64 1 p10_1)-1)))==(0:Int))) (Ay (S9 ((Fe .u64 m (A8 ((Br .u64 1 p10_1)-1)))==(0:Int))) rfl))) rfl) (Ay (Nv ((Fe .u64 m (A8 ((Br .u64 1 p10_1)-1)))==(0:Int))) (Ay (Kf ((Fe .u64 m (A8 ((Br .u64 1 p10_1)-1)))==(0:Int))) (Ay (S9 ((Fe .u64 m (A8 ((Br .u64 1 p10_1)-1)))==(0:Int))) rfl)))) rfl) rfl)
theorem soft.Cx.Aq2:soft.Cx.C12 N n e r p10_2 p11_1 p12 p13 p14=bif ((A6 0 p10_2)&&((A6 p13 p12)||((p12==p13)&&(r||((Fe .u64 p11_1 1)==(1:Int)))))) then soft.Cx.C14 N n e p10_2 (A8 (p11_1+1)) p14 else soft.Cx.C14 N n e p10_2 p11_1 p14 :=
 Eq.trans ((Jm _ _ _ _ _ _ _).trans (by kernel_rfl))
 (Ay (Nv (A6 0 p10_2)) (Ay (Nv (A6 0 p10_2)) (Ay (Af0 (A6 0 p10_2)) (Ay (Kf (A6 0 p10_2)) (Ay (Asj (A6 0 p10_2) (A6 p13 p12)) (Ay (Asj (A6 0 p10_2) (A6 p13 p12)) (Ay (Auc (A6 0 p10_2) (A6 p13 p12)) (Ay (Aud (A6 0 p10_2) (A6 p13 p12)) (Ay (Aue (A6 0 p10_2) (A6 p13 p12) (p12==p13)) (Ay (Auf (A6 0 p10_2) (A6 p13 p12) (p12==p13)) (Ay (Aug (A6 0 p10_2) (A6 p13 p12) (p12==p13) r) (Ay (Asq (A6 0 p10_2) (A6 p13 p12) (p12==p13) r) (Ay (Asq (A6 0 p10_2) (A6 p13 p12) (p12==p13) r) (Ay (Auh (A6 0 p10_2) (A6 p13 p12) (p12==p13) r) (Ay (Aui (A6 0 p10_2) (A6 p13 p12) (p12==p13)) (Ay (Auj (A6 0 p10_2) (A6 p13 p12)) (Ay (S9 (A6 0 p10_2)) (Cy (Auk (A6 0 p10_2) (A6 p13 p12) (p12==p13) r ((Fe .u64 p11_1 1)==(1:Int))) rfl rfl))))))))))))))))))
theorem soft.Cx.Aq1:soft.Cx.C14 N n e p10_3 p11_2 p14_1=bif (A6 (Ab (e+p10_3)) (-1074:Int)) then soft.Cx.C16 N n e 0 p10_3 p14_1 else soft.Cx.C16 N n e p11_2 p10_3 p14_1:=(Jm _ _ _ _ _ _ _).trans (by kernel_rfl)
theorem soft.Cx.Aea:soft.Cx.C16 N n e p11 p10_4 p14_2=bif (I6 p11 (max (Ab (e+p10_4)) (-1074:Int))) then soft.Cx.C18 N p14_2 (Q6 n p11 (max (Ab (e+p10_4)) (-1074:Int))) else none:=(Jm _ _ _ _ _ _ _).trans (by kernel_rfl)
theorem soft.Cx.Ad9:soft.Cx.C18 N p14_3 p15=bif ((!p14_3)||((Nd .u64 p15 9223372036854775808)==(9218868437227405312:Int))) then bif (Ah p15) then bif ((Bd p15)==(3:Int)) then some (.tup [.int .u64 p15,.int .u8 5]) else bif ((Bd p15)==(0:Int)) then bif ((Bd p15)==(0:Int)) then some (.tup [.int .u64 p15,.int .u8 3]) else some (.tup [.int .u64 p15,.int .u8 1]) else bif ((Bd p15)==(1:Int)) then some (.tup [.int .u64 p15,.int .u8 3]) else some (.tup [.int .u64 p15,.int .u8 1]) else none else some (.tup [.int .u64 p15,.int .u8 0]) :=
 Eq.trans ((Jm _ _ _ _ _ _ _).trans (by kernel_rfl))
 (Ay (Afy p14_3) (Ay (Uo p14_3) (Ay (Uo p14_3) (Ay (Afz p14_3) (Cy (Asi p14_3 ((Nd .u64 p15 9223372036854775808)==(9218868437227405312:Int))) rfl rfl)))))
theorem soft.Cx.ev:By soft.Cx.E N f212 (An f212) [.bool n,.int .u64 m,.int .i64 e,.bool r]=bif ((m==(0:Int))&&(!r)) then bif (I6 0 (-1074:Int)) then some (.tup [.int .u64 (Q6 n 0 (-1074:Int)),.int .u8 0]) else none else soft.Cx.L0 N N n m e r 0 :=
 Eq.trans (by kernel_rfl)
 (Ay (Nv (m==(0:Int))) (Ay (Kf (m==(0:Int))) (Ay (S9 (m==(0:Int))) (Cy (Aub (m==(0:Int)) r) rfl rfl))))
end
abbrev _root_.Go.Proofs.S1.soft.Cx.Kn:=A7 prog 212 soft.Cx.spec
theorem soft.Cx.Ae (hk:A1 prog soft.Cx.Bf) (h:Hyp soft.Cx.E f212 soft.Cx.ts soft.Cx.pre soft.Cx.out):soft.Cx.Kn :=
 Am (A3 hk _ _ _) func212 (by kernel_rfl) (by kernel_rfl) h
end EqSoft
open Go Go.Den Go.C4 Go.Proofs
theorem Ag {a b:Bool}:(a&&b)=true↔a=true∧b=true:=by simp
theorem Ae1 {n:Nat} (hn:n<2^64):((C9 .u64 (n:Int) (63:Int))==(1:Int))=Dk n:=by
 rw [show (63:Int)=((63:Nat):Int) from rfl,Gn .u64 n 63 (by decide)]
 unfold Dk Db
 rw [Au9,Avn]
 simp only [beq_iff_eq,Ave]
 omega
theorem Am6 {n:Nat} (hn:n<2^64):Ab (Fe .u64 (C9 .u64 (n:Int) (52:Int)) (2047:Int))=Jr n:=by
 rw [show (52:Int)=((52:Nat):Int) from rfl,Gn .u64 n 52 (by decide),show (2047:Int)=((2^11-1:Nat):Int) from rfl,G6 11 (by omega) (by decide)]
 unfold Jr Eb
 rw [Au9,Al (by omega) (by omega)]
theorem Aks {n:Nat} (hn:n<2^64):Fe .u64 (n:Int) (4503599627370495:Int)=Cl n:=by
 rw [show (4503599627370495:Int)=((2^52-1:Nat):Int) from rfl,G6 52 hn (by decide)]
 unfold Cl Dr
 rw [Au9]
theorem soft.Split.known:soft.Split.Kn:=EqSoft.soft.Split.Ae .nil fun x hp=>by
 obtain ⟨n,rfl,hn⟩:=B0 (x:=x) hp
 refine ⟨0,soft.Split.out [.i n],[],?_,Wk.G0 (.cons .bool (.cons .int (.cons .int .nil)))⟩
 rw [EqSoft.soft.Split.ev,Ae1 hn,Am6 hn,Aks hn]
 rfl
theorem soft.Kind.known:soft.Kind.Kn:=EqSoft.soft.Kind.Ae (.cons soft.Split.known .nil) fun x hp=>by
 obtain ⟨n,rfl,hn⟩:=B0 (x:=x) hp
 refine ⟨0,soft.Kind.out [.i n],[],?_,.int⟩
 rw [EqSoft.soft.Kind.ev,B2 hn]
 show _=some (DV.int .i64 (Bd n))
 unfold Bd As Jr Cl
 simp only [Au9,Au7,Av]
 have:=Ia n
 by_cases h1:Eb n=2047
 ·by_cases h2:Dr n=0
  ·simp [h1,h2]
  ·have:((Dr n:Int)==0)=false:=by simp; exact h2
   simp [h1,this,h2]
 ·have h1':((Eb n:Int)==2047)=false:=by simp; omega
  rw [h1']
  by_cases h3:0<Eb n
  ·simp [h1,h3]
  ·by_cases h4:0<Dr n
   ·simp [h1,h3,h4]
   ·simp [h1,h3,h4]
theorem soft.Sign.known:soft.Sign.Kn:=EqSoft.soft.Sign.Ae .nil fun x hp=>by
 obtain ⟨n,rfl,hn⟩:=B0 (x:=x) hp
 refine ⟨0,soft.Sign.out [.i n],[],?_,.bool⟩
 rw [EqSoft.soft.Sign.ev,Ae1 hn]
 rfl
theorem Vr (n:Nat):I1 n=!(decide (As n=3)||decide (As n=4)):=by
 have:=Ia n
 unfold I1 As
 by_cases h1:Eb n=2047
 ·by_cases h2:Dr n=0<;>simp [h1,h2]
 ·have:Eb n<2047:=by omega
  by_cases h3:0<Eb n
  ·simp [h1,h3,this]
  ·by_cases h4:0<Dr n<;>simp [h1,h3,h4,this]
theorem soft.Finite.known:soft.Finite.Kn:=EqSoft.soft.Finite.Ae (.cons soft.Kind.known .nil) fun x hp=>by
 obtain ⟨n,rfl,hn⟩:=B0 (x:=x) hp
 refine ⟨0,soft.Finite.out [.i n],[],?_,.bool⟩
 rw [EqSoft.soft.Finite.ev,B2 hn]
 show _=some (DV.bool (Dd n))
 unfold Dd Bd
 rw [Au9,Vr]
 by_cases h3:As n=3
 ·simp [h3]
 ·by_cases h4:As n=4
  ·simp [h4]
  ·have e3:((As n:Int)==3)=false:=by simp; omega
   have e4:((As n:Int)==4)=false:=by simp; omega
   simp [h3,h4,e3,e4]
theorem Agx {n:Nat} (hn:n<2^64):Aom .u64 (n:Int) (9223372036854775808:Int)=C6 n:=by
 rw [show (9223372036854775808:Int)=((2^63:Nat):Int) from rfl,Aln hn (by decide),Al7 hn]
 unfold C6 Gy
 rw [Au9]
theorem soft.Ew.known:soft.Ew.Kn:=EqSoft.soft.Ew.Ae .nil fun x hp=>by
 obtain ⟨n,rfl,hn⟩:=B0 (x:=x) hp
 refine ⟨0,soft.Ew.out [.i n],[],?_,.int⟩
 rw [EqSoft.soft.Ew.ev,Agx hn]
 rfl
theorem soft.Ep.known:soft.Ep.Kn:=EqSoft.soft.Ep.Ae (.cons soft.Split.known .nil) fun x hp=>by
 obtain ⟨n,rfl,hn⟩:=B0 (x:=x) hp
 refine ⟨0,soft.Ep.out [.i n],[],?_,Wk.G1 (.cons .int (.cons .int .nil))⟩
 rw [EqSoft.soft.Ep.ev,B2 hn]
 show _=some (DV.tup [.int .u64 (Bk n),.int .i64 (Az n)])
 have hf:=K0 n
 have hp:=Ia n
 unfold Bk Az Jr Cl Aw A2
 rw [Au9]
 by_cases h:Eb n=0
 ·simp [h]
 ·have e:((Eb n:Int)==0)=false:=by simp; omega
  have e2:Ha .u64 ((Dr n:Nat):Int) (4503599627370496:Int)=((Dr n+2^52:Nat):Int):=by
   rw [show (4503599627370496:Int)=((1*2^52:Nat):Int) from rfl,Ahu (by omega) (by omega)]
   congr 1; omega
  rw [e,e2,Al (by omega) (by omega)]
  simp [h]
open Go Go.Den Go.C4 Go.Proofs
set_option maxRecDepth 100000
namespace EqRefD
def A4.Neg.Bf:List (Nat × Entry):=[]
def A4.Neg.E:Env:=Bg (Be A4.Neg.Bf) (fun _=>false) (fun _=>none) (fun _=>none)
theorem A4.Neg.ev (N:Nat) (x:Int):By A4.Neg.E N f142 (An f142) [.int .u64 x]=some (.bool ((A8 (Int.tdiv x 9223372036854775808))==(1:Int))):=by kernel_rfl
abbrev _root_.Go.Proofs.S1.A4.Neg.Kn:=A7 prog 142 A4.Neg.spec
theorem A4.Neg.Ae (hk:A1 prog A4.Neg.Bf) (h:Hyp A4.Neg.E f142 A4.Neg.ts A4.Neg.pre A4.Neg.out):A4.Neg.Kn :=
 Am (A3 hk _ _ _) func142 (by kernel_rfl) (by kernel_rfl) h
def A4.Power.Bf:List (Nat × Entry):=[]
def A4.Power.E:Env:=Bg (Be A4.Power.Bf) (fun _=>false) (fun _=>none) (fun _=>none)
theorem A4.Power.ev (N:Nat) (x:Int):By A4.Power.E N f140 (An f140) [.int .u64 x]=some (.int .i64 (Ab (A8 (Int.tdiv (Int.tmod x 9223372036854775808) 4503599627370496)))):=by kernel_rfl
abbrev _root_.Go.Proofs.S1.A4.Power.Kn:=A7 prog 140 A4.Power.spec
theorem A4.Power.Ae (hk:A1 prog A4.Power.Bf) (h:Hyp A4.Power.E f140 A4.Power.ts A4.Power.pre A4.Power.out):A4.Power.Kn :=
 Am (A3 hk _ _ _) func140 (by kernel_rfl) (by kernel_rfl) h
def A4.Ip.Bf:List (Nat × Entry):=[]
def A4.Ip.E:Env:=Bg (Be A4.Ip.Bf) (fun _=>false) (fun _=>none) (fun _=>none)
theorem A4.Ip.ev (N:Nat) (x:Int):By A4.Ip.E N f141 (An f141) [.int .u64 x]=some (.int .u64 (Int.tmod x 4503599627370496)):=by kernel_rfl
abbrev _root_.Go.Proofs.S1.A4.Ip.Kn:=A7 prog 141 A4.Ip.spec
theorem A4.Ip.Ae (hk:A1 prog A4.Ip.Bf) (h:Hyp A4.Ip.E f141 A4.Ip.ts A4.Ip.pre A4.Ip.out):A4.Ip.Kn :=
 Am (A3 hk _ _ _) func141 (by kernel_rfl) (by kernel_rfl) h
def A4.Kind.Bf:List (Nat × Entry):=[(141,A4.Ip.spec),(140,A4.Power.spec)]
def A4.Kind.E:Env:=Bg (Be A4.Kind.Bf) (fun _=>false) (fun _=>none) (fun _=>none)
theorem A4.Kind.ev (N:Nat) (x:Int):By A4.Kind.E N f62 (An f62) [.int .u64 x]=bif (Pk x) then bif ((Jr x)==(2047:Int)) then bif (Pk x) then bif ((Cl x)==(0:Int)) then some (.int .i64 3) else some (.int .i64 4) else none else bif (Pk x) then bif (A6 0 (Jr x)) then some (.int .i64 2) else bif (Pk x) then bif (A6 0 (Cl x)) then some (.int .i64 1) else some (.int .i64 0) else none else none else none:=by kernel_rfl
abbrev _root_.Go.Proofs.S1.A4.Kind.Kn:=A7 prog 62 A4.Kind.spec
theorem A4.Kind.Ae (hk:A1 prog A4.Kind.Bf) (h:Hyp A4.Kind.E f62 A4.Kind.ts A4.Kind.pre A4.Kind.out):A4.Kind.Kn :=
 Am (A3 hk _ _ _) func62 (by kernel_rfl) (by kernel_rfl) h
def A4.Finite.Bf:List (Nat × Entry):=[(140,A4.Power.spec)]
def A4.Finite.E:Env:=Bg (Be A4.Finite.Bf) (fun _=>false) (fun _=>none) (fun _=>none)
theorem A4.Finite.ev (N:Nat) (x:Int):By A4.Finite.E N f131 (An f131) [.int .u64 x]=bif (Pk x) then some (.bool (A6 (Jr x) 2047)) else none:=by kernel_rfl
abbrev _root_.Go.Proofs.S1.A4.Finite.Kn:=A7 prog 131 A4.Finite.spec
theorem A4.Finite.Ae (hk:A1 prog A4.Finite.Bf) (h:Hyp A4.Finite.E f131 A4.Finite.ts A4.Finite.pre A4.Finite.out):A4.Finite.Kn :=
 Am (A3 hk _ _ _) func131 (by kernel_rfl) (by kernel_rfl) h
def Dt.Canon.Bf:List (Nat × Entry):=[(62,A4.Kind.spec)]
def Dt.Canon.E:Env:=Bg (Be Dt.Canon.Bf) (fun _=>false) (fun _=>none) (fun _=>none)
theorem Dt.Canon.ev (N:Nat) (x:Int):By Dt.Canon.E N f168 (An f168) [.int .u64 x]=bif (Pk x) then bif ((Bd x)==(4:Int)) then some (.int .u64 9221120237041090560) else some (.int .u64 x) else none:=by kernel_rfl
abbrev _root_.Go.Proofs.S1.Dt.Canon.Kn:=A7 prog 168 Dt.Canon.spec
theorem Dt.Canon.Ae (hk:A1 prog Dt.Canon.Bf) (h:Hyp Dt.Canon.E f168 Dt.Canon.ts Dt.Canon.pre Dt.Canon.out):Dt.Canon.Kn :=
 Am (A3 hk _ _ _) func168 (by kernel_rfl) (by kernel_rfl) h
abbrev _root_.Go.Proofs.S1.Dt.Canon.nb.Kn:Prop:=A7 prog 168 Dt.Canon.nb.spec
end EqRefD
open Go Go.Den Go.C4 Go.Proofs
open EqRefD
theorem H7 (n m:Nat):Int.tdiv (n:Int) (m:Int)=((n / m:Nat):Int):=rfl
theorem Hb (n m:Nat):Int.tmod (n:Int) (m:Int)=((n%m:Nat):Int):=rfl
theorem Ao2:(9223372036854775808:Int)=((2^63:Nat):Int):=rfl
theorem Ao3:(4503599627370496:Int)=((2^52:Nat):Int):=rfl
theorem A4.Neg.known:A4.Neg.Kn:=A4.Neg.Ae .nil fun x hp=>by
 obtain ⟨n,rfl,hn⟩:=B0 (x:=x) hp
 refine ⟨0,A4.Neg.out [.i n],[],?_,.bool⟩
 rw [A4.Neg.ev,Ao2,H7,Cq (by omega) (by omega)]
 show _=some (DV.bool (Dk n))
 unfold Dk Db
 rw [Au9]
 congr 2
 rw [Avn]
 simp only [beq_iff_eq,Ave]
 omega
theorem A4.Power.known:A4.Power.Kn:=A4.Power.Ae .nil fun x hp=>by
 obtain ⟨n,rfl⟩:=Rf (x:=x) hp
 refine ⟨0,A4.Power.out [.i n],[],?_,.int⟩
 rw [A4.Power.ev,Ao2,Ao3,Hb,H7,Cq (by omega) (by omega),Al (by omega) (by omega)]
 show _=some (DV.int .i64 (Jr n))
 unfold Jr Eb
 rw [Au9]
 congr 2
 have:n%2^63 / 2^52=n / 2^52%2048:=by omega
 rw [this]
theorem A4.Ip.known:A4.Ip.Kn:=A4.Ip.Ae .nil fun x hp=>by
 obtain ⟨n,rfl⟩:=Rf (x:=x) hp
 refine ⟨0,A4.Ip.out [.i n],[],?_,.int⟩
 rw [A4.Ip.ev,Ao3,Hb]
 rfl
theorem A4.Kind.known:A4.Kind.Kn:=A4.Kind.Ae (.cons A4.Ip.known (.cons A4.Power.known .nil)) fun x hp=>by
 obtain ⟨n,rfl⟩:=Rf (x:=x) hp
 refine ⟨0,A4.Kind.out [.i n],[],?_,.int⟩
 rw [A4.Kind.ev,N6]
 show _=some (DV.int .i64 (Bd n))
 unfold Bd As Jr Cl
 simp only [Au9,Au7,Av]
 have:=Ia n
 by_cases h1:Eb n=2047
 ·by_cases h2:Dr n=0
  ·simp [h1,h2]
  ·have:((Dr n:Int)==0)=false:=by simp; exact h2
   simp [h1,this,h2]
 ·have h1':((Eb n:Int)==2047)=false:=by simp; omega
  rw [h1']
  by_cases h3:0<Eb n
  ·simp [h1,h3]
  ·by_cases h4:0<Dr n
   ·simp [h1,h3,h4]
   ·simp [h1,h3,h4]
theorem A4.Finite.known:A4.Finite.Kn:=A4.Finite.Ae (.cons A4.Power.known .nil) fun x hp=>by
 obtain ⟨n,rfl,hn⟩:=B0 (x:=x) hp
 refine ⟨0,A4.Finite.out [.i n],[],?_,.bool⟩
 rw [A4.Finite.ev,N6,Au7,Av]
 show _=some (DV.bool (Dd n))
 unfold Dd I1 Jr
 rw [Au9]
 have:decide ((Eb n:Int)<2047)=decide (Eb n<2047):=decide_eq_decide.2 (by omega)
 rw [this]
theorem Dt.Canon.known:Dt.Canon.Kn:=Dt.Canon.Ae (.cons A4.Kind.known .nil) fun x hp=>by
 obtain ⟨n,rfl⟩:=Rf (x:=x) hp
 refine ⟨0,Dt.Canon.out [.i n],[],?_,.int⟩
 rw [Dt.Canon.ev,N6,Au7]
 show _=some (DV.int .u64 (Wb n))
 unfold Wb On Bd
 rw [Au9]
 by_cases h:As n=4
 ·have:((As n:Int)==4)=true:=by simp; omega
  rw [this,Avu h]; rfl
 ·have:((As n:Int)==4)=false:=by simp; omega
  rw [this,Avt h]; rfl
theorem Ahh {n m:Nat} (h:Nq n m):On n=On m:=by
 rcases h with rfl | ⟨h1,h2⟩
 ·rfl
 ·unfold G5 at h1 h2
  rw [Aaz n] at h1
  rw [Aaz m] at h2
  unfold On
  rw [Avu (Avx h1),Avu (Avx h2)]
theorem Anb {c:Ctx} {w:World} {d:DV} {vs:List Value} (h:A5 c w [d] vs):∃ v,vs=[v]∧Aj c w d v:=by
 simp only [A5] at h
 obtain ⟨u,us,rfl,hv,rfl⟩:=h
 exact ⟨u,rfl,hv⟩
theorem Dt.Canon.Ajq:Dt.Canon.nb.Kn:=by
 refine ⟨fun args ha=>?_,Dt.Canon.known.call⟩
 unfold Dt.Canon.nb.spec entry at ha ⊢
 simp only at ha ⊢
 cases hd:Ke [.nb] args with
 | none=>rw [hd] at ha; cases ha
 | some bs =>
   rw [hd] at ha
   obtain ⟨ds,h1,h2⟩:=Kd hd
   obtain ⟨x,_,_,rfl,rfl,he⟩:=h1.Aqg
   obtain ⟨rfl,rfl⟩:=he.T8
   refine Lu.args (args:=[.nb x]) ?_ h2
   intro w vals I hI hl
   obtain ⟨v,hv,hr⟩:=Anb hl
   simp only [Aj] at hr
   obtain ⟨m,rfl,hm⟩:=hr
   have e:Dt.Canon.nb.out [.f x]=Dt.Canon.spec.out [.int .u64 (m:Int)]:=by
    show DV.int .u64 (Na x)=DV.int .u64 (Wb (m:Int))
    unfold Na Wb
    rw [Au9,Ahh hm]
   show Calls _ _ _ _ fun e' w'=>∃ v own,e'=.returned v∧Go.RowKit.Below w.heap.size w w'∧Afq own w w'∧Aj (C5 I own w w') w' (Dt.Canon.nb.out [.f x]) v
   rw [e]
   exact Dt.Canon.known.meets [.int .u64 (m:Int)] (N6 m) w vals I hI (by rw [hv]; exact ⟨_,_,rfl,rfl,rfl⟩)
open Go Go.Den Go.C4 Go.Proofs
set_option maxRecDepth 100000
namespace EqRefA
def Ad.G4.Bf:List (Nat × Entry):=[]
def Ad.G4.E:Env:=Bg (Be Ad.G4.Bf) (fun _=>false) (fun _=>none) (fun _=>none)
theorem Ad.G4.ev (N:Nat) (l:List Int) (i:Int):By Ad.G4.E N f221 (An f221) [.ints .arg .u32 l,.int .i64 i]=bif ((Dy 0 i)&&(A6 i (length l:Int))) then bif ((decide (0≤i))&&(decide (i<(length l:Int)))) then some (.int .u64 (A8 (getD l (toNat i) 0))) else none else some (.int .u64 0) :=
 Eq.trans (by kernel_rfl)
 (Ay (Nv (Dy 0 i)) (Ay (Nv (Dy 0 i)) (Ay (Kf (Dy 0 i)) (Ay (Af0 (Dy 0 i)) (Ay (S9 (Dy 0 i)) (Cy (tt1 (Dy 0 i) (A6 i (length l:Int))) rfl rfl))))))
abbrev _root_.Go.Proofs.S1.Ad.G4.Kn:=A7 prog 221 Ad.G4.spec
theorem Ad.G4.Ae (hk:A1 prog Ad.G4.Bf) (h:Hyp Ad.G4.E f221 Ad.G4.ts Ad.G4.pre Ad.G4.out):Ad.G4.Kn :=
 Am (A3 hk _ _ _) func221 (by kernel_rfl) (by kernel_rfl) h
def Ad.Made.hint:Nat→Option A9
 | 0=>some { keep:=[0,1,4,5],objs:=[],boxes:=[4] }
 | _=>none
def Ad.Made.Bf:List (Nat × Entry):=[]
def Ad.Made.E:Env:=Bg (Be Ad.Made.Bf) (fun _=>false) Ad.Made.hint (fun _=>none)
section
variable (N M:Nat) (n:Bool) (l:List Int) (p5:Int)
def Ad.Made.L0:Option DV:=Bx Ad.Made.E N f171 (An f171) [1,1,0,0] [] M ⟨Gm 28 [(0,.bool n),(1,.ints .arg .u32 l),(4,.ptr 4 0 0),(5,.int .i64 p5)],[(4,false,.box [.bool false,.nil])]⟩
theorem Ad.Made.Ax:Ad.Made.L0 N (M+1) n l p5=bif ((!(A6 0 p5))||((decide (0≤(Ab (p5-1))))&&(decide ((Ab (p5-1))<(length l:Int))))) then bif ((A6 0 p5)&&((getD l (toNat (Ab (p5-1))) 0)==(0:Int))) then Ad.Made.L0 N M n l (Ab (p5-1)) else bif (p5==(0:Int)) then some (.agg [.bool false,.nil]) else bif ((decide ((0:Int)≤p5))&&(decide (p5≤(length l:Int)))) then some (.agg [.bool n,.ints .arg .u32 (List.take (toNat p5) l)]) else none else none :=
 Eq.trans (by kernel_rfl)
 (Ay (Nv (A6 0 p5)) (Ay (Nv (A6 0 p5)) (Ay (Kf (A6 0 p5)) (Cy (At5 (A6 0 p5) (decide (0≤(Ab (p5-1)))) (decide ((Ab (p5-1))<(length l:Int)))) (Ay (Kf (A6 0 p5)) (Ay (Kf (A6 0 p5)) (Ay (S9 (A6 0 p5)) (Cy (tt1 (A6 0 p5) ((getD l (toNat (Ab (p5-1))) 0)==(0:Int))) rfl (Fq rfl (Cy (J1 (decide ((0:Int)≤p5)) (decide (p5≤(length l:Int)))) rfl rfl)))))) rfl))))
theorem Ad.Made.ev:By Ad.Made.E N f171 (An f171) [.bool n,.ints .arg .u32 l] =
 Ad.Made.L0 N N n l (length l:Int):=by kernel_rfl
end
abbrev _root_.Go.Proofs.S1.Ad.Made.Kn:=A7 prog 171 Ad.Made.spec
theorem Ad.Made.Ae (hk:A1 prog Ad.Made.Bf) (h:Hyp Ad.Made.E f171 Ad.Made.ts Ad.Made.pre Ad.Made.out):Ad.Made.Kn :=
 Am (A3 hk _ _ _) func171 (by kernel_rfl) (by kernel_rfl) h
def Ad.Of.Bf:List (Nat × Entry):=[(171,Ad.Made.spec)]
def Ad.Of.E:Env:=Bg (Be Ad.Of.Bf) (fun _=>false) (fun _=>none) (fun _=>none)
theorem Ad.Of.ev (N:Nat) (n:Int):By Ad.Of.E N f115 (An f115) [.int .i64 n]=bif (A6 n 0) then bif (Fa [(Ho (Int.tmod (A8 ((A8 (Ab (0-(Ab (n+1)))))+1)) 4294967296)),(Ho (A8 (Int.tdiv (A8 ((A8 (Ab (0-(Ab (n+1)))))+1)) 4294967296)))]) then some (.agg [.bool (Ar (wv true [(Ho (Int.tmod (A8 ((A8 (Ab (0-(Ab (n+1)))))+1)) 4294967296)),(Ho (A8 (Int.tdiv (A8 ((A8 (Ab (0-(Ab (n+1)))))+1)) 4294967296)))])),.ints .arg .u32 (Ac (wv true [(Ho (Int.tmod (A8 ((A8 (Ab (0-(Ab (n+1)))))+1)) 4294967296)),(Ho (A8 (Int.tdiv (A8 ((A8 (Ab (0-(Ab (n+1)))))+1)) 4294967296)))]))]) else none else bif (Fa [(Ho (Int.tmod n 4294967296)),(Ho (Ab (Int.tdiv n 4294967296)))]) then some (.agg [.bool (Ar (wv false [(Ho (Int.tmod n 4294967296)),(Ho (Ab (Int.tdiv n 4294967296)))])),.ints .arg .u32 (Ac (wv false [(Ho (Int.tmod n 4294967296)),(Ho (Ab (Int.tdiv n 4294967296)))]))]) else none:=by kernel_rfl
abbrev _root_.Go.Proofs.S1.Ad.Of.Kn:=A7 prog 115 Ad.Of.spec
theorem Ad.Of.Ae (hk:A1 prog Ad.Of.Bf) (h:Hyp Ad.Of.E f115 Ad.Of.ts Ad.Of.pre Ad.Of.out):Ad.Of.Kn :=
 Am (A3 hk _ _ _) func115 (by kernel_rfl) (by kernel_rfl) h
def Ad.Gp.hint:Nat→Option A9
 | 0=>some { keep:=[0,1,5],objs:=[],boxes:=[] }
 | _=>none
def Ad.Gp.Bf:List (Nat × Entry):=[(221,Ad.G4.spec)]
def Ad.Gp.E:Env:=Bg (Be Ad.Gp.Bf) (fun _=>false) Ad.Gp.hint (fun _=>none)
section
variable (N M:Nat) (a b:List Int) (p5:Int)
def Ad.Gp.L0:Option DV:=Bx Ad.Gp.E N f176 (An f176) [1,0,1,0] [] M ⟨Gm 29 [(0,.ints .arg .u32 a),(1,.ints .arg .u32 b),(5,.int .i64 p5)],[]⟩
theorem Ad.Gp.Ax:Ad.Gp.L0 N (M+1) a b p5=bif (Dy 0 p5) then bif (Fa a) then bif (Fa b) then bif (A6 (F1 a p5) (F1 b p5)) then some (.int .i64 (-1:Int)) else bif (Fa a) then bif (Fa b) then bif (A6 (F1 b p5) (F1 a p5)) then some (.int .i64 1) else Ad.Gp.L0 N M a b (Ab (p5-1)) else none else none else none else none else some (.int .i64 0):=by kernel_rfl
theorem Ad.Gp.ev:By Ad.Gp.E N f176 (An f176) [.ints .arg .u32 a,.ints .arg .u32 b] =
 Ad.Gp.L0 N N a b (max (length a:Int) (length b:Int)):=by kernel_rfl
end
abbrev _root_.Go.Proofs.S1.Ad.Gp.Kn:=A7 prog 176 Ad.Gp.spec
theorem Ad.Gp.Ae (hk:A1 prog Ad.Gp.Bf) (h:Hyp Ad.Gp.E f176 Ad.Gp.ts Ad.Gp.pre Ad.Gp.out):Ad.Gp.Kn :=
 Am (A3 hk _ _ _) func176 (by kernel_rfl) (by kernel_rfl) h
def Ad.plus.hint:Nat→Option A9
 | 0=>some { keep:=[0,1,5,6,7],objs:=[(0,5,100005,.ints 173 .u32 [])],boxes:=[] }
 | _=>none
def Ad.plus.Bf:List (Nat × Entry):=[(221,Ad.G4.spec)]
def Ad.plus.E:Env:=Bg (Be Ad.plus.Bf) (fun _=>false) Ad.plus.hint (fun _=>none)
section
variable (N M:Nat) (a b:List Int) (p6 p7:Int) (p5:List Int)
def Ad.plus.L0:Option DV:=Bx Ad.plus.E N f174 (An f174) [1,1,1,0,1,0] [] M ⟨Gm 37 [(0,.ints .arg .u32 a),(1,.ints .arg .u32 b),(5,.oref 100005),(6,.int .u64 p6),(7,.int .i64 p7)],[(100005,false,.ints 173 .u32 p5)]⟩
theorem Ad.plus.Ax:Ad.plus.L0 N (M+1) a b p6 p7 p5=bif (Dy p7 (max (length a:Int) (length b:Int))) then bif (Fa a) then bif (Fa b) then bif (decide ((length p5)+1≤Ga)) then Ad.plus.L0 N M a b (A8 (Int.tdiv (A8 ((A8 ((F1 a p7)+(F1 b p7)))+p6)) 4294967296)) (Ab (p7+1)) (p5++[(Ho (Int.tmod (A8 ((A8 ((F1 a p7)+(F1 b p7)))+p6)) 4294967296))]) else none else none else none else some (.ints (.own 100005 173) .u32 p5):=by kernel_rfl
theorem Ad.plus.ev:By Ad.plus.E N f174 (An f174) [.ints .arg .u32 a,.ints .arg .u32 b] =
 Ad.plus.L0 N N a b 0 0 []:=by kernel_rfl
end
abbrev _root_.Go.Proofs.S1.Ad.plus.Kn:=A7 prog 174 Ad.plus.spec
theorem Ad.plus.Ae (hk:A1 prog Ad.plus.Bf) (h:Hyp Ad.plus.E f174 Ad.plus.ts Ad.plus.pre Ad.plus.out):Ad.plus.Kn :=
 Am (A3 hk _ _ _) func174 (by kernel_rfl) (by kernel_rfl) h
def Ad.minus.hint:Nat→Option A9
 | 0=>some { keep:=[0,1,5,6,7],objs:=[(0,5,100005,.ints 173 .u32 [])],boxes:=[] }
 | _=>none
def Ad.minus.Bf:List (Nat × Entry):=[(221,Ad.G4.spec)]
def Ad.minus.E:Env:=Bg (Be Ad.minus.Bf) (fun _=>false) Ad.minus.hint (fun _=>none)
section
variable (N M:Nat) (a b:List Int) (p6 p7:Int) (p5:List Int)
def Ad.minus.L0:Option DV:=Bx Ad.minus.E N f177 (An f177) [1,1,1,0,1,0] [] M ⟨Gm 36 [(0,.ints .arg .u32 a),(1,.ints .arg .u32 b),(5,.oref 100005),(6,.int .u64 p6),(7,.int .i64 p7)],[(100005,false,.ints 173 .u32 p5)]⟩
theorem Ad.minus.Ax:Ad.minus.L0 N (M+1) a b p6 p7 p5=bif (A6 p7 (length a:Int)) then bif (Fa a) then bif (Fa b) then bif (decide ((length p5)+1≤Ga)) then Ad.minus.L0 N M a b (A8 ((1:Int)-(A8 (Int.tdiv (A8 ((A8 ((A8 ((4294967296:Int)+(F1 a p7)))-(F1 b p7)))-p6)) 4294967296)))) (Ab (p7+1)) (p5++[(Ho (Int.tmod (A8 ((A8 ((A8 ((4294967296:Int)+(F1 a p7)))-(F1 b p7)))-p6)) 4294967296))]) else none else none else none else some (.ints (.own 100005 173) .u32 p5):=by kernel_rfl
theorem Ad.minus.ev:By Ad.minus.E N f177 (An f177) [.ints .arg .u32 a,.ints .arg .u32 b] =
 Ad.minus.L0 N N a b 0 0 []:=by kernel_rfl
end
abbrev _root_.Go.Proofs.S1.Ad.minus.Kn:=A7 prog 177 Ad.minus.spec
theorem Ad.minus.Ae (hk:A1 prog Ad.minus.Bf) (h:Hyp Ad.minus.E f177 Ad.minus.ts Ad.minus.pre Ad.minus.out):Ad.minus.Kn :=
 Am (A3 hk _ _ _) func177 (by kernel_rfl) (by kernel_rfl) h
def Ad.Add.Bf:List (Nat × Entry):=[(171,Ad.Made.spec),(176,Ad.Gp.spec),(177,Ad.minus.spec),(174,Ad.plus.spec)]
def Ad.Add.E:Env:=Bg (Be Ad.Add.Bf) (fun _=>false) (fun _=>none) (fun _=>none)
theorem Ad.Add.ev (N:Nat) (n:Bool) (a:List Int) (m:Bool) (b:List Int):By Ad.Add.E N f112 (An f112) [.agg [.bool n,.ints .arg .u32 a],.agg [.bool m,.ints .arg .u32 b]]=bif (n==m) then bif (Fa a&&Fa b) then bif (Fa (G7 a b)) then some (.agg [.bool (Ar (wv n (G7 a b))),.ints .arg .u32 (Ac (wv n (G7 a b)))]) else none else none else bif (Fa a&&Fa b) then bif (A6 (Sy (Bv a) (Bv b)) 0) then bif ((Fa b&&Fa a)&&leL a b) then bif (Fa (Gg b a)) then some (.agg [.bool (Ar (wv m (Gg b a))),.ints .arg .u32 (Ac (wv m (Gg b a)))]) else none else none else bif ((Fa a&&Fa b)&&leL b a) then bif (Fa (Gg a b)) then some (.agg [.bool (Ar (wv n (Gg a b))),.ints .arg .u32 (Ac (wv n (Gg a b)))]) else none else none else none :=
 Eq.trans (by kernel_rfl)
 (Fq (Cy (Cr (Fa a&&Fa b)) (Cy (Cr (Fa (G7 a b))) rfl rfl) rfl) (Fq (Fq (Cy (Cr ((Fa b&&Fa a)&&leL a b)) (Cy (Cr (Fa (Gg b a))) rfl rfl) rfl) (Cy (Cr ((Fa a&&Fa b)&&leL b a)) (Cy (Cr (Fa (Gg a b))) rfl rfl) rfl)) rfl))
abbrev _root_.Go.Proofs.S1.Ad.Add.Kn:=A7 prog 112 Ad.Add.spec
theorem Ad.Add.Ae (hk:A1 prog Ad.Add.Bf) (h:Hyp Ad.Add.E f112 Ad.Add.ts Ad.Add.pre Ad.Add.out):Ad.Add.Kn :=
 Am (A3 hk _ _ _) func112 (by kernel_rfl) (by kernel_rfl) h
def Ad.Neg.Bf:List (Nat × Entry):=[(171,Ad.Made.spec)]
def Ad.Neg.E:Env:=Bg (Be Ad.Neg.Bf) (fun _=>false) (fun _=>none) (fun _=>none)
theorem Ad.Neg.ev (N:Nat) (n:Bool) (a:List Int):By Ad.Neg.E N f143 (An f143) [.agg [.bool n,.ints .arg .u32 a]]=bif (Fa a) then some (.agg [.bool (Ar (wv (!n) a)),.ints .arg .u32 (Ac (wv (!n) a))]) else none:=by kernel_rfl
abbrev _root_.Go.Proofs.S1.Ad.Neg.Kn:=A7 prog 143 Ad.Neg.spec
theorem Ad.Neg.Ae (hk:A1 prog Ad.Neg.Bf) (h:Hyp Ad.Neg.E f143 Ad.Neg.ts Ad.Neg.pre Ad.Neg.out):Ad.Neg.Kn :=
 Am (A3 hk _ _ _) func143 (by kernel_rfl) (by kernel_rfl) h
end EqRefA
open Go Go.Den Go.C4 Go.Proofs
open EqRefA
theorem Ad.G4.known:Ad.G4.Kn:=Ad.G4.Ae .nil fun l i hp=>by
 obtain ⟨hl,hi⟩:=Ic hp
 refine ⟨0,Ad.G4.out [.l l,.i i],[],?_,.int⟩
 rw [Ad.G4.ev,D9,Av]
 show _=some (DV.int .u64 (F1 l i))
 by_cases h0:0≤i
 ·obtain ⟨k,rfl⟩:∃ k:Nat,i=k:=⟨i.toNat,by omega⟩
  have hv:=Gj hi k
  have hg:=M3 hi k
  rw [hv,Au9,hg,Au8 h0,Awk]
  by_cases h1:(k:Int)<(l.length:Int)
  ·rw [Au8 h1,Au7,Au7,Cq (by omega) (by omega)]
  ·have h2:l.getD k 0=0:=by
    rw [Avh,Awp (by omega)]; rfl
   rw [h2] at hg
   rw [Avc h1,Avb,← hg]
 ·have:F1 l i=0:=by unfold F1; rw [Avt h0]
  rw [Avc h0,Bool.false_and,Avb,this]
theorem Yi {drops:List Nat} {b:Bool} {l:List Int}:Wk drops (.agg [.bool b,.ints .arg .u32 l]) (.agg [.bool b,.ints .arg .u32 l]):=Wk.G0 (.cons .bool (.cons .Ww .nil))
theorem Agp:Ar 0=false:=rfl
theorem Abd:Ac 0=[]:=rfl
theorem Agy (N:Nat) (n:Bool) {l:List Int} (hl:l.length<1073741824) (hi:Rn l):∀ (p F:Nat),p≤l.length→p<F→Bv l<2^(32*p) →
 ∃ dv,Ad.Made.L0 N F n l (p:Int)=some dv∧Wk [] dv (.agg [.bool (Ar (wv n l)),.ints .arg .u32 (Ac (wv n l))]):=by
 have hlast:∀ p,p≤l.length→Di (Bv l)=p→p≠0→some (DV.agg [.bool n,.ints .arg .u32 (l.take p)])=some (DV.agg [.bool (Ar (wv n l)),.ints .arg .u32 (Ac (wv n l))]):=by
  intro p hp hq h0
  have h1:=Adl hi
  rw [hq] at h1
  have h2:Bv l≠0:=fun h=>by rw [h] at hq; exact h0 hq.symm
  have e:(wv n l).natAbs=Bv l:=by unfold wv Gv; split<;>omega
  have e1:Ac (wv n l)=Nn (Bv l):=by unfold Ac; rw [e]
  have e2:Ar (wv n l)=n:=by unfold Ar wv Gv; cases n<;>simp<;>omega
  rw [h1,e1,e2]
 intro p
 induction p with
 | zero =>
   intro F hp hF hv
   obtain ⟨F,rfl⟩:∃ G,F=G+1:=⟨F-1,by omega⟩
   have hz:wv n l=0:=by
    have:Bv l=0:=by rw [Nat.mul_zero,Av5] at hv; omega
    unfold wv Gv; rw [this]; cases n<;>rfl
   refine ⟨.agg [.bool false,.nil],?_,?_⟩
   ·rw [Ad.Made.Ax,Av]; rfl
   ·rw [hz,Agp,Abd]
    exact Wk.G0 (.cons .bool (.cons (.nil _ _) .nil))
 | succ p ih =>
   intro F hp hF hv
   obtain ⟨F,rfl⟩:∃ G,F=G+1:=⟨F-1,by omega⟩
   rw [Ad.Made.Ax,Av,Al (by omega) (by omega)]
   have e0:((p+1:Nat):Int)-1=(p:Int):=by omega
   have t0:decide ((0:Int)<((p+1:Nat):Int))=true:=Au8 (by omega)
   have t1:decide ((0:Int)≤(p:Int))=true:=by simp
   have t2:decide ((p:Int)<(l.length:Int))=true:=by simp; omega
   have hg:=M3 hi p
   have hq:Bv l / 2^(32*p)<4294967296:=by
    rw [Nat.div_lt_iff_lt_mul (B4 _),← Jy]; exact hv
   rw [Avk hq] at hg
   rw [e0,t0,t1,t2,Au9,hg]
   simp only [Av6,Avd,Bool.false_or,Au7,Awk]
   by_cases hz:Bv l / 2^(32*p)=0
   ·have:(((Bv l / 2^(32*p):Nat):Int)==0)=true:=by rw [hz]; rfl
    rw [this,Au7]
    refine ih F (by omega) (by omega) ?_
    rcases Av4 (Bv l) (2^(32*p)) with h | h
    ·exact h
    ·have:=Nat.div_pos h (B4 _); omega
   ·have:(((Bv l / 2^(32*p):Nat):Int)==0)=false:=by simp only [Av2,ne_eq]; omega
    have t3:(((p+1:Nat):Int)==0)=false:=by simp only [Av2,ne_eq]; omega
    have t4:decide (((p+1:Nat):Int)≤(l.length:Int))=true:=by simp; omega
    have t5:decide ((0:Int)≤((p+1:Nat):Int))=true:=Au8 (by omega)
    rw [this,Avb,t3,Avb,t4,t5,Avd,Au7,Au9]
    have hlen:Di (Bv l)=p+1:=by
     have a1:=Ka hv
     have a2:=Ans (n:=Bv l) (k:=p) (by
      rcases Av4 (Bv l) (2^(32*p)) with h | h
      ·exact absurd (Nat.div_eq_of_lt h) hz
      ·exact h)
     omega
    exact ⟨_,hlast (p+1) hp hlen (by omega),Yi⟩
theorem Ad.Made.known:Ad.Made.Kn:=Ad.Made.Ae .nil fun n l hp=>by
 obtain ⟨hl,hi⟩:=Ic hp
 obtain ⟨dv,h1,h2⟩:=Agy (l.length+1) n hl hi l.length (l.length+1) (Av1 _) (by omega) (H5 hi)
 exact ⟨l.length+1,dv,[],by rw [Ad.Made.ev]; exact h1,h2⟩
theorem W0 {a b:Int} (ha:0≤a∧a<4294967296) (hb:0≤b∧b<4294967296):Fa [a,b]=true :=
 Ib (show 2<1073741824 by decide) fun x hx=>by
  rcases List.mem_cons.1 hx with rfl | hx
  ·exact ha
  ·rcases List.mem_cons.1 hx with rfl | hx
   ·exact hb
   ·cases hx
theorem Abb:(4294967296:Int)=((4294967296:Nat):Int):=rfl
theorem Ad.Of.known:Ad.Of.Kn:=Ad.Of.Ae (.cons Ad.Made.known .nil) fun n hp=>by
 have hp:=Ao.1 hp
 refine ⟨0,Ad.Of.out [.i n],[],?_,Yi⟩
 rw [Ad.Of.ev,Av]
 show _=some (DV.agg [.bool (Ar n),.ints .arg .u32 (Ac n)])
 by_cases h:n<0
 ·obtain ⟨k,rfl⟩:∃ k:Nat,n=-(k:Int):=⟨(-n).toNat,by omega⟩
  have e1:A8 (A8 (Ab (0-Ab (-(k:Int)+1)))+1)=(k:Int):=by
   rw [Al (x:=-(k:Int)+1) (by omega) (by omega),Al (by omega) (by omega),Cq (x:=0-(-(k:Int)+1)) (by omega) (by omega),Cq (by omega) (by omega)]; omega
  rw [Au8 h,Au7,e1,Abb,Hb,H7,H4 (by omega) (by omega),Cq (by omega) (by omega),H4 (by omega) (by omega),
   W0 (by omega) (by omega),Au7]
  have e2:wv true [((k%4294967296:Nat):Int),((k / 4294967296:Nat):Int)]=-(k:Int):=by
   unfold wv Gv Bv Bv Bv
   rw [Avu rfl,Au9,Au9]
   omega
  rw [e2]
 ·obtain ⟨k,rfl⟩:∃ k:Nat,n=(k:Int):=⟨n.toNat,by omega⟩
  rw [Avc h,Avb,Abb,Hb,H7,H4 (by omega) (by omega),Al (by omega) (by omega),H4 (by omega) (by omega),
   W0 (by omega) (by omega),Au7]
  have e2:wv false [((k%4294967296:Nat):Int),((k / 4294967296:Nat):Int)]=(k:Int):=by
   unfold wv Gv Bv Bv Bv
   rw [Avt (by decide),Au9,Au9]
   omega
  rw [e2]
theorem Ad.Neg.known:Ad.Neg.Kn:=Ad.Neg.Ae (.cons Ad.Made.known .nil) fun n a hp=>by
 obtain ⟨v,rfl,rfl,hv⟩:=J5 hp
 refine ⟨0,Ad.Neg.out [.b (Ar v),.l (Ac v)],[],?_,Yi⟩
 rw [Ad.Neg.ev,L6 (by omega),Au7,Apc]
 rfl
open Go Go.Den Go.C4 Go.Proofs
open EqRefA
theorem Agw (N:Nat) {a b:List Int} (ha:Fa a=true) (hb:Fa b=true):∀ (j F:Nat),j<4000000000→j<F→Bv a / 2^(32*j)=Bv b / 2^(32*j) →
 Ad.Gp.L0 N F a b ((j:Int)-1)=some (.int .i64 (Sy (Bv a) (Bv b))):=by
 have ia:=(Ic ha).2
 have ib:=(Ic hb).2
 intro j
 induction j with
 | zero =>
   intro F hj hF h
   obtain ⟨F,rfl⟩:∃ G,F=G+1:=⟨F-1,by omega⟩
   rw [Nat.mul_zero,Av5,Nat.div_one,Nat.div_one] at h
   have e:Sy (Bv a) (Bv b)=0:=by unfold Sy; rw [Avt (by omega),Avt (by omega)]
   rw [Ad.Gp.Ax,D9,e]
   rfl
 | succ j ih =>
   intro F hj hF h
   obtain ⟨F,rfl⟩:∃ G,F=G+1:=⟨F-1,by omega⟩
   have e0:((j+1:Nat):Int)-1=(j:Int):=by omega
   have t0:decide ((0:Int)≤(j:Int))=true:=Au8 (by omega)
   rw [Jy,Avv,← Av0,← Av0] at h
   have up:Bv a / 2^(32*j)<Bv b / 2^(32*j)→Bv a<Bv b:=fun k=>by
    rcases Av4 (Bv a) (Bv b) with h1 | h1
    ·exact h1
    ·have:=Nat.div_le_div_right (c:=2^(32*j)) h1; omega
   have down:Bv b / 2^(32*j)<Bv a / 2^(32*j)→Bv b<Bv a:=fun k=>by
    rcases Av4 (Bv b) (Bv a) with h1 | h1
    ·exact h1
    ·have:=Nat.div_le_div_right (c:=2^(32*j)) h1; omega
   rw [Ad.Gp.Ax,e0,D9,t0,Au7,ha,hb,Au7,Au7,Av,Av,Gj ia,Gj ib,Al (by omega) (by omega)]
   have ih:=ih F (by omega) (by omega)
   generalize Bv a / 2^(32*j)=x at *
   generalize Bv b / 2^(32*j)=y at *
   by_cases h1:x%4294967296<y%4294967296
   ·have e:Sy (Bv a) (Bv b)=-1:=by unfold Sy; rw [Avu (up (by omega))]
    rw [Au8 (by omega),Au7,e]
   ·rw [Avc (by omega),Avb]
    by_cases h2:y%4294967296<x%4294967296
    ·have:=down (by omega)
     have e:Sy (Bv a) (Bv b)=1:=by unfold Sy; rw [Avt (by omega),Avu this]
     rw [Au8 (by omega),Au7,e]
     rfl
    ·rw [Avc (by omega),Avb]
     exact ih (by omega)
theorem Afi {l:List Int} (h:Rn l) {j:Nat} (hj:l.length≤j):Bv l / 2^(32*j)=0 :=
 Nat.div_eq_of_lt (Awi (H5 h) (Avm (by decide) (by omega)))
theorem Ad.Gp.known:Ad.Gp.Kn:=Ad.Gp.Ae (.cons Ad.G4.known .nil) fun a b hp=>by
 obtain ⟨ha,hb⟩:=Ag.1 hp
 obtain ⟨la,ia⟩:=Ic ha
 obtain ⟨lb,ib⟩:=Ic hb
 refine ⟨max a.length b.length+2,Ad.Gp.out [.l a,.l b],[],?_,.int⟩
 rw [Ad.Gp.ev]
 have e:max (a.length:Int) (b.length:Int)=((max a.length b.length+1:Nat):Int)-1:=by omega
 rw [e]
 exact Agw _ ha hb _ _ (by omega) (by omega) (by rw [Afi ia (by omega),Afi ib (by omega)])
theorem Xe (N:Nat) {a b:List Int} (ha:Fa a=true) (hb:Fa b=true):∀ (k i c F:Nat),i+k=max a.length b.length+1→k<F→c≤1 →
 Bv a / 2^(32*i)+Bv b / 2^(32*i)+c=(Bv a+Bv b) / 2^(32*i) →
 Ad.plus.L0 N F a b (c:Int) (i:Int) (digits i (Bv a+Bv b))=some (.ints (.own 100005 tW) .u32 (G7 a b)):=by
 obtain ⟨la,ia⟩:=Ic ha
 obtain ⟨lb,ib⟩:=Ic hb
 intro k
 induction k with
 | zero =>
   intro i c F hi hF hc h
   obtain ⟨F,rfl⟩:∃ G,F=G+1:=⟨F-1,by omega⟩
   have t0:decide ((i:Int)≤max (a.length:Int) (b.length:Int))=false:=Avc (by omega)
   rw [Ad.plus.Ax,D9,t0,Avb]
   unfold G7
   rw [show i=max a.length b.length+1 by omega]
 | succ k ih =>
   intro i c F hi hF hc h
   obtain ⟨F,rfl⟩:∃ G,F=G+1:=⟨F-1,by omega⟩
   have t0:decide ((i:Int)≤max (a.length:Int) (b.length:Int))=true:=Au8 (by omega)
   have t1:decide ((digits i (Bv a+Bv b)).length+1≤Ga)=true:=Au8 (by rw [Dj]; unfold Ga; omega)
   rw [Ad.plus.Ax,D9,t0,ha,hb,t1]
   simp only [Au7]
   rw [Gj ia,Gj ib]
   have ih:=ih (i+1)
   rw [Jy,Avv 4294967296,← Av0,← Av0,← Av0,Hw] at ih
   generalize Bv a / 2^(32*i)=x at *
   generalize Bv b / 2^(32*i)=y at *
   generalize (Bv a+Bv b) / 2^(32*i)=z at *
   have e1:A8 (A8 (((x%4294967296:Nat):Int)+((y%4294967296:Nat):Int))+(c:Int))=((x%4294967296+y%4294967296+c:Nat):Int):=by
    rw [Cq (x:=((x%4294967296:Nat):Int)+((y%4294967296:Nat):Int)) (by omega) (by omega),Cq (by omega) (by omega)]; omega
   rw [e1,Abb,Hb,H7,H4 (by omega) (by omega),Cq (by omega) (by omega),Al (by omega) (by omega)]
   have e2:(x%4294967296+y%4294967296+c)%4294967296=z%4294967296:=by omega
   rw [e2]
   exact ih ((x%4294967296+y%4294967296+c) / 4294967296) F (by omega) (by omega) (by omega) (by omega)
theorem Yw {i:Nat} {e:TypeId} {k:IntKind} {l:List Int}:Wk [i] (.ints (.own i e) k l) (.ints .arg k l):=.dropA i e k l (List.mem_singleton.2 rfl)
theorem Ad.plus.known:Ad.plus.Kn:=Ad.plus.Ae (.cons Ad.G4.known .nil) fun a b hp=>by
 obtain ⟨ha,hb⟩:=Ag.1 hp
 refine ⟨max a.length b.length+2,.ints (.own 100005 tW) .u32 (G7 a b),[100005],?_,Yw⟩
 rw [Ad.plus.ev]
 exact Xe _ ha hb (max a.length b.length+1) 0 0 _ (by omega) (by omega) (by omega) (by simp)
theorem Adb (N:Nat) {a b:List Int} (ha:Fa a=true) (hb:Fa b=true):∀ (k i w F:Nat),i+k=a.length→k<F→w≤1 →
 Bv a / 2^(32*i)=Bv b / 2^(32*i)+(Bv a-Bv b) / 2^(32*i)+w →
 Ad.minus.L0 N F a b (w:Int) (i:Int) (digits i (Bv a-Bv b))=some (.ints (.own 100005 tW) .u32 (Gg a b)):=by
 obtain ⟨la,ia⟩:=Ic ha
 obtain ⟨lb,ib⟩:=Ic hb
 intro k
 induction k with
 | zero =>
   intro i c F hi hF hc h
   obtain ⟨F,rfl⟩:∃ G,F=G+1:=⟨F-1,by omega⟩
   have t0:decide ((i:Int)<(a.length:Int))=false:=Avc (by omega)
   rw [Ad.minus.Ax,Av,t0,Avb]
   unfold Gg
   rw [show i=a.length by omega]
 | succ k ih =>
   intro i w F hi hF hc h
   obtain ⟨F,rfl⟩:∃ G,F=G+1:=⟨F-1,by omega⟩
   have t0:decide ((i:Int)<(a.length:Int))=true:=Au8 (by omega)
   have t1:decide ((digits i (Bv a-Bv b)).length+1≤Ga)=true:=Au8 (by rw [Dj]; unfold Ga; omega)
   rw [Ad.minus.Ax,Av,t0,ha,hb,t1]
   simp only [Au7]
   rw [Gj ia,Gj ib]
   have ih:=ih (i+1)
   rw [Jy,Avv 4294967296,← Av0,← Av0,← Av0,Hw] at ih
   generalize Bv a / 2^(32*i)=x at *
   generalize Bv b / 2^(32*i)=y at *
   generalize (Bv a-Bv b) / 2^(32*i)=z at *
   have e1:A8 (A8 (A8 ((4294967296:Int)+((x%4294967296:Nat):Int))-((y%4294967296:Nat):Int))-(w:Int))=((4294967296+x%4294967296-y%4294967296-w:Nat):Int):=by
    rw [Cq (x:=(4294967296:Int)+((x%4294967296:Nat):Int)) (by omega) (by omega),Cq (x:=(4294967296:Int)+((x%4294967296:Nat):Int)-((y%4294967296:Nat):Int)) (by omega) (by omega),Cq (by omega) (by omega)]; omega
   have e2:(4294967296+x%4294967296-y%4294967296-w)%4294967296=z%4294967296:=by omega
   have e3:A8 ((1:Int)-(((4294967296+x%4294967296-y%4294967296-w) / 4294967296:Nat):Int))=((1-(4294967296+x%4294967296-y%4294967296-w) / 4294967296:Nat):Int):=by
    rw [Cq (by omega) (by omega)]; omega
   rw [e1,Abb,Hb,H7,H4 (by omega) (by omega),Cq (x:=(((4294967296+x%4294967296-y%4294967296-w) / 4294967296:Nat):Int)) (by omega) (by omega),Al (by omega) (by omega),e2,e3]
   exact ih (1-(4294967296+x%4294967296-y%4294967296-w) / 4294967296) F (by omega) (by omega) (by omega) (by omega)
theorem Ad.minus.known:Ad.minus.Kn:=Ad.minus.Ae (.cons Ad.G4.known .nil) fun a b hp=>by
 obtain ⟨h1,hle⟩:=Ag.1 hp
 obtain ⟨ha,hb⟩:=Ag.1 h1
 have hle:=Ao.1 hle
 refine ⟨a.length+1,.ints (.own 100005 tW) .u32 (Gg a b),[100005],?_,Yw⟩
 rw [Ad.minus.ev]
 exact Adb _ ha hb a.length 0 0 _ (by omega) (by omega) (by omega) (by simp; omega)
theorem Fk (v:Int):Rn (Ac v):=Abc _
theorem Ah6 {v w:Int} (h:Ar v=Ar w):wv (Ar v) (G7 (Ac v) (Ac w))=v+w:=by
 unfold wv
 rw [Xf (Fk _) (Fk _),Dg,Dg]
 unfold Ar at h ⊢
 unfold Gv
 rw [decide_eq_decide] at h
 by_cases hv:v<0
 ·have hw:=h.1 hv
  rw [Au8 hv,Avu rfl]; omega
 ·have hw:¬ w<0:=fun k=>hv (h.2 k)
  rw [Avc hv,Avt (by decide)]; omega
theorem Aee {v w:Int} (h:Ar v≠Ar w) (hl:w.natAbs≤v.natAbs):wv (Ar v) (Gg (Ac v) (Ac w))=v+w:=by
 unfold wv
 rw [Adc _ (Fk _),Dg,Dg]
 unfold Ar at h ⊢
 unfold Gv
 rw [ne_eq,decide_eq_decide] at h
 by_cases hv:v<0
 ·have hw:¬ w<0:=fun k=>h ⟨fun _=>k,fun _=>hv⟩
  rw [Au8 hv,Avu rfl]; omega
 ·have hw:w<0:=by
   rcases Int.lt_or_le w 0 with k | k
   ·exact k
   ·exact absurd ⟨fun k'=>absurd k' hv,fun k'=>by omega⟩ h
  rw [Avc hv,Avt (by decide)]; omega
theorem Ad.Add.known:Ad.Add.Kn:=Ad.Add.Ae (.cons Ad.Made.known (.cons Ad.Gp.known (.cons Ad.minus.known (.cons Ad.plus.known .nil)))) fun n a m b hp=>by
 obtain ⟨h1,h2⟩:=Ag.1 hp
 obtain ⟨v,rfl,rfl,hv⟩:=J5 h1
 obtain ⟨w,rfl,rfl,hw⟩:=J5 h2
 refine ⟨0,Ad.Add.out [.b (Ar v),.l (Ac v),.b (Ar w),.l (Ac w)],[],?_,Yi⟩
 have o1:Fa (Ac v)=true:=L6 (by omega)
 have o2:Fa (Ac w)=true:=L6 (by omega)
 rw [Ad.Add.ev,o1,o2,Avd,Au7]
 show _=some (DV.agg [.bool (Ar (wv (Ar v) (Ac v)+wv (Ar w) (Ac w))),.ints .arg .u32 (Ac (wv (Ar v) (Ac v)+wv (Ar w) (Ac w)))])
 rw [Fl,Fl]
 by_cases hs:Ar v=Ar w
 ·have:(Ar v==Ar w)=true:=by simp [hs]
  have o3:Fa (G7 (Ac v) (Ac w))=true:=Ib (by rw [Mq,B9,B9]; omega) (U4 _ _)
  rw [this,Au7,o3,Au7,Ah6 hs]
 ·have:(Ar v==Ar w)=false:=by simp [hs]
  rw [this,Avb,Au7,Av,Dg,Dg,Awk,Awk]
  by_cases hl:v.natAbs<w.natAbs
  ·have e:decide (Sy v.natAbs w.natAbs<0)=true:=Au8 (by unfold Sy; rw [Avu hl]; decide)
   have o3:Fa (Gg (Ac w) (Ac v))=true:=Ib (by rw [Ps,B9]; omega) (Xm _ _)
   have o4:leL (Ac v) (Ac w)=true:=Ao.2 (by rw [Dg,Dg]; omega)
   rw [e,Au7,o4,Au7,o3,Au7,Aee (fun k=>hs k.symm) (by omega),Int.add_comm]
  ·have e:decide (Sy v.natAbs w.natAbs<0)=false:=Avc (by unfold Sy; rw [Avt hl]; split<;>decide)
   have o3:Fa (Gg (Ac v) (Ac w))=true:=Ib (by rw [Ps,B9]; omega) (Xm _ _)
   have o4:leL (Ac w) (Ac v)=true:=Ao.2 (by rw [Dg,Dg]; omega)
   rw [e,Avb,o4,Au7,o3,Au7,Aee hs (by omega)]
open Go Go.Den Go.C4 Go.Proofs
set_option maxRecDepth 100000
namespace EqRefB
def Ad.Eh.Bf:List (Nat × Entry):=[(171,Ad.Made.spec),(174,Ad.plus.spec)]
def Ad.Eh.E:Env:=Bg (Be Ad.Eh.Bf) (fun _=>false) (fun _=>none) (fun _=>none)
theorem Ad.Eh.ev (N:Nat) (n:Bool) (a:List Int):By Ad.Eh.E N f222 (An f222) [.agg [.bool n,.ints .arg .u32 a]]=bif (Fa a&&Fa a) then bif (Fa (G7 a a)) then some (.agg [.bool (Ar (wv n (G7 a a))),.ints .arg .u32 (Ac (wv n (G7 a a)))]) else none else none :=
 Eq.trans (by kernel_rfl)
 (Cy (Cr (Fa a&&Fa a)) (Cy (Cr (Fa (G7 a a))) rfl rfl) rfl)
abbrev _root_.Go.Proofs.S1.Ad.Eh.Kn:=A7 prog 222 Ad.Eh.spec
theorem Ad.Eh.Ae (hk:A1 prog Ad.Eh.Bf) (h:Hyp Ad.Eh.E f222 Ad.Eh.ts Ad.Eh.pre Ad.Eh.out):Ad.Eh.Kn :=
 Am (A3 hk _ _ _) func222 (by kernel_rfl) (by kernel_rfl) h
def Ad.Gd.hint:Nat→Option A9
 | 0=>some { keep:=[1,2,3,4],objs:=[(0,3,100003,.ints 173 .u32 [])],boxes:=[1,2] }
 | _=>none
def Ad.Gd.Bf:List (Nat × Entry):=[(171,Ad.Made.spec),(221,Ad.G4.spec)]
def Ad.Gd.E:Env:=Bg (Be Ad.Gd.Bf) (fun _=>false) Ad.Gd.hint (fun _=>none)
section
variable (N M:Nat) (n:Bool) (a:List Int) (p4:Int) (p3:List Int)
def Ad.Gd.L0:Option DV:=Bx Ad.Gd.E N f173 (An f173) [1,1,0,1,0] [] M ⟨Gm 37 [(1,.ptr 1 0 0),(2,.ptr 2 0 0),(3,.oref 100003),(4,.int .i64 p4)],[(1,false,.box [.bool n,.ints .arg .u32 a]),(2,false,.box [.bool false,.nil]),(100003,false,.ints 173 .u32 p3)]⟩
theorem Ad.Gd.Ax:Ad.Gd.L0 N (M+1) n a p4 p3=bif (A6 p4 (length a:Int)) then bif (Fa a) then bif (Fa a) then bif ((decide (0≤p4))&&(decide (p4<(length p3:Int)))) then bif (decide ((toNat p4)<(length p3))) then Ad.Gd.L0 N M n a (Ab (p4+1)) (List.set p3 (toNat p4) (Ho (A8 (Int.tdiv (A8 ((A8 ((Int.tmod (F1 a (Ab (p4+1))) 2)*4294967296))+(F1 a p4))) 2)))) else none else none else none else none else bif (Fa p3) then some (.agg [.bool (Ar (wv n p3)),.ints .arg .u32 (Ac (wv n p3))]) else none :=
 Eq.trans (by kernel_rfl)
 (Fq (Cy (Cr (Fa a)) (Cy (Cr (Fa a)) (Cy (J1 (decide (0≤p4)) (decide (p4<(length p3:Int)))) (Cy (Cr (decide ((toNat p4)<(length p3)))) rfl rfl) rfl) rfl) rfl) rfl)
theorem Ad.Gd.ev:By Ad.Gd.E N f173 (An f173) [.agg [.bool n,.ints .arg .u32 a]]=bif (((decide ((0:Int)≤(length a:Int)))&&(decide ((length a:Int)≤(length a:Int))))&&(decide ((length a:Int)≤Ga))) then Ad.Gd.L0 N N n a 0 (List.replicate (toNat (length a:Int)) 0) else none:=by kernel_rfl
end
abbrev _root_.Go.Proofs.S1.Ad.Gd.Kn:=A7 prog 173 Ad.Gd.spec
theorem Ad.Gd.Ae (hk:A1 prog Ad.Gd.Bf) (h:Hyp Ad.Gd.E f173 Ad.Gd.ts Ad.Gd.pre Ad.Gd.out):Ad.Gd.Kn :=
 Am (A3 hk _ _ _) func173 (by kernel_rfl) (by kernel_rfl) h
def Ad.Bs.hint:Nat→Option A9
 | 0=>some { keep:=[1,2,4],objs:=[],boxes:=[2,4] }
 | 2=>some { keep:=[1,2,4],objs:=[],boxes:=[2,4] }
 | 4=>some { keep:=[1,2,4],objs:=[],boxes:=[2,4] }
 | 6=>some { keep:=[1,2,4],objs:=[],boxes:=[2,4] }
 | _=>none
def Ad.Bs.Bf:List (Nat × Entry):=[(222,Ad.Eh.spec),(173,Ad.Gd.spec),(171,Ad.Made.spec)]
def Ad.Bs.E:Env:=Bg (Be Ad.Bs.Bf) (fun _=>false) Ad.Bs.hint (fun _=>none)
section
variable (N:Nat) (n:Bool) (a:List Int) (k:Int) (M:Nat) (p1_3:Int) (p2_6:Bool) (p2_7:List Int) (p1_2:Int) (p2_4:Bool) (p2_5:List Int) (p1_1:Int) (p2_2:Bool) (p2_3:List Int) (p1:Int) (p2:Bool) (p2_1:List Int)
def Ad.Bs.L0:Option DV:=Bx Ad.Bs.E N f178 (An f178) [1,0,0] [] M ⟨Gm 63 [(1,.int .i64 p1),(2,.ptr 2 0 0),(4,.ptr 4 0 0)],[(2,false,.box [.bool p2,.ints .arg .u32 p2_1]),(4,false,.box [.bool false,.nil])]⟩
def Ad.Bs.L1:Option DV:=Bx Ad.Bs.E N f178 (An f178) [1,1,0,0] [] M ⟨Gm 63 [(1,.int .i64 p1_1),(2,.ptr 2 0 0),(4,.ptr 4 0 0)],[(2,false,.box [.bool p2_2,.ints .arg .u32 p2_3]),(4,false,.box [.bool false,.nil])]⟩
def Ad.Bs.L2:Option DV:=Bx Ad.Bs.E N f178 (An f178) [1,1,1,0,0] [] M ⟨Gm 63 [(1,.int .i64 p1_2),(2,.ptr 2 0 0),(4,.ptr 4 0 0)],[(2,false,.box [.bool p2_4,.ints .arg .u32 p2_5]),(4,false,.box [.bool false,.nil])]⟩
def Ad.Bs.L3:Option DV:=Bx Ad.Bs.E N f178 (An f178) [1,1,1,1,0,0] [] M ⟨Gm 63 [(1,.int .i64 p1_3),(2,.ptr 2 0 0),(4,.ptr 4 0 0)],[(2,false,.box [.bool p2_6,.ints .arg .u32 p2_7]),(4,false,.box [.bool false,.nil])]⟩
theorem Ad.Bs.Ax:Ad.Bs.L0 N (M+1) p1 p2 p2_1=bif ((Dy 32 p1)&&(A6 0 (length p2_1:Int))) then bif (decide (1+(length p2_1)≤Ga)) then bif (Fa ([(0:Int)]++p2_1)) then Ad.Bs.L0 N M (Ab (p1-32)) (Ar (wv p2 ([(0:Int)]++p2_1))) (Ac (wv p2 ([(0:Int)]++p2_1))) else none else none else Ad.Bs.L1 N N p1 p2 p2_1 :=
 Eq.trans (by kernel_rfl)
 (Ay (Nv (Dy 32 p1)) (Ay (Kf (Dy 32 p1)) (Ay (Kf (Dy 32 p1)) (Ay (Kf (Dy 32 p1)) (Ay (S9 (Dy 32 p1)) (Cy (tt1 (Dy 32 p1) (A6 0 (length p2_1:Int))) (Cy (Cr (decide (1+(length p2_1)≤Ga))) (Cy (Cr (Fa ([(0:Int)]++p2_1))) rfl rfl) rfl) rfl))))))
theorem Ad.Bs.Cc:Ad.Bs.L1 N (M+1) p1_1 p2_2 p2_3=bif ((A6 0 p1_1)&&(A6 0 (length p2_3:Int))) then bif (Ml p2_2 p2_3) then Ad.Bs.L1 N M (Ab (p1_1-1)) (Ar (2*wv p2_2 p2_3)) (Ac (2*wv p2_2 p2_3)) else none else Ad.Bs.L2 N N p1_1 p2_2 p2_3 :=
 Eq.trans (by kernel_rfl)
 (Ay (Nv (A6 0 p1_1)) (Ay (Kf (A6 0 p1_1)) (Ay (Kf (A6 0 p1_1)) (Ay (Kf (A6 0 p1_1)) (Ay (S9 (A6 0 p1_1)) (Cy (tt1 (A6 0 p1_1) (A6 0 (length p2_3:Int))) rfl rfl))))))
theorem Ad.Bs.E1:Ad.Bs.L2 N (M+1) p1_2 p2_4 p2_5=bif ((Dy p1_2 (-32:Int))&&(A6 0 (length p2_5:Int))) then bif (decide ((1:Int)≤(length p2_5:Int))) then bif (Fa (List.drop 1 p2_5)) then Ad.Bs.L2 N M (Ab (p1_2+32)) (Ar (wv p2_4 (List.drop 1 p2_5))) (Ac (wv p2_4 (List.drop 1 p2_5))) else none else none else Ad.Bs.L3 N N p1_2 p2_4 p2_5 :=
 Eq.trans (by kernel_rfl)
 (Ay (Nv (Dy p1_2 (-32:Int))) (Ay (Kf (Dy p1_2 (-32:Int))) (Ay (Kf (Dy p1_2 (-32:Int))) (Ay (Kf (Dy p1_2 (-32:Int))) (Ay (S9 (Dy p1_2 (-32:Int))) (Cy (tt1 (Dy p1_2 (-32:Int)) (A6 0 (length p2_5:Int))) (Cy (Arx (decide ((1:Int)≤(length p2_5:Int)))) (Cy (Cr (Fa (List.drop 1 p2_5))) rfl rfl) rfl) rfl))))))
theorem Ad.Bs.Pf:Ad.Bs.L3 N (M+1) p1_3 p2_6 p2_7=bif ((A6 p1_3 0)&&(A6 0 (length p2_7:Int))) then bif (Ml p2_6 p2_7) then Ad.Bs.L3 N M (Ab (p1_3+1)) (Ar (H2 (wv p2_6 p2_7) 1)) (Ac (H2 (wv p2_6 p2_7) 1)) else none else some (.agg [.bool p2_6,.ints .arg .u32 p2_7]) :=
 Eq.trans (by kernel_rfl)
 (Ay (Nv (A6 p1_3 0)) (Ay (Kf (A6 p1_3 0)) (Ay (Kf (A6 p1_3 0)) (Ay (Kf (A6 p1_3 0)) (Ay (S9 (A6 p1_3 0)) (Cy (tt1 (A6 p1_3 0) (A6 0 (length p2_7:Int))) rfl rfl))))))
theorem Ad.Bs.ev:By Ad.Bs.E N f178 (An f178) [.agg [.bool n,.ints .arg .u32 a],.int .i64 k] =
 Ad.Bs.L0 N N k n a:=by kernel_rfl
end
abbrev _root_.Go.Proofs.S1.Ad.Bs.Kn:=A7 prog 178 Ad.Bs.spec
theorem Ad.Bs.Ae (hk:A1 prog Ad.Bs.Bf) (h:Hyp Ad.Bs.E f178 Ad.Bs.ts Ad.Bs.pre Ad.Bs.out):Ad.Bs.Kn :=
 Am (A3 hk _ _ _) func178 (by kernel_rfl) (by kernel_rfl) h
def Ad.S5.Bf:List (Nat × Entry):=[]
def Ad.S5.E:Env:=Bg (Be Ad.S5.Bf) (fun _=>false) (fun _=>none) (fun _=>none)
theorem Ad.S5.ev (N:Nat) (n:Bool) (a:List Int):By Ad.S5.E N f172 (An f172) [.agg [.bool n,.ints .arg .u32 a]]=bif ((!(A6 0 (length a:Int)))||(decide ((0:Int)<(length a:Int)))) then some (.bool (bif (A6 0 (length a:Int)) then ((Int.tmod (getD a 0 0) 2)==(1:Int)) else false)) else none :=
 Eq.trans (by kernel_rfl)
 (Ay (Nv (A6 0 (length a:Int))) (Ay (Kf (A6 0 (length a:Int))) (Cy (At4 (A6 0 (length a:Int)) (decide ((0:Int)<(length a:Int)))) (Ay (Kf (A6 0 (length a:Int))) (Ay (Kf (A6 0 (length a:Int))) (Ay (Kf (A6 0 (length a:Int))) (Ay (S9 (A6 0 (length a:Int))) rfl)))) rfl)))
abbrev _root_.Go.Proofs.S1.Ad.S5.Kn:=A7 prog 172 Ad.S5.spec
theorem Ad.S5.Ae (hk:A1 prog Ad.S5.Bf) (h:Hyp Ad.S5.E f172 Ad.S5.ts Ad.S5.pre Ad.S5.out):Ad.S5.Kn :=
 Am (A3 hk _ _ _) func172 (by kernel_rfl) (by kernel_rfl) h
end EqRefB
end Go.Proofs.S1
end
