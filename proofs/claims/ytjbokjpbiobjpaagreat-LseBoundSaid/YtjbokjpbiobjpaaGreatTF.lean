/- A verified evaluator of the program's form and its use for this seat: S1Specs, S1Tt, S1EqSoft, S1PSoft, S1EqRefD, S1PRefD, S1EqRefA, S1PRefA, S1PRefAa, S1EqRefB, S1PRefB, S1PRefBa, S1EqRefC, S1PRefC, S1PRefCa, S1EqRefE, S1PRefV, S1PPack. -/
import Derived.Test.YtjbokjpbiobjpaaGreatTE
set_option linter.unusedVariables false
set_option linter.unusedSimpArgs false
noncomputable section
open Int (toNat)
open List (length getD)
open Go.Proofs.Tryz
namespace Go.Proofs.S1
open Go Go.Den Go.Rnd
def soft.Split.pre:List Atom→Bool
 | [.i x]=>Ah x
 | _=>false
def soft.Split.out:List Atom→DV
 | [.i x]=>.agg [.bool (Dm x),.int .i64 (Kf x),.int .u64 (Cg x)]
 | _=>.undef
abbrev soft.Split.ts:List AT:=[.i .u64]
def soft.Split.spec:Entry:=entry soft.Split.ts soft.Split.pre soft.Split.out
def soft.Kind.pre:List Atom→Bool
 | [.i x]=>Ah x
 | _=>false
def soft.Kind.out:List Atom→DV
 | [.i x]=>.int .i64 (Av x)
 | _=>.undef
abbrev soft.Kind.ts:List AT:=[.i .u64]
def soft.Kind.spec:Entry:=entry soft.Kind.ts soft.Kind.pre soft.Kind.out
def soft.Sign.pre:List Atom→Bool
 | [.i x]=>Ah x
 | _=>false
def soft.Sign.out:List Atom→DV
 | [.i x]=>.bool (Dm x)
 | _=>.undef
abbrev soft.Sign.ts:List AT:=[.i .u64]
def soft.Sign.spec:Entry:=entry soft.Sign.ts soft.Sign.pre soft.Sign.out
def soft.Finite.pre:List Atom→Bool
 | [.i x]=>Ah x
 | _=>false
def soft.Finite.out:List Atom→DV
 | [.i x]=>.bool (Cq x)
 | _=>.undef
abbrev soft.Finite.ts:List AT:=[.i .u64]
def soft.Finite.spec:Entry:=entry soft.Finite.ts soft.Finite.pre soft.Finite.out
def soft.E9.pre:List Atom→Bool
 | [.i x]=>Ah x
 | _=>false
def soft.E9.out:List Atom→DV
 | [.i x]=>.int .u64 (Dk x)
 | _=>.undef
abbrev soft.E9.ts:List AT:=[.i .u64]
def soft.E9.spec:Entry:=entry soft.E9.ts soft.E9.pre soft.E9.out
def soft.Ex.pre:List Atom→Bool
 | [.i x]=>Ah x
 | _=>false
def soft.Ex.out:List Atom→DV
 | [.i x]=>.tup [.int .u64 (Bc x),.int .i64 (A3 x)]
 | _=>.undef
abbrev soft.Ex.ts:List AT:=[.i .u64]
def soft.Ex.spec:Entry:=entry soft.Ex.ts soft.Ex.pre soft.Ex.out
def soft.Pack.mu:List Atom→Nat
 | [.b _n,.i m,.i e]=>Nf m e
 | _=>0
def soft.Pack.pre:List Atom→Bool
 | [.b _n,.i m,.i e]=>Js m e
 | _=>false
def soft.Pack.out:List Atom→DV
 | [.b n,.i m,.i e]=>.int .u64 (Rx n m e)
 | _=>.undef
abbrev soft.Pack.ts:List AT:=[.b,.i .u64,.i .i64]
def soft.Pack.spec:Entry:=entry soft.Pack.ts soft.Pack.pre soft.Pack.out
def soft.Cu.pre:List Atom→Bool
 | [.b _n,.i m,.i e,.b r]=>D1 m e r
 | _=>false
def soft.Cu.out:List Atom→DV
 | [.b n,.i m,.i e,.b r]=>.tup [.int .u64 (Ee n m e r),.int .u8 (Ed n m e r)]
 | _=>.undef
abbrev soft.Cu.ts:List AT:=[.b,.i .u64,.i .i64,.b]
def soft.Cu.spec:Entry:=entry soft.Cu.ts soft.Cu.pre soft.Cu.out
def sum.right.pre:List Atom→Bool
 | [.i m,.i d]=>Ah m&&Cw (0≤d∧d<1000000)
 | _=>false
def sum.right.out:List Atom→DV
 | [.i m,.i d]=>.int .u64 (Eo m d)
 | _=>.undef
abbrev sum.right.ts:List AT:=[.i .u64,.i .i64]
def sum.right.spec:Entry:=entry sum.right.ts sum.right.pre sum.right.out
def sum.Dr.pre:List Atom→Bool
 | [.i a,.i b]=>(Ah a&&Ah b)&&(!(Cq a)||!(Cq b))
 | _=>false
def sum.Dr.out:List Atom→DV
 | [.i a,.i b]=>.tup [.int .u64 (I8 a b),.int .u8 (Uu a b)]
 | _=>.undef
abbrev sum.Dr.ts:List AT:=[.i .u64,.i .u64]
def sum.Dr.spec:Entry:=entry sum.Dr.ts sum.Dr.pre sum.Dr.out
def sum.Add.pre:List Atom→Bool
 | [.i a,.i b]=>Ah a&&Ah b
 | _=>false
def sum.Add.out:List Atom→DV
 | [.i a,.i b]=>.tup [.int .u64 (I8 a b),.int .u8 (Uu a b)]
 | _=>.undef
abbrev sum.Add.ts:List AT:=[.i .u64,.i .u64]
def sum.Add.spec:Entry:=entry sum.Add.ts sum.Add.pre sum.Add.out
def sum.Sub.pre:List Atom→Bool
 | [.i a,.i b]=>Ah a&&Ah b
 | _=>false
def sum.Sub.out:List Atom→DV
 | [.i a,.i b]=>.tup [.int .u64 (Dl a b),.int .u8 (Auk a b)]
 | _=>.undef
abbrev sum.Sub.ts:List AT:=[.i .u64,.i .u64]
def sum.Sub.spec:Entry:=entry sum.Sub.ts sum.Sub.pre sum.Sub.out
def Ax.Neg.pre:List Atom→Bool
 | [.i x]=>Ah x
 | _=>false
def Ax.Neg.out:List Atom→DV
 | [.i x]=>.bool (Dm x)
 | _=>.undef
abbrev Ax.Neg.ts:List AT:=[.i .u64]
def Ax.Neg.spec:Entry:=entry Ax.Neg.ts Ax.Neg.pre Ax.Neg.out
def Ax.Power.pre:List Atom→Bool
 | [.i x]=>N8 x
 | _=>false
def Ax.Power.out:List Atom→DV
 | [.i x]=>.int .i64 (Kf x)
 | _=>.undef
abbrev Ax.Power.ts:List AT:=[.i .u64]
def Ax.Power.spec:Entry:=entry Ax.Power.ts Ax.Power.pre Ax.Power.out
def Ax.I1.pre:List Atom→Bool
 | [.i x]=>N8 x
 | _=>false
def Ax.I1.out:List Atom→DV
 | [.i x]=>.int .u64 (Cg x)
 | _=>.undef
abbrev Ax.I1.ts:List AT:=[.i .u64]
def Ax.I1.spec:Entry:=entry Ax.I1.ts Ax.I1.pre Ax.I1.out
def Ax.Kind.pre:List Atom→Bool
 | [.i x]=>N8 x
 | _=>false
def Ax.Kind.out:List Atom→DV
 | [.i x]=>.int .i64 (Av x)
 | _=>.undef
abbrev Ax.Kind.ts:List AT:=[.i .u64]
def Ax.Kind.spec:Entry:=entry Ax.Kind.ts Ax.Kind.pre Ax.Kind.out
def Ax.Finite.pre:List Atom→Bool
 | [.i x]=>Ah x
 | _=>false
def Ax.Finite.out:List Atom→DV
 | [.i x]=>.bool (Cq x)
 | _=>.undef
abbrev Ax.Finite.ts:List AT:=[.i .u64]
def Ax.Finite.spec:Entry:=entry Ax.Finite.ts Ax.Finite.pre Ax.Finite.out
def B8.Bf.pre:List Atom→Bool
 | [.i x]=>Ah x
 | _=>false
def B8.Bf.out:List Atom→DV
 | [.i x]=>.int .i64 (64-Ef x)
 | _=>.undef
abbrev B8.Bf.ts:List AT:=[.i .u64]
def B8.Bf.spec:Entry:=entry B8.Bf.ts B8.Bf.pre B8.Bf.out
def B8.Gl.pre:List Atom→Bool
 | [.i x,.i y]=>Ah x&&Ah y
 | _=>false
def B8.Gl.out:List Atom→DV
 | [.i x,.i y]=>.tup [.int .u64 (Qe x y),.int .u64 (Lu x y)]
 | _=>.undef
abbrev B8.Gl.ts:List AT:=[.i .u64,.i .u64]
def B8.Gl.spec:Entry:=entry B8.Gl.ts B8.Gl.pre B8.Gl.out
def times.signed.pre:List Atom→Bool
 | [.i b,.b _n]=>Ah b
 | _=>false
def times.signed.out:List Atom→DV
 | [.i b,.b n]=>.int .u64 (Qb n b)
 | _=>.undef
abbrev times.signed.ts:List AT:=[.i .u64,.b]
def times.signed.spec:Entry:=entry times.signed.ts times.signed.pre times.signed.out
def times.nan.pre:List Atom→Bool
 | [.i a,.i b]=>Ah a&&Ah b
 | _=>false
def times.nan.out:List Atom→DV
 | [.i a,.i b]=>.bool (Ak4 a b)
 | _=>.undef
abbrev times.nan.ts:List AT:=[.i .u64,.i .u64]
def times.nan.spec:Entry:=entry times.nan.ts times.nan.pre times.nan.out
def times.norm.pre:List Atom→Bool
 | [.i b]=>Ah b&&Kt b
 | _=>false
def times.norm.out:List Atom→DV
 | [.i b]=>.tup [.int .u64 (Cj b),.int .i64 (Gs b)]
 | _=>.undef
abbrev times.norm.ts:List AT:=[.i .u64]
def times.norm.spec:Entry:=entry times.norm.ts times.norm.pre times.norm.out
def times.wide.pre:List Atom→Bool
 | [.b _n,.i m,.i e,.b _r]=>M7 m e
 | _=>false
def times.wide.out:List Atom→DV
 | [.b n,.i m,.i e,.b r]=>.tup [.int .u64 (Ee n m e r),.int .u8 (Ed n m e r)]
 | _=>.undef
abbrev times.wide.ts:List AT:=[.b,.i .u64,.i .i64,.b]
def times.wide.spec:Entry:=entry times.wide.ts times.wide.pre times.wide.out
def times.Mul.pre:List Atom→Bool
 | [.i a,.i b]=>Ah a&&Ah b
 | _=>false
def times.Mul.out:List Atom→DV
 | [.i a,.i b]=>.tup [.int .u64 (Eh a b),.int .u8 (Aur a b)]
 | _=>.undef
abbrev times.Mul.ts:List AT:=[.i .u64,.i .u64]
def times.Mul.spec:Entry:=entry times.Mul.ts times.Mul.pre times.Mul.out
def times.Div.pre:List Atom→Bool
 | [.i a,.i b]=>Ah a&&Ah b
 | _=>false
def times.Div.out:List Atom→DV
 | [.i a,.i b]=>.tup [.int .u64 (Fp a b),.int .u8 (Au0 a b)]
 | _=>.undef
abbrev times.Div.ts:List AT:=[.i .u64,.i .u64]
def times.Div.spec:Entry:=entry times.Div.ts times.Div.pre times.Div.out
def Ac.Add.pre:List Atom→Bool
 | [.i a,.i b]=>Ah a&&Ah b
 | _=>false
def Ac.Add.out:List Atom→DV
 | [.i a,.i b]=>.int .u64 (I8 a b)
 | _=>.undef
abbrev Ac.Add.ts:List AT:=[.i .u64,.i .u64]
def Ac.Add.spec:Entry:=entry Ac.Add.ts Ac.Add.pre Ac.Add.out
def Ac.Sub.pre:List Atom→Bool
 | [.i a,.i b]=>Ah a&&Ah b
 | _=>false
def Ac.Sub.out:List Atom→DV
 | [.i a,.i b]=>.int .u64 (Dl a b)
 | _=>.undef
abbrev Ac.Sub.ts:List AT:=[.i .u64,.i .u64]
def Ac.Sub.spec:Entry:=entry Ac.Sub.ts Ac.Sub.pre Ac.Sub.out
def Ac.Mul.pre:List Atom→Bool
 | [.i a,.i b]=>Ah a&&Ah b
 | _=>false
def Ac.Mul.out:List Atom→DV
 | [.i a,.i b]=>.int .u64 (Eh a b)
 | _=>.undef
abbrev Ac.Mul.ts:List AT:=[.i .u64,.i .u64]
def Ac.Mul.spec:Entry:=entry Ac.Mul.ts Ac.Mul.pre Ac.Mul.out
def Ac.fit.pre:List Atom→Bool
 | [.l _x,.l _y]=>true
 | _=>false
def Ac.fit.out:List Atom→DV
 | [.l x,.l y]=>.bool (Tu x y)
 | _=>.undef
abbrev Ac.fit.ts:List AT:=[.s .u64,.s .u64]
def Ac.fit.spec:Entry:=entry Ac.fit.ts Ac.fit.pre Ac.fit.out
def Ac.M6.pre:List Atom→Bool
 | [.l x,.l y]=>(Tu x y&&Af x)&&Af y
 | _=>false
def Ac.M6.out:List Atom→DV
 | [.l x,.l y]=>.tup [.int .u64 (Oc x y),.int .i64 (0:Int)]
 | _=>.undef
abbrev Ac.M6.ts:List AT:=[.s .u64,.s .u64]
def Ac.M6.spec:Entry:=entry Ac.M6.ts Ac.M6.pre Ac.M6.out
def Bh.D2.pre:List Atom→Bool
 | [.l x,.l _y]=>R3 x
 | _=>false
def Bh.D2.out:List Atom→DV
 | [.l x,.l y]=>.bool (Rq x y)
 | _=>.undef
abbrev Bh.D2.ts:List AT:=[.s .u64,.s .u64]
def Bh.D2.spec:Entry:=entry Bh.D2.ts Bh.D2.pre Bh.D2.out
def Aa.size.pre:List Atom→Bool
 | [.i _n]=>true
 | _=>false
def Aa.size.out:List Atom→DV
 | [.i n]=>.bool (Bj n)
 | _=>.undef
abbrev Aa.size.ts:List AT:=[.i .i64]
def Aa.size.spec:Entry:=entry Aa.size.ts Aa.size.pre Aa.size.out
def Aa.Check.pre:List Atom→Bool
 | [.i _r,.i _c,.l _l]=>true
 | _=>false
def Aa.Check.out:List Atom→DV
 | [.i r,.i c,.l l]=>.int .i64 (Jo r c l)
 | _=>.undef
abbrev Aa.Check.ts:List AT:=[.st [.i .i64,.i .i64,.s .u64]]
def Aa.Check.spec:Entry:=entry Aa.Check.ts Aa.Check.pre Aa.Check.out
def Aa.get.pre:List Atom→Bool
 | [.i r,.i c,.l l,.i i,.i k]=>D4 r c l i k
 | _=>false
def Aa.get.out:List Atom→DV
 | [.i _r,.i c,.l l,.i i,.i k]=>.int .u64 (Di c l i k)
 | _=>.undef
abbrev Aa.get.ts:List AT:=[.st [.i .i64,.i .i64,.s .u64],.i .i64,.i .i64]
def Aa.get.spec:Entry:=entry Aa.get.ts Aa.get.pre Aa.get.out
def Aa.two.pre:List Atom→Bool
 | [.i _r,.i _c,.l _l,.i _p,.i _q,.l _m]=>true
 | _=>false
def Aa.two.out:List Atom→DV
 | [.i r,.i c,.l l,.i p,.i q,.l m]=>.int .i64 (S3 r c l p q m)
 | _=>.undef
abbrev Aa.two.ts:List AT:=[.st [.i .i64,.i .i64,.s .u64],.st [.i .i64,.i .i64,.s .u64]]
def Aa.two.spec:Entry:=entry Aa.two.ts Aa.two.pre Aa.two.out
def Aa.Row.pre:List Atom→Bool
 | [.i r,.i c,.l l,.i i,.i f]=>V6 r c l i&&decide (f=0)
 | _=>false
def Aa.Row.out:List Atom→DV
 | [.i _r,.i c,.l l,.i i,.i _f]=>.ints .fresh .u64 (Jy c l i)
 | _=>.undef
abbrev Aa.Row.ts:List AT:=[.st [.i .i64,.i .i64,.s .u64],.i .i64,.i .i64]
def Aa.Row.spec:Entry:=entry Aa.Row.ts Aa.Row.pre Aa.Row.out
def Aa.C3.pre:List Atom→Bool
 | [.i r,.i c,.l l,.i k,.i f]=>Lg r c l k&&Cw (0≤f∧f≤r)
 | _=>false
def Aa.C3.out:List Atom→DV
 | [.i r,.i c,.l l,.i k,.i f]=>.ints .fresh .u64 (Ds c l k f (toNat (r-f)))
 | _=>.undef
abbrev Aa.C3.ts:List AT:=[.st [.i .i64,.i .i64,.s .u64],.i .i64,.i .i64]
def Aa.C3.spec:Entry:=entry Aa.C3.ts Aa.C3.pre Aa.C3.out
def Aa.Dn.pre:List Atom→Bool
 | [.i _i,.i _k]=>true
 | _=>false
def Aa.Dn.out:List Atom→DV
 | [.i _i,.i _k]=>.int .u64 (0:Int)
 | _=>.undef
abbrev Aa.Dn.ts:List AT:=[.i .i64,.i .i64]
def Aa.Dn.spec:Entry:=entry Aa.Dn.ts Aa.Dn.pre Aa.Dn.out
def Aa.Gn.pre:List Atom→Bool
 | [.i _i,.i _k]=>true
 | _=>false
def Aa.Gn.out:List Atom→DV
 | [.i i,.i k]=>.int .u64 (Sk i k)
 | _=>.undef
abbrev Aa.Gn.ts:List AT:=[.i .i64,.i .i64]
def Aa.Gn.spec:Entry:=entry Aa.Gn.ts Aa.Gn.pre Aa.Gn.out
def Aa.Er.pre:List Atom→Bool
 | [.i i,.i k,.i r,.i c,.l l]=>D4 r c l k i
 | _=>false
def Aa.Er.out:List Atom→DV
 | [.i i,.i k,.i _r,.i c,.l l]=>.int .u64 (Di c l k i)
 | _=>.undef
abbrev Aa.Er.ts:List AT:=[.i .i64,.i .i64,.cp [.i .i64,.i .i64,.s .u64]]
def Aa.Er.spec:Entry:=entry Aa.Er.ts Aa.Er.pre Aa.Er.out
def Aa.Es.pre:List Atom→Bool
 | [.i i,.i k,.i r,.i c,.l l,.i x,.i y]=>D4 r c l (x+i) (y+k)&&Tb x y i k
 | _=>false
def Aa.Es.out:List Atom→DV
 | [.i i,.i k,.i _r,.i c,.l l,.i x,.i y]=>.int .u64 (Di c l (x+i) (y+k))
 | _=>.undef
abbrev Aa.Es.ts:List AT:=[.i .i64,.i .i64,.cp [.i .i64,.i .i64,.s .u64],.cp [.i .i64],.cp [.i .i64]]
def Aa.Es.spec:Entry:=entry Aa.Es.ts Aa.Es.pre Aa.Es.out
def Aa.Gj.pre:List Atom→Bool
 | [.i i,.i k,.i r,.i c,.l l,.i p,.i q,.l m]=>((D4 r c l i k&&D4 p q m i k)&&Af l)&&Af m
 | _=>false
def Aa.Gj.out:List Atom→DV
 | [.i i,.i k,.i _r,.i c,.l l,.i _p,.i q,.l m]=>.int .u64 (Dl (Di c l i k) (Di q m i k))
 | _=>.undef
abbrev Aa.Gj.ts:List AT:=[.i .i64,.i .i64,.cp [.i .i64,.i .i64,.s .u64],.cp [.i .i64,.i .i64,.s .u64]]
def Aa.Gj.spec:Entry:=entry Aa.Gj.ts Aa.Gj.pre Aa.Gj.out
def Aa.Du.pre:List Atom→Bool
 | [.i i,.i k,.i r,.i c,.l l,.i p,.i q,.l m]=>K6 r c l p q m i k
 | _=>false
def Aa.Du.out:List Atom→DV
 | [.i i,.i k,.i r,.i c,.l l,.i _p,.i q,.l m]=>.int .u64 (Hm r c l q m i k)
 | _=>.undef
abbrev Aa.Du.ts:List AT:=[.i .i64,.i .i64,.cp [.i .i64,.i .i64,.s .u64],.cp [.i .i64,.i .i64,.s .u64]]
def Aa.Du.spec:Entry:=entry Aa.Du.ts Aa.Du.pre Aa.Du.out
def Aa.Gk.pre:List Atom→Bool
 | [.i i,.i k,.i r,.i c,.l l,.i p,.i q,.l m]=>Qx r c l p q m i k
 | _=>false
def Aa.Gk.out:List Atom→DV
 | [.i i,.i k,.i _r,.i c,.l l,.i p,.i q,.l m]=>.int .u64 (Oc (Jy c l i) (P9 p q m k))
 | _=>.undef
abbrev Aa.Gk.ts:List AT:=[.i .i64,.i .i64,.cp [.i .i64,.i .i64,.s .u64],.cp [.i .i64,.i .i64,.s .u64]]
def Aa.Gk.spec:Entry:=entry Aa.Gk.ts Aa.Gk.pre Aa.Gk.out
def Aa.of.Gx.pre:List Atom→Bool
 | [.i a,.i b]=>(Bj a&&Bj b)
 | _=>false
def Aa.of.Gx.out:List Atom→DV
 | [.i a,.i b]=>.agg [.int .i64 a,.int .i64 b,.ints .fresh .u64 (Cd (toNat a) (toNat b) (fun j1 j2=>Sk j1 j2))]
 | _=>.undef
abbrev Aa.of.Gx.ts:List AT:=[.i .i64,.i .i64,.fn 246 []]
def Aa.of.Gx.spec:Entry:=entry Aa.of.Gx.ts Aa.of.Gx.pre Aa.of.Gx.out
def Aa.of.C6.pre:List Atom→Bool
 | [.i a,.i b,.i r,.i c,.l l]=>(Bj a&&Bj b)&&Ak r c l&&decide (a=c∧b=r)
 | _=>false
def Aa.of.C6.out:List Atom→DV
 | [.i a,.i b,.i _r,.i c,.l l]=>.agg [.int .i64 a,.int .i64 b,.ints .fresh .u64 (Cd (toNat a) (toNat b) (fun j1 j2=>Di c l j2 j1))]
 | _=>.undef
abbrev Aa.of.C6.ts:List AT:=[.i .i64,.i .i64,.fn 220 [.cp [.i .i64,.i .i64,.s .u64]]]
def Aa.of.C6.spec:Entry:=entry Aa.of.C6.ts Aa.of.C6.pre Aa.of.C6.out
def Aa.of.Part.pre:List Atom→Bool
 | [.i a,.i b,.i r,.i c,.l l,.i x,.i y]=>(Bj a&&Bj b)&&Ak r c l&&La r c x y a b
 | _=>false
def Aa.of.Part.out:List Atom→DV
 | [.i a,.i b,.i _r,.i c,.l l,.i x,.i y]=>.agg [.int .i64 a,.int .i64 b,.ints .fresh .u64 (Cd (toNat a) (toNat b) (fun j1 j2=>Di c l (x+j1) (y+j2)))]
 | _=>.undef
abbrev Aa.of.Part.ts:List AT:=[.i .i64,.i .i64,.fn 192 [.cp [.i .i64,.i .i64,.s .u64],.cp [.i .i64],.cp [.i .i64]]]
def Aa.of.Part.spec:Entry:=entry Aa.of.Part.ts Aa.of.Part.pre Aa.of.Part.out
def Aa.of.Sub.pre:List Atom→Bool
 | [.i a,.i b,.i r,.i c,.l l,.i p,.i q,.l m]=>(Bj a&&Bj b)&&((Ak r c l&&Ak p q m)&&(Af l&&Af m))&&decide (a=r∧b=c∧p=r∧q=c)
 | _=>false
def Aa.of.Sub.out:List Atom→DV
 | [.i a,.i b,.i _r,.i c,.l l,.i _p,.i q,.l m]=>.agg [.int .i64 a,.int .i64 b,.ints .fresh .u64 (Cd (toNat a) (toNat b) (fun j1 j2=>Dl (Di c l j1 j2) (Di q m j1 j2)))]
 | _=>.undef
abbrev Aa.of.Sub.ts:List AT:=[.i .i64,.i .i64,.fn 194 [.cp [.i .i64,.i .i64,.s .u64],.cp [.i .i64,.i .i64,.s .u64]]]
def Aa.of.Sub.spec:Entry:=entry Aa.of.Sub.ts Aa.of.Sub.pre Aa.of.Sub.out
def Aa.of.Stack.pre:List Atom→Bool
 | [.i a,.i b,.i r,.i c,.l l,.i p,.i q,.l m]=>(Bj a&&Bj b)&&(Ak r c l&&Ak p q m)&&decide (a=r+p∧b=c∧q=c)
 | _=>false
def Aa.of.Stack.out:List Atom→DV
 | [.i a,.i b,.i r,.i c,.l l,.i _p,.i q,.l m]=>.agg [.int .i64 a,.int .i64 b,.ints .fresh .u64 (Cd (toNat a) (toNat b) (fun j1 j2=>Hm r c l q m j1 j2))]
 | _=>.undef
abbrev Aa.of.Stack.ts:List AT:=[.i .i64,.i .i64,.fn 195 [.cp [.i .i64,.i .i64,.s .u64],.cp [.i .i64,.i .i64,.s .u64]]]
def Aa.of.Stack.spec:Entry:=entry Aa.of.Stack.ts Aa.of.Stack.pre Aa.of.Stack.out
def Aa.of.Mul.pre:List Atom→Bool
 | [.i a,.i b,.i r,.i c,.l l,.i p,.i q,.l m]=>(Bj a&&Bj b)&&((Ak r c l&&Ak p q m)&&(Af l&&Af m))&&decide (a=r∧b=q∧c=p)
 | _=>false
def Aa.of.Mul.out:List Atom→DV
 | [.i a,.i b,.i _r,.i c,.l l,.i p,.i q,.l m]=>.agg [.int .i64 a,.int .i64 b,.ints .fresh .u64 (Cd (toNat a) (toNat b) (fun j1 j2=>Oc (Jy c l j1) (P9 p q m j2)))]
 | _=>.undef
abbrev Aa.of.Mul.ts:List AT:=[.i .i64,.i .i64,.fn 188 [.cp [.i .i64,.i .i64,.s .u64],.cp [.i .i64,.i .i64,.s .u64]]]
def Aa.of.Mul.spec:Entry:=entry Aa.of.Mul.ts Aa.of.Mul.pre Aa.of.Mul.out
def Aa.Gx.pre:List Atom→Bool
 | [.i _n]=>true
 | _=>false
def Aa.Gx.out:List Atom→DV
 | [.i n]=>.tup [.agg [.int .i64 ((Le n).1),.int .i64 ((Le n).2.1),.ints .fresh .u64 ((Le n).2.2.1)],.int .i64 ((Le n).2.2.2)]
 | _=>.undef
abbrev Aa.Gx.ts:List AT:=[.i .i64]
def Aa.Gx.spec:Entry:=entry Aa.Gx.ts Aa.Gx.pre Aa.Gx.out
def Aa.C6.pre:List Atom→Bool
 | [.i _r,.i _c,.l _l]=>true
 | _=>false
def Aa.C6.out:List Atom→DV
 | [.i r,.i c,.l l]=>.tup [.agg [.int .i64 ((Cb r c l).1),.int .i64 ((Cb r c l).2.1),.ints .fresh .u64 ((Cb r c l).2.2.1)],.int .i64 ((Cb r c l).2.2.2)]
 | _=>.undef
abbrev Aa.C6.ts:List AT:=[.st [.i .i64,.i .i64,.s .u64]]
def Aa.C6.spec:Entry:=entry Aa.C6.ts Aa.C6.pre Aa.C6.out
def Aa.Part.pre:List Atom→Bool
 | [.i _r,.i _c,.l _l,.i _x,.i _y,.i _a,.i _b]=>true
 | _=>false
def Aa.Part.out:List Atom→DV
 | [.i r,.i c,.l l,.i x,.i y,.i a,.i b]=>.tup [.agg [.int .i64 ((Fk r c l x y a b).1),.int .i64 ((Fk r c l x y a b).2.1),.ints .fresh .u64 ((Fk r c l x y a b).2.2.1)],.int .i64 ((Fk r c l x y a b).2.2.2)]
 | _=>.undef
abbrev Aa.Part.ts:List AT:=[.st [.i .i64,.i .i64,.s .u64],.i .i64,.i .i64,.i .i64,.i .i64]
def Aa.Part.spec:Entry:=entry Aa.Part.ts Aa.Part.pre Aa.Part.out
def Aa.Sub.pre:List Atom→Bool
 | [.i _r,.i _c,.l l,.i _p,.i _q,.l m]=>Af l&&Af m
 | _=>false
def Aa.Sub.out:List Atom→DV
 | [.i r,.i c,.l l,.i p,.i q,.l m]=>.tup [.agg [.int .i64 ((Im r c l p q m).1),.int .i64 ((Im r c l p q m).2.1),.ints .fresh .u64 ((Im r c l p q m).2.2.1)],.int .i64 ((Im r c l p q m).2.2.2)]
 | _=>.undef
abbrev Aa.Sub.ts:List AT:=[.st [.i .i64,.i .i64,.s .u64],.st [.i .i64,.i .i64,.s .u64]]
def Aa.Sub.spec:Entry:=entry Aa.Sub.ts Aa.Sub.pre Aa.Sub.out
def Aa.Stack.pre:List Atom→Bool
 | [.i _r,.i _c,.l _l,.i _p,.i _q,.l _m]=>true
 | _=>false
def Aa.Stack.out:List Atom→DV
 | [.i r,.i c,.l l,.i p,.i q,.l m]=>.tup [.agg [.int .i64 ((Bz r c l p q m).1),.int .i64 ((Bz r c l p q m).2.1),.ints .fresh .u64 ((Bz r c l p q m).2.2.1)],.int .i64 ((Bz r c l p q m).2.2.2)]
 | _=>.undef
abbrev Aa.Stack.ts:List AT:=[.st [.i .i64,.i .i64,.s .u64],.st [.i .i64,.i .i64,.s .u64]]
def Aa.Stack.spec:Entry:=entry Aa.Stack.ts Aa.Stack.pre Aa.Stack.out
def Aa.Mul.pre:List Atom→Bool
 | [.i _r,.i _c,.l l,.i _p,.i _q,.l m]=>Af l&&Af m
 | _=>false
def Aa.Mul.out:List Atom→DV
 | [.i r,.i c,.l l,.i p,.i q,.l m]=>.tup [.agg [.int .i64 ((Ek r c l p q m).1),.int .i64 ((Ek r c l p q m).2.1),.ints .fresh .u64 ((Ek r c l p q m).2.2.1)],.int .i64 ((Ek r c l p q m).2.2.2)]
 | _=>.undef
abbrev Aa.Mul.ts:List AT:=[.st [.i .i64,.i .i64,.s .u64],.st [.i .i64,.i .i64,.s .u64]]
def Aa.Mul.spec:Entry:=entry Aa.Mul.ts Aa.Mul.pre Aa.Mul.out
def Cx.F9.pre:List Atom→Bool
 | [.i _r,.i _c,.l _l]=>true
 | _=>false
def Cx.F9.out:List Atom→DV
 | [.i r,.i c,.l l]=>.bool (Ak r c l)
 | _=>.undef
abbrev Cx.F9.ts:List AT:=[.st [.i .i64,.i .i64,.s .u64]]
def Cx.F9.spec:Entry:=entry Cx.F9.ts Cx.F9.pre Cx.F9.out
def Cx.D2.pre:List Atom→Bool
 | [.i _r,.i _c,.l l,.i _p,.i _q,.l _m]=>R3 l
 | _=>false
def Cx.D2.out:List Atom→DV
 | [.i r,.i c,.l l,.i p,.i q,.l m]=>.bool (Ua r c l p q m)
 | _=>.undef
abbrev Cx.D2.ts:List AT:=[.st [.i .i64,.i .i64,.s .u64],.st [.i .i64,.i .i64,.s .u64]]
def Cx.D2.spec:Entry:=entry Cx.D2.ts Cx.D2.pre Cx.D2.out
def Cx.Row.pre:List Atom→Bool
 | [.i r,.i c,.l l,.i i]=>V6 r c l i
 | _=>false
def Ar.Jh.pre:List Atom→Bool
 | [.l l,.i _i]=>Zz l
 | _=>false
def Ar.Jh.out:List Atom→DV
 | [.l l,.i i]=>.int .u64 (O1 l i)
 | _=>.undef
abbrev Ar.Jh.ts:List AT:=[.s .u32,.i .i64]
def Ar.Jh.spec:Entry:=entry Ar.Jh.ts Ar.Jh.pre Ar.Jh.out
def Ar.Made.pre:List Atom→Bool
 | [.b _n,.l l]=>Zz l
 | _=>false
def Ar.Made.out:List Atom→DV
 | [.b n,.l l]=>.agg [.bool (Ck (wv n l)),.ints .arg .u32 (A2 (wv n l))]
 | _=>.undef
abbrev Ar.Made.ts:List AT:=[.b,.s .u32]
def Ar.Made.spec:Entry:=entry Ar.Made.ts Ar.Made.pre Ar.Made.out
def Ar.Of.pre:List Atom→Bool
 | [.i n]=>Agl n
 | _=>false
def Ar.Of.out:List Atom→DV
 | [.i n]=>.agg [.bool (Ck (n)),.ints .arg .u32 (A2 (n))]
 | _=>.undef
abbrev Ar.Of.ts:List AT:=[.i .i64]
def Ar.Of.spec:Entry:=entry Ar.Of.ts Ar.Of.pre Ar.Of.out
def Ar.Neg.pre:List Atom→Bool
 | [.b n,.l a]=>Xh n a
 | _=>false
def Ar.Neg.out:List Atom→DV
 | [.b n,.l a]=>.agg [.bool (Ck (- wv n a)),.ints .arg .u32 (A2 (- wv n a))]
 | _=>.undef
abbrev Ar.Neg.ts:List AT:=[.st [.b,.s .u32]]
def Ar.Neg.spec:Entry:=entry Ar.Neg.ts Ar.Neg.pre Ar.Neg.out
def Ar.G0.pre:List Atom→Bool
 | [.b n,.l a]=>Xh n a
 | _=>false
def Ar.G0.out:List Atom→DV
 | [.b n,.l a]=>.agg [.bool (Ck (Ls (wv n a) 1)),.ints .arg .u32 (A2 (Ls (wv n a) 1))]
 | _=>.undef
abbrev Ar.G0.ts:List AT:=[.st [.b,.s .u32]]
def Ar.G0.spec:Entry:=entry Ar.G0.ts Ar.G0.pre Ar.G0.out
def Ar.E2.pre:List Atom→Bool
 | [.b n,.l a,.i k]=>okV n a&&Awk k
 | _=>false
def Ar.N7.pre:List Atom→Bool
 | [.b n,.l a]=>Xh n a
 | _=>false
def Ar.N7.out:List Atom→DV
 | [.b n,.l a]=>.int .i64 (Aad (wv n a))
 | _=>.undef
abbrev Ar.N7.ts:List AT:=[.st [.b,.s .u32]]
def Ar.N7.spec:Entry:=entry Ar.N7.ts Ar.N7.pre Ar.N7.out
def Ar.T3.pre:List Atom→Bool
 | [.b n,.l a]=>Xh n a
 | _=>false
def Ar.T3.out:List Atom→DV
 | [.b n,.l a]=>.bool (Ah0 (wv n a))
 | _=>.undef
abbrev Ar.T3.ts:List AT:=[.st [.b,.s .u32]]
def Ar.T3.spec:Entry:=entry Ar.T3.ts Ar.T3.pre Ar.T3.out
def Ca.Of.pre:List Atom→Bool
 | [.b n,.l a,.i e]=>Xh n a&&Aef e
 | _=>false
def Ca.Of.out:List Atom→DV
 | [.b n,.l a,.i e]=>.agg [.bool (Ck (mD (wv n a))),.ints .arg .u32 (A2 (mD (wv n a))),.int .i64 (eD (wv n a) e)]
 | _=>.undef
abbrev Ca.Of.ts:List AT:=[.st [.b,.s .u32],.i .i64]
def Ca.Of.spec:Entry:=entry Ca.Of.ts Ca.Of.pre Ca.Of.out
def Ca.T2.pre:List Atom→Bool
 | [.b n,.l a,.i e]=>Xh n a&&okE e
 | _=>false
def Ca.T2.out:List Atom→DV
 | [.b n,.l a,.i e]=>.int .i64 (Ag5 (wv n a) e)
 | _=>.undef
abbrev Ca.T2.ts:List AT:=[.st [.b,.s .u32,.i .i64]]
def Ca.T2.spec:Entry:=entry Ca.T2.ts Ca.T2.pre Ca.T2.out
def Ax.Value.pre:List Atom→Bool
 | [.i x]=>Ah x
 | _=>false
def Ax.Value.out:List Atom→DV
 | [.i x]=>.agg [.bool (Ck (mD (Hb x))),.ints .arg .u32 (A2 (mD (Hb x))),.int .i64 (eD (Hb x) (A3 x))]
 | _=>.undef
abbrev Ax.Value.ts:List AT:=[.i .u64]
def Ax.Value.spec:Entry:=entry Ax.Value.ts Ax.Value.pre Ax.Value.out
def compare.Je.pre:List Atom→Bool
 | [.i b]=>Ah b
 | _=>false
def compare.Je.out:List Atom→DV
 | [.i b]=>.int .i64 (Ye b)
 | _=>.undef
abbrev compare.Je.ts:List AT:=[.i .u64]
def compare.Je.spec:Entry:=entry compare.Je.ts compare.Je.pre compare.Je.out
def compare.Order.pre:List Atom→Bool
 | [.i a,.i b]=>Ah a&&Ah b
 | _=>false
def compare.Order.out:List Atom→DV
 | [.i a,.i b]=>.tup [.int .i64 (Xm a b),.bool (Auo a b)]
 | _=>.undef
abbrev compare.Order.ts:List AT:=[.i .u64,.i .u64]
def compare.Order.spec:Entry:=entry compare.Order.ts compare.Order.pre compare.Order.out
def compare.Jq.pre:List Atom→Bool
 | [.i a,.i b]=>Ah a&&Ah b
 | _=>false
def compare.Jq.out:List Atom→DV
 | [.i a,.i b]=>.bool (decide (Xm a b<0))
 | _=>.undef
abbrev compare.Jq.ts:List AT:=[.i .u64,.i .u64]
def compare.Jq.spec:Entry:=entry compare.Jq.ts compare.Jq.pre compare.Jq.out
def compare.Sy.pre:List Atom→Bool
 | [.i a]=>Ah a
 | _=>false
def compare.Sy.out:List Atom→DV
 | [.i a]=>.int .u64 (Tp a)
 | _=>.undef
abbrev compare.Sy.ts:List AT:=[.i .u64]
def compare.Sy.spec:Entry:=entry compare.Sy.ts compare.Sy.pre compare.Sy.out
def compare.D7.pre:List Atom→Bool
 | [.i a,.i n]=>E6 a n
 | _=>false
def compare.D7.out:List Atom→DV
 | [.i a,.i n]=>.tup [.int .u64 (B4 a n),.int .u8 (Aob a n)]
 | _=>.undef
abbrev compare.D7.ts:List AT:=[.i .u64,.i .i64]
def compare.D7.spec:Entry:=entry compare.D7.ts compare.D7.pre compare.D7.out
def Ac.E2.pre:List Atom→Bool
 | [.i a,.i n]=>E6 a n
 | _=>false
def Ac.E2.out:List Atom→DV
 | [.i a,.i n]=>.int .u64 (B4 a n)
 | _=>.undef
abbrev Ac.E2.ts:List AT:=[.i .u64,.i .i64]
def Ac.E2.spec:Entry:=entry Ac.E2.ts Ac.E2.pre Ac.E2.out
def Ac.Div.pre:List Atom→Bool
 | [.i a,.i b]=>Ah a&&Ah b
 | _=>false
def Ac.Div.out:List Atom→DV
 | [.i a,.i b]=>.int .u64 (Fp a b)
 | _=>.undef
abbrev Ac.Div.ts:List AT:=[.i .u64,.i .u64]
def Ac.Div.spec:Entry:=entry Ac.Div.ts Ac.Div.pre Ac.Div.out
def Ac.Cf.pre:List Atom→Bool
 | [.l x]=>Dh x
 | _=>false
def Ac.Cf.out:List Atom→DV
 | [.l x]=>.int .u64 (A6 x)
 | _=>.undef
abbrev Ac.Cf.ts:List AT:=[.s .u64]
def Ac.Cf.spec:Entry:=entry Ac.Cf.ts Ac.Cf.pre Ac.Cf.out
def Ac.Finite.pre:List Atom→Bool
 | [.l x]=>Dh x
 | _=>false
def Ac.Finite.out:List Atom→DV
 | [.l x]=>.bool (Da x)
 | _=>.undef
abbrev Ac.Finite.ts:List AT:=[.s .u64]
def Ac.Finite.spec:Entry:=entry Ac.Finite.ts Ac.Finite.pre Ac.Finite.out
def B6.Check.pre:List Atom→Bool
 | [.i _r,.i _c,.l l]=>Af l
 | _=>false
def B6.Check.out:List Atom→DV
 | [.i r,.i c,.l l]=>.int .i64 (Bo r c l)
 | _=>.undef
abbrev B6.Check.ts:List AT:=[.st [.i .i64,.i .i64,.s .u64]]
def B6.Check.spec:Entry:=entry B6.Check.ts B6.Check.pre B6.Check.out
def solve.check.pre:List Atom→Bool
 | [.i _r,.i _c,.l l,.i _p,.i _q,.l m]=>Af l&&Af m
 | _=>false
def solve.check.out:List Atom→DV
 | [.i r,.i c,.l l,.i p,.i q,.l m]=>.int .i64 (Nw r c l p q m)
 | _=>.undef
abbrev solve.check.ts:List AT:=[.st [.i .i64,.i .i64,.s .u64],.st [.i .i64,.i .i64,.s .u64]]
def solve.check.spec:Entry:=entry solve.check.ts solve.check.pre solve.check.out
def Ci.Ch.up.pre:List Atom→Bool
 | [.i n,.i k]=>Cw (0≤k∧k<n∧n≤10)
 | _=>false
def Ci.Ch.up.out:List Atom→DV
 | [.i n,.i k]=>.int .i64 (n-1-k)
 | _=>.undef
abbrev Ci.Ch.up.ts:List AT:=[.i .i64,.i .i64]
def Ci.Ch.up.spec:Entry:=entry Ci.Ch.up.ts Ci.Ch.up.pre Ci.Ch.up.out
def solve.Dt.pre:List Atom→Bool
 | [.i _i,.i _k]=>true
 | _=>false
def solve.Dt.out:List Atom→DV
 | [.i i,.i k]=>.bool (decide (i<k))
 | _=>.undef
abbrev solve.Dt.ts:List AT:=[.i .i64,.i .i64]
def solve.Dt.spec:Entry:=entry solve.Dt.ts solve.Dt.pre solve.Dt.out
def Aa.of.B2.own.pre:List Atom→Bool
 | [.i a,.i b]=>Bj a&&Bj b
 | _=>false
def Aa.of.B2.own.out:List Atom→DV
 | [.i a,.i b]=>.agg [.int .i64 a,.int .i64 b,.ints (.own 108002 37) .u64 (Cd (toNat a) (toNat b) (fun _ _=>0))]
 | _=>.undef
abbrev Aa.of.B2.own.ts:List AT:=[.i .i64,.i .i64,.fn 205 []]
def Aa.of.B2.own.spec:Entry:=entry Aa.of.B2.own.ts Aa.of.B2.own.pre Aa.of.B2.own.out
def Aa.B2.own.pre:List Atom→Bool
 | [.i a,.i b]=>Bj a&&Bj b
 | _=>false
def Aa.B2.own.out:List Atom→DV
 | [.i a,.i b]=>.tup [.agg [.int .i64 a,.int .i64 b,.ints (.own 1136 37) .u64 (Cd (toNat a) (toNat b) (fun _ _=>0))],.int .i64 (0:Int)]
 | _=>.undef
abbrev Aa.B2.own.ts:List AT:=[.i .i64,.i .i64]
def Aa.B2.own.spec:Entry:=entry Aa.B2.own.ts Aa.B2.own.pre Aa.B2.own.out
def solve.Aq.Up.pre:List Atom→Bool
 | [.i r,.i c,.l l,.i p,.i q,.l m,.i n]=>Oj r c l p q m&&decide (n=r)
 | _=>false
def solve.Aq.Up.out:List Atom→DV
 | [.i r,.i c,.l l,.i _p,.i q,.l m,.i _n]=>.tup [.agg [.int .i64 ((Jn r q (upG c l q m (toNat r) (toNat q))).1),.int .i64 ((Jn r q (upG c l q m (toNat r) (toNat q))).2.1),.ints .fresh .u64 ((Jn r q (upG c l q m (toNat r) (toNat q))).2.2.1)],.int .i64 ((Jn r q (upG c l q m (toNat r) (toNat q))).2.2.2)]
 | _=>.undef
abbrev solve.Aq.Up.ts:List AT:=[.st [.i .i64,.i .i64,.s .u64],.st [.i .i64,.i .i64,.s .u64],.fm 103 [.i .i64],.fn 104 []]
def solve.Aq.Up.spec:Entry:=entry solve.Aq.Up.ts solve.Aq.Up.pre solve.Aq.Up.out
def solve.Gi.pre:List Atom→Bool
 | [.i _r,.i _c,.l l,.i _p,.i _q,.l m]=>Af l&&Af m
 | _=>false
def solve.Gi.out:List Atom→DV
 | [.i r,.i c,.l l,.i p,.i q,.l m]=>.tup [.agg [.int .i64 ((upX r c l p q m).1),.int .i64 ((upX r c l p q m).2.1),.ints .fresh .u64 ((upX r c l p q m).2.2.1)],.int .i64 ((upX r c l p q m).2.2.2)]
 | _=>.undef
abbrev solve.Gi.ts:List AT:=[.st [.i .i64,.i .i64,.s .u64],.st [.i .i64,.i .i64,.s .u64]]
def solve.Gi.spec:Entry:=entry solve.Gi.ts solve.Gi.pre solve.Gi.out
def solve.Flat.pre:List Atom→Bool
 | [.i _r,.i _c,.l l]=>Af l
 | _=>false
def solve.Flat.out:List Atom→DV
 | [.i r,.i c,.l l]=>.tup [.bool ((I6 r c l).1),.int .i64 ((I6 r c l).2)]
 | _=>.undef
abbrev solve.Flat.ts:List AT:=[.st [.i .i64,.i .i64,.s .u64]]
def solve.Flat.spec:Entry:=entry solve.Flat.ts solve.Flat.pre solve.Flat.out
def qr.Ep.pre:List Atom→Bool
 | [.i _r,.i _c,.l l,.i _p,.i _q,.l m]=>Af l&&Af m
 | _=>false
def qr.Ep.out:List Atom→DV
 | [.i r,.i c,.l l,.i p,.i q,.l m]=>.tup [.agg [.int .i64 ((De r c l p q m).1),.int .i64 ((De r c l p q m).2.1),.ints .fresh .u64 ((De r c l p q m).2.2.1)],.int .i64 ((De r c l p q m).2.2.2)]
 | _=>.undef
abbrev qr.Ep.ts:List AT:=[.st [.i .i64,.i .i64,.s .u64],.st [.i .i64,.i .i64,.s .u64]]
def qr.Ep.spec:Entry:=entry qr.Ep.ts qr.Ep.pre qr.Ep.out
def Bh.Finite.pre:List Atom→Bool
 | [.l x]=>Dh x
 | _=>false
def Bh.Finite.out:List Atom→DV
 | [.l x]=>.bool (Da x)
 | _=>.undef
abbrev Bh.Finite.ts:List AT:=[.s .u64]
def Bh.Finite.spec:Entry:=entry Bh.Finite.ts Bh.Finite.pre Bh.Finite.out
def C1.Check.pre:List Atom→Bool
 | [.i _r,.i _c,.l l]=>Af l
 | _=>false
def C1.Check.out:List Atom→DV
 | [.i r,.i c,.l l]=>.int .i64 (Bo r c l)
 | _=>.undef
abbrev C1.Check.ts:List AT:=[.st [.i .i64,.i .i64,.s .u64]]
def C1.Check.spec:Entry:=entry C1.Check.ts C1.Check.pre C1.Check.out
def Ci.Ch.down.pre:List Atom→Bool
 | [.i _n,.i _k]=>true
 | _=>false
def Ci.Ch.down.out:List Atom→DV
 | [.i _n,.i k]=>.int .i64 k
 | _=>.undef
abbrev Ci.Ch.down.ts:List AT:=[.i .i64,.i .i64]
def Ci.Ch.down.spec:Entry:=entry Ci.Ch.down.ts Ci.Ch.down.pre Ci.Ch.down.out
def solve.Dv.pre:List Atom→Bool
 | [.i _i,.i _k]=>true
 | _=>false
def solve.Dv.out:List Atom→DV
 | [.i i,.i k]=>.bool (decide (k<i))
 | _=>.undef
abbrev solve.Dv.ts:List AT:=[.i .i64,.i .i64]
def solve.Dv.spec:Entry:=entry solve.Dv.ts solve.Dv.pre solve.Dv.out
def solve.Aq.Lo.pre:List Atom→Bool
 | [.i r,.i c,.l l,.i p,.i q,.l m,.i n]=>Oj r c l p q m&&decide (n=r)
 | _=>false
def solve.Aq.Lo.out:List Atom→DV
 | [.i r,.i c,.l l,.i _p,.i q,.l m,.i _n]=>.tup [.agg [.int .i64 ((Jn r q (loG c l q m (toNat r) (toNat q))).1),.int .i64 ((Jn r q (loG c l q m (toNat r) (toNat q))).2.1),.ints .fresh .u64 ((Jn r q (loG c l q m (toNat r) (toNat q))).2.2.1)],.int .i64 ((Jn r q (loG c l q m (toNat r) (toNat q))).2.2.2)]
 | _=>.undef
abbrev solve.Aq.Lo.ts:List AT:=[.st [.i .i64,.i .i64,.s .u64],.st [.i .i64,.i .i64,.s .u64],.fm 77 [.i .i64],.fn 78 []]
def solve.Aq.Lo.spec:Entry:=entry solve.Aq.Lo.ts solve.Aq.Lo.pre solve.Aq.Lo.out
def solve.Gm.pre:List Atom→Bool
 | [.i _r,.i _c,.l l,.i _p,.i _q,.l m]=>Af l&&Af m
 | _=>false
def solve.Gm.out:List Atom→DV
 | [.i r,.i c,.l l,.i p,.i q,.l m]=>.tup [.agg [.int .i64 ((Uh r c l p q m).1),.int .i64 ((Uh r c l p q m).2.1),.ints .fresh .u64 ((Uh r c l p q m).2.2.1)],.int .i64 ((Uh r c l p q m).2.2.2)]
 | _=>.undef
abbrev solve.Gm.ts:List AT:=[.st [.i .i64,.i .i64,.s .u64],.st [.i .i64,.i .i64,.s .u64]]
def solve.Gm.spec:Entry:=entry solve.Gm.ts solve.Gm.pre solve.Gm.out
def root.F5.pre:List Atom→Bool
 | [.i m]=>Cw (0≤m∧m<9223372036854775808)
 | _=>false
def root.F5.out:List Atom→DV
 | [.i m]=>.tup [.int .u64 (R9 m),.bool (Sa m)]
 | _=>.undef
abbrev root.F5.ts:List AT:=[.i .u64]
def root.F5.spec:Entry:=entry root.F5.ts root.F5.pre root.F5.out
def root.Sqrt.pre:List Atom→Bool
 | [.i a]=>Ah a
 | _=>false
def root.Sqrt.out:List Atom→DV
 | [.i a]=>.tup [.int .u64 (G5 a),.int .u8 (Ok a)]
 | _=>.undef
abbrev root.Sqrt.ts:List AT:=[.i .u64]
def root.Sqrt.spec:Entry:=entry root.Sqrt.ts root.Sqrt.pre root.Sqrt.out
def Ac.Sqrt.pre:List Atom→Bool
 | [.i a]=>Ah a
 | _=>false
def Ac.Sqrt.out:List Atom→DV
 | [.i a]=>.int .u64 (G5 a)
 | _=>.undef
abbrev Ac.Sqrt.ts:List AT:=[.i .u64]
def Ac.Sqrt.spec:Entry:=entry Ac.Sqrt.ts Ac.Sqrt.pre Ac.Sqrt.out
def compare.I9.pre:List Atom→Bool
 | [.i a]=>Ah a
 | _=>false
def compare.I9.out:List Atom→DV
 | [.i a]=>.int .i64 (Bi a)
 | _=>.undef
abbrev compare.I9.ts:List AT:=[.i .u64]
def compare.I9.spec:Entry:=entry compare.I9.ts compare.I9.pre compare.I9.out
def Ac.Norm.pre:List Atom→Bool
 | [.l x]=>Dh x&&Cw (length x≤64)
 | _=>false
def Ac.Norm.out:List Atom→DV
 | [.l x]=>.tup [.int .u64 (D0 x),.int .i64 (0:Int)]
 | _=>.undef
abbrev Ac.Norm.ts:List AT:=[.s .u64]
def Ac.Norm.spec:Entry:=entry Ac.Norm.ts Ac.Norm.pre Ac.Norm.out
def Ai.Cn.pre:List Atom→Bool
 | [.l x]=>Dh x
 | _=>false
def Ai.Cn.out:List Atom→DV
 | [.l x]=>.bool (F7 x)
 | _=>.undef
abbrev Ai.Cn.ts:List AT:=[.s .u64]
def Ai.Cn.spec:Entry:=entry Ai.Cn.ts Ai.Cn.pre Ai.Cn.out
def Ai.lead.pre:List Atom→Bool
 | [.l x]=>Dh x
 | _=>false
def Ai.lead.out:List Atom→DV
 | [.l x]=>.int .u64 (Mu x)
 | _=>.undef
abbrev Ai.lead.ts:List AT:=[.s .u64]
def Ai.lead.spec:Entry:=entry Ai.lead.ts Ai.lead.pre Ai.lead.out
def Ai.Cr.pre:List Atom→Bool
 | [.l x,.i k]=>Dh x&&Cw (length x≤1000∧-2300≤k∧k≤2300)
 | _=>false
def Ai.Cr.out:List Atom→DV
 | [.l x,.i k]=>.ints .fresh .u64 (Bb x k)
 | _=>.undef
abbrev Ai.Cr.ts:List AT:=[.s .u64,.i .i64]
def Ai.Cr.spec:Entry:=entry Ai.Cr.ts Ai.Cr.pre Ai.Cr.out
def Ai.Eu.pre:List Atom→Bool
 | [.i _i]=>true
 | _=>false
def Ai.Eu.out:List Atom→DV
 | [.i _i]=>.int .u64 (0:Int)
 | _=>.undef
abbrev Ai.Eu.ts:List AT:=[.i .i64]
def Ai.Eu.spec:Entry:=entry Ai.Eu.ts Ai.Eu.pre Ai.Eu.out
def Ai.Et.pre:List Atom→Bool
 | [.i i,.l y,.i d]=>(Cw (0≤i∧i<length y)&&Af y)&&Ah d
 | _=>false
def Ai.Et.out:List Atom→DV
 | [.i i,.l y,.i d]=>.int .u64 (Fp (getD y (toNat i) 0) d)
 | _=>.undef
abbrev Ai.Et.ts:List AT:=[.i .i64,.cp [.s .u64],.cp [.i .u64]]
def Ai.Et.spec:Entry:=entry Ai.Et.ts Ai.Et.pre Ai.Et.out
def Ai.row.Zero.pre:List Atom→Bool
 | [.i n]=>Cw (1≤n∧n≤64)
 | _=>false
def Ai.row.Zero.out:List Atom→DV
 | [.i n]=>.ints .fresh .u64 (I3 (toNat n) (fun _=>0))
 | _=>.undef
abbrev Ai.row.Zero.ts:List AT:=[.i .i64,.fn 254 []]
def Ai.row.Zero.spec:Entry:=entry Ai.row.Zero.ts Ai.row.Zero.pre Ai.row.Zero.out
def Ai.row.Div.pre:List Atom→Bool
 | [.i n,.l y,.i d]=>(Cw (1≤n∧n≤64∧n=length y)&&Af y)&&Ah d
 | _=>false
def Ai.row.Div.out:List Atom→DV
 | [.i n,.l y,.i d]=>.ints .fresh .u64 (I3 (toNat n) (fun j=>Fp (getD y j 0) d))
 | _=>.undef
abbrev Ai.row.Div.ts:List AT:=[.i .i64,.fn 259 [.cp [.s .u64],.cp [.i .u64]]]
def Ai.row.Div.spec:Entry:=entry Ai.row.Div.ts Ai.row.Div.pre Ai.row.Div.out
def Ai.Ik.pre:List Atom→Bool
 | [.l x]=>Dh x
 | _=>false
def Ai.Ik.out:List Atom→DV
 | [.l x]=>.tup [.ints .fresh .u64 ((Bw x).1),.int .u64 ((Bw x).2.1),.int .u64 ((Bw x).2.2.1),.int .i64 ((Bw x).2.2.2)]
 | _=>.undef
abbrev Ai.Ik.ts:List AT:=[.s .u64]
def Ai.Ik.spec:Entry:=entry Ai.Ik.ts Ai.Ik.pre Ai.Ik.out
def Ai.Apply.pre:List Atom→Bool
 | [.i r,.i c,.l l,.i i,.i k,.l v,.i t]=>((Ak r c l&&Md r c i k v)&&(Af l&&Af v))&&Ah t
 | _=>false
def Ai.Apply.out:List Atom→DV
 | [.i r,.i c,.l l,.i i,.i k,.l v,.i t]=>.tup [.agg [.int .i64 r,.int .i64 c,.ints (.own 114002 37) .u64 (F0 (toNat r) (toNat c) l i k v t)],.int .i64 (0:Int)]
 | _=>.undef
abbrev Ai.Apply.ts:List AT:=[.st [.i .i64,.i .i64,.s .u64],.i .i64,.i .i64,.s .u64,.i .u64]
def Ai.Apply.spec:Entry:=entry Ai.Apply.ts Ai.Apply.pre Ai.Apply.out
def qr.down.pre:List Atom→Bool
 | [.i r,.i c,.l l]=>(Ak r c l&&Da l)&&Af l
 | _=>false
def qr.down.out:List Atom→DV
 | [.i r,.i c,.l l]=>.tup [.agg [.int .i64 ((Fo r c l).1),.int .i64 ((Fo r c l).2.1),.ints .arg .u64 ((Fo r c l).2.2.1)],.recs .fresh 2 (Jg r c l),.int .i64 ((Fo r c l).2.2.2)]
 | _=>.undef
abbrev qr.down.ts:List AT:=[.st [.i .i64,.i .i64,.s .u64]]
def qr.down.spec:Entry:=entry qr.down.ts qr.down.pre qr.down.out
def qr.C0.pre:List Atom→Bool
 | [.i _r,.i _c,.l l]=>Af l
 | _=>false
def qr.C0.out:List Atom→DV
 | [.i r,.i c,.l l]=>.tup [.agg [.int .i64 ((qX r c l).1),.int .i64 ((qX r c l).2.1),.ints .arg .u64 ((qX r c l).2.2.1)],.agg [.int .i64 ((rX r c l).1),.int .i64 ((rX r c l).2.1),.ints .arg .u64 ((rX r c l).2.2.1)],.int .i64 (Ey r c l)]
 | _=>.undef
abbrev qr.C0.ts:List AT:=[.st [.i .i64,.i .i64,.s .u64]]
def qr.C0.spec:Entry:=entry qr.C0.ts qr.C0.pre qr.C0.out
def qr.Jp.pre:List Atom→Bool
 | [.i _r,.i _c,.l l]=>Af l
 | _=>false
def qr.Jp.out:List Atom→DV
 | [.i r,.i c,.l l]=>.tup [.agg [.int .i64 ((Hp r c l).1),.int .i64 ((Hp r c l).2.1),.ints .fresh .u64 ((Hp r c l).2.2.1)],.agg [.int .i64 ((Mf r c l).1),.int .i64 ((Mf r c l).2.1),.ints .fresh .u64 ((Mf r c l).2.2.1)],.int .i64 (Ey r c l)]
 | _=>.undef
abbrev qr.Jp.ts:List AT:=[.st [.i .i64,.i .i64,.s .u64]]
def qr.Jp.spec:Entry:=entry qr.Jp.ts qr.Jp.pre qr.Jp.out
def solve.Gc.pre:List Atom→Bool
 | [.i _r,.i _c,.l l,.i _p,.i _q,.l m]=>Af l&&Af m
 | _=>false
def solve.Gc.out:List Atom→DV
 | [.i r,.i c,.l l,.i p,.i q,.l m]=>.tup [.agg [.int .i64 ((It r c l p q m).1),.int .i64 ((It r c l p q m).2.1),.ints .fresh .u64 ((It r c l p q m).2.2.1)],.int .i64 ((It r c l p q m).2.2.2)]
 | _=>.undef
abbrev solve.Gc.ts:List AT:=[.st [.i .i64,.i .i64,.s .u64],.st [.i .i64,.i .i64,.s .u64]]
def solve.Gc.spec:Entry:=entry solve.Gc.ts solve.Gc.pre solve.Gc.out
def Gq.I9.pre:List Atom→Bool
 | [.i a]=>Ah a
 | _=>false
def Gq.I9.out:List Atom→DV
 | [.i a]=>.int .i64 (Bi a)
 | _=>.undef
abbrev Gq.I9.ts:List AT:=[.i .u64]
def Gq.I9.spec:Entry:=entry Gq.I9.ts Gq.I9.pre Gq.I9.out
def Cv.Check.pre:List Atom→Bool
 | [.i _r,.i _c,.l l,.i _p,.i _q,.l m,.i _a,.i _b,.l g,.i _u,.i _v,.l h]=>Ll l m g h
 | _=>false
def Cv.Check.out:List Atom→DV
 | [.i r,.i c,.l l,.i p,.i q,.l m,.i a,.i b,.l g,.i u,.i v,.l h]=>.int .i64 (D5 r c l p q m a b g u v h)
 | _=>.undef
abbrev Cv.Check.ts:List AT:=[.st [.i .i64,.i .i64,.s .u64,.i .i64,.i .i64,.s .u64,.i .i64,.i .i64,.s .u64,.i .i64,.i .i64,.s .u64]]
def Cv.Check.spec:Entry:=entry Cv.Check.ts Cv.Check.pre Cv.Check.out
def Cv.finite.pre:List Atom→Bool
 | [.i _r,.i _c,.l l,.i _e]=>Af l
 | _=>false
def Cv.finite.out:List Atom→DV
 | [.i r,.i c,.l l,.i e]=>.tup [.agg [.int .i64 ((Ky r c l e).1),.int .i64 ((Ky r c l e).2.1),.ints .arg .u64 ((Ky r c l e).2.2.1)],.int .i64 ((Ky r c l e).2.2.2)]
 | _=>.undef
abbrev Cv.finite.ts:List AT:=[.st [.i .i64,.i .i64,.s .u64],.i .i64]
def Cv.finite.spec:Entry:=entry Cv.finite.ts Cv.finite.pre Cv.finite.out
def Cv.held.pre:List Atom→Bool
 | [.i r,.i c,.l l,.i p,.i q,.l m,.i a,.i b,.l g,.i u,.i v,.l h]=>Ll l m g h&&decide (D5 r c l p q m a b g u v h=0)
 | _=>false
def Cv.held.out:List Atom→DV
 | [.i _r,.i _c,.l _l,.i p,.i q,.l m,.i _a,.i _b,.l _g,.i u,.i v,.l h]=>.tup [.agg [.int .i64 ((hQ p q m).1),.int .i64 ((hQ p q m).2.1),.ints .arg .u64 ((hQ p q m).2.2.1)],.agg [.int .i64 ((hY p q m u v h).1),.int .i64 ((hY p q m u v h).2.1),.ints .fresh .u64 ((hY p q m u v h).2.2.1)],.int .i64 ((hY p q m u v h).2.2.2)]
 | _=>.undef
abbrev Cv.held.ts:List AT:=[.st [.i .i64,.i .i64,.s .u64,.i .i64,.i .i64,.s .u64,.i .i64,.i .i64,.s .u64,.i .i64,.i .i64,.s .u64]]
def Cv.held.spec:Entry:=entry Cv.held.ts Cv.held.pre Cv.held.out
def Cv.Solve.pre:List Atom→Bool
 | [.i _r,.i _c,.l l,.i _p,.i _q,.l m,.i _a,.i _b,.l g,.i _u,.i _v,.l h]=>Ll l m g h
 | _=>false
def Cv.Solve.out:List Atom→DV
 | [.i r,.i c,.l l,.i p,.i q,.l m,.i a,.i b,.l g,.i u,.i v,.l h]=>.tup [.agg [.int .i64 ((C4 r c l p q m a b g u v h).1),.int .i64 ((C4 r c l p q m a b g u v h).2.1),.ints .arg .u64 ((C4 r c l p q m a b g u v h).2.2.1)],.int .i64 ((C4 r c l p q m a b g u v h).2.2.2)]
 | _=>.undef
abbrev Cv.Solve.ts:List AT:=[.st [.i .i64,.i .i64,.s .u64,.i .i64,.i .i64,.s .u64,.i .i64,.i .i64,.s .u64,.i .i64,.i .i64,.s .u64]]
def Cv.Solve.spec:Entry:=entry Cv.Solve.ts Cv.Solve.pre Cv.Solve.out
def Cy.Check.pre:List Atom→Bool
 | [.i _r,.i _c,.l l,.i _p,.i _q,.l m,.i _a,.i _b,.l g,.i _u,.i _v,.l h]=>Ll l m g h
 | _=>false
def Cy.Check.out:List Atom→DV
 | [.i r,.i c,.l l,.i p,.i q,.l m,.i a,.i b,.l g,.i u,.i v,.l h]=>.int .i64 (D5 r c l p q m a b g u v h)
 | _=>.undef
abbrev Cy.Check.ts:List AT:=[.st [.i .i64,.i .i64,.s .u64,.i .i64,.i .i64,.s .u64,.i .i64,.i .i64,.s .u64,.i .i64,.i .i64,.s .u64]]
def Cy.Check.spec:Entry:=entry Cy.Check.ts Cy.Check.pre Cy.Check.out
def Bn.one.pre:List Atom→Bool
 | [.i _b]=>true
 | _=>false
def Bn.one.out:List Atom→DV
 | [.i b]=>.agg [.int .i64 (1:Int),.int .i64 (1:Int),.ints .fresh .u64 ([b])]
 | _=>.undef
abbrev Bn.one.ts:List AT:=[.i .u64]
def Bn.one.spec:Entry:=entry Bn.one.ts Bn.one.pre Bn.one.out
def Bn.Gh.pre:List Atom→Bool
 | []=>true
 | _=>false
def Bn.Gh.out:List Atom→DV
 | []=>.bool true
 | _=>.undef
abbrev Bn.Gh.ts:List AT:=[]
def Bn.Gh.spec:Entry:=entry Bn.Gh.ts Bn.Gh.pre Bn.Gh.out
def Bn.task.pre:List Atom→Bool
 | [.i _r,.i _c,.l _l,.i _p,.i _q,.l _m,.i _a,.i _b,.l _g,.i _u,.i _v,.l _h]=>true
 | _=>false
def Bn.task.out:List Atom→DV
 | [.i r,.i c,.l l,.i p,.i q,.l m,.i a,.i b,.l g,.i u,.i v,.l h]=>.agg [.int .i64 r,.int .i64 c,.ints .arg .u64 l,.int .i64 p,.int .i64 q,.ints .arg .u64 m,.int .i64 a,.int .i64 b,.ints .arg .u64 g,.int .i64 u,.int .i64 v,.ints .arg .u64 h]
 | _=>.undef
abbrev Bn.task.ts:List AT:=[.st [.i .i64,.i .i64,.s .u64,.i .i64,.i .i64,.s .u64,.i .i64,.i .i64,.s .u64,.i .i64,.i .i64,.s .u64]]
def Bn.task.spec:Entry:=entry Bn.task.ts Bn.task.pre Bn.task.out
def Bh.Cs.pre:List Atom→Bool
 | [.l x,.i k]=>Dh x&&Cw (0≤k∧k≤1000)
 | _=>false
def Bh.Cs.out:List Atom→DV
 | [.l x,.i k]=>.bool (A9 x k)
 | _=>.undef
abbrev Bh.Cs.ts:List AT:=[.s .u64,.i .i64]
def Bh.Cs.spec:Entry:=entry Bh.Cs.ts Bh.Cs.pre Bh.Cs.out
def C1.Cs.pre:List Atom→Bool
 | [.i _r,.i _c,.l l,.i k]=>Af l&&Cw (0≤k∧k≤1000)
 | _=>false
def C1.Cs.out:List Atom→DV
 | [.i r,.i c,.l l,.i k]=>.bool (Ak r c l&&A9 l k)
 | _=>.undef
abbrev C1.Cs.ts:List AT:=[.st [.i .i64,.i .i64,.s .u64],.i .i64]
def C1.Cs.spec:Entry:=entry C1.Cs.ts C1.Cs.pre C1.Cs.out
def Cy.Cs.pre:List Atom→Bool
 | [.i _r,.i _c,.l l,.i _p,.i _q,.l m,.i _a,.i _b,.l g,.i _u,.i _v,.l h,.i k]=>Ll l m g h&&Cw (0≤k∧k≤1000)
 | _=>false
def Cy.Cs.out:List Atom→DV
 | [.i r,.i c,.l l,.i p,.i q,.l m,.i a,.i b,.l g,.i u,.i v,.l h,.i k]=>.bool ((Ak r c l&&A9 l k)&&((Ak p q m&&A9 m k)&&((Ak a b g&&A9 g k)&&(Ak u v h&&A9 h k))))
 | _=>.undef
abbrev Cy.Cs.ts:List AT:=[.st [.i .i64,.i .i64,.s .u64,.i .i64,.i .i64,.s .u64,.i .i64,.i .i64,.s .u64,.i .i64,.i .i64,.s .u64],.i .i64]
def Cy.Cs.spec:Entry:=entry Cy.Cs.ts Cy.Cs.pre Cy.Cs.out
def Bn.Dj.pre:List Atom→Bool
 | [.i _r,.i _c,.l l,.i _p,.i _q,.l m,.i _a,.i _b,.l g,.i _u,.i _v,.l h,.i _i,.i _j,.l x,.i _s,.i _w,.l y]=>Ll l m g h&&(Af x&&Af y)
 | _=>false
def Bn.Dj.out:List Atom→DV
 | [.i _r,.i _c,.l _l,.i _p,.i _q,.l _m,.i _a,.i _b,.l _g,.i _u,.i _v,.l _h,.i _i,.i _j,.l _x,.i _s,.i _w,.l _y]=>.bool true
 | _=>.undef
abbrev Bn.Dj.ts:List AT:=[.st [.i .i64,.i .i64,.s .u64,.i .i64,.i .i64,.s .u64,.i .i64,.i .i64,.s .u64,.i .i64,.i .i64,.s .u64],.st [.i .i64,.i .i64,.s .u64],.st [.i .i64,.i .i64,.s .u64]]
def Bn.Dj.spec:Entry:=entry Bn.Dj.ts Bn.Dj.pre Bn.Dj.out
def B8.Iz.pre:List Atom→Bool
 | [.i x]=>Ah x
 | _=>false
def B8.Iz.out:List Atom→DV
 | [.i x]=>.int .i64 (Ef x)
 | _=>.undef
abbrev B8.Iz.ts:List AT:=[.i .u64]
def B8.Iz.spec:Entry:=entry B8.Iz.ts B8.Iz.pre B8.Iz.out
theorem tt0:∀ a b c:Bool,((a==a)&&(b&&(c&&true)))=(b&&c):=by decide
theorem tt1:∀ a b:Bool,(bif a then b else false)=(a&&b):=by decide
theorem T6:∀ a:Bool,(((!a)||(a==true))&&true)=true:=by decide
theorem Na:∀ a:Bool,((!(a==true))||((((!(a==true))||(a==true))&&true)&&true))=true:=by decide
theorem N4:∀ a:Bool,((!(a==true))||true)=true:=by decide
theorem tt5:∀ a b:Bool,(bif a then true else b)=(a||b):=by decide
theorem Zk:∀ a:Bool,((!(!a))||(a==false))=true:=by decide
theorem Oi:∀ a:Bool,((!(a==false))||((((!(a==false))||(a==false))&&true)&&true))=true:=by decide
theorem tt8:∀ a:Bool,((!(a==false))||((((!(a==false))||(a==false))&&(((!(a==false))||(a==false))&&true))&&true))=true:=by decide
theorem S4:∀ a:Bool,((!(a==false))||true)=true:=by decide
theorem E4:∀ a:Bool,(a&&true)=a:=by decide
theorem Awf:∀ a b c d e:Bool,(bif a then (bif b then true else (bif c then (bif d then true else e) else false)) else false)=(a&&(b||(c&&(d||e)))):=by decide
theorem Aui:∀ a b:Bool,((!(a==true))||(((!(a==true))||(a==true))&&((!(!b))||((a==true)&&(b==false)))))=true:=by decide
theorem Awe:∀ a b c:Bool,((!((a==true)&&(b==false)))||(((!((a==true)&&(b==false)))||((a==true)&&(b==false)))&&(((!c)||(((a==true)&&(b==false))&&(c==true)))&&true)))=true:=by decide
theorem Awd:∀ a b c d:Bool,((!(((a==true)&&(b==false))&&(c==true)))||(((!(((a==true)&&(b==false))&&(c==true)))||(((a==true)&&(b==false))&&(c==true)))&&((!(!d))||((((a==true)&&(b==false))&&(c==true))&&(d==false)))))=true:=by decide
theorem Aub:∀ a b c d:Bool,((!((((a==true)&&(b==false))&&(c==true))&&(d==false)))||((((!((((a==true)&&(b==false))&&(c==true))&&(d==false)))||((((a==true)&&(b==false))&&(c==true))&&(d==false)))&&true)&&true))=true:=by decide
theorem Awc:∀ a b c d:Bool,((!((((a==true)&&(b==false))&&(c==true))&&(d==false)))||true)=true:=by decide
theorem Awb:∀ a b c:Bool,((!(((a==true)&&(b==false))&&(c==true)))||((((!(((a==true)&&(b==false))&&(c==true)))||(((a==true)&&(b==false))&&(c==true)))&&true)&&true))=true:=by decide
theorem Awa:∀ a b c:Bool,((!(((a==true)&&(b==false))&&(c==true)))||true)=true:=by decide
theorem At2:∀ a b:Bool,((!((a==true)&&(b==false)))||((((!((a==true)&&(b==false)))||((a==true)&&(b==false)))&&true)&&true))=true:=by decide
theorem At1:∀ a b:Bool,((!((a==true)&&(b==false)))||((((!((a==true)&&(b==false)))||((a==true)&&(b==false)))&&(((!((a==true)&&(b==false)))||((a==true)&&(b==false)))&&true))&&true))=true:=by decide
theorem Ajz:∀ a b:Bool,((!((a==true)&&(b==false)))||true)=true:=by decide
theorem Ads:∀ a:Bool,((!(a==true))||((((!(a==true))||(a==true))&&(((!(a==true))||(a==true))&&true))&&true))=true:=by decide
theorem Arq:∀ a b:Bool,(bif (!a) then true else b)=((!a)||b):=by decide
theorem Adr:∀ a:Bool,((!(!(!a)))||((!a)==false))=true:=by decide
theorem Uv:∀ a:Bool,((!((!a)==false))||((((!((!a)==false))||((!a)==false))&&true)&&true))=true:=by decide
theorem Adq:∀ a:Bool,((!((!a)==false))||true)=true:=by decide
theorem Av9:∀ a b:Bool,(bif a then (!b) else false)=(a&&(!b)):=by decide
theorem Arp:∀ a b:Bool,(bif (!a) then true else (!b))=((!a)||(!b)):=by decide
theorem An1:∀ a b:Bool,((!((!a)==false))||((((!((!a)==false))||((!a)==false))&&true)&&b))=((!a)||b):=by decide
theorem At0:∀ a b c d:Bool,(bif (bif a then b else false) then true else (bif c then d else false))=((a&&b)||(c&&d)):=by decide
theorem Atz:∀ a b:Bool,((!(!(bif a then b else false)))||((bif a then b else false)==false))=true:=by decide
theorem Aty:∀ a b c:Bool,((!((bif a then b else false)==false))||(((!((bif a then b else false)==false))||((bif a then b else false)==false))&&(((!c)||(((bif a then b else false)==false)&&(c==true)))&&true)))=true:=by decide
theorem Atx:∀ a b c:Bool,((!(((bif a then b else false)==false)&&(c==true)))||((((!(((bif a then b else false)==false)&&(c==true)))||(((bif a then b else false)==false)&&(c==true)))&&true)&&true))=true:=by decide
theorem Atw:∀ a b c:Bool,((!(((bif a then b else false)==false)&&(c==true)))||true)=true:=by decide
theorem An0:∀ a b:Bool,((!((bif a then b else false)==false))||((((!((bif a then b else false)==false))||((bif a then b else false)==false))&&true)&&true))=true:=by decide
theorem Atv:∀ a b:Bool,((!((bif a then b else false)==false))||true)=true:=by decide
theorem M9:∀ a b:Bool,((a&&b)&&true)=(a&&b):=by decide
theorem Av8:∀ a b c:Bool,(bif (bif (!a) then true else (!b)) then true else c)=(((!a)||(!b))||c):=by decide
theorem Av7:∀ a b:Bool,((!(!(bif (!a) then true else (!b))))||((bif (!a) then true else (!b))==false))=true:=by decide
theorem Atu:∀ a b:Bool,((!((bif (!a) then true else (!b))==false))||((((!((bif (!a) then true else (!b))==false))||((bif (!a) then true else (!b))==false))&&(((!((bif (!a) then true else (!b))==false))||((bif (!a) then true else (!b))==false))&&true))&&true))=true:=by decide
theorem Anz:∀ a b:Bool,((!((bif (!a) then true else (!b))==false))||((((!((bif (!a) then true else (!b))==false))||((bif (!a) then true else (!b))==false))&&true)&&true))=true:=by decide
theorem Aro:∀ a b:Bool,((!((bif (!a) then true else (!b))==false))||true)=true:=by decide
theorem Av6:∀ a b c d:Bool,(((a&&b)&&(c&&d))&&true)=((a&&b)&&(c&&d)):=by decide
theorem Av5:∀ a b c d e f g h:Bool,(bif (bif (bif (bif (bif (bif (bif a then true else b) then true else c) then true else d) then true else e) then true else f) then true else g) then true else h)=(((((((a||b)||c)||d)||e)||f)||g)||h):=by decide
theorem Av4:∀ a b c d e f g:Bool,((!(!(bif (bif (bif (bif (bif (bif a then true else b) then true else c) then true else d) then true else e) then true else f) then true else g)))||((bif (bif (bif (bif (bif (bif a then true else b) then true else c) then true else d) then true else e) then true else f) then true else g)==false))=true:=by decide
theorem Att:∀ a b c d e f g:Bool,((!((bif (bif (bif (bif (bif (bif a then true else b) then true else c) then true else d) then true else e) then true else f) then true else g)==false))||((((!((bif (bif (bif (bif (bif (bif a then true else b) then true else c) then true else d) then true else e) then true else f) then true else g)==false))||((bif (bif (bif (bif (bif (bif a then true else b) then true else c) then true else d) then true else e) then true else f) then true else g)==false))&&(((!((bif (bif (bif (bif (bif (bif a then true else b) then true else c) then true else d) then true else e) then true else f) then true else g)==false))||((bif (bif (bif (bif (bif (bif a then true else b) then true else c) then true else d) then true else e) then true else f) then true else g)==false))&&true))&&true))=true:=by decide
theorem Arn:∀ a b c d e f g:Bool,((!((bif (bif (bif (bif (bif (bif a then true else b) then true else c) then true else d) then true else e) then true else f) then true else g)==false))||true)=true:=by decide
theorem Av3:∀ a b c d e f g:Bool,((!((bif (bif (bif (bif (bif (bif a then true else b) then true else c) then true else d) then true else e) then true else f) then true else g)==false))||((((!((bif (bif (bif (bif (bif (bif a then true else b) then true else c) then true else d) then true else e) then true else f) then true else g)==false))||((bif (bif (bif (bif (bif (bif a then true else b) then true else c) then true else d) then true else e) then true else f) then true else g)==false))&&true)&&true))=true:=by decide
theorem Arm:∀ a b c d e f:Bool,((!(!(bif (bif (bif (bif (bif a then true else b) then true else c) then true else d) then true else e) then true else f)))||((bif (bif (bif (bif (bif a then true else b) then true else c) then true else d) then true else e) then true else f)==false))=true:=by decide
theorem Ag4:∀ a b c d e f:Bool,((!((bif (bif (bif (bif (bif a then true else b) then true else c) then true else d) then true else e) then true else f)==false))||((((!((bif (bif (bif (bif (bif a then true else b) then true else c) then true else d) then true else e) then true else f)==false))||((bif (bif (bif (bif (bif a then true else b) then true else c) then true else d) then true else e) then true else f)==false))&&(((!((bif (bif (bif (bif (bif a then true else b) then true else c) then true else d) then true else e) then true else f)==false))||((bif (bif (bif (bif (bif a then true else b) then true else c) then true else d) then true else e) then true else f)==false))&&true))&&true))=true:=by decide
theorem Zm:∀ a b c d e f:Bool,((!((bif (bif (bif (bif (bif a then true else b) then true else c) then true else d) then true else e) then true else f)==false))||true)=true:=by decide
theorem Zl:∀ a b c d e f:Bool,((!((bif (bif (bif (bif (bif a then true else b) then true else c) then true else d) then true else e) then true else f)==false))||((((!((bif (bif (bif (bif (bif a then true else b) then true else c) then true else d) then true else e) then true else f)==false))||((bif (bif (bif (bif (bif a then true else b) then true else c) then true else d) then true else e) then true else f)==false))&&true)&&true))=true:=by decide
theorem Arl:∀ a b c d e:Bool,((!(!(bif (bif (bif (bif a then true else b) then true else c) then true else d) then true else e)))||((bif (bif (bif (bif a then true else b) then true else c) then true else d) then true else e)==false))=true:=by decide
theorem Ark:∀ a b c d e:Bool,((!((bif (bif (bif (bif a then true else b) then true else c) then true else d) then true else e)==false))||((((!((bif (bif (bif (bif a then true else b) then true else c) then true else d) then true else e)==false))||((bif (bif (bif (bif a then true else b) then true else c) then true else d) then true else e)==false))&&(((!((bif (bif (bif (bif a then true else b) then true else c) then true else d) then true else e)==false))||((bif (bif (bif (bif a then true else b) then true else c) then true else d) then true else e)==false))&&true))&&true))=true:=by decide
theorem Ajy:∀ a b c d e:Bool,((!((bif (bif (bif (bif a then true else b) then true else c) then true else d) then true else e)==false))||((((!((bif (bif (bif (bif a then true else b) then true else c) then true else d) then true else e)==false))||((bif (bif (bif (bif a then true else b) then true else c) then true else d) then true else e)==false))&&true)&&true))=true:=by decide
theorem Ag3:∀ a b c d e:Bool,((!((bif (bif (bif (bif a then true else b) then true else c) then true else d) then true else e)==false))||true)=true:=by decide
theorem Anx:∀ a b c d:Bool,((!(!(bif (bif (bif a then true else b) then true else c) then true else d)))||((bif (bif (bif a then true else b) then true else c) then true else d)==false))=true:=by decide
theorem Ats:∀ a b c d:Bool,((!((bif (bif (bif a then true else b) then true else c) then true else d)==false))||((((!((bif (bif (bif a then true else b) then true else c) then true else d)==false))||((bif (bif (bif a then true else b) then true else c) then true else d)==false))&&(((!((bif (bif (bif a then true else b) then true else c) then true else d)==false))||((bif (bif (bif a then true else b) then true else c) then true else d)==false))&&true))&&true))=true:=by decide
theorem Abd:∀ a b c d:Bool,((!((bif (bif (bif a then true else b) then true else c) then true else d)==false))||((((!((bif (bif (bif a then true else b) then true else c) then true else d)==false))||((bif (bif (bif a then true else b) then true else c) then true else d)==false))&&true)&&true))=true:=by decide
theorem Ag2:∀ a b c d:Bool,((!((bif (bif (bif a then true else b) then true else c) then true else d)==false))||true)=true:=by decide
theorem Anw:∀ a b c:Bool,((!(!(bif (bif a then true else b) then true else c)))||((bif (bif a then true else b) then true else c)==false))=true:=by decide
theorem Abc:∀ a b c:Bool,((!((bif (bif a then true else b) then true else c)==false))||((((!((bif (bif a then true else b) then true else c)==false))||((bif (bif a then true else b) then true else c)==false))&&true)&&true))=true:=by decide
theorem Anv:∀ a b c:Bool,((!((bif (bif a then true else b) then true else c)==false))||true)=true:=by decide
theorem Ajx:∀ a b:Bool,((!(!(bif a then true else b)))||((bif a then true else b)==false))=true:=by decide
theorem Vt:∀ a b:Bool,((!((bif a then true else b)==false))||((((!((bif a then true else b)==false))||((bif a then true else b)==false))&&true)&&true))=true:=by decide
theorem Zj:∀ a b:Bool,((!((bif a then true else b)==false))||true)=true:=by decide
theorem Av2:∀ a b:Bool,(!(a&&(b&&true)))=(!(a&&b)):=by decide
theorem Av1:∀ a b c d:Bool,(((!(bif (bif (bif a then b else false) then c else false) then d else false))||((bif (bif (bif a then b else false) then c else false) then d else false)==true))&&true)=true:=by decide
theorem Atr:∀ a b c d:Bool,((!((bif (bif (bif a then b else false) then c else false) then d else false)==true))||((((!((bif (bif (bif a then b else false) then c else false) then d else false)==true))||((bif (bif (bif a then b else false) then c else false) then d else false)==true))&&(((!((bif (bif (bif a then b else false) then c else false) then d else false)==true))||((bif (bif (bif a then b else false) then c else false) then d else false)==true))&&true))&&true))=true:=by decide
theorem Anu:∀ a b c d:Bool,((!((bif (bif (bif a then b else false) then c else false) then d else false)==true))||((((!((bif (bif (bif a then b else false) then c else false) then d else false)==true))||((bif (bif (bif a then b else false) then c else false) then d else false)==true))&&true)&&true))=true:=by decide
theorem Arj:∀ a b c d:Bool,((!((bif (bif (bif a then b else false) then c else false) then d else false)==true))||true)=true:=by decide
theorem Atq:∀ a b c:Bool,(((!(bif (bif a then b else false) then c else false))||((bif (bif a then b else false) then c else false)==true))&&true)=true:=by decide
theorem Ari:∀ a b c:Bool,((!((bif (bif a then b else false) then c else false)==true))||((((!((bif (bif a then b else false) then c else false)==true))||((bif (bif a then b else false) then c else false)==true))&&true)&&true))=true:=by decide
theorem Arh:∀ a b c:Bool,((!((bif (bif a then b else false) then c else false)==true))||true)=true:=by decide
theorem Ajw:∀ a b:Bool,(((!(bif a then b else false))||((bif a then b else false)==true))&&true)=true:=by decide
theorem Abb:∀ a b:Bool,((!((bif a then b else false)==true))||((((!((bif a then b else false)==true))||((bif a then b else false)==true))&&true)&&true))=true:=by decide
theorem Adp:∀ a b:Bool,((!((bif a then b else false)==true))||true)=true:=by decide
theorem Atp:∀ a b c:Bool,((!((bif a then b else false)==true))||((((!((bif a then b else false)==true))||((bif a then b else false)==true))&&(((!((bif a then b else false)==true))||((bif a then b else false)==true))&&true))&&c))=((!(a&&b))||c):=by decide
theorem Ato:∀ a b c:Bool,((!(a==true))||((((!(a==true))||(a==true))&&(((!(a==true))||(a==true))&&true))&&(b&&c)))=((!a)||(b&&c)):=by decide
theorem Av0:∀ a:Bool,(((a&&true)&&true)&&true)=a:=by decide
theorem Arf:∀ a b:Bool,((!(a==true))||((((!(a==true))||(a==true))&&true)&&b))=((!a)||b):=by decide
theorem Are:∀ a b:Bool,((!(a==true))||((((!(a==true))||(a==true))&&(((!(a==true))||(a==true))&&true))&&b))=((!a)||b):=by decide
theorem Atn:∀ a b:Bool,((!(a==false))||((((!(a==false))||(a==false))&&true)&&b))=(a||b):=by decide
theorem Avz:∀ a b:Bool,(bif a then true else (!b))=(a||(!b)):=by decide
theorem Ard:∀ a b c:Bool,((a&&b)&&((a&&c)&&true))=((a&&b)&&(a&&c)):=by decide
theorem Avy:∀ a:Bool,((a&&true)&&true)=a:=by decide
theorem Avx:∀ a b c d e:Bool,(bif (bif (bif (bif a then true else b) then true else c) then true else d) then true else e)=((((a||b)||c)||d)||e):=by decide
theorem Ant:∀ a b:Bool,((!((bif a then true else b)==false))||((((!((bif a then true else b)==false))||((bif a then true else b)==false))&&(((!((bif a then true else b)==false))||((bif a then true else b)==false))&&true))&&true))=true:=by decide
theorem Atm:∀ a b c d e f g:Bool,(bif (bif (bif (bif (bif (bif a then true else b) then true else c) then true else d) then true else e) then true else f) then true else g)=((((((a||b)||c)||d)||e)||f)||g):=by decide
theorem Avw:∀ a b c:Bool,((!((bif a then b else false)==true))||((((!((bif a then b else false)==true))||((bif a then b else false)==true))&&true)&&c))=((!(a&&b))||c):=by decide
theorem Auh:∀ a b c:Bool,(bif a then (bif b then true else c) else false)=(a&&(b||c)):=by decide
theorem Aug:∀ a b c:Bool,((!((a==true)&&(b==false)))||((((!((a==true)&&(b==false)))||((a==true)&&(b==false)))&&true)&&c))=((!(a&&(!b)))||c):=by decide
theorem Auf:∀ a b c d:Bool,((!((a==true)&&(b==false)))||((((!((a==true)&&(b==false)))||((a==true)&&(b==false)))&&(((!((a==true)&&(b==false)))||((a==true)&&(b==false)))&&true))&&(c&&d)))=((!(a&&(!b)))||(c&&d)):=by decide
theorem Aue:∀ a b c d:Bool,((!((bif (bif a then b else false) then c else false)==true))||((((!((bif (bif a then b else false) then c else false)==true))||((bif (bif a then b else false) then c else false)==true))&&(((!((bif (bif a then b else false) then c else false)==true))||((bif (bif a then b else false) then c else false)==true))&&true))&&d))=((!((a&&b)&&c))||d):=by decide
theorem Aud:∀ a b c d e:Bool,(bif (bif (bif (bif a then true else b) then true else (!c)) then true else (!d)) then true else (!e))=((((a||b)||(!c))||(!d))||(!e)):=by decide
theorem Auc:∀ a b c d:Bool,((!(!(bif (bif (bif a then true else b) then true else (!c)) then true else (!d))))||((bif (bif (bif a then true else b) then true else (!c)) then true else (!d))==false))=true:=by decide
theorem Aua:∀ a b c d:Bool,((!((bif (bif (bif a then true else b) then true else (!c)) then true else (!d))==false))||((((!((bif (bif (bif a then true else b) then true else (!c)) then true else (!d))==false))||((bif (bif (bif a then true else b) then true else (!c)) then true else (!d))==false))&&true)&&true))=true:=by decide
theorem At9:∀ a b c d e:Bool,((!((bif (bif (bif a then true else b) then true else (!c)) then true else (!d))==false))||((((!((bif (bif (bif a then true else b) then true else (!c)) then true else (!d))==false))||((bif (bif (bif a then true else b) then true else (!c)) then true else (!d))==false))&&true)&&e))=((((a||b)||(!c))||(!d))||e):=by decide
theorem At8:∀ a b c d:Bool,((!((bif (bif (bif a then true else b) then true else (!c)) then true else (!d))==false))||true)=true:=by decide
theorem At7:∀ a b c:Bool,((!(!(bif (bif a then true else b) then true else (!c))))||((bif (bif a then true else b) then true else (!c))==false))=true:=by decide
theorem At6:∀ a b c:Bool,((!((bif (bif a then true else b) then true else (!c))==false))||((((!((bif (bif a then true else b) then true else (!c))==false))||((bif (bif a then true else b) then true else (!c))==false))&&true)&&true))=true:=by decide
theorem At5:∀ a b c d:Bool,((!((bif (bif a then true else b) then true else (!c))==false))||((((!((bif (bif a then true else b) then true else (!c))==false))||((bif (bif a then true else b) then true else (!c))==false))&&true)&&d))=(((a||b)||(!c))||d):=by decide
theorem At4:∀ a b c:Bool,((!((bif (bif a then true else b) then true else (!c))==false))||true)=true:=by decide
theorem At3:∀ a b c:Bool,((!((bif a then true else b)==false))||((((!((bif a then true else b)==false))||((bif a then true else b)==false))&&true)&&c))=((a||b)||c):=by decide
open Go Go.Den Go.Rnd Go.Proofs
set_option maxRecDepth 100000
namespace EqSoft
def soft.Split.A8:List (Nat × Entry):=[]
def soft.Split.E:Env:=Ba (A7 soft.Split.A8) (fun _=>false) (fun _=>none) (fun _=>none)
theorem soft.Split.ev (N:Nat) (x:Int):B0 soft.Split.E N f206 (Ap f206) [.int .u64 x]=some (.agg [.bool ((Db .u64 x 63)==(1:Int)),.int .i64 (Ab (Fz .u64 (Db .u64 x 52) 2047)),.int .u64 (Fz .u64 x 4503599627370495)]):=by kernel_rfl
abbrev _root_.Go.Proofs.S1.soft.Split.Kn:=A4 prog 206 soft.Split.spec
theorem soft.Split.Ad (hk:Ay prog soft.Split.A8) (h:Hyp soft.Split.E f206 soft.Split.ts soft.Split.pre soft.Split.out):soft.Split.Kn :=
 Al (A1 hk _ _ _) func206 (by kernel_rfl) (by kernel_rfl) h
def soft.Kind.A8:List (Nat × Entry):=[(206,soft.Split.spec)]
def soft.Kind.E:Env:=Ba (A7 soft.Kind.A8) (fun _=>false) (fun _=>none) (fun _=>none)
theorem soft.Kind.ev (N:Nat) (x:Int):B0 soft.Kind.E N f155 (Ap f155) [.int .u64 x]=bif (Ah x) then bif (((Kf x)==(2047:Int))&&((Cg x)==(0:Int))) then some (.int .i64 3) else bif ((Kf x)==(2047:Int)) then some (.int .i64 4) else bif (A0 0 (Kf x)) then some (.int .i64 2) else bif (A0 0 (Cg x)) then some (.int .i64 1) else some (.int .i64 0) else none :=
 Eq.trans (by kernel_rfl)
 (Ev (Dw (tt0 (Dm x) ((Kf x)==(2047:Int)) ((Cg x)==(0:Int))) rfl rfl) rfl)
abbrev _root_.Go.Proofs.S1.soft.Kind.Kn:=A4 prog 155 soft.Kind.spec
theorem soft.Kind.Ad (hk:Ay prog soft.Kind.A8) (h:Hyp soft.Kind.E f155 soft.Kind.ts soft.Kind.pre soft.Kind.out):soft.Kind.Kn :=
 Al (A1 hk _ _ _) func155 (by kernel_rfl) (by kernel_rfl) h
def soft.Sign.A8:List (Nat × Entry):=[]
def soft.Sign.E:Env:=Ba (A7 soft.Sign.A8) (fun _=>false) (fun _=>none) (fun _=>none)
theorem soft.Sign.ev (N:Nat) (x:Int):B0 soft.Sign.E N f213 (Ap f213) [.int .u64 x]=some (.bool ((Db .u64 x 63)==(1:Int))):=by kernel_rfl
abbrev _root_.Go.Proofs.S1.soft.Sign.Kn:=A4 prog 213 soft.Sign.spec
theorem soft.Sign.Ad (hk:Ay prog soft.Sign.A8) (h:Hyp soft.Sign.E f213 soft.Sign.ts soft.Sign.pre soft.Sign.out):soft.Sign.Kn :=
 Al (A1 hk _ _ _) func213 (by kernel_rfl) (by kernel_rfl) h
def soft.Finite.A8:List (Nat × Entry):=[(155,soft.Kind.spec)]
def soft.Finite.E:Env:=Ba (A7 soft.Finite.A8) (fun _=>false) (fun _=>none) (fun _=>none)
theorem soft.Finite.ev (N:Nat) (x:Int):B0 soft.Finite.E N f148 (Ap f148) [.int .u64 x]=bif (Ah x) then bif ((Av x)==(3:Int)) then some (.bool false) else bif ((Av x)==(4:Int)) then some (.bool false) else some (.bool true) else none:=by kernel_rfl
abbrev _root_.Go.Proofs.S1.soft.Finite.Kn:=A4 prog 148 soft.Finite.spec
theorem soft.Finite.Ad (hk:Ay prog soft.Finite.A8) (h:Hyp soft.Finite.E f148 soft.Finite.ts soft.Finite.pre soft.Finite.out):soft.Finite.Kn :=
 Al (A1 hk _ _ _) func148 (by kernel_rfl) (by kernel_rfl) h
def soft.E9.A8:List (Nat × Entry):=[]
def soft.E9.E:Env:=Ba (A7 soft.E9.A8) (fun _=>false) (fun _=>none) (fun _=>none)
theorem soft.E9.ev (N:Nat) (x:Int):B0 soft.E9.E N f233 (Ap f233) [.int .u64 x]=some (.int .u64 (Aqc .u64 x 9223372036854775808)):=by kernel_rfl
abbrev _root_.Go.Proofs.S1.soft.E9.Kn:=A4 prog 233 soft.E9.spec
theorem soft.E9.Ad (hk:Ay prog soft.E9.A8) (h:Hyp soft.E9.E f233 soft.E9.ts soft.E9.pre soft.E9.out):soft.E9.Kn :=
 Al (A1 hk _ _ _) func233 (by kernel_rfl) (by kernel_rfl) h
def soft.Ex.A8:List (Nat × Entry):=[(206,soft.Split.spec)]
def soft.Ex.E:Env:=Ba (A7 soft.Ex.A8) (fun _=>false) (fun _=>none) (fun _=>none)
theorem soft.Ex.ev (N:Nat) (x:Int):B0 soft.Ex.E N f211 (Ap f211) [.int .u64 x]=bif (Ah x) then bif ((Kf x)==(0:Int)) then some (.tup [.int .u64 (Cg x),.int .i64 (-1074:Int)]) else some (.tup [.int .u64 (Hn .u64 (Cg x) 4503599627370496),.int .i64 (Ab ((Kf x)-1075))]) else none:=by kernel_rfl
abbrev _root_.Go.Proofs.S1.soft.Ex.Kn:=A4 prog 211 soft.Ex.spec
theorem soft.Ex.Ad (hk:Ay prog soft.Ex.A8) (h:Hyp soft.Ex.E f211 soft.Ex.ts soft.Ex.pre soft.Ex.out):soft.Ex.Kn :=
 Al (A1 hk _ _ _) func211 (by kernel_rfl) (by kernel_rfl) h
def soft.Pack.A8:List (Nat × Entry):=[(233,soft.E9.spec)]
def soft.Pack.E (rk:Nat):Env:=Ba (A7 ((239,Aht [.b,.i .u64,.i .i64] soft.Pack.pre soft.Pack.out soft.Pack.mu rk)::soft.Pack.A8)) (fun _=>false) (fun _=>none) (fun _=>none)
theorem soft.Pack.ev (N rk:Nat) (n:Bool) (m e:Int):B0 (soft.Pack.E rk) N f239 (Ap f239) [.bool n,.int .u64 m,.int .i64 e]=bif (m==(0:Int)) then bif n then bif (Ah 0) then some (.int .u64 (Dk 0)) else none else some (.int .u64 0) else bif (Ej 9007199254740992 m) then bif ((Js (Db .u64 m 1) (Ab (e+1)))&&(Cw ((Nf (Db .u64 m 1) (Ab (e+1)))<rk))) then some (.int .u64 (Rx n (Db .u64 m 1) (Ab (e+1)))) else none else bif ((A0 m 4503599627370496)&&(A0 (-1074:Int) e)) then bif ((Js (Bp .u64 m 1) (Ab (e-1)))&&(Cw ((Nf (Bp .u64 m 1) (Ab (e-1)))<rk))) then some (.int .u64 (Rx n (Bp .u64 m 1) (Ab (e-1)))) else none else bif (A0 m 4503599627370496) then bif n then bif (Ah m) then some (.int .u64 (Dk m)) else none else some (.int .u64 m) else bif (Ej 2047 (Ab (e+1075))) then bif n then bif (Ah 9218868437227405312) then some (.int .u64 (Dk 9218868437227405312)) else none else some (.int .u64 9218868437227405312) else bif n then bif (Ah (Hn .u64 (Bp .u64 (Bg (Ab (e+1075))) 52) (Fz .u64 m 4503599627370495))) then some (.int .u64 (Dk (Hn .u64 (Bp .u64 (Bg (Ab (e+1075))) 52) (Fz .u64 m 4503599627370495)))) else none else some (.int .u64 (Hn .u64 (Bp .u64 (Bg (Ab (e+1075))) 52) (Fz .u64 m 4503599627370495))) :=
 Eq.trans (by kernel_rfl)
 (Ev rfl (Ev rfl (An (N4 (A0 m 4503599627370496)) (An (Na (A0 m 4503599627370496)) (An (T6 (A0 m 4503599627370496)) (Dw (tt1 (A0 m 4503599627370496) (A0 (-1074:Int) e)) rfl rfl))))))
theorem soft.Pack.Ad (hk:Ay prog soft.Pack.A8) (h:∀ (rk:Nat) (n:Bool) (m e:Int),soft.Pack.pre [.b n,.i m,.i e]=true→soft.Pack.mu [.b n,.i m,.i e]<rk+1→∃ N dv drops,B0 (soft.Pack.E rk) N f239 (Ap f239) [.bool n,.int .u64 m,.int .i64 e]=some dv∧Wk drops dv (soft.Pack.out [.b n,.i m,.i e])):A4 prog 239 soft.Pack.spec:=by
 have call:=Q9 (f:=239) func239 (by kernel_rfl) (show f239.body=some (Ap f239) by kernel_rfl)
 refine ⟨Aen (E:=soft.Pack.E) func239 (show f239.body=some (Ap f239) by kernel_rfl) soft.Pack.mu (fun rk hm=>A1 (.cons ⟨hm,call⟩ hk) _ _ _) fun rk ats dvs he hp hr=>?_,call⟩
 obtain ⟨n,_,_,rfl,rfl,he0⟩:=he.Au3
 obtain ⟨m,_,_,rfl,rfl,he1⟩:=he0.Al0
 obtain ⟨e,_,_,rfl,rfl,he2⟩:=he1.Al0
 obtain ⟨rfl,rfl⟩:=he2.Af8
 exact h rk n m e hp hr
abbrev _root_.Go.Proofs.S1.soft.Pack.Kn:Prop:=A4 prog 239 soft.Pack.spec
def soft.Cu.hint:Nat→Option A5
 | 0=>some { keep:=[0,1,2,3,10],objs:=[],boxes:=[] }
 | _=>none
def soft.Cu.A8:List (Nat × Entry):=[(155,soft.Kind.spec),(239,soft.Pack.spec)]
def soft.Cu.live:Nat→Option (List Nat)
 | 7=>some [0,1,2,3,10]
 | 12=>some [0,2,3,10,11,12,13,14]
 | 14=>some [0,2,10,11,14]
 | 16=>some [0,2,10,11,14]
 | 18=>some [14,15,16]
 | _=>none
def soft.Cu.E:Env:=Ba (A7 soft.Cu.A8) (fun _=>false) soft.Cu.hint soft.Cu.live
section
variable (N:Nat) (p14_3:Bool) (p15:Int) (M:Nat) (n:Bool) (m e p11 p10_4:Int) (p14_2:Bool) (p10_3 p11_2:Int) (p14_1 r:Bool) (p10_2 p11_1 p12 p13:Int) (p14:Bool) (p10_1 p10:Int)
def soft.Cu.L0:Option DV:=Cc soft.Cu.E N f212 (Ap f212) [1,1,1,0,0] [] M ⟨He 111 [(0,.bool n),(1,.int .u64 m),(2,.int .i64 e),(3,.bool r),(10,.int .i64 p10)],[]⟩
def soft.Cu.C7:Option DV:=cutAt soft.Cu.E N f212 (Ap f212) [1,1,1,1] [] ⟨He 111 [(0,.bool n),(1,.int .u64 m),(2,.int .i64 e),(3,.bool r),(10,.int .i64 p10_1)],[]⟩
def soft.Cu.C12:Option DV:=cutAt soft.Cu.E N f212 (Ap f212) [1,1,1,1,1,1,1,1,0] [] ⟨He 111 [(0,.bool n),(2,.int .i64 e),(3,.bool r),(10,.int .i64 p10_2),(11,.int .u64 p11_1),(12,.int .u64 p12),(13,.int .u64 p13),(14,.bool p14)],[]⟩
def soft.Cu.C14:Option DV:=cutAt soft.Cu.E N f212 (Ap f212) [1,1,1,1,1,1,1,1,1,0] [] ⟨He 111 [(0,.bool n),(2,.int .i64 e),(10,.int .i64 p10_3),(11,.int .u64 p11_2),(14,.bool p14_1)],[]⟩
def soft.Cu.C16:Option DV:=cutAt soft.Cu.E N f212 (Ap f212) [1,1,1,1,1,1,1,1,1,1] [] ⟨He 111 [(0,.bool n),(2,.int .i64 e),(10,.int .i64 p10_4),(11,.int .u64 p11),(14,.bool p14_2)],[]⟩
def soft.Cu.C18:Option DV:=cutAt soft.Cu.E N f212 (Ap f212) [1,1,1,1,1,1,1,1,1,1,1,1,0] [] ⟨He 111 [(14,.bool p14_3),(15,.int .u64 p15),(16,.int .u8 0)],[]⟩
theorem soft.Cu.Aw:soft.Cu.L0 N (M+1) n m e r p10=bif (decide (0≤p10)) then bif ((Ej 9007199254740992 (Db .u64 m p10))||(A0 (Ab (e+p10)) (-1074:Int))) then bif ((Ab (p10+1))==(63:Int)) then soft.Cu.C7 N n m e r (Ab (p10+1)) else soft.Cu.L0 N M n m e r (Ab (p10+1)) else soft.Cu.C7 N n m e r p10 else none :=
 Eq.trans (by kernel_rfl)
 (Ev (An (S4 (Ej 9007199254740992 (Db .u64 m p10))) (An (S4 (Ej 9007199254740992 (Db .u64 m p10))) (An (tt8 (Ej 9007199254740992 (Db .u64 m p10))) (An (Oi (Ej 9007199254740992 (Db .u64 m p10))) (An (Zk (Ej 9007199254740992 (Db .u64 m p10))) (Dw (tt5 (Ej 9007199254740992 (Db .u64 m p10)) (A0 (Ab (e+p10)) (-1074:Int))) rfl rfl)))))) rfl)
theorem soft.Cu.Au6:soft.Cu.C7 N n m e r p10_1=bif (decide (0≤p10_1)) then bif (decide (0≤p10_1)) then bif (A0 0 p10_1) then bif (decide (0≤(Ab (p10_1-1)))) then soft.Cu.C12 N n e r p10_1 (Db .u64 m p10_1) (Fz .u64 m (Bg ((Bp .u64 1 p10_1)-1))) (Bp .u64 1 (Ab (p10_1-1))) (bif ((Fz .u64 m (Bg ((Bp .u64 1 p10_1)-1)))==(0:Int)) then (!r) else false) else none else soft.Cu.C12 N n e r p10_1 (Db .u64 m p10_1) (Fz .u64 m (Bg ((Bp .u64 1 p10_1)-1))) 0 (bif ((Fz .u64 m (Bg ((Bp .u64 1 p10_1)-1)))==(0:Int)) then (!r) else false) else none else none :=
 Eq.trans ((Fy _ _ _ _ _ _ _).trans (by kernel_rfl))
 (Dw (E4 (decide (0≤p10_1))) (Dw (E4 (decide (0≤p10_1))) (Ev (Ev (An (N4 ((Fz .u64 m (Bg ((Bp .u64 1 p10_1)-1)))==(0:Int))) (An (Na ((Fz .u64 m (Bg ((Bp .u64 1 p10_1)-1)))==(0:Int))) (An (T6 ((Fz .u64 m (Bg ((Bp .u64 1 p10_1)-1)))==(0:Int))) rfl))) rfl) (An (N4 ((Fz .u64 m (Bg ((Bp .u64 1 p10_1)-1)))==(0:Int))) (An (Na ((Fz .u64 m (Bg ((Bp .u64 1 p10_1)-1)))==(0:Int))) (An (T6 ((Fz .u64 m (Bg ((Bp .u64 1 p10_1)-1)))==(0:Int))) rfl)))) rfl) rfl)
theorem soft.Cu.Afp:soft.Cu.C12 N n e r p10_2 p11_1 p12 p13 p14=bif ((A0 0 p10_2)&&((A0 p13 p12)||((p12==p13)&&(r||((Fz .u64 p11_1 1)==(1:Int)))))) then soft.Cu.C14 N n e p10_2 (Bg (p11_1+1)) p14 else soft.Cu.C14 N n e p10_2 p11_1 p14 :=
 Eq.trans ((Fy _ _ _ _ _ _ _).trans (by kernel_rfl))
 (An (N4 (A0 0 p10_2)) (An (N4 (A0 0 p10_2)) (An (Ads (A0 0 p10_2)) (An (Na (A0 0 p10_2)) (An (Ajz (A0 0 p10_2) (A0 p13 p12)) (An (Ajz (A0 0 p10_2) (A0 p13 p12)) (An (At1 (A0 0 p10_2) (A0 p13 p12)) (An (At2 (A0 0 p10_2) (A0 p13 p12)) (An (Awa (A0 0 p10_2) (A0 p13 p12) (p12==p13)) (An (Awb (A0 0 p10_2) (A0 p13 p12) (p12==p13)) (An (Awc (A0 0 p10_2) (A0 p13 p12) (p12==p13) r) (An (Aub (A0 0 p10_2) (A0 p13 p12) (p12==p13) r) (An (Aub (A0 0 p10_2) (A0 p13 p12) (p12==p13) r) (An (Awd (A0 0 p10_2) (A0 p13 p12) (p12==p13) r) (An (Awe (A0 0 p10_2) (A0 p13 p12) (p12==p13)) (An (Aui (A0 0 p10_2) (A0 p13 p12)) (An (T6 (A0 0 p10_2)) (Dw (Awf (A0 0 p10_2) (A0 p13 p12) (p12==p13) r ((Fz .u64 p11_1 1)==(1:Int))) rfl rfl))))))))))))))))))
theorem soft.Cu.Afo:soft.Cu.C14 N n e p10_3 p11_2 p14_1=bif (A0 (Ab (e+p10_3)) (-1074:Int)) then soft.Cu.C16 N n e 0 p10_3 p14_1 else soft.Cu.C16 N n e p11_2 p10_3 p14_1:=(Fy _ _ _ _ _ _ _).trans (by kernel_rfl)
theorem soft.Cu.Asu:soft.Cu.C16 N n e p11 p10_4 p14_2=bif (Js p11 (max (Ab (e+p10_4)) (-1074:Int))) then soft.Cu.C18 N p14_2 (Rx n p11 (max (Ab (e+p10_4)) (-1074:Int))) else none:=(Fy _ _ _ _ _ _ _).trans (by kernel_rfl)
theorem soft.Cu.Afn:soft.Cu.C18 N p14_3 p15=bif ((!p14_3)||((Ny .u64 p15 9223372036854775808)==(9218868437227405312:Int))) then bif (Ah p15) then bif ((Av p15)==(3:Int)) then some (.tup [.int .u64 p15,.int .u8 5]) else bif ((Av p15)==(0:Int)) then bif ((Av p15)==(0:Int)) then some (.tup [.int .u64 p15,.int .u8 3]) else some (.tup [.int .u64 p15,.int .u8 1]) else bif ((Av p15)==(1:Int)) then some (.tup [.int .u64 p15,.int .u8 3]) else some (.tup [.int .u64 p15,.int .u8 1]) else none else some (.tup [.int .u64 p15,.int .u8 0]) :=
 Eq.trans ((Fy _ _ _ _ _ _ _).trans (by kernel_rfl))
 (An (Adq p14_3) (An (Uv p14_3) (An (Uv p14_3) (An (Adr p14_3) (Dw (Arq p14_3 ((Ny .u64 p15 9223372036854775808)==(9218868437227405312:Int))) rfl rfl)))))
theorem soft.Cu.ev:B0 soft.Cu.E N f212 (Ap f212) [.bool n,.int .u64 m,.int .i64 e,.bool r]=bif ((m==(0:Int))&&(!r)) then bif (Js 0 (-1074:Int)) then some (.tup [.int .u64 (Rx n 0 (-1074:Int)),.int .u8 0]) else none else soft.Cu.L0 N N n m e r 0 :=
 Eq.trans (by kernel_rfl)
 (An (N4 (m==(0:Int))) (An (Na (m==(0:Int))) (An (T6 (m==(0:Int))) (Dw (Av9 (m==(0:Int)) r) rfl rfl))))
end
abbrev _root_.Go.Proofs.S1.soft.Cu.Kn:=A4 prog 212 soft.Cu.spec
theorem soft.Cu.Ad (hk:Ay prog soft.Cu.A8) (h:Hyp soft.Cu.E f212 soft.Cu.ts soft.Cu.pre soft.Cu.out):soft.Cu.Kn :=
 Al (A1 hk _ _ _) func212 (by kernel_rfl) (by kernel_rfl) h
end EqSoft
theorem Ae {a b:Bool}:(a&&b)=true↔a=true∧b=true:=by simp
theorem Af9 {n:Nat} (hn:n<2^64):((Db .u64 (n:Int) (63:Int))==(1:Int))=Dm n:=by
 rw [show (63:Int)=((63:Nat):Int) from rfl,Gz .u64 n 63 (by decide)]
 unfold Dm B5
 rw [Aw5,Axj]
 simp only [beq_iff_eq,Axa]
 omega
theorem Aoi {n:Nat} (hn:n<2^64):Ab (Fz .u64 (Db .u64 (n:Int) (52:Int)) (2047:Int))=Kf n:=by
 rw [show (52:Int)=((52:Nat):Int) from rfl,Gz .u64 n 52 (by decide),show (2047:Int)=((2^11-1:Nat):Int) from rfl,Hh 11 (by omega) (by decide)]
 unfold Kf Df
 rw [Aw5,Ao (by omega) (by omega)]
theorem Al4 {n:Nat} (hn:n<2^64):Fz .u64 (n:Int) (4503599627370495:Int)=Cg n:=by
 rw [show (4503599627370495:Int)=((2^52-1:Nat):Int) from rfl,Hh 52 hn (by decide)]
 unfold Cg Co
 rw [Aw5]
theorem soft.Split.known:soft.Split.Kn:=EqSoft.soft.Split.Ad .nil fun x hp=>by
 obtain ⟨n,rfl,hn⟩:=Bt (x:=x) hp
 refine ⟨0,soft.Split.out [.i n],[],?_,Wk.H5 (.cons .bool (.cons .int (.cons .int .nil)))⟩
 rw [EqSoft.soft.Split.ev,Af9 hn,Aoi hn,Al4 hn]
 rfl
theorem soft.Kind.known:soft.Kind.Kn:=EqSoft.soft.Kind.Ad (.cons soft.Split.known .nil) fun x hp=>by
 obtain ⟨n,rfl,hn⟩:=Bt (x:=x) hp
 refine ⟨0,soft.Kind.out [.i n],[],?_,.int⟩
 rw [EqSoft.soft.Kind.ev,B3 hn]
 show _=some (DV.int .i64 (Av n))
 unfold Av Ag Kf Cg
 simp only [Aw5,Aw3,Au]
 have:=Ir n
 by_cases h1:Df n=2047
 ·by_cases h2:Co n=0
  ·simp [h1,h2]
  ·have:((Co n:Int)==0)=false:=by simp; exact h2
   simp [h1,this,h2]
 ·have h1':((Df n:Int)==2047)=false:=by simp; omega
  rw [h1']
  by_cases h3:0<Df n
  ·simp [h1,h3]
  ·by_cases h4:0<Co n
   ·simp [h1,h3,h4]
   ·simp [h1,h3,h4]
theorem soft.Sign.known:soft.Sign.Kn:=EqSoft.soft.Sign.Ad .nil fun x hp=>by
 obtain ⟨n,rfl,hn⟩:=Bt (x:=x) hp
 refine ⟨0,soft.Sign.out [.i n],[],?_,.bool⟩
 rw [EqSoft.soft.Sign.ev,Af9 hn]
 rfl
theorem Wt (n:Nat):Gg n=!(decide (Ag n=3)||decide (Ag n=4)):=by
 have:=Ir n
 unfold Gg Ag
 by_cases h1:Df n=2047
 ·by_cases h2:Co n=0<;>simp [h1,h2]
 ·have:Df n<2047:=by omega
  by_cases h3:0<Df n
  ·simp [h1,h3,this]
  ·by_cases h4:0<Co n<;>simp [h1,h3,h4,this]
theorem soft.Finite.known:soft.Finite.Kn:=EqSoft.soft.Finite.Ad (.cons soft.Kind.known .nil) fun x hp=>by
 obtain ⟨n,rfl,hn⟩:=Bt (x:=x) hp
 refine ⟨0,soft.Finite.out [.i n],[],?_,.bool⟩
 rw [EqSoft.soft.Finite.ev,B3 hn]
 show _=some (DV.bool (Cq n))
 unfold Cq Av
 rw [Aw5,Wt]
 by_cases h3:Ag n=3
 ·simp [h3]
 ·by_cases h4:Ag n=4
  ·simp [h4]
  ·have e3:((Ag n:Int)==3)=false:=by simp; omega
   have e4:((Ag n:Int)==4)=false:=by simp; omega
   simp [h3,h4,e3,e4]
theorem Aib {n:Nat} (hn:n<2^64):Aqc .u64 (n:Int) (9223372036854775808:Int)=Dk n:=by
 rw [show (9223372036854775808:Int)=((2^63:Nat):Int) from rfl,Amw hn (by decide),Ane hn]
 unfold Dk El
 rw [Aw5]
theorem soft.E9.known:soft.E9.Kn:=EqSoft.soft.E9.Ad .nil fun x hp=>by
 obtain ⟨n,rfl,hn⟩:=Bt (x:=x) hp
 refine ⟨0,soft.E9.out [.i n],[],?_,.int⟩
 rw [EqSoft.soft.E9.ev,Aib hn]
 rfl
theorem soft.Ex.known:soft.Ex.Kn:=EqSoft.soft.Ex.Ad (.cons soft.Split.known .nil) fun x hp=>by
 obtain ⟨n,rfl,hn⟩:=Bt (x:=x) hp
 refine ⟨0,soft.Ex.out [.i n],[],?_,Wk.G3 (.cons .int (.cons .int .nil))⟩
 rw [EqSoft.soft.Ex.ev,B3 hn]
 show _=some (DV.tup [.int .u64 (Bc n),.int .i64 (A3 n)])
 have hf:=J8 n
 have hp:=Ir n
 unfold Bc A3 Kf Cg Am As
 rw [Aw5]
 by_cases h:Df n=0
 ·simp [h]
 ·have e:((Df n:Int)==0)=false:=by simp; omega
  have e2:Hn .u64 ((Co n:Nat):Int) (4503599627370496:Int)=((Co n+2^52:Nat):Int):=by
   rw [show (4503599627370496:Int)=((1*2^52:Nat):Int) from rfl,Ai7 (by omega) (by omega)]
   congr 1; omega
  rw [e,e2,Ao (by omega) (by omega)]
  simp [h]
namespace EqRefD
def Ax.Neg.A8:List (Nat × Entry):=[]
def Ax.Neg.E:Env:=Ba (A7 Ax.Neg.A8) (fun _=>false) (fun _=>none) (fun _=>none)
theorem Ax.Neg.ev (N:Nat) (x:Int):B0 Ax.Neg.E N f142 (Ap f142) [.int .u64 x]=some (.bool ((Bg (Int.tdiv x 9223372036854775808))==(1:Int))):=by kernel_rfl
abbrev _root_.Go.Proofs.S1.Ax.Neg.Kn:=A4 prog 142 Ax.Neg.spec
theorem Ax.Neg.Ad (hk:Ay prog Ax.Neg.A8) (h:Hyp Ax.Neg.E f142 Ax.Neg.ts Ax.Neg.pre Ax.Neg.out):Ax.Neg.Kn :=
 Al (A1 hk _ _ _) func142 (by kernel_rfl) (by kernel_rfl) h
def Ax.Power.A8:List (Nat × Entry):=[]
def Ax.Power.E:Env:=Ba (A7 Ax.Power.A8) (fun _=>false) (fun _=>none) (fun _=>none)
theorem Ax.Power.ev (N:Nat) (x:Int):B0 Ax.Power.E N f140 (Ap f140) [.int .u64 x]=some (.int .i64 (Ab (Bg (Int.tdiv (Int.tmod x 9223372036854775808) 4503599627370496)))):=by kernel_rfl
abbrev _root_.Go.Proofs.S1.Ax.Power.Kn:=A4 prog 140 Ax.Power.spec
theorem Ax.Power.Ad (hk:Ay prog Ax.Power.A8) (h:Hyp Ax.Power.E f140 Ax.Power.ts Ax.Power.pre Ax.Power.out):Ax.Power.Kn :=
 Al (A1 hk _ _ _) func140 (by kernel_rfl) (by kernel_rfl) h
def Ax.I1.A8:List (Nat × Entry):=[]
def Ax.I1.E:Env:=Ba (A7 Ax.I1.A8) (fun _=>false) (fun _=>none) (fun _=>none)
theorem Ax.I1.ev (N:Nat) (x:Int):B0 Ax.I1.E N f141 (Ap f141) [.int .u64 x]=some (.int .u64 (Int.tmod x 4503599627370496)):=by kernel_rfl
abbrev _root_.Go.Proofs.S1.Ax.I1.Kn:=A4 prog 141 Ax.I1.spec
theorem Ax.I1.Ad (hk:Ay prog Ax.I1.A8) (h:Hyp Ax.I1.E f141 Ax.I1.ts Ax.I1.pre Ax.I1.out):Ax.I1.Kn :=
 Al (A1 hk _ _ _) func141 (by kernel_rfl) (by kernel_rfl) h
def Ax.Kind.A8:List (Nat × Entry):=[(141,Ax.I1.spec),(140,Ax.Power.spec)]
def Ax.Kind.E:Env:=Ba (A7 Ax.Kind.A8) (fun _=>false) (fun _=>none) (fun _=>none)
theorem Ax.Kind.ev (N:Nat) (x:Int):B0 Ax.Kind.E N f62 (Ap f62) [.int .u64 x]=bif (N8 x) then bif ((Kf x)==(2047:Int)) then bif (N8 x) then bif ((Cg x)==(0:Int)) then some (.int .i64 3) else some (.int .i64 4) else none else bif (N8 x) then bif (A0 0 (Kf x)) then some (.int .i64 2) else bif (N8 x) then bif (A0 0 (Cg x)) then some (.int .i64 1) else some (.int .i64 0) else none else none else none:=by kernel_rfl
abbrev _root_.Go.Proofs.S1.Ax.Kind.Kn:=A4 prog 62 Ax.Kind.spec
theorem Ax.Kind.Ad (hk:Ay prog Ax.Kind.A8) (h:Hyp Ax.Kind.E f62 Ax.Kind.ts Ax.Kind.pre Ax.Kind.out):Ax.Kind.Kn :=
 Al (A1 hk _ _ _) func62 (by kernel_rfl) (by kernel_rfl) h
def Ax.Finite.A8:List (Nat × Entry):=[(140,Ax.Power.spec)]
def Ax.Finite.E:Env:=Ba (A7 Ax.Finite.A8) (fun _=>false) (fun _=>none) (fun _=>none)
theorem Ax.Finite.ev (N:Nat) (x:Int):B0 Ax.Finite.E N f131 (Ap f131) [.int .u64 x]=bif (N8 x) then some (.bool (A0 (Kf x) 2047)) else none:=by kernel_rfl
abbrev _root_.Go.Proofs.S1.Ax.Finite.Kn:=A4 prog 131 Ax.Finite.spec
theorem Ax.Finite.Ad (hk:Ay prog Ax.Finite.A8) (h:Hyp Ax.Finite.E f131 Ax.Finite.ts Ax.Finite.pre Ax.Finite.out):Ax.Finite.Kn :=
 Al (A1 hk _ _ _) func131 (by kernel_rfl) (by kernel_rfl) h
end EqRefD
open EqRefD
theorem K5 (n m:Nat):Int.tdiv (n:Int) (m:Int)=((n / m:Nat):Int):=rfl
theorem K4 (n m:Nat):Int.tmod (n:Int) (m:Int)=((n%m:Nat):Int):=rfl
theorem Aqw:(9223372036854775808:Int)=((2^63:Nat):Int):=rfl
theorem Aqx:(4503599627370496:Int)=((2^52:Nat):Int):=rfl
theorem Ax.Neg.known:Ax.Neg.Kn:=Ax.Neg.Ad .nil fun x hp=>by
 obtain ⟨n,rfl,hn⟩:=Bt (x:=x) hp
 refine ⟨0,Ax.Neg.out [.i n],[],?_,.bool⟩
 rw [Ax.Neg.ev,Aqw,K5,Ea (by omega) (by omega)]
 show _=some (DV.bool (Dm n))
 unfold Dm B5
 rw [Aw5]
 congr 2
 rw [Axj]
 simp only [beq_iff_eq,Axa]
 omega
theorem Ax.Power.known:Ax.Power.Kn:=Ax.Power.Ad .nil fun x hp=>by
 obtain ⟨n,rfl⟩:=Wh (x:=x) hp
 refine ⟨0,Ax.Power.out [.i n],[],?_,.int⟩
 rw [Ax.Power.ev,Aqw,Aqx,K4,K5,Ea (by omega) (by omega),Ao (by omega) (by omega)]
 show _=some (DV.int .i64 (Kf n))
 unfold Kf Df
 rw [Aw5]
 congr 2
 have:n%2^63 / 2^52=n / 2^52%2048:=by omega
 rw [this]
theorem Ax.I1.known:Ax.I1.Kn:=Ax.I1.Ad .nil fun x hp=>by
 obtain ⟨n,rfl⟩:=Wh (x:=x) hp
 refine ⟨0,Ax.I1.out [.i n],[],?_,.int⟩
 rw [Ax.I1.ev,Aqx,K4]
 rfl
theorem Ax.Kind.known:Ax.Kind.Kn:=Ax.Kind.Ad (.cons Ax.I1.known (.cons Ax.Power.known .nil)) fun x hp=>by
 obtain ⟨n,rfl⟩:=Wh (x:=x) hp
 refine ⟨0,Ax.Kind.out [.i n],[],?_,.int⟩
 rw [Ax.Kind.ev,Ou]
 show _=some (DV.int .i64 (Av n))
 unfold Av Ag Kf Cg
 simp only [Aw5,Aw3,Au]
 have:=Ir n
 by_cases h1:Df n=2047
 ·by_cases h2:Co n=0
  ·simp [h1,h2]
  ·have:((Co n:Int)==0)=false:=by simp; exact h2
   simp [h1,this,h2]
 ·have h1':((Df n:Int)==2047)=false:=by simp; omega
  rw [h1']
  by_cases h3:0<Df n
  ·simp [h1,h3]
  ·by_cases h4:0<Co n
   ·simp [h1,h3,h4]
   ·simp [h1,h3,h4]
theorem Ax.Finite.known:Ax.Finite.Kn:=Ax.Finite.Ad (.cons Ax.Power.known .nil) fun x hp=>by
 obtain ⟨n,rfl,hn⟩:=Bt (x:=x) hp
 refine ⟨0,Ax.Finite.out [.i n],[],?_,.bool⟩
 rw [Ax.Finite.ev,Ou,Aw3,Au]
 show _=some (DV.bool (Cq n))
 unfold Cq Gg Kf
 rw [Aw5]
 have:decide ((Df n:Int)<2047)=decide (Df n<2047):=decide_eq_decide.2 (by omega)
 rw [this]
namespace EqRefA
def Ar.Jh.A8:List (Nat × Entry):=[]
def Ar.Jh.E:Env:=Ba (A7 Ar.Jh.A8) (fun _=>false) (fun _=>none) (fun _=>none)
theorem Ar.Jh.ev (N:Nat) (l:List Int) (i:Int):B0 Ar.Jh.E N f221 (Ap f221) [.ints .arg .u32 l,.int .i64 i]=bif ((Ej 0 i)&&(A0 i (length l:Int))) then bif ((decide (0≤i))&&(decide (i<(length l:Int)))) then some (.int .u64 (Bg (getD l (toNat i) 0))) else none else some (.int .u64 0) :=
 Eq.trans (by kernel_rfl)
 (An (N4 (Ej 0 i)) (An (N4 (Ej 0 i)) (An (Na (Ej 0 i)) (An (Ads (Ej 0 i)) (An (T6 (Ej 0 i)) (Dw (tt1 (Ej 0 i) (A0 i (length l:Int))) rfl rfl))))))
abbrev _root_.Go.Proofs.S1.Ar.Jh.Kn:=A4 prog 221 Ar.Jh.spec
theorem Ar.Jh.Ad (hk:Ay prog Ar.Jh.A8) (h:Hyp Ar.Jh.E f221 Ar.Jh.ts Ar.Jh.pre Ar.Jh.out):Ar.Jh.Kn :=
 Al (A1 hk _ _ _) func221 (by kernel_rfl) (by kernel_rfl) h
def Ar.Made.hint:Nat→Option A5
 | 0=>some { keep:=[0,1,4,5],objs:=[],boxes:=[4] }
 | _=>none
def Ar.Made.A8:List (Nat × Entry):=[]
def Ar.Made.E:Env:=Ba (A7 Ar.Made.A8) (fun _=>false) Ar.Made.hint (fun _=>none)
section
variable (N M:Nat) (n:Bool) (l:List Int) (p5:Int)
def Ar.Made.L0:Option DV:=Cc Ar.Made.E N f171 (Ap f171) [1,1,0,0] [] M ⟨He 28 [(0,.bool n),(1,.ints .arg .u32 l),(4,.ptr 4 0 0),(5,.int .i64 p5)],[(4,false,.box [.bool false,.nil])]⟩
theorem Ar.Made.Aw:Ar.Made.L0 N (M+1) n l p5=bif ((!(A0 0 p5))||((decide (0≤(Ab (p5-1))))&&(decide ((Ab (p5-1))<(length l:Int))))) then bif ((A0 0 p5)&&((getD l (toNat (Ab (p5-1))) 0)==(0:Int))) then Ar.Made.L0 N M n l (Ab (p5-1)) else bif (p5==(0:Int)) then some (.agg [.bool false,.nil]) else bif ((decide ((0:Int)≤p5))&&(decide (p5≤(length l:Int)))) then some (.agg [.bool n,.ints .arg .u32 (List.take (toNat p5) l)]) else none else none :=
 Eq.trans (by kernel_rfl)
 (An (N4 (A0 0 p5)) (An (N4 (A0 0 p5)) (An (Na (A0 0 p5)) (Dw (Ato (A0 0 p5) (decide (0≤(Ab (p5-1)))) (decide ((Ab (p5-1))<(length l:Int)))) (An (Na (A0 0 p5)) (An (Na (A0 0 p5)) (An (T6 (A0 0 p5)) (Dw (tt1 (A0 0 p5) ((getD l (toNat (Ab (p5-1))) 0)==(0:Int))) rfl (Ev rfl (Dw (M9 (decide ((0:Int)≤p5)) (decide (p5≤(length l:Int)))) rfl rfl)))))) rfl))))
theorem Ar.Made.ev:B0 Ar.Made.E N f171 (Ap f171) [.bool n,.ints .arg .u32 l] =
 Ar.Made.L0 N N n l (length l:Int):=by kernel_rfl
end
abbrev _root_.Go.Proofs.S1.Ar.Made.Kn:=A4 prog 171 Ar.Made.spec
theorem Ar.Made.Ad (hk:Ay prog Ar.Made.A8) (h:Hyp Ar.Made.E f171 Ar.Made.ts Ar.Made.pre Ar.Made.out):Ar.Made.Kn :=
 Al (A1 hk _ _ _) func171 (by kernel_rfl) (by kernel_rfl) h
def Ar.Of.A8:List (Nat × Entry):=[(171,Ar.Made.spec)]
def Ar.Of.E:Env:=Ba (A7 Ar.Of.A8) (fun _=>false) (fun _=>none) (fun _=>none)
theorem Ar.Of.ev (N:Nat) (n:Int):B0 Ar.Of.E N f115 (Ap f115) [.int .i64 n]=bif (A0 n 0) then bif (Zz [(Ju (Int.tmod (Bg ((Bg (Ab (0-(Ab (n+1)))))+1)) 4294967296)),(Ju (Bg (Int.tdiv (Bg ((Bg (Ab (0-(Ab (n+1)))))+1)) 4294967296)))]) then some (.agg [.bool (Ck (wv true [(Ju (Int.tmod (Bg ((Bg (Ab (0-(Ab (n+1)))))+1)) 4294967296)),(Ju (Bg (Int.tdiv (Bg ((Bg (Ab (0-(Ab (n+1)))))+1)) 4294967296)))])),.ints .arg .u32 (A2 (wv true [(Ju (Int.tmod (Bg ((Bg (Ab (0-(Ab (n+1)))))+1)) 4294967296)),(Ju (Bg (Int.tdiv (Bg ((Bg (Ab (0-(Ab (n+1)))))+1)) 4294967296)))]))]) else none else bif (Zz [(Ju (Int.tmod n 4294967296)),(Ju (Ab (Int.tdiv n 4294967296)))]) then some (.agg [.bool (Ck (wv false [(Ju (Int.tmod n 4294967296)),(Ju (Ab (Int.tdiv n 4294967296)))])),.ints .arg .u32 (A2 (wv false [(Ju (Int.tmod n 4294967296)),(Ju (Ab (Int.tdiv n 4294967296)))]))]) else none:=by kernel_rfl
abbrev _root_.Go.Proofs.S1.Ar.Of.Kn:=A4 prog 115 Ar.Of.spec
theorem Ar.Of.Ad (hk:Ay prog Ar.Of.A8) (h:Hyp Ar.Of.E f115 Ar.Of.ts Ar.Of.pre Ar.Of.out):Ar.Of.Kn :=
 Al (A1 hk _ _ _) func115 (by kernel_rfl) (by kernel_rfl) h
def Ar.Neg.A8:List (Nat × Entry):=[(171,Ar.Made.spec)]
def Ar.Neg.E:Env:=Ba (A7 Ar.Neg.A8) (fun _=>false) (fun _=>none) (fun _=>none)
theorem Ar.Neg.ev (N:Nat) (n:Bool) (a:List Int):B0 Ar.Neg.E N f143 (Ap f143) [.agg [.bool n,.ints .arg .u32 a]]=bif (Zz a) then some (.agg [.bool (Ck (wv (!n) a)),.ints .arg .u32 (A2 (wv (!n) a))]) else none:=by kernel_rfl
abbrev _root_.Go.Proofs.S1.Ar.Neg.Kn:=A4 prog 143 Ar.Neg.spec
theorem Ar.Neg.Ad (hk:Ay prog Ar.Neg.A8) (h:Hyp Ar.Neg.E f143 Ar.Neg.ts Ar.Neg.pre Ar.Neg.out):Ar.Neg.Kn :=
 Al (A1 hk _ _ _) func143 (by kernel_rfl) (by kernel_rfl) h
end EqRefA
open EqRefA
theorem Ar.Jh.known:Ar.Jh.Kn:=Ar.Jh.Ad .nil fun l i hp=>by
 obtain ⟨hl,hi⟩:=Af7 hp
 refine ⟨0,Ar.Jh.out [.l l,.i i],[],?_,.int⟩
 rw [Ar.Jh.ev,Gu,Au]
 show _=some (DV.int .u64 (O1 l i))
 by_cases h0:0≤i
 ·obtain ⟨k,rfl⟩:∃ k:Nat,i=k:=⟨i.toNat,by omega⟩
  have hv:=Q2 hi k
  have hg:=P0 hi k
  rw [hv,Aw5,hg,Aw4 h0,Ayg]
  by_cases h1:(k:Int)<(l.length:Int)
  ·rw [Aw4 h1,Aw3,Aw3,Ea (by omega) (by omega)]
  ·have h2:l.getD k 0=0:=by
    rw [Axd,Ayl (by omega)]; rfl
   rw [h2] at hg
   rw [Aw8 h1,Aw7,← hg]
 ·have:O1 l i=0:=by unfold O1; rw [Axp h0]
  rw [Aw8 h0,Bool.false_and,Aw7,this]
theorem Ang {drops:List Nat} {b:Bool} {l:List Int}:Wk drops (.agg [.bool b,.ints .arg .u32 l]) (.agg [.bool b,.ints .arg .u32 l]):=Wk.H5 (.cons .bool (.cons .Xv .nil))
theorem Ah3:Ck 0=false:=rfl
theorem Aci:A2 0=[]:=rfl
theorem Aic (N:Nat) (n:Bool) {l:List Int} (hl:l.length<1073741824) (hi:inL l):∀ (p F:Nat),p≤l.length→p<F→E3 l<2^(32*p) →
 ∃ dv,Ar.Made.L0 N F n l (p:Int)=some dv∧Wk [] dv (.agg [.bool (Ck (wv n l)),.ints .arg .u32 (A2 (wv n l))]):=by
 have hlast:∀ p,p≤l.length→E5 (E3 l)=p→p≠0→some (DV.agg [.bool n,.ints .arg .u32 (l.take p)])=some (DV.agg [.bool (Ck (wv n l)),.ints .arg .u32 (A2 (wv n l))]):=by
  intro p hp hq h0
  have h1:=Aes hi
  rw [hq] at h1
  have h2:E3 l≠0:=fun h=>by rw [h] at hq; exact h0 hq.symm
  have e:(wv n l).natAbs=E3 l:=by unfold wv Hr; split<;>omega
  have e1:A2 (wv n l)=O0 (E3 l):=by unfold A2; rw [e]
  have e2:Ck (wv n l)=n:=by unfold Ck wv Hr; cases n<;>simp<;>omega
  rw [h1,e1,e2]
 intro p
 induction p with
 | zero =>
   intro F hp hF hv
   obtain ⟨F,rfl⟩:∃ G,F=G+1:=⟨F-1,by omega⟩
   have hz:wv n l=0:=by
    have:E3 l=0:=by rw [Nat.mul_zero,Ax1] at hv; omega
    unfold wv Hr; rw [this]; cases n<;>rfl
   refine ⟨.agg [.bool false,.nil],?_,?_⟩
   ·rw [Ar.Made.Aw,Au]; rfl
   ·rw [hz,Ah3,Aci]
    exact Wk.H5 (.cons .bool (.cons (.nil _ _) .nil))
 | succ p ih =>
   intro F hp hF hv
   obtain ⟨F,rfl⟩:∃ G,F=G+1:=⟨F-1,by omega⟩
   rw [Ar.Made.Aw,Au,Ao (by omega) (by omega)]
   have e0:((p+1:Nat):Int)-1=(p:Int):=by omega
   have t0:decide ((0:Int)<((p+1:Nat):Int))=true:=Aw4 (by omega)
   have t1:decide ((0:Int)≤(p:Int))=true:=by simp
   have t2:decide ((p:Int)<(l.length:Int))=true:=by simp; omega
   have hg:=P0 hi p
   have hq:E3 l / 2^(32*p)<4294967296:=by
    rw [Nat.div_lt_iff_lt_mul (B1 _),← Yf]; exact hv
   rw [Axg hq] at hg
   rw [e0,t0,t1,t2,Aw5,hg]
   simp only [Ax2,Aw9,Bool.false_or,Aw3,Ayg]
   by_cases hz:E3 l / 2^(32*p)=0
   ·have:(((E3 l / 2^(32*p):Nat):Int)==0)=true:=by rw [hz]; rfl
    rw [this,Aw3]
    refine ih F (by omega) (by omega) ?_
    rcases Ax0 (E3 l) (2^(32*p)) with h | h
    ·exact h
    ·have:=Nat.div_pos h (B1 _); omega
   ·have:(((E3 l / 2^(32*p):Nat):Int)==0)=false:=by simp only [Axy,ne_eq]; omega
    have t3:(((p+1:Nat):Int)==0)=false:=by simp only [Axy,ne_eq]; omega
    have t4:decide (((p+1:Nat):Int)≤(l.length:Int))=true:=by simp; omega
    have t5:decide ((0:Int)≤((p+1:Nat):Int))=true:=Aw4 (by omega)
    rw [this,Aw7,t3,Aw7,t4,t5,Aw9,Aw3,Aw5]
    have hlen:E5 (E3 l)=p+1:=by
     have a1:=Vg hv
     have a2:=Ape (n:=E3 l) (k:=p) (by
      rcases Ax0 (E3 l) (2^(32*p)) with h | h
      ·exact absurd (Nat.div_eq_of_lt h) hz
      ·exact h)
     omega
    exact ⟨_,hlast (p+1) hp hlen (by omega),Ang⟩
theorem Ar.Made.known:Ar.Made.Kn:=Ar.Made.Ad .nil fun n l hp=>by
 obtain ⟨hl,hi⟩:=Af7 hp
 obtain ⟨dv,h1,h2⟩:=Aic (l.length+1) n hl hi l.length (l.length+1) (Axx _) (by omega) (Uz hi)
 exact ⟨l.length+1,dv,[],by rw [Ar.Made.ev]; exact h1,h2⟩
theorem Xz {a b:Int} (ha:0≤a∧a<4294967296) (hb:0≤b∧b<4294967296):Zz [a,b]=true :=
 Zy (show 2<1073741824 by decide) fun x hx=>by
  rcases List.mem_cons.1 hx with rfl | hx
  ·exact ha
  ·rcases List.mem_cons.1 hx with rfl | hx
   ·exact hb
   ·cases hx
theorem Aqy:(4294967296:Int)=((4294967296:Nat):Int):=rfl
theorem Ar.Of.known:Ar.Of.Kn:=Ar.Of.Ad (.cons Ar.Made.known .nil) fun n hp=>by
 have hp:=At.1 hp
 refine ⟨0,Ar.Of.out [.i n],[],?_,Ang⟩
 rw [Ar.Of.ev,Au]
 show _=some (DV.agg [.bool (Ck n),.ints .arg .u32 (A2 n)])
 by_cases h:n<0
 ·obtain ⟨k,rfl⟩:∃ k:Nat,n=-(k:Int):=⟨(-n).toNat,by omega⟩
  have e1:Bg (Bg (Ab (0-Ab (-(k:Int)+1)))+1)=(k:Int):=by
   rw [Ao (x:=-(k:Int)+1) (by omega) (by omega),Ao (by omega) (by omega),Ea (x:=0-(-(k:Int)+1)) (by omega) (by omega),Ea (by omega) (by omega)]; omega
  rw [Aw4 h,Aw3,e1,Aqy,K4,K5,Mh (by omega) (by omega),Ea (by omega) (by omega),Mh (by omega) (by omega),
   Xz (by omega) (by omega),Aw3]
  have e2:wv true [((k%4294967296:Nat):Int),((k / 4294967296:Nat):Int)]=-(k:Int):=by
   unfold wv Hr E3 E3 E3
   rw [Axq rfl,Aw5,Aw5]
   omega
  rw [e2]
 ·obtain ⟨k,rfl⟩:∃ k:Nat,n=(k:Int):=⟨n.toNat,by omega⟩
  rw [Aw8 h,Aw7,Aqy,K4,K5,Mh (by omega) (by omega),Ao (by omega) (by omega),Mh (by omega) (by omega),
   Xz (by omega) (by omega),Aw3]
  have e2:wv false [((k%4294967296:Nat):Int),((k / 4294967296:Nat):Int)]=(k:Int):=by
   unfold wv Hr E3 E3 E3
   rw [Axp (by decide),Aw5,Aw5]
   omega
  rw [e2]
theorem Ar.Neg.known:Ar.Neg.Kn:=Ar.Neg.Ad (.cons Ar.Made.known .nil) fun n a hp=>by
 obtain ⟨v,rfl,rfl,hv⟩:=Pp hp
 refine ⟨0,Ar.Neg.out [.b (Ck v),.l (A2 v)],[],?_,Ang⟩
 rw [Ar.Neg.ev,Yk (by omega),Aw3,Aq5]
 rfl
open EqRefA
theorem K1 (v:Int):inL (A2 v):=Ach _
namespace EqRefB
def Ar.G0.hint:Nat→Option A5
 | 0=>some { keep:=[1,2,3,4],objs:=[(0,3,100003,.ints 173 .u32 [])],boxes:=[1,2] }
 | _=>none
def Ar.G0.A8:List (Nat × Entry):=[(171,Ar.Made.spec),(221,Ar.Jh.spec)]
def Ar.G0.E:Env:=Ba (A7 Ar.G0.A8) (fun _=>false) Ar.G0.hint (fun _=>none)
section
variable (N M:Nat) (n:Bool) (a:List Int) (p4:Int) (p3:List Int)
def Ar.G0.L0:Option DV:=Cc Ar.G0.E N f173 (Ap f173) [1,1,0,1,0] [] M ⟨He 37 [(1,.ptr 1 0 0),(2,.ptr 2 0 0),(3,.oref 100003),(4,.int .i64 p4)],[(1,false,.box [.bool n,.ints .arg .u32 a]),(2,false,.box [.bool false,.nil]),(100003,false,.ints 173 .u32 p3)]⟩
theorem Ar.G0.Aw:Ar.G0.L0 N (M+1) n a p4 p3=bif (A0 p4 (length a:Int)) then bif (Zz a) then bif (Zz a) then bif ((decide (0≤p4))&&(decide (p4<(length p3:Int)))) then bif (decide ((toNat p4)<(length p3))) then Ar.G0.L0 N M n a (Ab (p4+1)) (List.set p3 (toNat p4) (Ju (Bg (Int.tdiv (Bg ((Bg ((Int.tmod (O1 a (Ab (p4+1))) 2)*4294967296))+(O1 a p4))) 2)))) else none else none else none else none else bif (Zz p3) then some (.agg [.bool (Ck (wv n p3)),.ints .arg .u32 (A2 (wv n p3))]) else none :=
 Eq.trans (by kernel_rfl)
 (Ev (Dw (E4 (Zz a)) (Dw (E4 (Zz a)) (Dw (M9 (decide (0≤p4)) (decide (p4<(length p3:Int)))) (Dw (E4 (decide ((toNat p4)<(length p3)))) rfl rfl) rfl) rfl) rfl) rfl)
theorem Ar.G0.ev:B0 Ar.G0.E N f173 (Ap f173) [.agg [.bool n,.ints .arg .u32 a]]=bif (((decide ((0:Int)≤(length a:Int)))&&(decide ((length a:Int)≤(length a:Int))))&&(decide ((length a:Int)≤I5))) then Ar.G0.L0 N N n a 0 (List.replicate (toNat (length a:Int)) 0) else none:=by kernel_rfl
end
abbrev _root_.Go.Proofs.S1.Ar.G0.Kn:=A4 prog 173 Ar.G0.spec
theorem Ar.G0.Ad (hk:Ay prog Ar.G0.A8) (h:Hyp Ar.G0.E f173 Ar.G0.ts Ar.G0.pre Ar.G0.out):Ar.G0.Kn :=
 Al (A1 hk _ _ _) func173 (by kernel_rfl) (by kernel_rfl) h
def Ar.N7.hint:Nat→Option A5
 | 0=>some { keep:=[3,4],objs:=[],boxes:=[] }
 | _=>none
def Ar.N7.A8:List (Nat × Entry):=[]
def Ar.N7.E:Env:=Ba (A7 Ar.N7.A8) (fun _=>false) Ar.N7.hint (fun _=>none)
def Ar.N7.L0 (N M:Nat) (p3 p4:Int):Option DV:=Cc Ar.N7.E N f223 (Ap f223) [1,1,1,0,1,0] [] M ⟨He 29 [(3,.int .i64 p3),(4,.int .u32 p4)],[]⟩
theorem Ar.N7.Aw (N M:Nat) (p3 p4:Int):Ar.N7.L0 N (M+1) p3 p4=bif (A0 0 p4) then Ar.N7.L0 N M (Ab (p3+1)) (Ju (Int.tdiv p4 2)) else some (.int .i64 p3):=by kernel_rfl
theorem Ar.N7.ev (N:Nat) (n:Bool) (a:List Int):B0 Ar.N7.E N f223 (Ap f223) [.agg [.bool n,.ints .arg .u32 a]]=bif ((length a:Int)==(0:Int)) then some (.int .i64 0) else bif ((decide (0≤(Ab ((length a:Int)-1))))&&(decide ((Ab ((length a:Int)-1))<(length a:Int)))) then Ar.N7.L0 N N (Ab ((32:Int)*(Ab ((length a:Int)-1)))) (getD a (toNat (Ab ((length a:Int)-1))) 0) else none:=by kernel_rfl
abbrev _root_.Go.Proofs.S1.Ar.N7.Kn:=A4 prog 223 Ar.N7.spec
theorem Ar.N7.Ad (hk:Ay prog Ar.N7.A8) (h:Hyp Ar.N7.E f223 Ar.N7.ts Ar.N7.pre Ar.N7.out):Ar.N7.Kn :=
 Al (A1 hk _ _ _) func223 (by kernel_rfl) (by kernel_rfl) h
def Ar.T3.A8:List (Nat × Entry):=[]
def Ar.T3.E:Env:=Ba (A7 Ar.T3.A8) (fun _=>false) (fun _=>none) (fun _=>none)
theorem Ar.T3.ev (N:Nat) (n:Bool) (a:List Int):B0 Ar.T3.E N f172 (Ap f172) [.agg [.bool n,.ints .arg .u32 a]]=bif ((!(A0 0 (length a:Int)))||(decide ((0:Int)<(length a:Int)))) then some (.bool (bif (A0 0 (length a:Int)) then ((Int.tmod (getD a 0 0) 2)==(1:Int)) else false)) else none :=
 Eq.trans (by kernel_rfl)
 (An (N4 (A0 0 (length a:Int))) (An (Na (A0 0 (length a:Int))) (Dw (Arf (A0 0 (length a:Int)) (decide ((0:Int)<(length a:Int)))) (An (Na (A0 0 (length a:Int))) (An (Na (A0 0 (length a:Int))) (An (Na (A0 0 (length a:Int))) (An (T6 (A0 0 (length a:Int))) rfl)))) rfl)))
abbrev _root_.Go.Proofs.S1.Ar.T3.Kn:=A4 prog 172 Ar.T3.spec
theorem Ar.T3.Ad (hk:Ay prog Ar.T3.A8) (h:Hyp Ar.T3.E f172 Ar.T3.ts Ar.T3.pre Ar.T3.out):Ar.T3.Kn :=
 Al (A1 hk _ _ _) func172 (by kernel_rfl) (by kernel_rfl) h
end EqRefB
open EqRefB
theorem Arw (l:List Int) (y x:Int) (r:List Int):∀ i,i=l.length→(l++y::r).set i x=l++x::r:=by
 induction l with
 | nil=>intro i h; subst h; rfl
 | cons z l ih =>
   intro i h
   obtain ⟨j,rfl⟩:∃ j,i=j+1:=⟨i-1,by rw [List.length_cons] at h; omega⟩
   show z::(l++y::r).set j x=z::(l++x::r)
   rw [ih j (by rw [List.length_cons] at h; omega)]
theorem Aiq (N:Nat) {v:Int} (hv:E5 v.natAbs<268435456):∀ (k i F:Nat),i+k=E5 v.natAbs→k<F →
 Ar.G0.L0 N F (Ck v) (A2 v) (i:Int) (digits i (v.natAbs / 2)++List.replicate k 0)=some (.agg [.bool (Ck (Ls v 1)),.ints .arg .u32 (A2 (Ls v 1))]):=by
 have o1:Zz (A2 v)=true:=Yk (by omega)
 have ia:=K1 v
 intro k
 induction k with
 | zero =>
   intro i F hi hF
   obtain ⟨F,rfl⟩:∃ G,F=G+1:=⟨F-1,by omega⟩
   have t0:decide ((i:Int)<((A2 v).length:Int))=false:=Aw8 (by rw [D9]; omega)
   rw [List.replicate_zero,List.append_nil,Ar.G0.Aw,Au,t0,Aw7]
   have o3:Zz (digits i (v.natAbs / 2))=true:=Zy (by rw [Hu]; omega) (Tx _ _)
   have e:wv (Ck v) (digits i (v.natAbs / 2))=Ls v 1:=by
    unfold wv Ls
    rw [Oh,Axg,Nat.pow_one]
    have:=Vd v.natAbs
    rw [show i=E5 v.natAbs by omega]
    exact Ax5 (Nat.div_le_self _ _) this
   rw [o3,Aw3,e]
 | succ k ih =>
   intro i F hi hF
   obtain ⟨F,rfl⟩:∃ G,F=G+1:=⟨F-1,by omega⟩
   have hlen:(digits i (v.natAbs / 2)++List.replicate (k+1) (0:Int)).length=i+(k+1):=by rw [Axv,Hu,List.length_replicate]
   have t0:decide ((i:Int)<((A2 v).length:Int))=true:=Aw4 (by rw [D9]; omega)
   have t1:decide ((0:Int)≤(i:Int))=true:=Aw4 (by omega)
   have t2:decide ((i:Int)<((digits i (v.natAbs / 2)++List.replicate (k+1) (0:Int)).length:Int))=true:=Aw4 (by rw [hlen]; omega)
   have t3:decide (i<(digits i (v.natAbs / 2)++List.replicate (k+1) (0:Int)).length)=true:=Aw4 (by rw [hlen]; omega)
   have e0:Ab ((i:Int)+1)=((i+1:Nat):Int):=by rw [Ao (by omega) (by omega)]; omega
   rw [Ar.G0.Aw,Au,t0,o1,Aw5,t1,t2,t3,Aw9]
   simp only [Aw3]
   rw [e0,Q2 ia,Q2 ia,Jv]
   have ih:=ih (i+1) F (by omega) (by omega)
   rw [Uo,Axw,Axr 2,← Axw] at ih
   rw [Yf,Axr 4294967296,← Axw,List.replicate_succ,Arw _ _ _ _ i (Hu _ _).symm]
   rw [List.append_assoc] at ih
   generalize v.natAbs / 2^(32*i)=x at *
   have e1:Int.tmod ((x / 4294967296%4294967296:Nat):Int) 2=((x / 4294967296%4294967296%2:Nat):Int):=K4 _ 2
   have e2:Bg (Bg (((x / 4294967296%4294967296%2:Nat):Int)*4294967296)+((x%4294967296:Nat):Int))=((x / 4294967296%4294967296%2*4294967296+x%4294967296:Nat):Int):=by
    rw [Ea (x:=((x / 4294967296%4294967296%2:Nat):Int)*4294967296) (by omega) (by omega),Ea (by omega) (by omega)]; omega
   have e3:Int.tdiv ((x / 4294967296%4294967296%2*4294967296+x%4294967296:Nat):Int) 2=(((x / 4294967296%4294967296%2*4294967296+x%4294967296) / 2:Nat):Int):=K5 _ 2
   have e4:(x / 4294967296%4294967296%2*4294967296+x%4294967296) / 2=x / 2%4294967296:=by omega
   rw [e1,e2,e3,e4,Ea (by omega) (by omega),Mh (by omega) (by omega)]
   exact ih
theorem Ar.G0.known:Ar.G0.Kn:=Ar.G0.Ad (.cons Ar.Made.known (.cons Ar.Jh.known .nil)) fun n a hp=>by
 obtain ⟨v,rfl,rfl,hv⟩:=Pp hp
 refine ⟨E5 v.natAbs+1,Ar.G0.out [.b (Ck v),.l (A2 v)],[],?_,Ang⟩
 show _=some (DV.agg [.bool (Ck (Ls (wv (Ck v) (A2 v)) 1)),.ints .arg .u32 (A2 (Ls (wv (Ck v) (A2 v)) 1))])
 rw [Ar.G0.ev,Re,D9,Aw4 (by omega),Aw4 (by omega),Aw4 (by unfold I5; omega),Aw9,Aw9,Aw3,Aw5]
 have h:=Aiq (E5 v.natAbs+1) hv (E5 v.natAbs) 0 (E5 v.natAbs+1) (by omega) (by omega)
 rw [digits,List.nil_append] at h
 exact h
theorem Apd (v:Int):A0 (0:Int) ((A2 v).length:Int)=decide (v≠0):=by
 rw [Au,D9,decide_eq_decide]
 constructor
 ·intro h e
  rw [e] at h
  exact absurd h (by decide)
 ·intro h
  have:=J6 (n:=v.natAbs) (by omega)
  omega
theorem Anf (v:Int):wv (Ck v) ((A2 v).drop 1)=Ls v 32:=by
 unfold wv Ls
 rw [Ag0 (K1 v),Jv,two32]
open EqRefB
theorem Aij {t:Nat} (h:2≤t):(t / 2).log2+1=t.log2:=by
 have:=Acd (n:=t) (m:=1) (by omega)
 rw [Nat.pow_one] at this
 exact this
theorem Alr (N:Nat):∀ (F:Nat) (t:Nat) (p:Int),t<2^32→0<t→t.log2+1<F→-1000≤p→p+t.log2<4611686018427387904 →
 Ar.N7.L0 N F p (t:Int)=some (.int .i64 (p+t.log2+1)):=by
 intro F
 induction F with
 | zero=>intro t p _ _ h; omega
 | succ F ih =>
   intro t p ht h0 hF hp1 hp2
   have e2:Int.tdiv (t:Int) 2=((t / 2:Nat):Int):=K5 t 2
   rw [two32] at ht
   rw [Ar.N7.Aw,Au,Aw4 (by omega),Aw3,e2,Mh (by omega) (by omega),Ao (by omega) (by omega)]
   by_cases h1:t=1
   ·subst h1
    obtain ⟨G,rfl⟩:∃ G,F=G+1:=⟨F-1,by omega⟩
    rw [Ar.N7.Aw,Au,Aw8 (by decide),Aw7]
    have:(1:Nat).log2=0:=by decide
    rw [this]
    congr 2
    omega
   ·have hl:=Aij (t:=t) (by omega)
    rw [ih (t / 2) (p+1) (by rw [two32]; omega) (by omega) (by omega) (by omega) (by omega)]
    congr 2
    omega
theorem Ar.N7.known:Ar.N7.Kn:=Ar.N7.Ad .nil fun n a hp=>by
 obtain ⟨v,rfl,rfl,hv⟩:=Pp hp
 refine ⟨40,Ar.N7.out [.b (Ck v),.l (A2 v)],[],?_,.int⟩
 show _=some (DV.int .i64 (Aad (wv (Ck v) (A2 v))))
 rw [Ar.N7.ev,Re,D9]
 unfold Aad
 by_cases h0:v=0
 ·rw [Axq h0,h0]; rfl
 ·have hn:v.natAbs≠0:=by omega
  have hl:=J6 hn
  have e0:((E5 v.natAbs:Int)==0)=false:=by simp only [Axy,ne_eq]; omega
  have e1:(E5 v.natAbs:Int)-1=((E5 v.natAbs-1:Nat):Int):=by omega
  have hlen:E5 v.natAbs=v.natAbs.log2 / 32+1:=by unfold E5; rw [Axp hn]
  have hge:2^(32*(E5 v.natAbs-1))≤v.natAbs:=Aya (Axi (by decide) (by omega)) (Nat.log2_self_le hn)
  have hq:v.natAbs / 2^(32*(E5 v.natAbs-1))<2^32:=by
   rw [Nat.div_lt_iff_lt_mul (B1 _),← Axs]
   have:=Vd v.natAbs
   have e:32+32*(E5 v.natAbs-1)=32*E5 v.natAbs:=by omega
   rw [e]; exact this
  have hlog:=Acd hge
  have hg:=P0 (K1 v) (E5 v.natAbs-1)
  have hq':=hq
  rw [two32] at hq'
  rw [Jv,Axg hq'] at hg
  have hpos:=Nat.div_pos hge (B1 _)
  have h32:(v.natAbs / 2^(32*(E5 v.natAbs-1))).log2<32:=(Ayj (by omega)).2 hq
  rw [Axp h0,e0,Aw7,Ao (by omega) (by omega),e1,Aw4 (by omega),Aw4 (by omega),Aw9,Aw3,Aw5,hg,Ao (by omega) (by omega)]
  rw [Alr 40 40 _ _ hq hpos (by omega) (by omega) (by omega)]
  congr 2
  omega
theorem Ar.T3.known:Ar.T3.Kn:=Ar.T3.Ad .nil fun n a hp=>by
 obtain ⟨v,rfl,rfl,hv⟩:=Pp hp
 refine ⟨0,Ar.T3.out [.b (Ck v),.l (A2 v)],[],?_,.bool⟩
 show _=some (DV.bool (Ah0 (wv (Ck v) (A2 v))))
 rw [Ar.T3.ev,Re,Apd]
 have hg:=P0 (K1 v) 0
 rw [Jv,Nat.mul_zero,Ax1,Nat.div_one] at hg
 have e2:Int.tmod ((v.natAbs%4294967296:Nat):Int) 2=((v.natAbs%4294967296%2:Nat):Int):=K4 _ 2
 unfold Ah0
 by_cases h0:v=0
 ·rw [h0]; rfl
 ·have hl:=J6 (n:=v.natAbs) (by omega)
  rw [hg,e2,Aw4 h0,D9,Aw4 (by omega),Ayf,Aw3,Aw3]
  congr 2
  rw [Axj]
  simp only [beq_iff_eq,Axa]
  omega
namespace EqRefC
def Ca.Of.hint:Nat→Option A5
 | 0=>some { keep:=[1,2,4],objs:=[],boxes:=[2,4] }
 | 2=>some { keep:=[1,2,4],objs:=[],boxes:=[2,4] }
 | _=>none
def Ca.Of.A8:List (Nat × Entry):=[(173,Ar.G0.spec),(171,Ar.Made.spec),(172,Ar.T3.spec)]
def Ca.Of.E:Env:=Ba (A7 Ca.Of.A8) (fun _=>false) Ca.Of.hint (fun _=>none)
section
variable (N:Nat) (n:Bool) (a:List Int) (e:Int) (M:Nat) (p1_1:Int) (p2_2:Bool) (p2_3:List Int) (p1:Int) (p2:Bool) (p2_1:List Int)
def Ca.Of.L0:Option DV:=Cc Ca.Of.E N f109 (Ap f109) [1,1,0,0] [] M ⟨He 33 [(1,.int .i64 p1),(2,.ptr 2 0 0),(4,.ptr 4 0 0)],[(2,false,.box [.bool p2,.ints .arg .u32 p2_1]),(4,false,.box [.bool false,.nil,.int .i64 0])]⟩
def Ca.Of.L1:Option DV:=Cc Ca.Of.E N f109 (Ap f109) [1,1,1,0,0] [] M ⟨He 33 [(1,.int .i64 p1_1),(2,.ptr 2 0 0),(4,.ptr 4 0 0)],[(2,false,.box [.bool p2_2,.ints .arg .u32 p2_3]),(4,false,.box [.bool false,.nil,.int .i64 0])]⟩
theorem Ca.Of.Aw:Ca.Of.L0 N (M+1) p1 p2 p2_1=bif (decide ((0:Int)<(length p2_1:Int))) then bif ((getD p2_1 0 0)==(0:Int)) then bif (decide ((1:Int)≤(length p2_1:Int))) then bif (Zz (List.drop 1 p2_1)) then Ca.Of.L0 N M (Ab (p1+32)) (Ck (wv p2 (List.drop 1 p2_1))) (A2 (wv p2 (List.drop 1 p2_1))) else none else none else Ca.Of.L1 N N p1 p2 p2_1 else none :=
 Eq.trans (by kernel_rfl)
 (Ev (Ev (Dw (Av0 (decide ((1:Int)≤(length p2_1:Int)))) (Dw (E4 (Zz (List.drop 1 p2_1))) rfl rfl) rfl) rfl) rfl)
theorem Ca.Of.Ct:Ca.Of.L1 N (M+1) p1_1 p2_2 p2_3=bif (Xh p2_2 p2_3) then bif (!(Ah0 (wv p2_2 p2_3))) then bif (Xh p2_2 p2_3) then Ca.Of.L1 N M (Ab (p1_1+1)) (Ck (Ls (wv p2_2 p2_3) 1)) (A2 (Ls (wv p2_2 p2_3) 1)) else none else some (.agg [.bool p2_2,.ints .arg .u32 p2_3,.int .i64 p1_1]) else none:=by kernel_rfl
theorem Ca.Of.ev:B0 Ca.Of.E N f109 (Ap f109) [.agg [.bool n,.ints .arg .u32 a],.int .i64 e]=bif ((length a:Int)==(0:Int)) then some (.agg [.bool false,.nil,.int .i64 0]) else Ca.Of.L0 N N e n a:=by kernel_rfl
end
abbrev _root_.Go.Proofs.S1.Ca.Of.Kn:=A4 prog 109 Ca.Of.spec
theorem Ca.Of.Ad (hk:Ay prog Ca.Of.A8) (h:Hyp Ca.Of.E f109 Ca.Of.ts Ca.Of.pre Ca.Of.out):Ca.Of.Kn :=
 Al (A1 hk _ _ _) func109 (by kernel_rfl) (by kernel_rfl) h
def Ca.T2.A8:List (Nat × Entry):=[(223,Ar.N7.spec)]
def Ca.T2.E:Env:=Ba (A7 Ca.T2.A8) (fun _=>false) (fun _=>none) (fun _=>none)
theorem Ca.T2.ev (N:Nat) (n:Bool) (a:List Int) (e:Int):B0 Ca.T2.E N f180 (Ap f180) [.agg [.bool n,.ints .arg .u32 a,.int .i64 e]]=bif ((length a:Int)==(0:Int)) then some (.int .i64 0) else bif (Xh n a) then some (.int .i64 (Ab ((Aad (wv n a))+e))) else none :=
 Eq.trans (by kernel_rfl)
 (Ev rfl (Dw (E4 (Xh n a)) rfl rfl))
abbrev _root_.Go.Proofs.S1.Ca.T2.Kn:=A4 prog 180 Ca.T2.spec
theorem Ca.T2.Ad (hk:Ay prog Ca.T2.A8) (h:Hyp Ca.T2.E f180 Ca.T2.ts Ca.T2.pre Ca.T2.out):Ca.T2.Kn :=
 Al (A1 hk _ _ _) func180 (by kernel_rfl) (by kernel_rfl) h
end EqRefC
open EqRefC
def Apw (v e:Int):Option DV:=some (.agg [.bool (Ck v),.ints .arg .u32 (A2 v),.int .i64 e])
theorem wdy {drops:List Nat} {b:Bool} {l:List Int} {e:Int}:Wk drops (.agg [.bool b,.ints .arg .u32 l,.int .i64 e]) (.agg [.bool b,.ints .arg .u32 l,.int .i64 e]):=Wk.H5 (.cons .bool (.cons .Xv (.cons .int .nil)))
theorem Al2 (v:Int):(A2 v).getD 0 0=((v.natAbs%4294967296:Nat):Int):=by
 have hg:=P0 (K1 v) 0
 rw [Jv,Nat.mul_zero,Ax1,Nat.div_one] at hg
 exact hg
theorem Afy {v:Int} {k:Nat} (h:E5 v.natAbs<268435456):E5 (Ls v k).natAbs<268435456:=by
 rw [Pk]
 exact Ax5 (Yr (Nat.div_le_self _ _)) h
theorem Akb {v:Int} {k:Nat} (h0:v≠0) (h:v.natAbs%2^k=0):Ls v k≠0∧Rh (Ls v k).natAbs+k=Rh v.natAbs:=by
 have hv:=Nat.div_add_mod v.natAbs (2^k)
 rw [h,Ayb,Axr] at hv
 have hq:v.natAbs / 2^k≠0:=by
  intro e; rw [e] at hv; omega
 have ht:=Zi hq k
 rw [hv] at ht
 have ha:=Pk v k
 refine ⟨by omega,?_⟩
 rw [ha]
 omega
theorem Akw (N:Nat):∀ (F:Nat) (v e:Int),v≠0→Rh v.natAbs<F→E5 v.natAbs<268435456→-4000000000000≤e→e+Rh v.natAbs≤400000000000000 →
 Ca.Of.L1 N F e (Ck v) (A2 v)=Apw (mD v) (eD v e):=by
 intro F
 induction F with
 | zero=>intro v e _ h; omega
 | succ F ih =>
   intro v e h0 hF hv h1 h2
   rw [Ca.Of.Ct,Zx hv,Aw3,Re]
   by_cases ho:v%2=1
   ·have:Ah0 v=true:=Aw4 ho
    rw [this,Ax2,Aw7,Ar8 ho,Asl ho]
    rfl
   ·have:Ah0 v=false:=Aw8 ho
    have hm:v.natAbs%2^1=0:=by rw [Nat.pow_one]; omega
    obtain ⟨n1,n2⟩:=Akb h0 hm
    rw [this,Aym,Aw3,Aw3,Ao (by omega) (by omega),ih (Ls v 1) (e+1) n1 (by omega) (Afy hv) (by omega) (by omega),Ald hm]
    have:=Amf (e:=e) hm h0
    rw [← this]
    rfl
theorem Akx (N:Nat):∀ (F:Nat) (v e:Int),v≠0→Rh v.natAbs<F→Rh v.natAbs<N→E5 v.natAbs<268435456→-4000000000000≤e→e+Rh v.natAbs≤400000000000000 →
 Ca.Of.L0 N F e (Ck v) (A2 v)=Apw (mD v) (eD v e):=by
 intro F
 induction F with
 | zero=>intro v e _ h; omega
 | succ F ih =>
   intro v e h0 hF hN hv h1 h2
   have hl:=J6 (n:=v.natAbs) (by omega)
   rw [Ca.Of.Aw,D9,Aw4 (by omega),Aw3,Al2]
   by_cases hz:v.natAbs%4294967296=0
   ·have e0:(((v.natAbs%4294967296:Nat):Int)==0)=true:=by rw [hz]; rfl
    have o3:Zz ((A2 v).drop 1)=true:=Zy (by rw [List.length_drop,D9]; omega) (Alz (K1 v))
    have hm:v.natAbs%2^32=0:=by rw [two32]; exact hz
    obtain ⟨n1,n2⟩:=Akb h0 hm
    rw [e0,Aw3,Aw4 (by omega),Aw3,o3,Aw3,Anf,Ao (by omega) (by omega),ih (Ls v 32) (e+32) n1 (by omega) (by omega) (Afy hv) (by omega) (by omega),Ald hm]
    have:=Amf (e:=e) hm h0
    rw [← this]
    rfl
   ·have e0:(((v.natAbs%4294967296:Nat):Int)==0)=false:=by simp only [Axy,ne_eq]; omega
    rw [e0,Aw7]
    exact Akw N N v e h0 hN hv h1 h2
theorem Ajr {v:Int} (h0:v≠0) (h:E5 v.natAbs<268435456):Rh v.natAbs<8589934592:=by
 have h1:=Aqo (n:=v.natAbs) (by omega)
 have h2:=Yo (n:=v.natAbs)
 omega
theorem Ca.Of.known:Ca.Of.Kn:=Ca.Of.Ad (.cons Ar.G0.known (.cons Ar.Made.known (.cons Ar.T3.known .nil))) fun n a e hp=>by
 obtain ⟨h1,h2⟩:=Ae.1 hp
 obtain ⟨v,rfl,rfl,hv⟩:=Pp h1
 have h2:=At.1 h2
 by_cases h0:v=0
 ·subst h0
  refine ⟨0,.agg [.bool false,.nil,.int .i64 (0:Int)],[],?_,?_⟩
  ·rw [Ca.Of.ev]; rfl
  ·show Wk [] _ (.agg [.bool (Ck (mD (wv (Ck 0) (A2 0)))),.ints .arg .u32 (A2 (mD (wv (Ck 0) (A2 0)))),.int .i64 (eD (wv (Ck 0) (A2 0)) e)])
   rw [Re,Vc.2 rfl]
   exact Wk.H5 (.cons .bool (.cons (.nil _ _) (.cons .int .nil)))
 ·refine ⟨Rh v.natAbs+1,Ca.Of.out [.b (Ck v),.l (A2 v),.i e],[],?_,wdy⟩
  have ht:=Ajr h0 hv
  have hl:=J6 (n:=v.natAbs) (by omega)
  have e0:(((A2 v).length:Int)==0)=false:=by rw [D9]; simp only [Axy,ne_eq]; omega
  show _=Apw (mD (wv (Ck v) (A2 v))) (eD (wv (Ck v) (A2 v)) e)
  rw [Ca.Of.ev,e0,Aw7,Re]
  exact Akx _ _ v e h0 (by omega) (by omega) hv (by omega) (by omega)
theorem Alq (v:Int):(((A2 v).length:Int)==0)=decide (v=0):=by
 rw [D9,Axj]
 simp only [beq_iff_eq,Axa]
 constructor
 ·intro h
  rcases Int.lt_trichotomy v 0 with k | k | k
  ·have:=J6 (n:=v.natAbs) (by omega); omega
  ·exact k
  ·have:=J6 (n:=v.natAbs) (by omega); omega
 ·intro h; rw [h]; rfl
theorem Acj {v:Int} (h:E5 v.natAbs<268435456):0≤Aad v∧Aad v≤8589934593:=by
 have h2:=Yo (n:=v.natAbs)
 unfold Aad
 split
 ·omega
 ·constructor<;>omega
theorem Ca.T2.known:Ca.T2.Kn:=Ca.T2.Ad (.cons Ar.N7.known .nil) fun n a e hp=>by
 obtain ⟨h1,he⟩:=Ae.1 hp
 obtain ⟨v,rfl,rfl,hv⟩:=Pp h1
 have he:=At.1 he
 refine ⟨0,Ca.T2.out [.b (Ck v),.l (A2 v),.i e],[],?_,.int⟩
 show _=some (DV.int .i64 (Ag5 (wv (Ck v) (A2 v)) e))
 have hb:=Acj hv
 rw [Ca.T2.ev,Re,Alq,h1]
 unfold Ag5
 by_cases h:v=0
 ·rw [Aw4 h,Aw3,Axq h]
 ·rw [Aw8 h,Aw7,Aw3,Axp h,Ao (by omega) (by omega)]
open EqRefC
namespace EqRefE
def Ax.Value.A8:List (Nat × Entry):=[(143,Ar.Neg.spec),(115,Ar.Of.spec),(109,Ca.Of.spec),(141,Ax.I1.spec),(142,Ax.Neg.spec),(140,Ax.Power.spec)]
def Ax.Value.E:Env:=Ba (A7 Ax.Value.A8) (fun _=>false) (fun _=>none) (fun _=>none)
theorem Ax.Value.ev (N:Nat) (x:Int):B0 Ax.Value.E N f63 (Ap f63) [.int .u64 x]=bif (N8 x) then bif (Agl (Ab (Cg x))) then bif (N8 x) then bif (A0 0 (Kf x)) then bif (N8 x) then bif (Agl (Ab (Bg ((Cg x)+4503599627370496)))) then bif (N8 x) then bif (Ah x) then bif (Dm x) then bif (Xh (Ck ((Ab (Bg ((Cg x)+4503599627370496))))) (A2 ((Ab (Bg ((Cg x)+4503599627370496)))))) then bif (Xh (Ck (- wv (Ck ((Ab (Bg ((Cg x)+4503599627370496))))) (A2 ((Ab (Bg ((Cg x)+4503599627370496))))))) (A2 (- wv (Ck ((Ab (Bg ((Cg x)+4503599627370496))))) (A2 ((Ab (Bg ((Cg x)+4503599627370496)))))))&&Aef (Ab ((Kf x)-1075))) then some (.agg [.bool (Ck (mD (wv (Ck (- wv (Ck ((Ab (Bg ((Cg x)+4503599627370496))))) (A2 ((Ab (Bg ((Cg x)+4503599627370496))))))) (A2 (- wv (Ck ((Ab (Bg ((Cg x)+4503599627370496))))) (A2 ((Ab (Bg ((Cg x)+4503599627370496)))))))))),.ints .arg .u32 (A2 (mD (wv (Ck (- wv (Ck ((Ab (Bg ((Cg x)+4503599627370496))))) (A2 ((Ab (Bg ((Cg x)+4503599627370496))))))) (A2 (- wv (Ck ((Ab (Bg ((Cg x)+4503599627370496))))) (A2 ((Ab (Bg ((Cg x)+4503599627370496)))))))))),.int .i64 (eD (wv (Ck (- wv (Ck ((Ab (Bg ((Cg x)+4503599627370496))))) (A2 ((Ab (Bg ((Cg x)+4503599627370496))))))) (A2 (- wv (Ck ((Ab (Bg ((Cg x)+4503599627370496))))) (A2 ((Ab (Bg ((Cg x)+4503599627370496)))))))) (Ab ((Kf x)-1075)))]) else none else none else bif (Xh (Ck ((Ab (Bg ((Cg x)+4503599627370496))))) (A2 ((Ab (Bg ((Cg x)+4503599627370496)))))&&Aef (Ab ((Kf x)-1075))) then some (.agg [.bool (Ck (mD (wv (Ck ((Ab (Bg ((Cg x)+4503599627370496))))) (A2 ((Ab (Bg ((Cg x)+4503599627370496)))))))),.ints .arg .u32 (A2 (mD (wv (Ck ((Ab (Bg ((Cg x)+4503599627370496))))) (A2 ((Ab (Bg ((Cg x)+4503599627370496)))))))),.int .i64 (eD (wv (Ck ((Ab (Bg ((Cg x)+4503599627370496))))) (A2 ((Ab (Bg ((Cg x)+4503599627370496)))))) (Ab ((Kf x)-1075)))]) else none else none else none else none else none else bif (Ah x) then bif (Dm x) then bif (Xh (Ck ((Ab (Cg x)))) (A2 ((Ab (Cg x))))) then bif (Xh (Ck (- wv (Ck ((Ab (Cg x)))) (A2 ((Ab (Cg x)))))) (A2 (- wv (Ck ((Ab (Cg x)))) (A2 ((Ab (Cg x))))))&&Aef (-1074:Int)) then some (.agg [.bool (Ck (mD (wv (Ck (- wv (Ck ((Ab (Cg x)))) (A2 ((Ab (Cg x)))))) (A2 (- wv (Ck ((Ab (Cg x)))) (A2 ((Ab (Cg x))))))))),.ints .arg .u32 (A2 (mD (wv (Ck (- wv (Ck ((Ab (Cg x)))) (A2 ((Ab (Cg x)))))) (A2 (- wv (Ck ((Ab (Cg x)))) (A2 ((Ab (Cg x))))))))),.int .i64 (eD (wv (Ck (- wv (Ck ((Ab (Cg x)))) (A2 ((Ab (Cg x)))))) (A2 (- wv (Ck ((Ab (Cg x)))) (A2 ((Ab (Cg x))))))) (-1074:Int))]) else none else none else bif (Xh (Ck ((Ab (Cg x)))) (A2 ((Ab (Cg x))))&&Aef (-1074:Int)) then some (.agg [.bool (Ck (mD (wv (Ck ((Ab (Cg x)))) (A2 ((Ab (Cg x))))))),.ints .arg .u32 (A2 (mD (wv (Ck ((Ab (Cg x)))) (A2 ((Ab (Cg x))))))),.int .i64 (eD (wv (Ck ((Ab (Cg x)))) (A2 ((Ab (Cg x))))) (-1074:Int))]) else none else none else none else none else none:=by kernel_rfl
abbrev _root_.Go.Proofs.S1.Ax.Value.Kn:=A4 prog 63 Ax.Value.spec
theorem Ax.Value.Ad (hk:Ay prog Ax.Value.A8) (h:Hyp Ax.Value.E f63 Ax.Value.ts Ax.Value.pre Ax.Value.out):Ax.Value.Kn :=
 Al (A1 hk _ _ _) func63 (by kernel_rfl) (by kernel_rfl) h
end EqRefE
open EqRefE
theorem Agh {n k:Nat} (h:n<2^(32*k)) {m:Nat} (hk:k<m):E5 n<m:=Ax5 (Vg h) hk
theorem Rm (m:Nat):Hr false m=(m:Int):=rfl
theorem Abn (m:Nat):Hr true m=-(m:Int):=rfl
theorem Ax.Value.known:Ax.Value.Kn:=Ax.Value.Ad (.cons Ar.Neg.known (.cons Ar.Of.known (.cons Ca.Of.known (.cons Ax.I1.known (.cons Ax.Neg.known (.cons Ax.Power.known .nil)))))) fun x hp=>by
 obtain ⟨n,rfl,hn⟩:=Bt (x:=x) hp
 refine ⟨0,Ax.Value.out [.i n],[],?_,wdy⟩
 show _=Apw (mD (Hb n)) (eD (Hb n) (A3 n))
 have hf:=J8 n
 have hw:=Ir n
 have small:∀ k:Nat,k<2^54→E5 k<268435456:=fun k hk=>Agh (k:=2) (Nat.lt_trans hk (by decide)) (by omega)
 have o1:∀ k:Nat,k<2^54→Xh (Ck (k:Int)) (A2 (k:Int))=true:=fun k hk=>Zx (by rw [Int.natAbs_natCast]; exact small k hk)
 have o2:∀ k:Nat,k<2^54→Xh (Ck (-(k:Int))) (A2 (-(k:Int)))=true:=fun k hk=>Zx (by rw [Int.natAbs_neg,Int.natAbs_natCast]; exact small k hk)
 rw [Ax.Value.ev]
 unfold Cg Kf Dm Hb A3
 simp only [Re,Aw5]
 have e1:Ab ((Co n:Nat):Int)=((Co n:Nat):Int):=Ao (by omega) (by omega)
 have e2:Ab (Bg (((Co n:Nat):Int)+4503599627370496))=((Co n+2^52:Nat):Int):=by
  rw [Ea (by omega) (by omega),Ao (by omega) (by omega)]; omega
 have i1:∀ k:Nat,k<2^54→Agl (k:Int)=true:=fun k hk=>At.2 (by omega)
 rw [Ou,B3 hn,e1,e2,i1 _ (by omega),i1 _ (by omega),Au,Ao (by omega) (by omega)]
 simp only [Aw3]
 unfold Am As
 by_cases h:Df n=0
 ·have o3:Aef (-1074)=true:=At.2 (by omega)
  rw [Axq h,Axq h,Aw8 (by omega),Aw7,o1 _ (by omega),o2 _ (by omega),o3]
  cases B5 n
  ·rw [Aw7,Rm]; rfl
  ·rw [Aw3,Abn]; rfl
 ·have o3:Aef ((Df n:Int)-1075)=true:=At.2 (by omega)
  rw [Axp h,Axp h,Aw4 (by omega),Aw3,o1 _ (by omega),o2 _ (by omega),o3]
  cases B5 n
  ·rw [Aw7,Rm]; rfl
  ·rw [Aw3,Abn]; rfl
theorem Ajs {m t:Nat} (h:m<2^t) (h0:m≠0):Rh m<t:=Ax5 (Aqo h0) ((Ayj h0).2 h)
theorem Zf (b:Nat):(Hb (b:Int)).natAbs=Am b:=by
 unfold Hb Hr
 rw [Aw5]
 split<;>omega
theorem Aq7 (b:Nat):E5 (Hb (b:Int)).natAbs<3∧-400000≤eD (Hb (b:Int)) (As b)∧eD (Hb (b:Int)) (As b)≤400000:=by
 have hm:=Ft b
 have he:=Ce b
 have ha:=Zf b
 refine ⟨Agh (k:=2) (by rw [ha]; exact Nat.lt_trans hm (by decide)) (by omega),?_⟩
 unfold eD
 by_cases h:Hb (b:Int)=0
 ·rw [Axq h]; omega
 ·rw [Axp h]
  have:=Ajs (m:=(Hb (b:Int)).natAbs) (t:=53) (by rw [ha]; exact hm) (by omega)
  omega
theorem Z9 {r:Nat} (h:r<2^63):Dk r=((2^63+r:Nat):Int):=by
 unfold Dk; rw [Aw5,Qy h]
theorem Lr {r:Nat} (h:r<2^63) (n:Bool):(bif n then (bif (Ah (r:Int)) then some (DV.int .u64 (Dk r)) else none) else some (DV.int .u64 r))=some (DV.int .u64 ((Bv n r:Nat):Int)):=by
 cases n
 ·rfl
 ·rw [B3 (by omega),Z9 h]; rfl
theorem Mp (n:Bool) (m:Nat) (e:Int):Rx n m e=((Bv n (Bu m e):Nat):Int):=by
 unfold Rx; rw [Aw5]
theorem Aec {E M:Nat} (h1:1≤E) (h2:E≤2046) (h3:4503599627370496≤M) (h4:M<9007199254740992):E*2^52+M%2^52=min ((E-1)*2^52+M) Eg:=by
 obtain ⟨k,rfl⟩:∃ k,E=k+1:=⟨E-1,by omega⟩
 obtain ⟨r,rfl⟩:∃ r,M=2^52+r:=⟨M-2^52,by omega⟩
 have hr:r<2^52:=by omega
 have hm:(2^52+r)%2^52=r:=by rw [Nat.add_mod_left,Axg hr]
 have hk:k*2^52≤2045*2^52:=Axf _ (by omega)
 have hi:Eg=2045*2^52+2^52+2^52:=by unfold Eg; rfl
 rw [hm,Nat.add_sub_cancel,Nat.succ_mul,hi]
 generalize 2^52=c at *
 omega
theorem soft.Pack.known:soft.Pack.Kn:=EqSoft.soft.Pack.Ad (.cons soft.E9.known .nil) fun rk n m e hp hr=>by
 have hp:=At.1 (show Js m e=true from hp)
 have hr:Nf m e<rk+1:=hr
 obtain ⟨m0,m1,e0,e1⟩:=hp
 obtain ⟨M,rfl⟩:∃ M:Nat,m=M:=⟨m.toNat,by omega⟩
 refine ⟨0,soft.Pack.out [.b n,.i M,.i e],[],?_,.int⟩
 rw [EqSoft.soft.Pack.ev]
 show _=some (DV.int .u64 (Rx n M e))
 rw [Mp]
 unfold Nf at hr
 by_cases h0:M=0
 ·subst h0
  have:=Lr (r:=0) (by decide) n
  have e0:Bu 0 e=0:=rfl
  rw [e0]
  simpa using this
 ·have b0:((M:Int)==0)=false:=by simp; omega
  rw [b0,Aw7]
  by_cases h1:M=9007199254740992
  ·have b1:Ej (9007199254740992:Int) (M:Int)=true:=by rw [Gu]; simp; omega
   have s1:Db .u64 (M:Int) (1:Int)=((2^52:Nat):Int):=by
    rw [show (1:Int)=((1:Nat):Int) from rfl,Gz .u64 M 1 (by decide),h1]
   have w1:Ab (e+1)=e+1:=Ao (by omega) (by omega)
   rw [Axq (by omega)] at hr
   have p1:Js ((2^52:Nat):Int) (e+1)=true:=At.2 (by omega)
   have p2:Cw (Nf ((2^52:Nat):Int) (e+1)<rk)=true:=At.2 (by
    unfold Nf
    rw [Axp (by omega),Axp (by omega)]; omega)
   rw [b1,s1,w1,p1,p2,Mp,h1]
   have:=(Cp (2^52) 1 (e+1)).1
   have e2:e+1-((1:Nat):Int)=e:=by omega
   rw [e2] at this
   rw [← this]; rfl
  ·have b1:Ej (9007199254740992:Int) (M:Int)=false:=by rw [Gu]; simp; omega
   rw [b1,Aw7]
   rw [Axp (by omega)] at hr
   by_cases h2:M<4503599627370496
   ·have b2:A0 (M:Int) (4503599627370496:Int)=true:=by rw [Au]; simp; omega
    rw [Axq (by omega)] at hr
    by_cases h3:e=-1074
    ·subst h3
     have b3:A0 (-1074:Int) (-1074)=false:=by decide
     rw [b2,b3,Ayg,Aw7,Aw3,V3 h2]
     exact Lr (by omega) n
    ·have b3:A0 (-1074:Int) e=true:=by rw [Au]; simp; omega
     have s1:Bp .u64 (M:Int) (1:Int)=((M*2^1:Nat):Int):=by
      rw [show (1:Int)=((1:Nat):Int) from rfl,E8 M 1 (by decide),Axg (by omega)]
     have w1:Ab (e-1)=e-1:=Ao (by omega) (by omega)
     have p1:Js ((M*2^1:Nat):Int) (e-1)=true:=At.2 (by omega)
     have p2:Cw (Nf ((M*2^1:Nat):Int) (e-1)<rk)=true:=At.2 (by
      unfold Nf
      rw [Axp (by omega)]
      split<;>omega)
     rw [b2,b3,s1,w1,p1,p2,Mp]
     have:=(Cp M 1 e).1
     have e2:e-((1:Nat):Int)=e-1:=by omega
     rw [e2] at this
     rw [this]; rfl
   ·have b2:A0 (M:Int) (4503599627370496:Int)=false:=by rw [Au]; simp; omega
    have w1:Ab (e+1075)=e+1075:=Ao (by omega) (by omega)
    rw [b2,w1,Bool.false_and,Aw7,Aw7]
    have hr:=Pl (m:=M) (e:=e) (by omega) (by omega) e0
    by_cases h4:2047≤e+1075
    ·have b4:Ej (2047:Int) (e+1075)=true:=by rw [Gu]; simp; omega
     have:Bu M e=9218868437227405312:=by rw [hr,Em]; omega
     rw [b4,this,Aw3]
     exact Lr (r:=9218868437227405312) (by decide) n
    ·have b4:Ej (2047:Int) (e+1075)=false:=by rw [Gu]; simp; omega
     obtain ⟨E,hE⟩:∃ E:Nat,e+1075=E:=⟨(e+1075).toNat,by omega⟩
     have s1:Hn .u64 (Bp .u64 (Bg (e+1075)) (52:Int)) (Fz .u64 (M:Int) (4503599627370495:Int))=((Bu M e:Nat):Int):=by
      rw [hE,Ea (by omega) (by omega),show (52:Int)=((52:Nat):Int) from rfl,E8 E 52 (by decide),Axg (by omega),
       show (4503599627370495:Int)=((2^52-1:Nat):Int) from rfl,Hh 52 (by omega) (by decide),Lh (by omega) (by omega)]
      have hE2:(e+1074).toNat=E-1:=by omega
      have hE3:1≤E∧E≤2046:=by omega
      have hM:4503599627370496≤M∧M<9007199254740992:=by omega
      rw [hr,hE2]
      exact congrArg (fun (x:Nat)=>(x:Int)) (Aec hE3.1 hE3.2 hM.1 hM.2)
     rw [b4,s1,Aw7]
     exact Lr (Hw M e) n
end Go.Proofs.S1
end
