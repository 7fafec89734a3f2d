/- A verified evaluator of the program's form and its use for this seat: S1Specs, S1Tt, S1EqSoft, S1PSoft, S1PPack, S1PNear, S1EqSum, S1PSum. -/
import Derived.Test.YtclmlepbdjafdaaGreatTE
set_option linter.unusedVariables false
set_option linter.unusedSimpArgs false
noncomputable section
open Int (toNat)
open List (length getD)
open Go.Proofs.Tryz
namespace Go.Proofs.S1
open Go Go.Den Go.Rnd
def A8.An.pre:List Atom→Bool
 | [.l _x,.i a,.i b,.l _l]=>Br (-100≤a∧a≤100∧b≤a+1)
 | _=>false
def A8.An.out:List Atom→DV
 | [.l _x,.i _a,.i _b,.l _l]=>.tup []
 | _=>.undef
abbrev A8.An.ts:List AT:=[.s .i64,.i .i64,.i .i64,.fn 66 [.cp [.s .u64]]]
def A8.An.spec:Entry:=entry A8.An.ts A8.An.pre A8.An.out
def A8.As.pre:List Atom→Bool
 | [.l _x,.i n,.l _l]=>Br (0≤n∧n≤1)
 | _=>false
def A8.As.out:List Atom→DV
 | [.l _x,.i _n,.l _l]=>.tup []
 | _=>.undef
abbrev A8.As.ts:List AT:=[.s .i64,.i .i64,.fn 66 [.cp [.s .u64]]]
def A8.As.spec:Entry:=entry A8.As.ts A8.As.pre A8.As.out
def A8.At.pre:List Atom→Bool
 | [.l x,.l _l]=>Br (length x≤1)
 | _=>false
def A8.At.out:List Atom→DV
 | [.l _x,.l _l]=>.tup []
 | _=>.undef
abbrev A8.At.ts:List AT:=[.s .i64,.fn 66 [.cp [.s .u64]]]
def A8.At.spec:Entry:=entry A8.At.ts A8.At.pre A8.At.out
def Cf.Bj.pre:List Atom→Bool
 | [.i _r,.i _c,.l l,.i k]=>Cj l&&Br (length l≤1000∧-2300≤k∧k≤2300)
 | _=>false
def Cf.Bj.out:List Atom→DV
 | [.i r,.i c,.l l,.i k]=>.agg [.int .i64 r,.int .i64 c,.ints .fresh .u64 (Az l k)]
 | _=>.undef
abbrev Cf.Bj.ts:List AT:=[.st [.i .i64,.i .i64,.s .u64],.i .i64]
def Cf.Bj.spec:Entry:=entry Cf.Bj.ts Cf.Bj.pre Cf.Bj.out
def Cf.at.pre:List Atom→Bool
 | [.i r,.i c,.l l,.l x]=>Br (r=1∧c=1∧length l=1∧x=[0])
 | _=>false
def Cf.at.out:List Atom→DV
 | [.i _r,.i _c,.l l,.l _x]=>.agg [.int .i64 (1:Int),.int .i64 (1:Int),.ints .fresh .u64 l]
 | _=>.undef
abbrev Cf.at.ts:List AT:=[.st [.i .i64,.i .i64,.s .u64],.s .i64]
def Cf.at.spec:Entry:=entry Cf.at.ts Cf.at.pre Cf.at.out
def Cf.D0.pre:List Atom→Bool
 | [.i r,.i c,.l l]=>A1 l&&Br (r=1∧c=1∧length l=1)
 | _=>false
def Cf.D0.out:List Atom→DV
 | [.i _r,.i _c,.l l]=>.ints .fresh .u64 ([Db l])
 | _=>.undef
abbrev Cf.D0.ts:List AT:=[.st [.i .i64,.i .i64,.s .u64]]
def Cf.D0.spec:Entry:=entry Cf.D0.ts Cf.D0.pre Cf.D0.out
def Cf.rounds.pre:List Atom→Bool
 | [.i _r,.i c,.l _l,.i _p,.i _q,.l _m,.i _b]=>Br (c=1)
 | _=>false
def Cf.rounds.out:List Atom→DV
 | [.i r,.i c,.l l,.i p,.i q,.l m,.i _b]=>.tup [.agg [.int .i64 r,.int .i64 c,.ints .arg .u64 l],.agg [.int .i64 p,.int .i64 q,.ints .arg .u64 m],.int .i64 (0:Int)]
 | _=>.undef
abbrev Cf.rounds.ts:List AT:=[.st [.i .i64,.i .i64,.s .u64],.st [.i .i64,.i .i64,.s .u64],.i .u64]
def Cf.rounds.spec:Entry:=entry Cf.rounds.ts Cf.rounds.pre Cf.rounds.out
def Cf.Cp.pre:List Atom→Bool
 | [.i r,.i c,.l l]=>Br (r=1∧c=1∧l=[(4607182418800017408:Int)])
 | _=>false
def Cf.Cp.out:List Atom→DV
 | [.i _r,.i _c,.l _l]=>.tup [.agg [.int .i64 (1:Int),.int .i64 (1:Int),.ints .fresh .u64 ([(4607182418800017408:Int)])],.agg [.int .i64 (1:Int),.int .i64 (1:Int),.ints .fresh .u64 ([(4607182418800017408:Int)])],.ints .fresh .u64 ([(4607182418800017408:Int)]),.int .i64 (0:Int)]
 | _=>.undef
abbrev Cf.Cp.ts:List AT:=[.st [.i .i64,.i .i64,.s .u64]]
def Cf.Cp.spec:Entry:=entry Cf.Cp.ts Cf.Cp.pre Cf.Cp.out
def Cc.Check.pre:List Atom→Bool
 | [.i r,.i c,.l l,.i p,.i q,.l m]=>(A1 l&&A1 m)&&Br (Bo r c l=true∧Bo p q m=true∧D2 l=true∧D2 m=true∧c=1∧q=1∧1≤r+p∧r+p≤6)
 | _=>false
def Cc.Check.out:List Atom→DV
 | [.i _r,.i _c,.l _l,.i _p,.i _q,.l _m]=>.int .i64 (0:Int)
 | _=>.undef
abbrev Cc.Check.ts:List AT:=[.st [.i .i64,.i .i64,.s .u64],.st [.i .i64,.i .i64,.s .u64]]
def Cc.Check.spec:Entry:=entry Cc.Check.ts Cc.Check.pre Cc.Check.out
def Cc.Dh.pre:List Atom→Bool
 | [.i r,.i c,.l l,.i p,.i q,.l m]=>Br (r=1∧c=1∧l=[(4607182418800017408:Int)]∧p=1∧q=1∧m=[(0:Int)])
 | _=>false
def Cc.Dh.out:List Atom→DV
 | [.i _r,.i _c,.l _l,.i _p,.i _q,.l _m]=>.tup [.agg [.int .i64 (1:Int),.int .i64 (1:Int),.ints .fresh .u64 ([(4607182418800017408:Int)]),.int .i64 (1:Int),.int .i64 (1:Int),.ints .fresh .u64 ([(0:Int)]),.int .i64 (1:Int),.int .i64 (1:Int),.ints .fresh .u64 ([(4607182418800017408:Int)]),.int .i64 (1:Int),.int .i64 (1:Int),.ints .fresh .u64 ([(4607182418800017408:Int)]),.ints .fresh .u64 ([(4607182418800017408:Int)]),.ints .fresh .u64 ([(0:Int)])],.int .i64 (0:Int)]
 | _=>.undef
abbrev Cc.Dh.ts:List AT:=[.st [.i .i64,.i .i64,.s .u64],.st [.i .i64,.i .i64,.s .u64]]
def Cc.Dh.spec:Entry:=entry Cc.Dh.ts Cc.Dh.pre Cc.Dh.out
def Cc.A4.pre:List Atom→Bool
 | [.i _a1,.i _b1,.l _l1,.i _a2,.i _b2,.l _l2,.i _a3,.i _b3,.l _l3,.i _a4,.i _b4,.l _l4,.l _x,.l y]=>Cj y
 | _=>false
def Cc.A4.out:List Atom→DV
 | [.i _a1,.i _b1,.l _l1,.i _a2,.i _b2,.l _l2,.i _a3,.i _b3,.l _l3,.i _a4,.i _b4,.l _l4,.l _x,.l y]=>.int .i64 (Jq y)
 | _=>.undef
abbrev Cc.A4.ts:List AT:=[.st [.i .i64,.i .i64,.s .u64,.i .i64,.i .i64,.s .u64,.i .i64,.i .i64,.s .u64,.i .i64,.i .i64,.s .u64,.s .u64,.s .u64]]
def Cc.A4.spec:Entry:=entry Cc.A4.ts Cc.A4.pre Cc.A4.out
def B4.one.pre:List Atom→Bool
 | [.i _b]=>true
 | _=>false
def B4.one.out:List Atom→DV
 | [.i b]=>.agg [.int .i64 (1:Int),.int .i64 (1:Int),.ints .fresh .u64 ([b])]
 | _=>.undef
abbrev B4.one.ts:List AT:=[.i .u64]
def B4.one.spec:Entry:=entry B4.one.ts B4.one.pre B4.one.out
def Dz.A4.pre:List Atom→Bool
 | [.l y]=>Cj y
 | _=>false
def Dz.A4.out:List Atom→DV
 | [.l y]=>.int .i64 (Jq y)
 | _=>.undef
abbrev Dz.A4.ts:List AT:=[.s .u64]
def Dz.A4.spec:Entry:=entry Dz.A4.ts Dz.A4.pre Dz.A4.out
def B4.Fv.pre:List Atom→Bool
 | []=>true
 | _=>false
def B4.Fv.out:List Atom→DV
 | []=>.bool true
 | _=>.undef
abbrev B4.Fv.ts:List AT:=[]
def B4.Fv.spec:Entry:=entry B4.Fv.ts B4.Fv.pre B4.Fv.out
def B4.Bz.pre:List Atom→Bool
 | [.l y]=>Cj y
 | _=>false
def B4.Bz.out:List Atom→DV
 | [.l _y]=>.bool true
 | _=>.undef
abbrev B4.Bz.ts:List AT:=[.s .u64]
def B4.Bz.spec:Entry:=entry B4.Bz.ts B4.Bz.pre B4.Bz.out
def soft.Split.pre:List Atom→Bool
 | [.i x]=>Aj x
 | _=>false
def soft.Split.out:List Atom→DV
 | [.i x]=>.agg [.bool (C9 x),.int .i64 (Ja x),.int .u64 (Cg x)]
 | _=>.undef
abbrev soft.Split.ts:List AT:=[.i .u64]
def soft.Split.spec:Entry:=entry soft.Split.ts soft.Split.pre soft.Split.out
def soft.Kind.pre:List Atom→Bool
 | [.i x]=>Aj x
 | _=>false
def soft.Kind.out:List Atom→DV
 | [.i x]=>.int .i64 (Ba x)
 | _=>.undef
abbrev soft.Kind.ts:List AT:=[.i .u64]
def soft.Kind.spec:Entry:=entry soft.Kind.ts soft.Kind.pre soft.Kind.out
def soft.Sign.pre:List Atom→Bool
 | [.i x]=>Aj x
 | _=>false
def soft.Sign.out:List Atom→DV
 | [.i x]=>.bool (C9 x)
 | _=>.undef
abbrev soft.Sign.ts:List AT:=[.i .u64]
def soft.Sign.spec:Entry:=entry soft.Sign.ts soft.Sign.pre soft.Sign.out
def soft.Finite.pre:List Atom→Bool
 | [.i x]=>Aj x
 | _=>false
def soft.Finite.out:List Atom→DV
 | [.i x]=>.bool (Da x)
 | _=>.undef
abbrev soft.Finite.ts:List AT:=[.i .u64]
def soft.Finite.spec:Entry:=entry soft.Finite.ts soft.Finite.pre soft.Finite.out
def soft.Ef.pre:List Atom→Bool
 | [.i x]=>Aj x
 | _=>false
def soft.Ef.out:List Atom→DV
 | [.i x]=>.int .u64 (Dc x)
 | _=>.undef
abbrev soft.Ef.ts:List AT:=[.i .u64]
def soft.Ef.spec:Entry:=entry soft.Ef.ts soft.Ef.pre soft.Ef.out
def soft.Ea.pre:List Atom→Bool
 | [.i x]=>Aj x
 | _=>false
def soft.Ea.out:List Atom→DV
 | [.i x]=>.tup [.int .u64 (Bk x),.int .i64 (A7 x)]
 | _=>.undef
abbrev soft.Ea.ts:List AT:=[.i .u64]
def soft.Ea.spec:Entry:=entry soft.Ea.ts soft.Ea.pre soft.Ea.out
def soft.Pack.mu:List Atom→Nat
 | [.b _n,.i m,.i e]=>Lz m e
 | _=>0
def soft.Pack.pre:List Atom→Bool
 | [.b _n,.i m,.i e]=>Il m e
 | _=>false
def soft.Pack.out:List Atom→DV
 | [.b n,.i m,.i e]=>.int .u64 (Qo n m e)
 | _=>.undef
abbrev soft.Pack.ts:List AT:=[.b,.i .u64,.i .i64]
def soft.Pack.spec:Entry:=entry soft.Pack.ts soft.Pack.pre soft.Pack.out
def soft.Cq.pre:List Atom→Bool
 | [.b _n,.i m,.i e,.b r]=>Dk m e r
 | _=>false
def soft.Cq.out:List Atom→DV
 | [.b n,.i m,.i e,.b r]=>.tup [.int .u64 (Dw n m e r),.int .u8 (Dv n m e r)]
 | _=>.undef
abbrev soft.Cq.ts:List AT:=[.b,.i .u64,.i .i64,.b]
def soft.Cq.spec:Entry:=entry soft.Cq.ts soft.Cq.pre soft.Cq.out
def sum.right.pre:List Atom→Bool
 | [.i m,.i d]=>Aj m&&Br (0≤d∧d<1000000)
 | _=>false
def sum.right.out:List Atom→DV
 | [.i m,.i d]=>.int .u64 (D1 m d)
 | _=>.undef
abbrev sum.right.ts:List AT:=[.i .u64,.i .i64]
def sum.right.spec:Entry:=entry sum.right.ts sum.right.pre sum.right.out
def sum.Dd.pre:List Atom→Bool
 | [.i a,.i b]=>(Aj a&&Aj b)&&(!(Da a)||!(Da b))
 | _=>false
def sum.Dd.out:List Atom→DV
 | [.i a,.i b]=>.tup [.int .u64 (Jh a b),.int .u8 (S4 a b)]
 | _=>.undef
abbrev sum.Dd.ts:List AT:=[.i .u64,.i .u64]
def sum.Dd.spec:Entry:=entry sum.Dd.ts sum.Dd.pre sum.Dd.out
def sum.Add.pre:List Atom→Bool
 | [.i a,.i b]=>Aj a&&Aj b
 | _=>false
def sum.Add.out:List Atom→DV
 | [.i a,.i b]=>.tup [.int .u64 (Jh a b),.int .u8 (S4 a b)]
 | _=>.undef
abbrev sum.Add.ts:List AT:=[.i .u64,.i .u64]
def sum.Add.spec:Entry:=entry sum.Add.ts sum.Add.pre sum.Add.out
def sum.Sub.pre:List Atom→Bool
 | [.i a,.i b]=>Aj a&&Aj b
 | _=>false
def sum.Sub.out:List Atom→DV
 | [.i a,.i b]=>.tup [.int .u64 (Gu a b),.int .u8 (Aox a b)]
 | _=>.undef
abbrev sum.Sub.ts:List AT:=[.i .u64,.i .u64]
def sum.Sub.spec:Entry:=entry sum.Sub.ts sum.Sub.pre sum.Sub.out
def A0.Neg.pre:List Atom→Bool
 | [.i x]=>Aj x
 | _=>false
def A0.Neg.out:List Atom→DV
 | [.i x]=>.bool (C9 x)
 | _=>.undef
abbrev A0.Neg.ts:List AT:=[.i .u64]
def A0.Neg.spec:Entry:=entry A0.Neg.ts A0.Neg.pre A0.Neg.out
def A0.Power.pre:List Atom→Bool
 | [.i x]=>L9 x
 | _=>false
def A0.Power.out:List Atom→DV
 | [.i x]=>.int .i64 (Ja x)
 | _=>.undef
abbrev A0.Power.ts:List AT:=[.i .u64]
def A0.Power.spec:Entry:=entry A0.Power.ts A0.Power.pre A0.Power.out
def A0.Hy.pre:List Atom→Bool
 | [.i x]=>L9 x
 | _=>false
def A0.Hy.out:List Atom→DV
 | [.i x]=>.int .u64 (Cg x)
 | _=>.undef
abbrev A0.Hy.ts:List AT:=[.i .u64]
def A0.Hy.spec:Entry:=entry A0.Hy.ts A0.Hy.pre A0.Hy.out
def A0.Kind.pre:List Atom→Bool
 | [.i x]=>L9 x
 | _=>false
def A0.Kind.out:List Atom→DV
 | [.i x]=>.int .i64 (Ba x)
 | _=>.undef
abbrev A0.Kind.ts:List AT:=[.i .u64]
def A0.Kind.spec:Entry:=entry A0.Kind.ts A0.Kind.pre A0.Kind.out
def A0.Finite.pre:List Atom→Bool
 | [.i x]=>Aj x
 | _=>false
def A0.Finite.out:List Atom→DV
 | [.i x]=>.bool (Da x)
 | _=>.undef
abbrev A0.Finite.ts:List AT:=[.i .u64]
def A0.Finite.spec:Entry:=entry A0.Finite.ts A0.Finite.pre A0.Finite.out
def Dj.Canon.pre:List Atom→Bool
 | [.i x]=>L9 x
 | _=>false
def Dj.Canon.out:List Atom→DV
 | [.i x]=>.int .u64 (Vi x)
 | _=>.undef
abbrev Dj.Canon.ts:List AT:=[.i .u64]
def Dj.Canon.spec:Entry:=entry Dj.Canon.ts Dj.Canon.pre Dj.Canon.out
def B5.Bm.pre:List Atom→Bool
 | [.i x]=>Aj x
 | _=>false
def B5.Bm.out:List Atom→DV
 | [.i x]=>.int .i64 (64-Dx x)
 | _=>.undef
abbrev B5.Bm.ts:List AT:=[.i .u64]
def B5.Bm.spec:Entry:=entry B5.Bm.ts B5.Bm.pre B5.Bm.out
def B5.Fi.pre:List Atom→Bool
 | [.i x,.i y]=>Aj x&&Aj y
 | _=>false
def B5.Fi.out:List Atom→DV
 | [.i x,.i y]=>.tup [.int .u64 (O6 x y),.int .u64 (Kq x y)]
 | _=>.undef
abbrev B5.Fi.ts:List AT:=[.i .u64,.i .u64]
def B5.Fi.spec:Entry:=entry B5.Fi.ts B5.Fi.pre B5.Fi.out
def times.signed.pre:List Atom→Bool
 | [.i b,.b _n]=>Aj b
 | _=>false
def times.signed.out:List Atom→DV
 | [.i b,.b n]=>.int .u64 (O2 n b)
 | _=>.undef
abbrev times.signed.ts:List AT:=[.i .u64,.b]
def times.signed.spec:Entry:=entry times.signed.ts times.signed.pre times.signed.out
def times.nan.pre:List Atom→Bool
 | [.i a,.i b]=>Aj a&&Aj b
 | _=>false
def times.nan.out:List Atom→DV
 | [.i a,.i b]=>.bool (Ahk a b)
 | _=>.undef
abbrev times.nan.ts:List AT:=[.i .u64,.i .u64]
def times.nan.spec:Entry:=entry times.nan.ts times.nan.pre times.nan.out
def times.norm.pre:List Atom→Bool
 | [.i b]=>Aj b&&Jm b
 | _=>false
def times.norm.out:List Atom→DV
 | [.i b]=>.tup [.int .u64 (Ch b),.int .i64 (Fu b)]
 | _=>.undef
abbrev times.norm.ts:List AT:=[.i .u64]
def times.norm.spec:Entry:=entry times.norm.ts times.norm.pre times.norm.out
def times.wide.pre:List Atom→Bool
 | [.b _n,.i m,.i e,.b _r]=>Lw m e
 | _=>false
def times.wide.out:List Atom→DV
 | [.b n,.i m,.i e,.b r]=>.tup [.int .u64 (Dw n m e r),.int .u8 (Dv n m e r)]
 | _=>.undef
abbrev times.wide.ts:List AT:=[.b,.i .u64,.i .i64,.b]
def times.wide.spec:Entry:=entry times.wide.ts times.wide.pre times.wide.out
def times.Mul.pre:List Atom→Bool
 | [.i a,.i b]=>Aj a&&Aj b
 | _=>false
def times.Mul.out:List Atom→DV
 | [.i a,.i b]=>.tup [.int .u64 (Hh a b),.int .u8 (Ao3 a b)]
 | _=>.undef
abbrev times.Mul.ts:List AT:=[.i .u64,.i .u64]
def times.Mul.spec:Entry:=entry times.Mul.ts times.Mul.pre times.Mul.out
def times.Div.pre:List Atom→Bool
 | [.i a,.i b]=>Aj a&&Aj b
 | _=>false
def times.Div.out:List Atom→DV
 | [.i a,.i b]=>.tup [.int .u64 (Gj a b),.int .u8 (Ao8 a b)]
 | _=>.undef
abbrev times.Div.ts:List AT:=[.i .u64,.i .u64]
def times.Div.spec:Entry:=entry times.Div.ts times.Div.pre times.Div.out
def Ac.Add.pre:List Atom→Bool
 | [.i a,.i b]=>Aj a&&Aj b
 | _=>false
def Ac.Add.out:List Atom→DV
 | [.i a,.i b]=>.int .u64 (Jh a b)
 | _=>.undef
abbrev Ac.Add.ts:List AT:=[.i .u64,.i .u64]
def Ac.Add.spec:Entry:=entry Ac.Add.ts Ac.Add.pre Ac.Add.out
def Ac.Sub.pre:List Atom→Bool
 | [.i a,.i b]=>Aj a&&Aj b
 | _=>false
def Ac.Sub.out:List Atom→DV
 | [.i a,.i b]=>.int .u64 (Gu a b)
 | _=>.undef
abbrev Ac.Sub.ts:List AT:=[.i .u64,.i .u64]
def Ac.Sub.spec:Entry:=entry Ac.Sub.ts Ac.Sub.pre Ac.Sub.out
def Ac.Mul.pre:List Atom→Bool
 | [.i a,.i b]=>Aj a&&Aj b
 | _=>false
def Ac.Mul.out:List Atom→DV
 | [.i a,.i b]=>.int .u64 (Hh a b)
 | _=>.undef
abbrev Ac.Mul.ts:List AT:=[.i .u64,.i .u64]
def Ac.Mul.spec:Entry:=entry Ac.Mul.ts Ac.Mul.pre Ac.Mul.out
def Ac.fit.pre:List Atom→Bool
 | [.l _x,.l _y]=>true
 | _=>false
def Ac.fit.out:List Atom→DV
 | [.l x,.l y]=>.bool (R4 x y)
 | _=>.undef
abbrev Ac.fit.ts:List AT:=[.s .u64,.s .u64]
def Ac.fit.spec:Entry:=entry Ac.fit.ts Ac.fit.pre Ac.fit.out
def Ac.Lv.pre:List Atom→Bool
 | [.l x,.l y]=>(R4 x y&&A1 x)&&A1 y
 | _=>false
def Ac.Lv.out:List Atom→DV
 | [.l x,.l y]=>.tup [.int .u64 (Oz x y),.int .i64 (0:Int)]
 | _=>.undef
abbrev Ac.Lv.ts:List AT:=[.s .u64,.s .u64]
def Ac.Lv.spec:Entry:=entry Ac.Lv.ts Ac.Lv.pre Ac.Lv.out
def B0.F.pre:List Atom→Bool
 | [.i x]=>Aj x
 | _=>false
def B0.F.out:List Atom→DV
 | [.i x]=>.fl (toNat x)
 | _=>.undef
abbrev B0.F.ts:List AT:=[.i .u64]
def B0.F.spec:Entry:=entry B0.F.ts B0.F.pre B0.F.out
def B0.B.pre:List Atom→Bool
 | [.f _x]=>true
 | _=>false
def B0.B.out:List Atom→DV
 | [.f x]=>.int .u64 (Kw x)
 | _=>.undef
abbrev B0.B.ts:List AT:=[.fl]
def B0.B.spec:Entry:=entry B0.B.ts B0.B.pre B0.B.out
def Aa.size.pre:List Atom→Bool
 | [.i _n]=>true
 | _=>false
def Aa.size.out:List Atom→DV
 | [.i n]=>.bool (B9 n)
 | _=>.undef
abbrev Aa.size.ts:List AT:=[.i .i64]
def Aa.size.spec:Entry:=entry Aa.size.ts Aa.size.pre Aa.size.out
def Aa.Check.pre:List Atom→Bool
 | [.i _r,.i _c,.l _l]=>true
 | _=>false
def Aa.Check.out:List Atom→DV
 | [.i r,.i c,.l l]=>.int .i64 (Kf r c l)
 | _=>.undef
abbrev Aa.Check.ts:List AT:=[.st [.i .i64,.i .i64,.s .u64]]
def Aa.Check.spec:Entry:=entry Aa.Check.ts Aa.Check.pre Aa.Check.out
def Aa.get.pre:List Atom→Bool
 | [.i r,.i c,.l l,.i i,.i k]=>I4 r c l i k
 | _=>false
def Aa.get.out:List Atom→DV
 | [.i _r,.i c,.l l,.i i,.i k]=>.int .u64 (Mr c l i k)
 | _=>.undef
abbrev Aa.get.ts:List AT:=[.st [.i .i64,.i .i64,.s .u64],.i .i64,.i .i64]
def Aa.get.spec:Entry:=entry Aa.get.ts Aa.get.pre Aa.get.out
def Aa.two.pre:List Atom→Bool
 | [.i _r,.i _c,.l _l,.i _p,.i _q,.l _m]=>true
 | _=>false
def Aa.two.out:List Atom→DV
 | [.i r,.i c,.l l,.i p,.i q,.l m]=>.int .i64 (Tr r c l p q m)
 | _=>.undef
abbrev Aa.two.ts:List AT:=[.st [.i .i64,.i .i64,.s .u64],.st [.i .i64,.i .i64,.s .u64]]
def Aa.two.spec:Entry:=entry Aa.two.ts Aa.two.pre Aa.two.out
def Aa.Row.pre:List Atom→Bool
 | [.i r,.i c,.l l,.i i,.i f]=>Xt r c l i&&decide (f=0)
 | _=>false
def Aa.Row.out:List Atom→DV
 | [.i _r,.i c,.l l,.i i,.i _f]=>.ints .fresh .u64 (K1 c l i)
 | _=>.undef
abbrev Aa.Row.ts:List AT:=[.st [.i .i64,.i .i64,.s .u64],.i .i64,.i .i64]
def Aa.Row.spec:Entry:=entry Aa.Row.ts Aa.Row.pre Aa.Row.out
def Aa.Cr.pre:List Atom→Bool
 | [.i r,.i c,.l l,.i k,.i f]=>Gl r c l k&&Br (0≤f∧f≤r)
 | _=>false
def Aa.Cr.out:List Atom→DV
 | [.i r,.i c,.l l,.i k,.i f]=>.ints .fresh .u64 (C6 c l k f (toNat (r-f)))
 | _=>.undef
abbrev Aa.Cr.ts:List AT:=[.st [.i .i64,.i .i64,.s .u64],.i .i64,.i .i64]
def Aa.Cr.spec:Entry:=entry Aa.Cr.ts Aa.Cr.pre Aa.Cr.out
def Aa.Fl.pre:List Atom→Bool
 | [.i _i,.i _k]=>true
 | _=>false
def Aa.Fl.out:List Atom→DV
 | [.i i,.i k]=>.int .u64 (R7 i k)
 | _=>.undef
abbrev Aa.Fl.ts:List AT:=[.i .i64,.i .i64]
def Aa.Fl.spec:Entry:=entry Aa.Fl.ts Aa.Fl.pre Aa.Fl.out
def Aa.D3.pre:List Atom→Bool
 | [.i i,.i k,.i r,.i c,.l l,.i x,.i y]=>I4 r c l (x+i) (y+k)&&Rl x y i k
 | _=>false
def Aa.D3.out:List Atom→DV
 | [.i i,.i k,.i _r,.i c,.l l,.i x,.i y]=>.int .u64 (Mr c l (x+i) (y+k))
 | _=>.undef
abbrev Aa.D3.ts:List AT:=[.i .i64,.i .i64,.cp [.i .i64,.i .i64,.s .u64],.cp [.i .i64],.cp [.i .i64]]
def Aa.D3.spec:Entry:=entry Aa.D3.ts Aa.D3.pre Aa.D3.out
def Aa.De.pre:List Atom→Bool
 | [.i i,.i k,.i r,.i c,.l l,.i p,.i q,.l m]=>J5 r c l p q m i k
 | _=>false
def Aa.De.out:List Atom→DV
 | [.i i,.i k,.i r,.i c,.l l,.i _p,.i q,.l m]=>.int .u64 (J6 r c l q m i k)
 | _=>.undef
abbrev Aa.De.ts:List AT:=[.i .i64,.i .i64,.cp [.i .i64,.i .i64,.s .u64],.cp [.i .i64,.i .i64,.s .u64]]
def Aa.De.spec:Entry:=entry Aa.De.ts Aa.De.pre Aa.De.out
def Aa.Fh.pre:List Atom→Bool
 | [.i i,.i k,.i r,.i c,.l l,.i p,.i q,.l m]=>Pq r c l p q m i k
 | _=>false
def Aa.Fh.out:List Atom→DV
 | [.i i,.i k,.i _r,.i c,.l l,.i p,.i q,.l m]=>.int .u64 (Oz (K1 c l i) (Py p q m k))
 | _=>.undef
abbrev Aa.Fh.ts:List AT:=[.i .i64,.i .i64,.cp [.i .i64,.i .i64,.s .u64],.cp [.i .i64,.i .i64,.s .u64]]
def Aa.Fh.spec:Entry:=entry Aa.Fh.ts Aa.Fh.pre Aa.Fh.out
def Aa.of.Fs.pre:List Atom→Bool
 | [.i a,.i b]=>(B9 a&&B9 b)
 | _=>false
def Aa.of.Fs.out:List Atom→DV
 | [.i a,.i b]=>.agg [.int .i64 a,.int .i64 b,.ints .fresh .u64 (Dr (toNat a) (toNat b) (fun j1 j2=>R7 j1 j2))]
 | _=>.undef
abbrev Aa.of.Fs.ts:List AT:=[.i .i64,.i .i64,.fn 93 []]
def Aa.of.Fs.spec:Entry:=entry Aa.of.Fs.ts Aa.of.Fs.pre Aa.of.Fs.out
def Aa.of.Part.pre:List Atom→Bool
 | [.i a,.i b,.i r,.i c,.l l,.i x,.i y]=>(B9 a&&B9 b)&&Bo r c l&&Mo r c x y a b
 | _=>false
def Aa.of.Part.out:List Atom→DV
 | [.i a,.i b,.i _r,.i c,.l l,.i x,.i y]=>.agg [.int .i64 a,.int .i64 b,.ints .fresh .u64 (Dr (toNat a) (toNat b) (fun j1 j2=>Mr c l (x+j1) (y+j2)))]
 | _=>.undef
abbrev Aa.of.Part.ts:List AT:=[.i .i64,.i .i64,.fn 58 [.cp [.i .i64,.i .i64,.s .u64],.cp [.i .i64],.cp [.i .i64]]]
def Aa.of.Part.spec:Entry:=entry Aa.of.Part.ts Aa.of.Part.pre Aa.of.Part.out
def Aa.of.Stack.pre:List Atom→Bool
 | [.i a,.i b,.i r,.i c,.l l,.i p,.i q,.l m]=>(B9 a&&B9 b)&&(Bo r c l&&Bo p q m)&&decide (a=r+p∧b=c∧q=c)
 | _=>false
def Aa.of.Stack.out:List Atom→DV
 | [.i a,.i b,.i r,.i c,.l l,.i _p,.i q,.l m]=>.agg [.int .i64 a,.int .i64 b,.ints .fresh .u64 (Dr (toNat a) (toNat b) (fun j1 j2=>J6 r c l q m j1 j2))]
 | _=>.undef
abbrev Aa.of.Stack.ts:List AT:=[.i .i64,.i .i64,.fn 54 [.cp [.i .i64,.i .i64,.s .u64],.cp [.i .i64,.i .i64,.s .u64]]]
def Aa.of.Stack.spec:Entry:=entry Aa.of.Stack.ts Aa.of.Stack.pre Aa.of.Stack.out
def Aa.of.Mul.pre:List Atom→Bool
 | [.i a,.i b,.i r,.i c,.l l,.i p,.i q,.l m]=>(B9 a&&B9 b)&&((Bo r c l&&Bo p q m)&&(A1 l&&A1 m))&&decide (a=r∧b=q∧c=p)
 | _=>false
def Aa.of.Mul.out:List Atom→DV
 | [.i a,.i b,.i _r,.i c,.l l,.i p,.i q,.l m]=>.agg [.int .i64 a,.int .i64 b,.ints .fresh .u64 (Dr (toNat a) (toNat b) (fun j1 j2=>Oz (K1 c l j1) (Py p q m j2)))]
 | _=>.undef
abbrev Aa.of.Mul.ts:List AT:=[.i .i64,.i .i64,.fn 68 [.cp [.i .i64,.i .i64,.s .u64],.cp [.i .i64,.i .i64,.s .u64]]]
def Aa.of.Mul.spec:Entry:=entry Aa.of.Mul.ts Aa.of.Mul.pre Aa.of.Mul.out
def Aa.Fs.pre:List Atom→Bool
 | [.i _n]=>true
 | _=>false
def Aa.Fs.out:List Atom→DV
 | [.i n]=>.tup [.agg [.int .i64 ((F3 n).1),.int .i64 ((F3 n).2.1),.ints .fresh .u64 ((F3 n).2.2.1)],.int .i64 ((F3 n).2.2.2)]
 | _=>.undef
abbrev Aa.Fs.ts:List AT:=[.i .i64]
def Aa.Fs.spec:Entry:=entry Aa.Fs.ts Aa.Fs.pre Aa.Fs.out
def Aa.Part.pre:List Atom→Bool
 | [.i _r,.i _c,.l _l,.i _x,.i _y,.i _a,.i _b]=>true
 | _=>false
def Aa.Part.out:List Atom→DV
 | [.i r,.i c,.l l,.i x,.i y,.i a,.i b]=>.tup [.agg [.int .i64 ((F7 r c l x y a b).1),.int .i64 ((F7 r c l x y a b).2.1),.ints .fresh .u64 ((F7 r c l x y a b).2.2.1)],.int .i64 ((F7 r c l x y a b).2.2.2)]
 | _=>.undef
abbrev Aa.Part.ts:List AT:=[.st [.i .i64,.i .i64,.s .u64],.i .i64,.i .i64,.i .i64,.i .i64]
def Aa.Part.spec:Entry:=entry Aa.Part.ts Aa.Part.pre Aa.Part.out
def Aa.Stack.pre:List Atom→Bool
 | [.i _r,.i _c,.l _l,.i _p,.i _q,.l _m]=>true
 | _=>false
def Aa.Stack.out:List Atom→DV
 | [.i r,.i c,.l l,.i p,.i q,.l m]=>.tup [.agg [.int .i64 ((J4 r c l p q m).1),.int .i64 ((J4 r c l p q m).2.1),.ints .fresh .u64 ((J4 r c l p q m).2.2.1)],.int .i64 ((J4 r c l p q m).2.2.2)]
 | _=>.undef
abbrev Aa.Stack.ts:List AT:=[.st [.i .i64,.i .i64,.s .u64],.st [.i .i64,.i .i64,.s .u64]]
def Aa.Stack.spec:Entry:=entry Aa.Stack.ts Aa.Stack.pre Aa.Stack.out
def Aa.Mul.pre:List Atom→Bool
 | [.i _r,.i _c,.l l,.i _p,.i _q,.l m]=>A1 l&&A1 m
 | _=>false
def Aa.Mul.out:List Atom→DV
 | [.i r,.i c,.l l,.i p,.i q,.l m]=>.tup [.agg [.int .i64 ((Ul r c l p q m).1),.int .i64 ((Ul r c l p q m).2.1),.ints .fresh .u64 ((Ul r c l p q m).2.2.1)],.int .i64 ((Ul r c l p q m).2.2.2)]
 | _=>.undef
abbrev Aa.Mul.ts:List AT:=[.st [.i .i64,.i .i64,.s .u64],.st [.i .i64,.i .i64,.s .u64]]
def Aa.Mul.spec:Entry:=entry Aa.Mul.ts Aa.Mul.pre Aa.Mul.out
def Ae.Gx.pre:List Atom→Bool
 | [.l l,.i _i]=>F2 l
 | _=>false
def Ae.Gx.out:List Atom→DV
 | [.l l,.i i]=>.int .u64 (Ff l i)
 | _=>.undef
abbrev Ae.Gx.ts:List AT:=[.s .u32,.i .i64]
def Ae.Gx.spec:Entry:=entry Ae.Gx.ts Ae.Gx.pre Ae.Gx.out
def Ae.Made.pre:List Atom→Bool
 | [.b _n,.l l]=>F2 l
 | _=>false
def Ae.Made.out:List Atom→DV
 | [.b n,.l l]=>.agg [.bool (A9 (wv n l)),.ints .arg .u32 (Ai (wv n l))]
 | _=>.undef
abbrev Ae.Made.ts:List AT:=[.b,.s .u32]
def Ae.Made.spec:Entry:=entry Ae.Made.ts Ae.Made.pre Ae.Made.out
def Ae.Of.pre:List Atom→Bool
 | [.i n]=>Adr n
 | _=>false
def Ae.Of.out:List Atom→DV
 | [.i n]=>.agg [.bool (A9 (n)),.ints .arg .u32 (Ai (n))]
 | _=>.undef
abbrev Ae.Of.ts:List AT:=[.i .i64]
def Ae.Of.spec:Entry:=entry Ae.Of.ts Ae.Of.pre Ae.Of.out
def Ae.F5.pre:List Atom→Bool
 | [.l a,.l b]=>F2 a&&F2 b
 | _=>false
def Ae.F5.out:List Atom→DV
 | [.l a,.l b]=>.int .i64 (Sb (B2 a) (B2 b))
 | _=>.undef
abbrev Ae.F5.ts:List AT:=[.s .u32,.s .u32]
def Ae.F5.spec:Entry:=entry Ae.F5.ts Ae.F5.pre Ae.F5.out
def Ae.plus.pre:List Atom→Bool
 | [.l a,.l b]=>F2 a&&F2 b
 | _=>false
def Ae.plus.out:List Atom→DV
 | [.l a,.l b]=>.ints .arg .u32 (Hp a b)
 | _=>.undef
abbrev Ae.plus.ts:List AT:=[.s .u32,.s .u32]
def Ae.plus.spec:Entry:=entry Ae.plus.ts Ae.plus.pre Ae.plus.out
def Ae.minus.pre:List Atom→Bool
 | [.l a,.l b]=>(F2 a&&F2 b)&&leL b a
 | _=>false
def Ae.minus.out:List Atom→DV
 | [.l a,.l b]=>.ints .arg .u32 (Fx a b)
 | _=>.undef
abbrev Ae.minus.ts:List AT:=[.s .u32,.s .u32]
def Ae.minus.spec:Entry:=entry Ae.minus.ts Ae.minus.pre Ae.minus.out
def Ae.Add.pre:List Atom→Bool
 | [.b n,.l a,.b m,.l b]=>He n a&&He m b
 | _=>false
def Ae.Add.out:List Atom→DV
 | [.b n,.l a,.b m,.l b]=>.agg [.bool (A9 (wv n a+wv m b)),.ints .arg .u32 (Ai (wv n a+wv m b))]
 | _=>.undef
abbrev Ae.Add.ts:List AT:=[.st [.b,.s .u32],.st [.b,.s .u32]]
def Ae.Add.spec:Entry:=entry Ae.Add.ts Ae.Add.pre Ae.Add.out
def Ae.Neg.pre:List Atom→Bool
 | [.b n,.l a]=>He n a
 | _=>false
def Ae.Neg.out:List Atom→DV
 | [.b n,.l a]=>.agg [.bool (A9 (- wv n a)),.ints .arg .u32 (Ai (- wv n a))]
 | _=>.undef
abbrev Ae.Neg.ts:List AT:=[.st [.b,.s .u32]]
def Ae.Neg.spec:Entry:=entry Ae.Neg.ts Ae.Neg.pre Ae.Neg.out
def Ae.D6.pre:List Atom→Bool
 | [.b n,.l a]=>He n a
 | _=>false
def Ae.D6.out:List Atom→DV
 | [.b n,.l a]=>.agg [.bool (A9 (2*wv n a)),.ints .arg .u32 (Ai (2*wv n a))]
 | _=>.undef
abbrev Ae.D6.ts:List AT:=[.st [.b,.s .u32]]
def Ae.D6.spec:Entry:=entry Ae.D6.ts Ae.D6.pre Ae.D6.out
def Ae.Fq.pre:List Atom→Bool
 | [.b n,.l a]=>He n a
 | _=>false
def Ae.Fq.out:List Atom→DV
 | [.b n,.l a]=>.agg [.bool (A9 (Ik (wv n a) 1)),.ints .arg .u32 (Ai (Ik (wv n a) 1))]
 | _=>.undef
abbrev Ae.Fq.ts:List AT:=[.st [.b,.s .u32]]
def Ae.Fq.spec:Entry:=entry Ae.Fq.ts Ae.Fq.pre Ae.Fq.out
def Ae.Bf.pre:List Atom→Bool
 | [.b n,.l a,.i k]=>Te n a&&Am9 k
 | _=>false
def Ae.Bf.out:List Atom→DV
 | [.b n,.l a,.i k]=>.agg [.bool (A9 (E8 (wv n a) k)),.ints .arg .u32 (Ai (E8 (wv n a) k))]
 | _=>.undef
abbrev Ae.Bf.ts:List AT:=[.st [.b,.s .u32],.i .i64]
def Ae.Bf.spec:Entry:=entry Ae.Bf.ts Ae.Bf.pre Ae.Bf.out
def Ae.Ms.pre:List Atom→Bool
 | [.b n,.l a]=>He n a
 | _=>false
def Ae.Ms.out:List Atom→DV
 | [.b n,.l a]=>.int .i64 (Vx (wv n a))
 | _=>.undef
abbrev Ae.Ms.ts:List AT:=[.st [.b,.s .u32]]
def Ae.Ms.spec:Entry:=entry Ae.Ms.ts Ae.Ms.pre Ae.Ms.out
def Ae.Sg.pre:List Atom→Bool
 | [.b n,.l a]=>He n a
 | _=>false
def Ae.Sg.out:List Atom→DV
 | [.b n,.l a]=>.bool (Aev (wv n a))
 | _=>.undef
abbrev Ae.Sg.ts:List AT:=[.st [.b,.s .u32]]
def Ae.Sg.spec:Entry:=entry Ae.Sg.ts Ae.Sg.pre Ae.Sg.out
def Ap.Of.pre:List Atom→Bool
 | [.b n,.l a,.i e]=>He n a&&Vu e
 | _=>false
def Ap.Of.out:List Atom→DV
 | [.b n,.l a,.i e]=>.agg [.bool (A9 (mD (wv n a))),.ints .arg .u32 (Ai (mD (wv n a))),.int .i64 (eD (wv n a) e)]
 | _=>.undef
abbrev Ap.Of.ts:List AT:=[.st [.b,.s .u32],.i .i64]
def Ap.Of.spec:Entry:=entry Ap.Of.ts Ap.Of.pre Ap.Of.out
def Ap.Neg.pre:List Atom→Bool
 | [.b n,.l a,.i _e]=>He n a
 | _=>false
def Ap.Neg.out:List Atom→DV
 | [.b n,.l a,.i e]=>.agg [.bool (A9 (- wv n a)),.ints .arg .u32 (Ai (- wv n a)),.int .i64 e]
 | _=>.undef
abbrev Ap.Neg.ts:List AT:=[.st [.b,.s .u32,.i .i64]]
def Ap.Neg.spec:Entry:=entry Ap.Neg.ts Ap.Neg.pre Ap.Neg.out
def Ap.Sh.pre:List Atom→Bool
 | [.b n,.l a,.i _e,.b m,.l b,.i _f]=>He n a&&He m b
 | _=>false
def Ap.Sh.out:List Atom→DV
 | [.b n,.l a,.i e,.b m,.l b,.i f]=>.int .i64 (Ci (wv n a) e (wv m b) f)
 | _=>.undef
abbrev Ap.Sh.ts:List AT:=[.st [.b,.s .u32,.i .i64],.st [.b,.s .u32,.i .i64]]
def Ap.Sh.spec:Entry:=entry Ap.Sh.ts Ap.Sh.pre Ap.Sh.out
def Ap.Level.pre:List Atom→Bool
 | [.b n,.l a,.i e,.i f]=>Te n a&&Zu (wv n a) e f
 | _=>false
def Ap.Level.out:List Atom→DV
 | [.b n,.l a,.i e,.i f]=>.agg [.bool (A9 (E8 (wv n a) (e-f))),.ints .arg .u32 (Ai (E8 (wv n a) (e-f)))]
 | _=>.undef
abbrev Ap.Level.ts:List AT:=[.st [.b,.s .u32,.i .i64],.i .i64]
def Ap.Level.spec:Entry:=entry Ap.Level.ts Ap.Level.pre Ap.Level.out
def Ap.Add.pre:List Atom→Bool
 | [.b n,.l a,.i e,.b m,.l b,.i f]=>((Te n a&&Te m b)&&Tf e)&&Tf f
 | _=>false
def Ap.Add.out:List Atom→DV
 | [.b n,.l a,.i e,.b m,.l b,.i f]=>.agg [.bool (A9 (N2 (wv n a) e (wv m b) f)),.ints .arg .u32 (Ai (N2 (wv n a) e (wv m b) f)),.int .i64 (Aji (wv n a) e (wv m b) f)]
 | _=>.undef
abbrev Ap.Add.ts:List AT:=[.st [.b,.s .u32,.i .i64],.st [.b,.s .u32,.i .i64]]
def Ap.Add.spec:Entry:=entry Ap.Add.ts Ap.Add.pre Ap.Add.out
def Ap.Sub.pre:List Atom→Bool
 | [.b n,.l a,.i e,.b m,.l b,.i f]=>((Te n a&&Te m b)&&Tf e)&&Tf f
 | _=>false
def Ap.Sub.out:List Atom→DV
 | [.b n,.l a,.i e,.b m,.l b,.i f]=>.agg [.bool (A9 (N2 (wv n a) e (- wv m b) f)),.ints .arg .u32 (Ai (N2 (wv n a) e (- wv m b) f)),.int .i64 (Aji (wv n a) e (- wv m b) f)]
 | _=>.undef
abbrev Ap.Sub.ts:List AT:=[.st [.b,.s .u32,.i .i64],.st [.b,.s .u32,.i .i64]]
def Ap.Sub.spec:Entry:=entry Ap.Sub.ts Ap.Sub.pre Ap.Sub.out
def Ap.Sf.pre:List Atom→Bool
 | [.b n,.l a,.i e]=>He n a&&Tf e
 | _=>false
def Ap.Sf.out:List Atom→DV
 | [.b n,.l a,.i e]=>.int .i64 (G0 (wv n a) e)
 | _=>.undef
abbrev Ap.Sf.ts:List AT:=[.st [.b,.s .u32,.i .i64]]
def Ap.Sf.spec:Entry:=entry Ap.Sf.ts Ap.Sf.pre Ap.Sf.out
def Ap.Sign.pre:List Atom→Bool
 | [.b n,.l a,.i _e]=>He n a
 | _=>false
def Ap.Sign.out:List Atom→DV
 | [.b n,.l a,.i _e]=>.int .i64 (Kk (wv n a))
 | _=>.undef
abbrev Ap.Sign.ts:List AT:=[.st [.b,.s .u32,.i .i64]]
def Ap.Sign.spec:Entry:=entry Ap.Sign.ts Ap.Sign.pre Ap.Sign.out
def Ap.Compare.pre:List Atom→Bool
 | [.b n,.l a,.i e,.b m,.l b,.i f]=>((Te n a&&Te m b)&&Tf e)&&Tf f
 | _=>false
def Ap.Compare.out:List Atom→DV
 | [.b n,.l a,.i e,.b m,.l b,.i f]=>.int .i64 (S6 (wv n a) e (wv m b) f)
 | _=>.undef
abbrev Ap.Compare.ts:List AT:=[.st [.b,.s .u32,.i .i64],.st [.b,.s .u32,.i .i64]]
def Ap.Compare.spec:Entry:=entry Ap.Compare.ts Ap.Compare.pre Ap.Compare.out
def A0.Value.pre:List Atom→Bool
 | [.i x]=>Aj x
 | _=>false
def A0.Value.out:List Atom→DV
 | [.i x]=>.agg [.bool (A9 (mD (E9 x))),.ints .arg .u32 (Ai (mD (E9 x))),.int .i64 (eD (E9 x) (A7 x))]
 | _=>.undef
abbrev A0.Value.ts:List AT:=[.i .u64]
def A0.Value.spec:Entry:=entry A0.Value.ts A0.Value.pre A0.Value.out
def compare.Ic.pre:List Atom→Bool
 | [.i b]=>Aj b
 | _=>false
def compare.Ic.out:List Atom→DV
 | [.i b]=>.int .i64 (Wj b)
 | _=>.undef
abbrev compare.Ic.ts:List AT:=[.i .u64]
def compare.Ic.spec:Entry:=entry compare.Ic.ts compare.Ic.pre compare.Ic.out
def compare.Order.pre:List Atom→Bool
 | [.i a,.i b]=>Aj a&&Aj b
 | _=>false
def compare.Order.out:List Atom→DV
 | [.i a,.i b]=>.tup [.int .i64 (Qr a b),.bool (M8 a b)]
 | _=>.undef
abbrev compare.Order.ts:List AT:=[.i .u64,.i .u64]
def compare.Order.spec:Entry:=entry compare.Order.ts compare.Order.pre compare.Order.out
def compare.Ij.pre:List Atom→Bool
 | [.i a,.i b]=>Aj a&&Aj b
 | _=>false
def compare.Ij.out:List Atom→DV
 | [.i a,.i b]=>.bool (decide (Qr a b<0))
 | _=>.undef
abbrev compare.Ij.ts:List AT:=[.i .u64,.i .u64]
def compare.Ij.spec:Entry:=entry compare.Ij.ts compare.Ij.pre compare.Ij.out
def compare.H3.pre:List Atom→Bool
 | [.i a]=>Aj a
 | _=>false
def compare.H3.out:List Atom→DV
 | [.i a]=>.int .u64 (Ahs a)
 | _=>.undef
abbrev compare.H3.ts:List AT:=[.i .u64]
def compare.H3.spec:Entry:=entry compare.H3.ts compare.H3.pre compare.H3.out
def compare.Dn.pre:List Atom→Bool
 | [.i a,.i n]=>C0 a n
 | _=>false
def compare.Dn.out:List Atom→DV
 | [.i a,.i n]=>.tup [.int .u64 (Bs a n),.int .u8 (Aj1 a n)]
 | _=>.undef
abbrev compare.Dn.ts:List AT:=[.i .u64,.i .i64]
def compare.Dn.spec:Entry:=entry compare.Dn.ts compare.Dn.pre compare.Dn.out
def Ac.Bf.pre:List Atom→Bool
 | [.i a,.i n]=>C0 a n
 | _=>false
def Ac.Bf.out:List Atom→DV
 | [.i a,.i n]=>.int .u64 (Bs a n)
 | _=>.undef
abbrev Ac.Bf.ts:List AT:=[.i .u64,.i .i64]
def Ac.Bf.spec:Entry:=entry Ac.Bf.ts Ac.Bf.pre Ac.Bf.out
def Ac.Div.pre:List Atom→Bool
 | [.i a,.i b]=>Aj a&&Aj b
 | _=>false
def Ac.Div.out:List Atom→DV
 | [.i a,.i b]=>.int .u64 (Gj a b)
 | _=>.undef
abbrev Ac.Div.ts:List AT:=[.i .u64,.i .u64]
def Ac.Div.spec:Entry:=entry Ac.Div.ts Ac.Div.pre Ac.Div.out
def Ac.Ce.pre:List Atom→Bool
 | [.l x]=>Cj x
 | _=>false
def Ac.Ce.out:List Atom→DV
 | [.l x]=>.int .u64 (Bd x)
 | _=>.undef
abbrev Ac.Ce.ts:List AT:=[.s .u64]
def Ac.Ce.spec:Entry:=entry Ac.Ce.ts Ac.Ce.pre Ac.Ce.out
def Ac.Finite.pre:List Atom→Bool
 | [.l x]=>Cj x
 | _=>false
def Ac.Finite.out:List Atom→DV
 | [.l x]=>.bool (D2 x)
 | _=>.undef
abbrev Ac.Finite.ts:List AT:=[.s .u64]
def Ac.Finite.spec:Entry:=entry Ac.Finite.ts Ac.Finite.pre Ac.Finite.out
def Cd.Check.pre:List Atom→Bool
 | [.i _r,.i _c,.l l]=>A1 l
 | _=>false
def Cd.Check.out:List Atom→DV
 | [.i r,.i c,.l l]=>.int .i64 (Et r c l)
 | _=>.undef
abbrev Cd.Check.ts:List AT:=[.st [.i .i64,.i .i64,.s .u64]]
def Cd.Check.spec:Entry:=entry Cd.Check.ts Cd.Check.pre Cd.Check.out
def math.H3.pre:List Atom→Bool
 | [.f _x]=>true
 | _=>false
def math.H3.out:List Atom→DV
 | [.f x]=>.fl (G4 x)
 | _=>.undef
abbrev math.H3.ts:List AT:=[.fl]
def math.H3.spec:Entry:=entry math.H3.ts math.H3.pre math.H3.out
def math.Fj.pre:List Atom→Bool
 | [.f x]=>P2 x
 | _=>false
def math.Fj.out:List Atom→DV
 | [.f x]=>.bool (decide (Ag x=4))
 | _=>.undef
abbrev math.Fj.ts:List AT:=[.fl]
def math.Fj.spec:Entry:=entry math.Fj.ts math.Fj.pre math.Fj.out
def math.Fk.pre:List Atom→Bool
 | [.f x,.i s]=>P2 x&&decide (s=0)
 | _=>false
def math.Fk.out:List Atom→DV
 | [.f x,.i _s]=>.bool (decide (Ag x=3))
 | _=>.undef
abbrev math.Fk.ts:List AT:=[.fl,.i .i64]
def math.Fk.spec:Entry:=entry math.Fk.ts math.Fk.pre math.Fk.out
def math.normalize.pre:List Atom→Bool
 | [.f x]=>Aak x
 | _=>false
def math.normalize.out:List Atom→DV
 | [.f x]=>.tup [.fl (Jl x),.int .i64 (Gr x)]
 | _=>.undef
abbrev math.normalize.ts:List AT:=[.fl]
def math.normalize.spec:Entry:=entry math.normalize.ts math.normalize.pre math.normalize.out
def math.Cx.pre:List Atom→Bool
 | [.f x,.f y]=>Aak y&&decide (x=0)
 | _=>false
def math.Cx.out:List Atom→DV
 | [.f _x,.f y]=>.fl (Be (Bu y) 0)
 | _=>.undef
abbrev math.Cx.ts:List AT:=[.fl,.fl]
def math.Cx.spec:Entry:=entry math.Cx.ts math.Cx.pre math.Cx.out
def math.Si.pre:List Atom→Bool
 | [.i _s]=>true
 | _=>false
def math.Si.out:List Atom→DV
 | [.i s]=>.fl (Be (decide (s<0)) Dy)
 | _=>.undef
abbrev math.Si.ts:List AT:=[.i .i64]
def math.Si.spec:Entry:=entry math.Si.ts math.Si.pre math.Si.out
def math.Ez.pre:List Atom→Bool
 | [.f x,.i k]=>P2 x&&Br (-2300≤k∧k≤2300)
 | _=>false
def math.Ez.out:List Atom→DV
 | [.f x,.i k]=>.fl (Gg x k)
 | _=>.undef
abbrev math.Ez.ts:List AT:=[.fl,.i .i64]
def math.Ez.spec:Entry:=entry math.Ez.ts math.Ez.pre math.Ez.out
def math.Fw.pre:List Atom→Bool
 | [.f x,.i k]=>P2 x&&Br (-2300≤k∧k≤2300)
 | _=>false
def math.Fw.out:List Atom→DV
 | [.f x,.i k]=>.fl (Gg x k)
 | _=>.undef
abbrev math.Fw.ts:List AT:=[.fl,.i .i64]
def math.Fw.spec:Entry:=entry math.Fw.ts math.Fw.pre math.Fw.out
def B0.Bf.pre:List Atom→Bool
 | [.i a,.i k]=>C0 a k
 | _=>false
def B0.Bf.out:List Atom→DV
 | [.i a,.i k]=>.int .u64 (Bs a k)
 | _=>.undef
abbrev B0.Bf.ts:List AT:=[.i .u64,.i .i64]
def B0.Bf.spec:Entry:=entry B0.Bf.ts B0.Bf.pre B0.Bf.out
def C1.ends.pre:List Atom→Bool
 | [.i b]=>Aj b
 | _=>false
def C1.ends.out:List Atom→DV
 | [.i b]=>.int .i64 (Nq b)
 | _=>.undef
abbrev C1.ends.ts:List AT:=[.i .u64]
def C1.ends.spec:Entry:=entry C1.ends.ts C1.ends.pre C1.ends.out
def C1.Order.pre:List Atom→Bool
 | [.i a,.i b]=>Aj a&&Aj b
 | _=>false
def C1.Order.out:List Atom→DV
 | [.i a,.i b]=>.tup [.int .i64 (Qr a b),.bool (M8 a b)]
 | _=>.undef
abbrev C1.Order.ts:List AT:=[.i .u64,.i .u64]
def C1.Order.spec:Entry:=entry C1.Order.ts C1.Order.pre C1.Order.out
def root.Ex.pre:List Atom→Bool
 | [.i m]=>Br (0≤m∧m<9223372036854775808)
 | _=>false
def root.Ex.out:List Atom→DV
 | [.i m]=>.tup [.int .u64 (Qz m),.bool (Q0 m)]
 | _=>.undef
abbrev root.Ex.ts:List AT:=[.i .u64]
def root.Ex.spec:Entry:=entry root.Ex.ts root.Ex.pre root.Ex.out
def root.Sqrt.pre:List Atom→Bool
 | [.i a]=>Aj a
 | _=>false
def root.Sqrt.out:List Atom→DV
 | [.i a]=>.tup [.int .u64 (Gw a),.int .u8 (M3 a)]
 | _=>.undef
abbrev root.Sqrt.ts:List AT:=[.i .u64]
def root.Sqrt.spec:Entry:=entry root.Sqrt.ts root.Sqrt.pre root.Sqrt.out
def Ac.Sqrt.pre:List Atom→Bool
 | [.i a]=>Aj a
 | _=>false
def Ac.Sqrt.out:List Atom→DV
 | [.i a]=>.int .u64 (Gw a)
 | _=>.undef
abbrev Ac.Sqrt.ts:List AT:=[.i .u64]
def Ac.Sqrt.spec:Entry:=entry Ac.Sqrt.ts Ac.Sqrt.pre Ac.Sqrt.out
def compare.P4.pre:List Atom→Bool
 | [.i a]=>Aj a
 | _=>false
def compare.P4.out:List Atom→DV
 | [.i a]=>.int .i64 (Bn a)
 | _=>.undef
abbrev compare.P4.ts:List AT:=[.i .u64]
def compare.P4.spec:Entry:=entry compare.P4.ts compare.P4.pre compare.P4.out
def Ac.Norm.pre:List Atom→Bool
 | [.l x]=>Cj x&&Br (length x≤64)
 | _=>false
def Ac.Norm.out:List Atom→DV
 | [.l x]=>.tup [.int .u64 (Db x),.int .i64 (0:Int)]
 | _=>.undef
abbrev Ac.Norm.ts:List AT:=[.s .u64]
def Ac.Norm.spec:Entry:=entry Ac.Norm.ts Ac.Norm.pre Ac.Norm.out
def Ah.Cn.pre:List Atom→Bool
 | [.l x]=>Cj x
 | _=>false
def Ah.Cn.out:List Atom→DV
 | [.l x]=>.bool (Ix x)
 | _=>.undef
abbrev Ah.Cn.ts:List AT:=[.s .u64]
def Ah.Cn.spec:Entry:=entry Ah.Cn.ts Ah.Cn.pre Ah.Cn.out
def Ah.lead.pre:List Atom→Bool
 | [.l x]=>Cj x
 | _=>false
def Ah.lead.out:List Atom→DV
 | [.l x]=>.int .u64 (O9 x)
 | _=>.undef
abbrev Ah.lead.ts:List AT:=[.s .u64]
def Ah.lead.spec:Entry:=entry Ah.lead.ts Ah.lead.pre Ah.lead.out
def Ah.Bj.pre:List Atom→Bool
 | [.l x,.i k]=>Cj x&&Br (length x≤1000∧-2300≤k∧k≤2300)
 | _=>false
def Ah.Bj.out:List Atom→DV
 | [.l x,.i k]=>.ints .fresh .u64 (Az x k)
 | _=>.undef
abbrev Ah.Bj.ts:List AT:=[.s .u64,.i .i64]
def Ah.Bj.spec:Entry:=entry Ah.Bj.ts Ah.Bj.pre Ah.Bj.out
def Ah.D5.pre:List Atom→Bool
 | [.i _i]=>true
 | _=>false
def Ah.D5.out:List Atom→DV
 | [.i _i]=>.int .u64 (0:Int)
 | _=>.undef
abbrev Ah.D5.ts:List AT:=[.i .i64]
def Ah.D5.spec:Entry:=entry Ah.D5.ts Ah.D5.pre Ah.D5.out
def Ah.D4.pre:List Atom→Bool
 | [.i i,.l y,.i d]=>(Br (0≤i∧i<length y)&&A1 y)&&Aj d
 | _=>false
def Ah.D4.out:List Atom→DV
 | [.i i,.l y,.i d]=>.int .u64 (Gj (getD y (toNat i) 0) d)
 | _=>.undef
abbrev Ah.D4.ts:List AT:=[.i .i64,.cp [.s .u64],.cp [.i .u64]]
def Ah.D4.spec:Entry:=entry Ah.D4.ts Ah.D4.pre Ah.D4.out
def Ah.row.Zero.pre:List Atom→Bool
 | [.i n]=>Br (1≤n∧n≤64)
 | _=>false
def Ah.row.Zero.out:List Atom→DV
 | [.i n]=>.ints .fresh .u64 (H7 (toNat n) (fun _=>0))
 | _=>.undef
abbrev Ah.row.Zero.ts:List AT:=[.i .i64,.fn 129 []]
def Ah.row.Zero.spec:Entry:=entry Ah.row.Zero.ts Ah.row.Zero.pre Ah.row.Zero.out
def Ah.row.Div.pre:List Atom→Bool
 | [.i n,.l y,.i d]=>(Br (1≤n∧n≤64∧n=length y)&&A1 y)&&Aj d
 | _=>false
def Ah.row.Div.out:List Atom→DV
 | [.i n,.l y,.i d]=>.ints .fresh .u64 (H7 (toNat n) (fun j=>Gj (getD y j 0) d))
 | _=>.undef
abbrev Ah.row.Div.ts:List AT:=[.i .i64,.fn 132 [.cp [.s .u64],.cp [.i .u64]]]
def Ah.row.Div.spec:Entry:=entry Ah.row.Div.ts Ah.row.Div.pre Ah.row.Div.out
def Ah.Dh.pre:List Atom→Bool
 | [.l x]=>Cj x
 | _=>false
def Ah.Dh.out:List Atom→DV
 | [.l x]=>.tup [.ints .fresh .u64 ((Cb x).1),.int .u64 ((Cb x).2.1),.int .u64 ((Cb x).2.2.1),.int .i64 ((Cb x).2.2.2)]
 | _=>.undef
abbrev Ah.Dh.ts:List AT:=[.s .u64]
def Ah.Dh.spec:Entry:=entry Ah.Dh.ts Ah.Dh.pre Ah.Dh.out
def Ah.Apply.pre:List Atom→Bool
 | [.i r,.i c,.l l,.i i,.i k,.l v,.i t]=>((Bo r c l&&K8 r c i k v)&&(A1 l&&A1 v))&&Aj t
 | _=>false
def Ah.Apply.out:List Atom→DV
 | [.i r,.i c,.l l,.i i,.i k,.l v,.i t]=>.tup [.agg [.int .i64 r,.int .i64 c,.ints (.own 114002 32) .u64 (Fg (toNat r) (toNat c) l i k v t)],.int .i64 (0:Int)]
 | _=>.undef
abbrev Ah.Apply.ts:List AT:=[.st [.i .i64,.i .i64,.s .u64],.i .i64,.i .i64,.s .u64,.i .u64]
def Ah.Apply.spec:Entry:=entry Ah.Apply.ts Ah.Apply.pre Ah.Apply.out
def qr.down.pre:List Atom→Bool
 | [.i r,.i c,.l l]=>(Bo r c l&&D2 l)&&A1 l
 | _=>false
def qr.down.out:List Atom→DV
 | [.i r,.i c,.l l]=>.tup [.agg [.int .i64 ((Eo r c l).1),.int .i64 ((Eo r c l).2.1),.ints .arg .u64 ((Eo r c l).2.2.1)],.recs .fresh 2 (Ig r c l),.int .i64 ((Eo r c l).2.2.2)]
 | _=>.undef
abbrev qr.down.ts:List AT:=[.st [.i .i64,.i .i64,.s .u64]]
def qr.down.spec:Entry:=entry qr.down.ts qr.down.pre qr.down.out
def qr.Cz.pre:List Atom→Bool
 | [.i _r,.i _c,.l l]=>A1 l
 | _=>false
def qr.Cz.out:List Atom→DV
 | [.i r,.i c,.l l]=>.tup [.agg [.int .i64 ((qX r c l).1),.int .i64 ((qX r c l).2.1),.ints .arg .u64 ((qX r c l).2.2.1)],.agg [.int .i64 ((rX r c l).1),.int .i64 ((rX r c l).2.1),.ints .arg .u64 ((rX r c l).2.2.1)],.int .i64 (Ga r c l)]
 | _=>.undef
abbrev qr.Cz.ts:List AT:=[.st [.i .i64,.i .i64,.s .u64]]
def qr.Cz.spec:Entry:=entry qr.Cz.ts qr.Cz.pre qr.Cz.out
def qr.E7.pre:List Atom→Bool
 | [.i _r,.i _c,.l l]=>A1 l
 | _=>false
def qr.E7.out:List Atom→DV
 | [.i r,.i c,.l l]=>.tup [.agg [.int .i64 ((Y4 r c l).1),.int .i64 ((Y4 r c l).2.1),.ints .fresh .u64 ((Y4 r c l).2.2.1)],.agg [.int .i64 ((Y3 r c l).1),.int .i64 ((Y3 r c l).2.1),.ints .fresh .u64 ((Y3 r c l).2.2.1)],.int .i64 (Ga r c l)]
 | _=>.undef
abbrev qr.E7.ts:List AT:=[.st [.i .i64,.i .i64,.s .u64]]
def qr.E7.spec:Entry:=entry qr.E7.ts qr.E7.pre qr.E7.out
def Aa.Part.one.pre:List Atom→Bool
 | [.i r,.i c,.l l,.i x,.i y,.i a,.i b]=>Br (r=2∧c=1∧l=[(4607182418800017408:Int),(0:Int)]∧(x=0∨x=1)∧y=0∧a=1∧b=1)
 | _=>false
def Aa.Part.one.out:List Atom→DV
 | [.i _r,.i _c,.l _l,.i x,.i _y,.i _a,.i _b]=>.tup [.agg [.int .i64 (1:Int),.int .i64 (1:Int),.ints .fresh .u64 ([Aet x])],.int .i64 (0:Int)]
 | _=>.undef
abbrev Aa.Part.one.ts:List AT:=[.st [.i .i64,.i .i64,.s .u64],.i .i64,.i .i64,.i .i64,.i .i64]
def Aa.Part.one.spec:Entry:=entry Aa.Part.one.ts Aa.Part.one.pre Aa.Part.one.out
def Aa.Mul.one.pre:List Atom→Bool
 | [.i r,.i c,.l l,.i p,.i q,.l m]=>Br (r=1∧c=1∧l=[(0:Int)]∧p=1∧q=1∧m=[(4607182418800017408:Int)])
 | _=>false
def Aa.Mul.one.out:List Atom→DV
 | [.i _r,.i _c,.l _l,.i _p,.i _q,.l _m]=>.tup [.agg [.int .i64 (1:Int),.int .i64 (1:Int),.ints .fresh .u64 ([(0:Int)])],.int .i64 (0:Int)]
 | _=>.undef
abbrev Aa.Mul.one.ts:List AT:=[.st [.i .i64,.i .i64,.s .u64],.st [.i .i64,.i .i64,.s .u64]]
def Aa.Mul.one.spec:Entry:=entry Aa.Mul.one.ts Aa.Mul.one.pre Aa.Mul.one.out
def Aa.Stack.one.pre:List Atom→Bool
 | [.i r,.i c,.l l,.i p,.i q,.l m]=>Br (r=1∧c=1∧l=[(4607182418800017408:Int)]∧p=1∧q=1∧m=[(0:Int)])
 | _=>false
def Aa.Stack.one.out:List Atom→DV
 | [.i _r,.i _c,.l _l,.i _p,.i _q,.l _m]=>.tup [.agg [.int .i64 (2:Int),.int .i64 (1:Int),.ints .fresh .u64 ([(4607182418800017408:Int),(0:Int)])],.int .i64 (0:Int)]
 | _=>.undef
abbrev Aa.Stack.one.ts:List AT:=[.st [.i .i64,.i .i64,.s .u64],.st [.i .i64,.i .i64,.s .u64]]
def Aa.Stack.one.spec:Entry:=entry Aa.Stack.one.ts Aa.Stack.one.pre Aa.Stack.one.out
def qr.E7.one.pre:List Atom→Bool
 | [.i r,.i c,.l l]=>Br (r=2∧c=1∧l=[(4607182418800017408:Int),(0:Int)])
 | _=>false
def qr.E7.one.out:List Atom→DV
 | [.i _r,.i _c,.l _l]=>.tup [.agg [.int .i64 (2:Int),.int .i64 (1:Int),.ints .fresh .u64 ([(4607182418800017408:Int),(0:Int)])],.agg [.int .i64 (1:Int),.int .i64 (1:Int),.ints .fresh .u64 ([(4607182418800017408:Int)])],.int .i64 (0:Int)]
 | _=>.undef
abbrev qr.E7.one.ts:List AT:=[.st [.i .i64,.i .i64,.s .u64]]
def qr.E7.one.spec:Entry:=entry qr.E7.one.ts qr.E7.one.pre qr.E7.one.out
def Dj.Canon.nb.pre:List Atom→Bool
 | [.f _x]=>true
 | _=>false
def Dj.Canon.nb.out:List Atom→DV
 | [.f x]=>.int .u64 (Kw x)
 | _=>.undef
abbrev Dj.Canon.nb.ts:List AT:=[.nb]
def Dj.Canon.nb.spec:Entry:=entry Dj.Canon.nb.ts Dj.Canon.nb.pre Dj.Canon.nb.out
def B5.Hx.pre:List Atom→Bool
 | [.i x]=>Aj x
 | _=>false
def B5.Hx.out:List Atom→DV
 | [.i x]=>.int .i64 (Dx x)
 | _=>.undef
abbrev B5.Hx.ts:List AT:=[.i .u64]
def B5.Hx.spec:Entry:=entry B5.Hx.ts B5.Hx.pre B5.Hx.out
theorem Gc:∀ a:Bool,(a&&true)=a:=by decide
theorem tt4:∀ a b:Bool,((a&&b)&&true)=(a&&b):=by decide
theorem tt5:∀ a b:Bool,(bif (!a) then true else (!b))=((!a)||(!b)):=by decide
theorem tt6:∀ a:Bool,((!(!(!a)))||((!a)==false))=true:=by decide
theorem tt7:∀ a:Bool,((!((!a)==false))||((((!((!a)==false))||((!a)==false))&&true)&&true))=true:=by decide
theorem tt8:∀ a b:Bool,((!((!a)==false))||((((!((!a)==false))||((!a)==false))&&true)&&b))=((!a)||b):=by decide
theorem tt9:∀ a:Bool,((!((!a)==false))||true)=true:=by decide
theorem Aq1:∀ a b c d:Bool,(bif (bif (bif a then true else b) then true else c) then true else d)=(((a||b)||c)||d):=by decide
theorem Amt:∀ a b c:Bool,((!(!(bif (bif a then true else b) then true else c)))||((bif (bif a then true else b) then true else c)==false))=true:=by decide
theorem Agk:∀ a b c:Bool,((!((bif (bif a then true else b) then true else c)==false))||((((!((bif (bif a then true else b) then true else c)==false))||((bif (bif a then true else b) then true else c)==false))&&true)&&true))=true:=by decide
theorem Aq0:∀ a b c:Bool,((!((bif (bif a then true else b) then true else c)==false))||((((!((bif (bif a then true else b) then true else c)==false))||((bif (bif a then true else b) then true else c)==false))&&(((!((bif (bif a then true else b) then true else c)==false))||((bif (bif a then true else b) then true else c)==false))&&true))&&true))=true:=by decide
theorem Ajv:∀ a b c:Bool,((!((bif (bif a then true else b) then true else c)==false))||true)=true:=by decide
theorem Ams:∀ a b:Bool,((!(!(bif a then true else b)))||((bif a then true else b)==false))=true:=by decide
theorem Aju:∀ a b:Bool,((!((bif a then true else b)==false))||((((!((bif a then true else b)==false))||((bif a then true else b)==false))&&(((!((bif a then true else b)==false))||((bif a then true else b)==false))&&true))&&true))=true:=by decide
theorem Ad7:∀ a b:Bool,((!((bif a then true else b)==false))||((((!((bif a then true else b)==false))||((bif a then true else b)==false))&&true)&&true))=true:=by decide
theorem Abe:∀ a b:Bool,((!((bif a then true else b)==false))||true)=true:=by decide
theorem Mt:∀ a:Bool,((!(!a))||(a==false))=true:=by decide
theorem I9:∀ a:Bool,((!(a==false))||((((!(a==false))||(a==false))&&true)&&true))=true:=by decide
theorem Kl:∀ a:Bool,((!(a==false))||true)=true:=by decide
theorem Amr:∀ a b:Bool,(bif (!a) then true else b)=((!a)||b):=by decide
theorem Aqz:∀ a b c:Bool,(((!(bif (bif a then b else false) then c else false))||((bif (bif a then b else false) then c else false)==true))&&true)=true:=by decide
theorem Aqy:∀ a b c:Bool,((!((bif (bif a then b else false) then c else false)==true))||((((!((bif (bif a then b else false) then c else false)==true))||((bif (bif a then b else false) then c else false)==true))&&true)&&true))=true:=by decide
theorem Aqx:∀ a b c d:Bool,((!((bif (bif a then b else false) then c else false)==true))||((((!((bif (bif a then b else false) then c else false)==true))||((bif (bif a then b else false) then c else false)==true))&&true)&&d))=((!((a&&b)&&c))||d):=by decide
theorem Aqw:∀ a b c:Bool,((!((bif (bif a then b else false) then c else false)==true))||true)=true:=by decide
theorem Aqv:∀ a b:Bool,(((!(bif a then b else false))||((bif a then b else false)==true))&&true)=true:=by decide
theorem Amq:∀ a b:Bool,((!((bif a then b else false)==true))||((((!((bif a then b else false)==true))||((bif a then b else false)==true))&&true)&&true))=true:=by decide
theorem Aqu:∀ a b:Bool,((!((bif a then b else false)==true))||true)=true:=by decide
theorem J3:∀ a:Bool,(((!a)||(a==true))&&true)=true:=by decide
theorem Fm:∀ a:Bool,((!(a==true))||((((!(a==true))||(a==true))&&true)&&true))=true:=by decide
theorem Aou:∀ a b:Bool,((!(a==true))||((((!(a==true))||(a==true))&&true)&&b))=((!a)||b):=by decide
theorem H0:∀ a:Bool,((!(a==true))||true)=true:=by decide
theorem Aqt:∀ a b c:Bool,((a==a)&&(b&&(c&&true)))=(b&&c):=by decide
theorem Tt:∀ a b:Bool,(bif a then b else false)=(a&&b):=by decide
theorem Ts:∀ a b:Bool,(bif a then true else b)=(a||b):=by decide
theorem Ajt:∀ a:Bool,((!(a==false))||((((!(a==false))||(a==false))&&(((!(a==false))||(a==false))&&true))&&true))=true:=by decide
theorem Aqs:∀ a b c d e:Bool,(bif a then (bif b then true else (bif c then (bif d then true else e) else false)) else false)=(a&&(b||(c&&(d||e)))):=by decide
theorem Aqr:∀ a b:Bool,((!(a==true))||(((!(a==true))||(a==true))&&((!(!b))||((a==true)&&(b==false)))))=true:=by decide
theorem Aqq:∀ a b c:Bool,((!((a==true)&&(b==false)))||(((!((a==true)&&(b==false)))||((a==true)&&(b==false)))&&(((!c)||(((a==true)&&(b==false))&&(c==true)))&&true)))=true:=by decide
theorem Aqp:∀ a b c d:Bool,((!(((a==true)&&(b==false))&&(c==true)))||(((!(((a==true)&&(b==false))&&(c==true)))||(((a==true)&&(b==false))&&(c==true)))&&((!(!d))||((((a==true)&&(b==false))&&(c==true))&&(d==false)))))=true:=by decide
theorem Aot:∀ a b c d:Bool,((!((((a==true)&&(b==false))&&(c==true))&&(d==false)))||((((!((((a==true)&&(b==false))&&(c==true))&&(d==false)))||((((a==true)&&(b==false))&&(c==true))&&(d==false)))&&true)&&true))=true:=by decide
theorem Aqo:∀ a b c d:Bool,((!((((a==true)&&(b==false))&&(c==true))&&(d==false)))||true)=true:=by decide
theorem Aqn:∀ a b c:Bool,((!(((a==true)&&(b==false))&&(c==true)))||((((!(((a==true)&&(b==false))&&(c==true)))||(((a==true)&&(b==false))&&(c==true)))&&true)&&true))=true:=by decide
theorem Aqm:∀ a b c:Bool,((!(((a==true)&&(b==false))&&(c==true)))||true)=true:=by decide
theorem Aql:∀ a b:Bool,((!((a==true)&&(b==false)))||((((!((a==true)&&(b==false)))||((a==true)&&(b==false)))&&true)&&true))=true:=by decide
theorem Aqk:∀ a b:Bool,((!((a==true)&&(b==false)))||((((!((a==true)&&(b==false)))||((a==true)&&(b==false)))&&(((!((a==true)&&(b==false)))||((a==true)&&(b==false)))&&true))&&true))=true:=by decide
theorem Aos:∀ a b:Bool,((!((a==true)&&(b==false)))||true)=true:=by decide
theorem Ajs:∀ a:Bool,((!(a==true))||((((!(a==true))||(a==true))&&(((!(a==true))||(a==true))&&true))&&true))=true:=by decide
theorem Aqi:∀ a b:Bool,(bif a then (!b) else false)=(a&&(!b)):=by decide
theorem Aor:∀ a b c d:Bool,(bif (bif a then b else false) then true else (bif c then d else false))=((a&&b)||(c&&d)):=by decide
theorem Aoq:∀ a b:Bool,((!(!(bif a then b else false)))||((bif a then b else false)==false))=true:=by decide
theorem Aop:∀ a b c:Bool,((!((bif a then b else false)==false))||(((!((bif a then b else false)==false))||((bif a then b else false)==false))&&(((!c)||(((bif a then b else false)==false)&&(c==true)))&&true)))=true:=by decide
theorem Aoo:∀ a b c:Bool,((!(((bif a then b else false)==false)&&(c==true)))||((((!(((bif a then b else false)==false)&&(c==true)))||(((bif a then b else false)==false)&&(c==true)))&&true)&&true))=true:=by decide
theorem Aon:∀ a b c:Bool,((!(((bif a then b else false)==false)&&(c==true)))||true)=true:=by decide
theorem Ajr:∀ a b:Bool,((!((bif a then b else false)==false))||((((!((bif a then b else false)==false))||((bif a then b else false)==false))&&true)&&true))=true:=by decide
theorem Aom:∀ a b:Bool,((!((bif a then b else false)==false))||true)=true:=by decide
theorem Aqh:∀ a b c:Bool,(bif (bif (!a) then true else (!b)) then true else c)=(((!a)||(!b))||c):=by decide
theorem Aqg:∀ a b:Bool,((!(!(bif (!a) then true else (!b))))||((bif (!a) then true else (!b))==false))=true:=by decide
theorem Aol:∀ a b:Bool,((!((bif (!a) then true else (!b))==false))||((((!((bif (!a) then true else (!b))==false))||((bif (!a) then true else (!b))==false))&&(((!((bif (!a) then true else (!b))==false))||((bif (!a) then true else (!b))==false))&&true))&&true))=true:=by decide
theorem Ajq:∀ a b:Bool,((!((bif (!a) then true else (!b))==false))||((((!((bif (!a) then true else (!b))==false))||((bif (!a) then true else (!b))==false))&&true)&&true))=true:=by decide
theorem Amo:∀ a b:Bool,((!((bif (!a) then true else (!b))==false))||true)=true:=by decide
theorem Aqf:∀ a b c d:Bool,(((a&&b)&&(c&&d))&&true)=((a&&b)&&(c&&d)):=by decide
theorem Aqe:∀ a b c d e f g h:Bool,(bif (bif (bif (bif (bif (bif (bif a then true else b) then true else c) then true else d) then true else e) then true else f) then true else g) then true else h)=(((((((a||b)||c)||d)||e)||f)||g)||h):=by decide
theorem Aqd:∀ a b c d e f g:Bool,((!(!(bif (bif (bif (bif (bif (bif a then true else b) then true else c) then true else d) then true else e) then true else f) then true else g)))||((bif (bif (bif (bif (bif (bif a then true else b) then true else c) then true else d) then true else e) then true else f) then true else g)==false))=true:=by decide
theorem Aok:∀ a b c d e f g:Bool,((!((bif (bif (bif (bif (bif (bif a then true else b) then true else c) then true else d) then true else e) then true else f) then true else g)==false))||((((!((bif (bif (bif (bif (bif (bif a then true else b) then true else c) then true else d) then true else e) then true else f) then true else g)==false))||((bif (bif (bif (bif (bif (bif a then true else b) then true else c) then true else d) then true else e) then true else f) then true else g)==false))&&(((!((bif (bif (bif (bif (bif (bif a then true else b) then true else c) then true else d) then true else e) then true else f) then true else g)==false))||((bif (bif (bif (bif (bif (bif a then true else b) then true else c) then true else d) then true else e) then true else f) then true else g)==false))&&true))&&true))=true:=by decide
theorem Amn:∀ a b c d e f g:Bool,((!((bif (bif (bif (bif (bif (bif a then true else b) then true else c) then true else d) then true else e) then true else f) then true else g)==false))||true)=true:=by decide
theorem Aqc:∀ a b c d e f g:Bool,((!((bif (bif (bif (bif (bif (bif a then true else b) then true else c) then true else d) then true else e) then true else f) then true else g)==false))||((((!((bif (bif (bif (bif (bif (bif a then true else b) then true else c) then true else d) then true else e) then true else f) then true else g)==false))||((bif (bif (bif (bif (bif (bif a then true else b) then true else c) then true else d) then true else e) then true else f) then true else g)==false))&&true)&&true))=true:=by decide
theorem Aqb:∀ a b c d e f:Bool,((!(!(bif (bif (bif (bif (bif a then true else b) then true else c) then true else d) then true else e) then true else f)))||((bif (bif (bif (bif (bif a then true else b) then true else c) then true else d) then true else e) then true else f)==false))=true:=by decide
theorem Aoj:∀ a b c d e f:Bool,((!((bif (bif (bif (bif (bif a then true else b) then true else c) then true else d) then true else e) then true else f)==false))||((((!((bif (bif (bif (bif (bif a then true else b) then true else c) then true else d) then true else e) then true else f)==false))||((bif (bif (bif (bif (bif a then true else b) then true else c) then true else d) then true else e) then true else f)==false))&&(((!((bif (bif (bif (bif (bif a then true else b) then true else c) then true else d) then true else e) then true else f)==false))||((bif (bif (bif (bif (bif a then true else b) then true else c) then true else d) then true else e) then true else f)==false))&&true))&&true))=true:=by decide
theorem Amm:∀ a b c d e f:Bool,((!((bif (bif (bif (bif (bif a then true else b) then true else c) then true else d) then true else e) then true else f)==false))||true)=true:=by decide
theorem Aqa:∀ a b c d e f:Bool,((!((bif (bif (bif (bif (bif a then true else b) then true else c) then true else d) then true else e) then true else f)==false))||((((!((bif (bif (bif (bif (bif a then true else b) then true else c) then true else d) then true else e) then true else f)==false))||((bif (bif (bif (bif (bif a then true else b) then true else c) then true else d) then true else e) then true else f)==false))&&true)&&true))=true:=by decide
theorem Ap9:∀ a b c d e:Bool,((!(!(bif (bif (bif (bif a then true else b) then true else c) then true else d) then true else e)))||((bif (bif (bif (bif a then true else b) then true else c) then true else d) then true else e)==false))=true:=by decide
theorem Ap8:∀ a b c d e:Bool,((!((bif (bif (bif (bif a then true else b) then true else c) then true else d) then true else e)==false))||((((!((bif (bif (bif (bif a then true else b) then true else c) then true else d) then true else e)==false))||((bif (bif (bif (bif a then true else b) then true else c) then true else d) then true else e)==false))&&(((!((bif (bif (bif (bif a then true else b) then true else c) then true else d) then true else e)==false))||((bif (bif (bif (bif a then true else b) then true else c) then true else d) then true else e)==false))&&true))&&true))=true:=by decide
theorem Ap7:∀ a b c d e:Bool,((!((bif (bif (bif (bif a then true else b) then true else c) then true else d) then true else e)==false))||((((!((bif (bif (bif (bif a then true else b) then true else c) then true else d) then true else e)==false))||((bif (bif (bif (bif a then true else b) then true else c) then true else d) then true else e)==false))&&true)&&true))=true:=by decide
theorem Aoi:∀ a b c d e:Bool,((!((bif (bif (bif (bif a then true else b) then true else c) then true else d) then true else e)==false))||true)=true:=by decide
theorem Aoh:∀ a b c d:Bool,((!(!(bif (bif (bif a then true else b) then true else c) then true else d)))||((bif (bif (bif a then true else b) then true else c) then true else d)==false))=true:=by decide
theorem Aog:∀ a b c d:Bool,((!((bif (bif (bif a then true else b) then true else c) then true else d)==false))||((((!((bif (bif (bif a then true else b) then true else c) then true else d)==false))||((bif (bif (bif a then true else b) then true else c) then true else d)==false))&&(((!((bif (bif (bif a then true else b) then true else c) then true else d)==false))||((bif (bif (bif a then true else b) then true else c) then true else d)==false))&&true))&&true))=true:=by decide
theorem Aof:∀ a b c d:Bool,((!((bif (bif (bif a then true else b) then true else c) then true else d)==false))||((((!((bif (bif (bif a then true else b) then true else c) then true else d)==false))||((bif (bif (bif a then true else b) then true else c) then true else d)==false))&&true)&&true))=true:=by decide
theorem Ajp:∀ a b c d:Bool,((!((bif (bif (bif a then true else b) then true else c) then true else d)==false))||true)=true:=by decide
theorem Ap6:∀ a b c:Bool,((!(a==true))||((((!(a==true))||(a==true))&&(((!(a==true))||(a==true))&&true))&&(b&&c)))=((!a)||(b&&c)):=by decide
theorem Aoe:∀ a:Bool,(((a&&true)&&true)&&true)=a:=by decide
theorem Aml:∀ a b:Bool,((!(a==false))||((((!(a==false))||(a==false))&&true)&&b))=(a||b):=by decide
theorem Ap5:∀ a b:Bool,(bif a then true else (!b))=(a||(!b)):=by decide
theorem Amk:∀ a b c:Bool,((a&&b)&&((a&&c)&&true))=((a&&b)&&(a&&c)):=by decide
theorem Ap4:∀ a:Bool,((a&&true)&&true)=a:=by decide
theorem Ap3:∀ a b c d e:Bool,(bif (bif (bif (bif a then true else b) then true else c) then true else d) then true else e)=((((a||b)||c)||d)||e):=by decide
open Go Go.Den Go.Rnd Go.Proofs
set_option maxRecDepth 100000
namespace EqSoft
def soft.Split.Bh:List (Nat × Entry):=[]
def soft.Split.E:Env:=Bi (Bg soft.Split.Bh) (fun _=>false) (fun _=>none) (fun _=>none)
theorem soft.Split.ev (N:Nat) (x:Int):Bw soft.Split.E N f75 (Aq f75) [.int .u64 x]=some (.agg [.bool ((Ct .u64 x 63)==(1:Int)),.int .i64 (Ab (Dq .u64 (Ct .u64 x 52) 2047)),.int .u64 (Dq .u64 x 4503599627370495)]):=by kernel_rfl
abbrev _root_.Go.Proofs.S1.soft.Split.Kn:=A6 prog 75 soft.Split.spec
theorem soft.Split.Ad (hk:Ay prog soft.Split.Bh) (h:Hyp soft.Split.E f75 soft.Split.ts soft.Split.pre soft.Split.out):soft.Split.Kn :=
 Am (A2 hk _ _ _) func75 (by kernel_rfl) (by kernel_rfl) h
def soft.Kind.Bh:List (Nat × Entry):=[(75,soft.Split.spec)]
def soft.Kind.E:Env:=Bi (Bg soft.Kind.Bh) (fun _=>false) (fun _=>none) (fun _=>none)
theorem soft.Kind.ev (N:Nat) (x:Int):Bw soft.Kind.E N f31 (Aq f31) [.int .u64 x]=bif (Aj x) then bif (((Ja x)==(2047:Int))&&((Cg x)==(0:Int))) then some (.int .i64 3) else bif ((Ja x)==(2047:Int)) then some (.int .i64 4) else bif (A3 0 (Ja x)) then some (.int .i64 2) else bif (A3 0 (Cg x)) then some (.int .i64 1) else some (.int .i64 0) else none :=
 Eq.trans (by kernel_rfl)
 (Eu (Df (Aqt (C9 x) ((Ja x)==(2047:Int)) ((Cg x)==(0:Int))) rfl rfl) rfl)
abbrev _root_.Go.Proofs.S1.soft.Kind.Kn:=A6 prog 31 soft.Kind.spec
theorem soft.Kind.Ad (hk:Ay prog soft.Kind.Bh) (h:Hyp soft.Kind.E f31 soft.Kind.ts soft.Kind.pre soft.Kind.out):soft.Kind.Kn :=
 Am (A2 hk _ _ _) func31 (by kernel_rfl) (by kernel_rfl) h
def soft.Sign.Bh:List (Nat × Entry):=[]
def soft.Sign.E:Env:=Bi (Bg soft.Sign.Bh) (fun _=>false) (fun _=>none) (fun _=>none)
theorem soft.Sign.ev (N:Nat) (x:Int):Bw soft.Sign.E N f34 (Aq f34) [.int .u64 x]=some (.bool ((Ct .u64 x 63)==(1:Int))):=by kernel_rfl
abbrev _root_.Go.Proofs.S1.soft.Sign.Kn:=A6 prog 34 soft.Sign.spec
theorem soft.Sign.Ad (hk:Ay prog soft.Sign.Bh) (h:Hyp soft.Sign.E f34 soft.Sign.ts soft.Sign.pre soft.Sign.out):soft.Sign.Kn :=
 Am (A2 hk _ _ _) func34 (by kernel_rfl) (by kernel_rfl) h
def soft.Finite.Bh:List (Nat × Entry):=[(31,soft.Kind.spec)]
def soft.Finite.E:Env:=Bi (Bg soft.Finite.Bh) (fun _=>false) (fun _=>none) (fun _=>none)
theorem soft.Finite.ev (N:Nat) (x:Int):Bw soft.Finite.E N f71 (Aq f71) [.int .u64 x]=bif (Aj x) then bif ((Ba x)==(3:Int)) then some (.bool false) else bif ((Ba x)==(4:Int)) then some (.bool false) else some (.bool true) else none:=by kernel_rfl
abbrev _root_.Go.Proofs.S1.soft.Finite.Kn:=A6 prog 71 soft.Finite.spec
theorem soft.Finite.Ad (hk:Ay prog soft.Finite.Bh) (h:Hyp soft.Finite.E f71 soft.Finite.ts soft.Finite.pre soft.Finite.out):soft.Finite.Kn :=
 Am (A2 hk _ _ _) func71 (by kernel_rfl) (by kernel_rfl) h
def soft.Ef.Bh:List (Nat × Entry):=[]
def soft.Ef.E:Env:=Bi (Bg soft.Ef.Bh) (fun _=>false) (fun _=>none) (fun _=>none)
theorem soft.Ef.ev (N:Nat) (x:Int):Bw soft.Ef.E N f96 (Aq f96) [.int .u64 x]=some (.int .u64 (Aln .u64 x 9223372036854775808)):=by kernel_rfl
abbrev _root_.Go.Proofs.S1.soft.Ef.Kn:=A6 prog 96 soft.Ef.spec
theorem soft.Ef.Ad (hk:Ay prog soft.Ef.Bh) (h:Hyp soft.Ef.E f96 soft.Ef.ts soft.Ef.pre soft.Ef.out):soft.Ef.Kn :=
 Am (A2 hk _ _ _) func96 (by kernel_rfl) (by kernel_rfl) h
def soft.Ea.Bh:List (Nat × Entry):=[(75,soft.Split.spec)]
def soft.Ea.E:Env:=Bi (Bg soft.Ea.Bh) (fun _=>false) (fun _=>none) (fun _=>none)
theorem soft.Ea.ev (N:Nat) (x:Int):Bw soft.Ea.E N f32 (Aq f32) [.int .u64 x]=bif (Aj x) then bif ((Ja x)==(0:Int)) then some (.tup [.int .u64 (Cg x),.int .i64 (-1074:Int)]) else some (.tup [.int .u64 (F9 .u64 (Cg x) 4503599627370496),.int .i64 (Ab ((Ja x)-1075))]) else none:=by kernel_rfl
abbrev _root_.Go.Proofs.S1.soft.Ea.Kn:=A6 prog 32 soft.Ea.spec
theorem soft.Ea.Ad (hk:Ay prog soft.Ea.Bh) (h:Hyp soft.Ea.E f32 soft.Ea.ts soft.Ea.pre soft.Ea.out):soft.Ea.Kn :=
 Am (A2 hk _ _ _) func32 (by kernel_rfl) (by kernel_rfl) h
def soft.Pack.Bh:List (Nat × Entry):=[(96,soft.Ef.spec)]
def soft.Pack.E (rk:Nat):Env:=Bi (Bg ((76,Aen [.b,.i .u64,.i .i64] soft.Pack.pre soft.Pack.out soft.Pack.mu rk)::soft.Pack.Bh)) (fun _=>false) (fun _=>none) (fun _=>none)
theorem soft.Pack.ev (N rk:Nat) (n:Bool) (m e:Int):Bw (soft.Pack.E rk) N f76 (Aq f76) [.bool n,.int .u64 m,.int .i64 e]=bif (m==(0:Int)) then bif n then bif (Aj 0) then some (.int .u64 (Dc 0)) else none else some (.int .u64 0) else bif (H2 9007199254740992 m) then bif ((Il (Ct .u64 m 1) (Ab (e+1)))&&(Br ((Lz (Ct .u64 m 1) (Ab (e+1)))<rk))) then some (.int .u64 (Qo n (Ct .u64 m 1) (Ab (e+1)))) else none else bif ((A3 m 4503599627370496)&&(A3 (-1074:Int) e)) then bif ((Il (Bq .u64 m 1) (Ab (e-1)))&&(Br ((Lz (Bq .u64 m 1) (Ab (e-1)))<rk))) then some (.int .u64 (Qo n (Bq .u64 m 1) (Ab (e-1)))) else none else bif (A3 m 4503599627370496) then bif n then bif (Aj m) then some (.int .u64 (Dc m)) else none else some (.int .u64 m) else bif (H2 2047 (Ab (e+1075))) then bif n then bif (Aj 9218868437227405312) then some (.int .u64 (Dc 9218868437227405312)) else none else some (.int .u64 9218868437227405312) else bif n then bif (Aj (F9 .u64 (Bq .u64 (Bb (Ab (e+1075))) 52) (Dq .u64 m 4503599627370495))) then some (.int .u64 (Dc (F9 .u64 (Bq .u64 (Bb (Ab (e+1075))) 52) (Dq .u64 m 4503599627370495)))) else none else some (.int .u64 (F9 .u64 (Bq .u64 (Bb (Ab (e+1075))) 52) (Dq .u64 m 4503599627370495))) :=
 Eq.trans (by kernel_rfl)
 (Eu rfl (Eu rfl (Aw (H0 (A3 m 4503599627370496)) (Aw (Fm (A3 m 4503599627370496)) (Aw (J3 (A3 m 4503599627370496)) (Df (Tt (A3 m 4503599627370496) (A3 (-1074:Int) e)) rfl rfl))))))
theorem soft.Pack.Ad (hk:Ay prog soft.Pack.Bh) (h:∀ (rk:Nat) (n:Bool) (m e:Int),soft.Pack.pre [.b n,.i m,.i e]=true→soft.Pack.mu [.b n,.i m,.i e]<rk+1→∃ N dv drops,Bw (soft.Pack.E rk) N f76 (Aq f76) [.bool n,.int .u64 m,.int .i64 e]=some dv∧Wk drops dv (soft.Pack.out [.b n,.i m,.i e])):A6 prog 76 soft.Pack.spec:=by
 have call:=P0 (f:=76) func76 (by kernel_rfl) (show f76.body=some (Aq f76) by kernel_rfl)
 refine ⟨Ab5 (E:=soft.Pack.E) func76 (show f76.body=some (Aq f76) by kernel_rfl) soft.Pack.mu (fun rk hm=>A2 (.cons ⟨hm,call⟩ hk) _ _ _) fun rk ats dvs he hp hr=>?_,call⟩
 obtain ⟨n,_,_,rfl,rfl,he0⟩:=he.Apc
 obtain ⟨m,_,_,rfl,rfl,he1⟩:=he0.Aib
 obtain ⟨e,_,_,rfl,rfl,he2⟩:=he1.Aib
 obtain ⟨rfl,rfl⟩:=he2.X0
 exact h rk n m e hp hr
abbrev _root_.Go.Proofs.S1.soft.Pack.Kn:Prop:=A6 prog 76 soft.Pack.spec
def soft.Cq.hint:Nat→Option Bc
 | 0=>some { keep:=[0,1,2,3,10],objs:=[],boxes:=[] }
 | _=>none
def soft.Cq.Bh:List (Nat × Entry):=[(31,soft.Kind.spec),(76,soft.Pack.spec)]
def soft.Cq.live:Nat→Option (List Nat)
 | 7=>some [0,1,2,3,10]
 | 12=>some [0,2,3,10,11,12,13,14]
 | 14=>some [0,2,10,11,14]
 | 16=>some [0,2,10,11,14]
 | 18=>some [14,15,16]
 | _=>none
def soft.Cq.E:Env:=Bi (Bg soft.Cq.Bh) (fun _=>false) soft.Cq.hint soft.Cq.live
section
variable (N:Nat) (p14_3:Bool) (p15:Int) (M:Nat) (n:Bool) (m e p11 p10_4:Int) (p14_2:Bool) (p10_3 p11_2:Int) (p14_1 r:Bool) (p10_2 p11_1 p12 p13:Int) (p14:Bool) (p10_1 p10:Int)
def soft.Cq.L0:Option DV:=B3 soft.Cq.E N f33 (Aq f33) [1,1,1,0,0] [] M ⟨G8 111 [(0,.bool n),(1,.int .u64 m),(2,.int .i64 e),(3,.bool r),(10,.int .i64 p10)],[]⟩
def soft.Cq.C7:Option DV:=cutAt soft.Cq.E N f33 (Aq f33) [1,1,1,1] [] ⟨G8 111 [(0,.bool n),(1,.int .u64 m),(2,.int .i64 e),(3,.bool r),(10,.int .i64 p10_1)],[]⟩
def soft.Cq.C12:Option DV:=cutAt soft.Cq.E N f33 (Aq f33) [1,1,1,1,1,1,1,1,0] [] ⟨G8 111 [(0,.bool n),(2,.int .i64 e),(3,.bool r),(10,.int .i64 p10_2),(11,.int .u64 p11_1),(12,.int .u64 p12),(13,.int .u64 p13),(14,.bool p14)],[]⟩
def soft.Cq.C14:Option DV:=cutAt soft.Cq.E N f33 (Aq f33) [1,1,1,1,1,1,1,1,1,0] [] ⟨G8 111 [(0,.bool n),(2,.int .i64 e),(10,.int .i64 p10_3),(11,.int .u64 p11_2),(14,.bool p14_1)],[]⟩
def soft.Cq.C16:Option DV:=cutAt soft.Cq.E N f33 (Aq f33) [1,1,1,1,1,1,1,1,1,1] [] ⟨G8 111 [(0,.bool n),(2,.int .i64 e),(10,.int .i64 p10_4),(11,.int .u64 p11),(14,.bool p14_2)],[]⟩
def soft.Cq.C18:Option DV:=cutAt soft.Cq.E N f33 (Aq f33) [1,1,1,1,1,1,1,1,1,1,1,1,0] [] ⟨G8 111 [(14,.bool p14_3),(15,.int .u64 p15),(16,.int .u8 0)],[]⟩
theorem soft.Cq.Au:soft.Cq.L0 N (M+1) n m e r p10=bif (decide (0≤p10)) then bif ((H2 9007199254740992 (Ct .u64 m p10))||(A3 (Ab (e+p10)) (-1074:Int))) then bif ((Ab (p10+1))==(63:Int)) then soft.Cq.C7 N n m e r (Ab (p10+1)) else soft.Cq.L0 N M n m e r (Ab (p10+1)) else soft.Cq.C7 N n m e r p10 else none :=
 Eq.trans (by kernel_rfl)
 (Eu (Aw (Kl (H2 9007199254740992 (Ct .u64 m p10))) (Aw (Kl (H2 9007199254740992 (Ct .u64 m p10))) (Aw (Ajt (H2 9007199254740992 (Ct .u64 m p10))) (Aw (I9 (H2 9007199254740992 (Ct .u64 m p10))) (Aw (Mt (H2 9007199254740992 (Ct .u64 m p10))) (Df (Ts (H2 9007199254740992 (Ct .u64 m p10)) (A3 (Ab (e+p10)) (-1074:Int))) rfl rfl)))))) rfl)
theorem soft.Cq.Ape:soft.Cq.C7 N n m e r p10_1=bif (decide (0≤p10_1)) then bif (decide (0≤p10_1)) then bif (A3 0 p10_1) then bif (decide (0≤(Ab (p10_1-1)))) then soft.Cq.C12 N n e r p10_1 (Ct .u64 m p10_1) (Dq .u64 m (Bb ((Bq .u64 1 p10_1)-1))) (Bq .u64 1 (Ab (p10_1-1))) (bif ((Dq .u64 m (Bb ((Bq .u64 1 p10_1)-1)))==(0:Int)) then (!r) else false) else none else soft.Cq.C12 N n e r p10_1 (Ct .u64 m p10_1) (Dq .u64 m (Bb ((Bq .u64 1 p10_1)-1))) 0 (bif ((Dq .u64 m (Bb ((Bq .u64 1 p10_1)-1)))==(0:Int)) then (!r) else false) else none else none :=
 Eq.trans ((Nt _ _ _ _ _ _ _).trans (by kernel_rfl))
 (Df (Gc (decide (0≤p10_1))) (Df (Gc (decide (0≤p10_1))) (Eu (Eu (Aw (H0 ((Dq .u64 m (Bb ((Bq .u64 1 p10_1)-1)))==(0:Int))) (Aw (Fm ((Dq .u64 m (Bb ((Bq .u64 1 p10_1)-1)))==(0:Int))) (Aw (J3 ((Dq .u64 m (Bb ((Bq .u64 1 p10_1)-1)))==(0:Int))) rfl))) rfl) (Aw (H0 ((Dq .u64 m (Bb ((Bq .u64 1 p10_1)-1)))==(0:Int))) (Aw (Fm ((Dq .u64 m (Bb ((Bq .u64 1 p10_1)-1)))==(0:Int))) (Aw (J3 ((Dq .u64 m (Bb ((Bq .u64 1 p10_1)-1)))==(0:Int))) rfl)))) rfl) rfl)
theorem soft.Cq.An2:soft.Cq.C12 N n e r p10_2 p11_1 p12 p13 p14=bif ((A3 0 p10_2)&&((A3 p13 p12)||((p12==p13)&&(r||((Dq .u64 p11_1 1)==(1:Int)))))) then soft.Cq.C14 N n e p10_2 (Bb (p11_1+1)) p14 else soft.Cq.C14 N n e p10_2 p11_1 p14 :=
 Eq.trans ((Nt _ _ _ _ _ _ _).trans (by kernel_rfl))
 (Aw (H0 (A3 0 p10_2)) (Aw (H0 (A3 0 p10_2)) (Aw (Ajs (A3 0 p10_2)) (Aw (Fm (A3 0 p10_2)) (Aw (Aos (A3 0 p10_2) (A3 p13 p12)) (Aw (Aos (A3 0 p10_2) (A3 p13 p12)) (Aw (Aqk (A3 0 p10_2) (A3 p13 p12)) (Aw (Aql (A3 0 p10_2) (A3 p13 p12)) (Aw (Aqm (A3 0 p10_2) (A3 p13 p12) (p12==p13)) (Aw (Aqn (A3 0 p10_2) (A3 p13 p12) (p12==p13)) (Aw (Aqo (A3 0 p10_2) (A3 p13 p12) (p12==p13) r) (Aw (Aot (A3 0 p10_2) (A3 p13 p12) (p12==p13) r) (Aw (Aot (A3 0 p10_2) (A3 p13 p12) (p12==p13) r) (Aw (Aqp (A3 0 p10_2) (A3 p13 p12) (p12==p13) r) (Aw (Aqq (A3 0 p10_2) (A3 p13 p12) (p12==p13)) (Aw (Aqr (A3 0 p10_2) (A3 p13 p12)) (Aw (J3 (A3 0 p10_2)) (Df (Aqs (A3 0 p10_2) (A3 p13 p12) (p12==p13) r ((Dq .u64 p11_1 1)==(1:Int))) rfl rfl))))))))))))))))))
theorem soft.Cq.An1:soft.Cq.C14 N n e p10_3 p11_2 p14_1=bif (A3 (Ab (e+p10_3)) (-1074:Int)) then soft.Cq.C16 N n e 0 p10_3 p14_1 else soft.Cq.C16 N n e p11_2 p10_3 p14_1:=(Nt _ _ _ _ _ _ _).trans (by kernel_rfl)
theorem soft.Cq.An0:soft.Cq.C16 N n e p11 p10_4 p14_2=bif (Il p11 (max (Ab (e+p10_4)) (-1074:Int))) then soft.Cq.C18 N p14_2 (Qo n p11 (max (Ab (e+p10_4)) (-1074:Int))) else none:=(Nt _ _ _ _ _ _ _).trans (by kernel_rfl)
theorem soft.Cq.Anx:soft.Cq.C18 N p14_3 p15=bif ((!p14_3)||((E0 .u64 p15 9223372036854775808)==(9218868437227405312:Int))) then bif (Aj p15) then bif ((Ba p15)==(3:Int)) then some (.tup [.int .u64 p15,.int .u8 5]) else bif ((Ba p15)==(0:Int)) then bif ((Ba p15)==(0:Int)) then some (.tup [.int .u64 p15,.int .u8 3]) else some (.tup [.int .u64 p15,.int .u8 1]) else bif ((Ba p15)==(1:Int)) then some (.tup [.int .u64 p15,.int .u8 3]) else some (.tup [.int .u64 p15,.int .u8 1]) else none else some (.tup [.int .u64 p15,.int .u8 0]) :=
 Eq.trans ((Nt _ _ _ _ _ _ _).trans (by kernel_rfl))
 (Aw (tt9 p14_3) (Aw (tt7 p14_3) (Aw (tt7 p14_3) (Aw (tt6 p14_3) (Df (Amr p14_3 ((E0 .u64 p15 9223372036854775808)==(9218868437227405312:Int))) rfl rfl)))))
theorem soft.Cq.ev:Bw soft.Cq.E N f33 (Aq f33) [.bool n,.int .u64 m,.int .i64 e,.bool r]=bif ((m==(0:Int))&&(!r)) then bif (Il 0 (-1074:Int)) then some (.tup [.int .u64 (Qo n 0 (-1074:Int)),.int .u8 0]) else none else soft.Cq.L0 N N n m e r 0 :=
 Eq.trans (by kernel_rfl)
 (Aw (H0 (m==(0:Int))) (Aw (Fm (m==(0:Int))) (Aw (J3 (m==(0:Int))) (Df (Aqi (m==(0:Int)) r) rfl rfl))))
end
abbrev _root_.Go.Proofs.S1.soft.Cq.Kn:=A6 prog 33 soft.Cq.spec
theorem soft.Cq.Ad (hk:Ay prog soft.Cq.Bh) (h:Hyp soft.Cq.E f33 soft.Cq.ts soft.Cq.pre soft.Cq.out):soft.Cq.Kn :=
 Am (A2 hk _ _ _) func33 (by kernel_rfl) (by kernel_rfl) h
end EqSoft
theorem Af {a b:Bool}:(a&&b)=true↔a=true∧b=true:=by simp
theorem Adk {n:Nat} (hn:n<2^64):((Ct .u64 (n:Int) (63:Int))==(1:Int))=C9 n:=by
 rw [show (63:Int)=((63:Nat):Int) from rfl,F4 .u64 n 63 (by decide)]
 unfold C9 Bu
 rw [Art,Ar7]
 simp only [beq_iff_eq,Ary]
 omega
theorem Aj6 {n:Nat} (hn:n<2^64):Ab (Dq .u64 (Ct .u64 (n:Int) (52:Int)) (2047:Int))=Ja n:=by
 rw [show (52:Int)=((52:Nat):Int) from rfl,F4 .u64 n 52 (by decide),show (2047:Int)=((2^11-1:Nat):Int) from rfl,Gt 11 (by omega) (by decide)]
 unfold Ja C8
 rw [Art,Ao (by omega) (by omega)]
theorem Aie {n:Nat} (hn:n<2^64):Dq .u64 (n:Int) (4503599627370495:Int)=Cg n:=by
 rw [show (4503599627370495:Int)=((2^52-1:Nat):Int) from rfl,Gt 52 hn (by decide)]
 unfold Cg Co
 rw [Art]
theorem soft.Split.known:soft.Split.Kn:=EqSoft.soft.Split.Ad .nil fun x hp=>by
 obtain ⟨n,rfl,hn⟩:=Bt (x:=x) hp
 refine ⟨0,soft.Split.out [.i n],[],?_,Wk.I5 (.cons .bool (.cons .int (.cons .int .nil)))⟩
 rw [EqSoft.soft.Split.ev,Adk hn,Aj6 hn,Aie hn]
 rfl
theorem soft.Kind.known:soft.Kind.Kn:=EqSoft.soft.Kind.Ad (.cons soft.Split.known .nil) fun x hp=>by
 obtain ⟨n,rfl,hn⟩:=Bt (x:=x) hp
 refine ⟨0,soft.Kind.out [.i n],[],?_,.int⟩
 rw [EqSoft.soft.Kind.ev,B6 hn]
 show _=some (DV.int .i64 (Ba n))
 unfold Ba Ag Ja Cg
 simp only [Art,Arr,Av]
 have:=G6 n
 by_cases h1:C8 n=2047
 ·by_cases h2:Co n=0
  ·simp [h1,h2]
  ·have:((Co n:Int)==0)=false:=by simp; exact h2
   simp [h1,this,h2]
 ·have h1':((C8 n:Int)==2047)=false:=by simp; omega
  rw [h1']
  by_cases h3:0<C8 n
  ·simp [h1,h3]
  ·by_cases h4:0<Co n
   ·simp [h1,h3,h4]
   ·simp [h1,h3,h4]
theorem soft.Sign.known:soft.Sign.Kn:=EqSoft.soft.Sign.Ad .nil fun x hp=>by
 obtain ⟨n,rfl,hn⟩:=Bt (x:=x) hp
 refine ⟨0,soft.Sign.out [.i n],[],?_,.bool⟩
 rw [EqSoft.soft.Sign.ev,Adk hn]
 rfl
theorem Uy (n:Nat):Ii n=!(decide (Ag n=3)||decide (Ag n=4)):=by
 have:=G6 n
 unfold Ii Ag
 by_cases h1:C8 n=2047
 ·by_cases h2:Co n=0<;>simp [h1,h2]
 ·have:C8 n<2047:=by omega
  by_cases h3:0<C8 n
  ·simp [h1,h3,this]
  ·by_cases h4:0<Co n<;>simp [h1,h3,h4,this]
theorem soft.Finite.known:soft.Finite.Kn:=EqSoft.soft.Finite.Ad (.cons soft.Kind.known .nil) fun x hp=>by
 obtain ⟨n,rfl,hn⟩:=Bt (x:=x) hp
 refine ⟨0,soft.Finite.out [.i n],[],?_,.bool⟩
 rw [EqSoft.soft.Finite.ev,B6 hn]
 show _=some (DV.bool (Da n))
 unfold Da Ba
 rw [Art,Uy]
 by_cases h3:Ag n=3
 ·simp [h3]
 ·by_cases h4:Ag n=4
  ·simp [h4]
  ·have e3:((Ag n:Int)==3)=false:=by simp; omega
   have e4:((Ag n:Int)==4)=false:=by simp; omega
   simp [h3,h4,e3,e4]
theorem Ae8 {n:Nat} (hn:n<2^64):Aln .u64 (n:Int) (9223372036854775808:Int)=Dc n:=by
 rw [show (9223372036854775808:Int)=((2^63:Nat):Int) from rfl,Ai8 hn (by decide),Ajm hn]
 unfold Dc Pr
 rw [Art]
theorem soft.Ef.known:soft.Ef.Kn:=EqSoft.soft.Ef.Ad .nil fun x hp=>by
 obtain ⟨n,rfl,hn⟩:=Bt (x:=x) hp
 refine ⟨0,soft.Ef.out [.i n],[],?_,.int⟩
 rw [EqSoft.soft.Ef.ev,Ae8 hn]
 rfl
theorem soft.Ea.known:soft.Ea.Kn:=EqSoft.soft.Ea.Ad (.cons soft.Split.known .nil) fun x hp=>by
 obtain ⟨n,rfl,hn⟩:=Bt (x:=x) hp
 refine ⟨0,soft.Ea.out [.i n],[],?_,Wk.E5 (.cons .int (.cons .int .nil))⟩
 rw [EqSoft.soft.Ea.ev,B6 hn]
 show _=some (DV.tup [.int .u64 (Bk n),.int .i64 (A7 n)])
 have hf:=Hr n
 have hp:=G6 n
 unfold Bk A7 Ja Cg Ar Ax
 rw [Art]
 by_cases h:C8 n=0
 ·simp [h]
 ·have e:((C8 n:Int)==0)=false:=by simp; omega
  have e2:F9 .u64 ((Co n:Nat):Int) (4503599627370496:Int)=((Co n+2^52:Nat):Int):=by
   rw [show (4503599627370496:Int)=((1*2^52:Nat):Int) from rfl,Afy (by omega) (by omega)]
   congr 1; omega
  rw [e,e2,Ao (by omega) (by omega)]
  simp [h]
theorem X3 {r:Nat} (h:r<2^63):Dc r=((2^63+r:Nat):Int):=by
 unfold Dc; rw [Art,Un h]
theorem Kp {r:Nat} (h:r<2^63) (n:Bool):(bif n then (bif (Aj (r:Int)) then some (DV.int .u64 (Dc r)) else none) else some (DV.int .u64 r))=some (DV.int .u64 ((Be n r:Nat):Int)):=by
 cases n
 ·rfl
 ·rw [B6 (by omega),X3 h]; rfl
theorem Li (n:Bool) (m:Nat) (e:Int):Qo n m e=((Be n (B1 m e):Nat):Int):=by
 unfold Qo; rw [Art]
theorem Abv {E M:Nat} (h1:1≤E) (h2:E≤2046) (h3:4503599627370496≤M) (h4:M<9007199254740992):E*2^52+M%2^52=min ((E-1)*2^52+M) Dy:=by
 obtain ⟨k,rfl⟩:∃ k,E=k+1:=⟨E-1,by omega⟩
 obtain ⟨r,rfl⟩:∃ r,M=2^52+r:=⟨M-2^52,by omega⟩
 have hr:r<2^52:=by omega
 have hm:(2^52+r)%2^52=r:=by rw [Nat.add_mod_left,Ar4 hr]
 have hk:k*2^52≤2045*2^52:=Ar3 _ (by omega)
 have hi:Dy=2045*2^52+2^52+2^52:=by unfold Dy; rfl
 rw [hm,Nat.add_sub_cancel,Nat.succ_mul,hi]
 generalize 2^52=c at *
 omega
theorem soft.Pack.known:soft.Pack.Kn:=EqSoft.soft.Pack.Ad (.cons soft.Ef.known .nil) fun rk n m e hp hr=>by
 have hp:=Al.1 (show Il m e=true from hp)
 have hr:Lz m e<rk+1:=hr
 obtain ⟨m0,m1,e0,e1⟩:=hp
 obtain ⟨M,rfl⟩:∃ M:Nat,m=M:=⟨m.toNat,by omega⟩
 refine ⟨0,soft.Pack.out [.b n,.i M,.i e],[],?_,.int⟩
 rw [EqSoft.soft.Pack.ev]
 show _=some (DV.int .u64 (Qo n M e))
 rw [Li]
 unfold Lz at hr
 by_cases h0:M=0
 ·subst h0
  have:=Kp (r:=0) (by decide) n
  have e0:B1 0 e=0:=rfl
  rw [e0]
  simpa using this
 ·have b0:((M:Int)==0)=false:=by simp; omega
  rw [b0,Arv]
  by_cases h1:M=9007199254740992
  ·have b1:H2 (9007199254740992:Int) (M:Int)=true:=by rw [Ee]; simp; omega
   have s1:Ct .u64 (M:Int) (1:Int)=((2^52:Nat):Int):=by
    rw [show (1:Int)=((1:Nat):Int) from rfl,F4 .u64 M 1 (by decide),h1]
   have w1:Ab (e+1)=e+1:=Ao (by omega) (by omega)
   rw [Ase (by omega)] at hr
   have p1:Il ((2^52:Nat):Int) (e+1)=true:=Al.2 (by omega)
   have p2:Br (Lz ((2^52:Nat):Int) (e+1)<rk)=true:=Al.2 (by
    unfold Lz
    rw [Asd (by omega),Asd (by omega)]; omega)
   rw [b1,s1,w1,p1,p2,Li,h1]
   have:=(Di (2^52) 1 (e+1)).1
   have e2:e+1-((1:Nat):Int)=e:=by omega
   rw [e2] at this
   rw [← this]; rfl
  ·have b1:H2 (9007199254740992:Int) (M:Int)=false:=by rw [Ee]; simp; omega
   rw [b1,Arv]
   rw [Asd (by omega)] at hr
   by_cases h2:M<4503599627370496
   ·have b2:A3 (M:Int) (4503599627370496:Int)=true:=by rw [Av]; simp; omega
    rw [Ase (by omega)] at hr
    by_cases h3:e=-1074
    ·subst h3
     have b3:A3 (-1074:Int) (-1074)=false:=by decide
     rw [b2,b3,As5,Arv,Arr,T4 h2]
     exact Kp (by omega) n
    ·have b3:A3 (-1074:Int) e=true:=by rw [Av]; simp; omega
     have s1:Bq .u64 (M:Int) (1:Int)=((M*2^1:Nat):Int):=by
      rw [show (1:Int)=((1:Nat):Int) from rfl,D8 M 1 (by decide),Ar4 (by omega)]
     have w1:Ab (e-1)=e-1:=Ao (by omega) (by omega)
     have p1:Il ((M*2^1:Nat):Int) (e-1)=true:=Al.2 (by omega)
     have p2:Br (Lz ((M*2^1:Nat):Int) (e-1)<rk)=true:=Al.2 (by
      unfold Lz
      rw [Asd (by omega)]
      split<;>omega)
     rw [b2,b3,s1,w1,p1,p2,Li]
     have:=(Di M 1 e).1
     have e2:e-((1:Nat):Int)=e-1:=by omega
     rw [e2] at this
     rw [this]; rfl
   ·have b2:A3 (M:Int) (4503599627370496:Int)=false:=by rw [Av]; simp; omega
    have w1:Ab (e+1075)=e+1075:=Ao (by omega) (by omega)
    rw [b2,w1,Bool.false_and,Arv,Arv]
    have hr:=Jw (m:=M) (e:=e) (by omega) (by omega) e0
    by_cases h4:2047≤e+1075
    ·have b4:H2 (2047:Int) (e+1075)=true:=by rw [Ee]; simp; omega
     have:B1 M e=9218868437227405312:=by rw [hr,Gs]; omega
     rw [b4,this,Arr]
     exact Kp (r:=9218868437227405312) (by decide) n
    ·have b4:H2 (2047:Int) (e+1075)=false:=by rw [Ee]; simp; omega
     obtain ⟨E,hE⟩:∃ E:Nat,e+1075=E:=⟨(e+1075).toNat,by omega⟩
     have s1:F9 .u64 (Bq .u64 (Bb (e+1075)) (52:Int)) (Dq .u64 (M:Int) (4503599627370495:Int))=((B1 M e:Nat):Int):=by
      rw [hE,Cu (by omega) (by omega),show (52:Int)=((52:Nat):Int) from rfl,D8 E 52 (by decide),Ar4 (by omega),
       show (4503599627370495:Int)=((2^52-1:Nat):Int) from rfl,Gt 52 (by omega) (by decide),Kg (by omega) (by omega)]
      have hE2:(e+1074).toNat=E-1:=by omega
      have hE3:1≤E∧E≤2046:=by omega
      have hM:4503599627370496≤M∧M<9007199254740992:=by omega
      rw [hr,hE2]
      exact congrArg (fun (x:Nat)=>(x:Int)) (Abv hE3.1 hE3.2 hM.1 hM.2)
     rw [b4,s1,Arv]
     exact Kp (Tb M e) n
open EqSoft
theorem Agh {D:Nat} (h:D≤63):2^D<2^64:=Nat.pow_lt_pow_right (by decide) (by omega)
theorem Mk (n:Bool) {r:Nat} (h:r<2^63):E0 .u64 ((Be n r:Nat):Int) (9223372036854775808:Int)=(r:Int):=by
 have hs:Be n r<2^64:=by unfold Be; split<;>omega
 unfold E0
 rw [show (9223372036854775808:Int)=((2^63:Nat):Int) from rfl,BitVec.toNat_and,BitVec.toNat_not,Gq,Gq,show IntKind.u64.bits=64 from rfl,Ar4 hs,
  show 2^64-1-2^63%2^64=2^63-1 by decide,Nat.and_two_pow_sub_one_eq_mod]
 have:Be n r%2^63=r:=by unfold Be; cases n<;>simp<;>omega
 rw [this]
 exact P8 (by omega)
theorem Ab0 (N:Nat) (ex n:Bool) {r:Nat} (h:r≤Dy):soft.Cq.C18 N ex ((Be n r:Nat):Int)=some (.tup [.int .u64 ((Be n r:Nat):Int),.int .u8 ((flags r ex:Nat):Int)]):=by
 have h63:r<2^63:=by rw [Gs] at h; omega
 have hs:Be n r<2^64:=by unfold Be; split<;>omega
 rw [soft.Cq.Anx,Mk n h63,B6 hs]
 unfold Ba flags
 rw [Art,R3 n h]
 have hinf:(((r:Nat):Int)==(9218868437227405312:Int))=decide (r=Dy):=by
  rw [Gs,Ar7]; simp; omega
 rw [hinf]
 by_cases h1:r=Dy
 ·simp [h1]
 ·by_cases h2:2^52≤r
  ·cases ex<;>simp [h1]<;>simp [show 4503599627370496≤r by omega]
  ·by_cases h3:0<r
   ·cases ex<;>simp [h1,h3]<;>simp [show ¬ 4503599627370496≤r by omega]
   ·cases ex<;>simp [h1,h3]<;>simp [show ¬ 4503599627370496≤r by omega]
theorem Ae3 (N:Nat) (n:Bool) {m:Nat} {e:Int} (he:-1140≤e∧e≤50000) (r:Bool):∀ (k d F:Nat),d+k=62→k<F→(∀ d',d'<d→2^53≤m / 2^d'∨e+d' < -1074) →
 ∃ D:Nat,soft.Cq.L0 N F n m e r (d:Int)=soft.Cq.C7 N n m e r (D:Int)∧Drop m e D:=by
 intro k
 induction k with
 | zero =>
   intro d F hd hF hl
   obtain ⟨F,rfl⟩:∃ G,F=G+1:=⟨F-1,by omega⟩
   obtain rfl:d=62:=by omega
   rw [soft.Cq.Au,F4 .u64 m 62 (by decide),Ao (by omega) (by omega),Ao (by omega) (by omega),Ee,Av]
   have a0:decide ((0:Int)≤((62:Nat):Int))=true:=by decide
   have a1:((((62:Nat):Int)+1)==63)=true:=by decide
   rw [a0,Arr,a1,Arr]
   by_cases h:2^53≤m / 2^62∨e+(62:Nat) < -1074
   ·refine ⟨63,?_,by omega,by omega,fun d' hd'=>?_⟩
    ·have:(decide ((9007199254740992:Int)≤((m / 2^62:Nat):Int))||decide (e+((62:Nat):Int) < -1074))=true:=by
      simp only [Bool.or_eq_true,Ary]; omega
     rw [this]; rfl
    ·rcases Asp d' 62 with h' | h'
     ·exact hl d' h'
     ·obtain rfl:d'=62:=by omega
      exact h
   ·refine ⟨62,?_,by omega,fun _=>by omega,hl⟩
    have:(decide ((9007199254740992:Int)≤((m / 2^62:Nat):Int))||decide (e+((62:Nat):Int) < -1074))=false:=by
     simp only [Bool.or_eq_false_iff,Asa]; omega
    rw [this]; rfl
 | succ k ih =>
   intro d F hd hF hl
   obtain ⟨F,rfl⟩:∃ G,F=G+1:=⟨F-1,by omega⟩
   rw [soft.Cq.Au,F4 .u64 m d (by show d≤64; omega),Ao (by omega) (by omega),Ao (by omega) (by omega),Ee,Av]
   have a0:decide ((0:Int)≤(d:Int))=true:=by simp
   have a1:(((d:Int)+1)==63)=false:=by simp; omega
   rw [a0,Arr,a1,Arv]
   by_cases h:2^53≤m / 2^d∨e+d < -1074
   ·have:(decide ((9007199254740992:Int)≤((m / 2^d:Nat):Int))||decide (e+(d:Int) < -1074))=true:=by
     simp only [Bool.or_eq_true,Ary]; omega
    rw [this,Arr,show (d:Int)+1=((d+1:Nat):Int) by omega]
    refine ih (d+1) F (by omega) (by omega) fun d' hd'=>?_
    rcases Asp d' d with h' | h'
    ·exact hl d' h'
    ·obtain rfl:d'=d:=by omega
     exact h
   ·refine ⟨d,?_,by omega,fun _=>by omega,hl⟩
    have:(decide ((9007199254740992:Int)≤((m / 2^d:Nat):Int))||decide (e+(d:Int) < -1074))=false:=by
     simp only [Bool.or_eq_false_iff,Asa]; omega
    rw [this]; rfl
theorem Ae2 (N:Nat) (n:Bool) {m D:Nat} (hm:m<2^64) {e:Int} (he:-1140≤e∧e≤50000) (r:Bool) (hD:D≤63) (hq:(if e+D < -1074 then 0 else Zp m D r.toNat)≤2^53) :
 soft.Cq.C7 N n m e r (D:Int)=soft.Cq.C18 N (decide (m%2^D=0∧r.toNat=0)) ((Be n (B1 (if e+D < -1074 then 0 else Zp m D r.toNat) (max (e+D) (-1074))):Nat):Int):=by
 have hA:=By D
 have h2D:=Agh hD
 have hr:=Nat.mod_lt m hA
 have hqm:m / 2^D≤m:=Nat.div_le_self _ _
 rw [soft.Cq.Ape]
 have a0:decide ((0:Int)≤(D:Int))=true:=by simp
 have e1:Ct .u64 (m:Int) (D:Int)=((m / 2^D:Nat):Int):=F4 .u64 m D (by show D≤64; omega)
 have e2:Bq .u64 (1:Int) (D:Int)=((2^D:Nat):Int):=by
  rw [show (1:Int)=((1:Nat):Int) from rfl,D8 1 D (by omega),Nat.one_mul,Ar4 h2D]
 have e3:Dq .u64 (m:Int) (Bb (Bq .u64 (1:Int) (D:Int)-(1:Int)))=((m%2^D:Nat):Int):=by
  rw [e2,Cu (by omega) (by omega),show ((2^D:Nat):Int)-1=((2^D-1:Nat):Int) by omega,Gt D hm (by omega)]
 have e5:(bif (((m%2^D:Nat):Int)==(0:Int)) then (!r) else false)=decide (m%2^D=0∧r.toNat=0):=by
  by_cases h:m%2^D=0
  ·cases r<;>simp [h]
  ·have:(((m%2^D:Nat):Int)==(0:Int))=false:=by simp only [Asn,ne_eq]; omega
   rw [this]; simp [h]
 rw [a0,Arr,Arr,e1,e3,e5,Av]
 have last:∀ (p:Bool) (q:Nat),q≤2^64-1→(if e+D < -1074 then 0 else q)≤2^53→soft.Cq.C14 N n e (D:Int) ((q:Nat):Int) p=soft.Cq.C18 N p ((Be n (B1 (if e+D < -1074 then 0 else q) (max (e+D) (-1074))):Nat):Int):=by
  intro p q hq hq2
  rw [soft.Cq.An1,Ao (by omega) (by omega),Av]
  have c16:∀ q':Nat,q'≤2^53→soft.Cq.C16 N n e (q':Int) (D:Int) p=soft.Cq.C18 N p ((Be n (B1 q' (max (e+D) (-1074))):Nat):Int):=by
   intro q' hq'
   rw [soft.Cq.An0,Ao (by omega) (by omega)]
   have:Il (q':Int) (max (e+(D:Int)) (-1074))=true:=Al.2 (by omega)
   rw [this,Li]; rfl
  by_cases h:e+D < -1074
  ·rw [Ase h] at hq2 ⊢
   have:decide (e+(D:Int) < -1074)=true:=by simpa using h
   rw [this]
   exact c16 0 hq2
  ·rw [Asd h] at hq2 ⊢
   have:decide (e+(D:Int) < -1074)=false:=by simpa using h
   rw [this]
   exact c16 q hq2
 have up:∀ (half:Nat) (hh:0<D→half=2^(D-1)) (p:Bool),soft.Cq.C12 N n e r (D:Int) ((m / 2^D:Nat):Int) ((m%2^D:Nat):Int) (half:Int) p=soft.Cq.C18 N p ((Be n (B1 (if e+D < -1074 then 0 else Zp m D r.toNat) (max (e+D) (-1074))):Nat):Int):=by
  intro half hh p
  rw [soft.Cq.An2,Av,Av]
  have odd:(Dq .u64 ((m / 2^D:Nat):Int) (1:Int)==(1:Int))=decide (m / 2^D%2=1):=by
   rw [show (1:Int)=((2^1-1:Nat):Int) from rfl,Gt 1 (by omega) (by decide),Ar7]
   simp only [beq_iff_eq,Ary]
   omega
  rw [odd]
  have test:(decide ((0:Int)<(D:Int))&&(decide ((half:Int)<((m%2^D:Nat):Int))||((((m%2^D:Nat):Int)==(half:Int))&&(r||decide (m / 2^D%2=1))))) =
   decide (0<D∧(2^(D-1)<m%2^D∨(m%2^D=2^(D-1)∧(r.toNat=1∨m / 2^D%2=1)))):=by
   rw [Ar7]
   generalize m%2^D=rr
   generalize m / 2^D=qq
   generalize hg:2^(D-1)=gg at hh
   by_cases h0:0<D
   ·have:=hh h0
    subst this
    cases r<;>simp [h0]<;>omega
   ·simp [h0]
  rw [test]
  by_cases ht:0<D∧(2^(D-1)<m%2^D∨(m%2^D=2^(D-1)∧(r.toNat=1∨m / 2^D%2=1)))
  ·have hq1:Zp m D r.toNat=m / 2^D+1:=by unfold Zp; rw [Ase ht]
   have hlt:m / 2^D+1<2^64:=by
    obtain ⟨d,rfl⟩:∃ d,D=d+1:=⟨D-1,by omega⟩
    have h1:m / 2^(d+1)≤m / 2:=Nat.div_le_div_left (by rw [Nat.pow_succ]; have:=By d; omega) (by decide)
    omega
   rw [hq1] at hq ⊢
   rw [Ars ht,Arr,Cu (by omega) (by omega),show ((m / 2^D:Nat):Int)+1=((m / 2^D+1:Nat):Int) by omega]
   exact last p _ (by omega) hq
  ·have hq1:Zp m D r.toNat=m / 2^D:=by unfold Zp; rw [Asd ht]; rfl
   rw [hq1] at hq ⊢
   rw [Arw ht,Arv]
   exact last p _ (by omega) hq
 rcases Nat.eq_zero_or_pos D with rfl | hpos
 ·have:decide ((0:Int)<((0:Nat):Int))=false:=by decide
  rw [this,Arv]
  exact up 0 (fun h=>absurd h (by omega)) _
 ·have h1:decide ((0:Int)<(D:Int))=true:=by simpa using hpos
  have h2:Ab ((D:Int)-1)=((D-1:Nat):Int):=by rw [Ao (by omega) (by omega)]; omega
  have h3:decide ((0:Int)≤((D-1:Nat):Int))=true:=by simp
  have h4:Bq .u64 (1:Int) ((D-1:Nat):Int)=((2^(D-1):Nat):Int):=by
   rw [show (1:Int)=((1:Nat):Int) from rfl,D8 1 (D-1) (by omega),Nat.one_mul,Ar4 (Agh (by omega))]
  rw [h1,Arr,h2,h3,Arr,h4]
  exact up _ (fun _=>rfl) _
theorem soft.Cq.known:soft.Cq.Kn:=soft.Cq.Ad (.cons soft.Kind.known (.cons soft.Pack.known .nil)) fun n m e r hp=>by
 obtain ⟨m0,m1,e1,e2,hr⟩:=Al.1 (show Dk m e r=true from hp)
 obtain ⟨M,rfl⟩:∃ M:Nat,m=M:=⟨m.toNat,by omega⟩
 refine ⟨63,soft.Cq.out [.b n,.i M,.i e,.b r],[],?_,Wk.E5 (.cons .int (.cons .int .nil))⟩
 show _=some (DV.tup [.int .u64 (Dw n M e r),.int .u8 (Dv n M e r)])
 unfold Dw Dv Ev
 rw [Art,soft.Cq.ev]
 dsimp only
 by_cases h0:M=0∧r=false
 ·obtain ⟨rfl,rfl⟩:=h0
  have:Il (0:Int) (-1074)=true:=Al.2 (by omega)
  have hp0:=Li n 0 (-1074)
  rw [this]
  simp only [Atb,Bool.and_true,Arr,Bool.toNat_false]
  have hz:(((0:Nat):Int)==0)=true:=rfl
  rw [hz,Arr]
  have hp0:Qo n (0:Int) (-1074)=((Be n (B1 0 (-1074)):Nat):Int):=hp0
  have z:∀ E,B1 0 E=0:=fun E=>Ase rfl
  have z3:∀ E,flagsOf 0 E=0:=fun E=>Ase rfl
  rw [hp0,z,show 4*0+0=0 from rfl,z,z3]
  rfl
 ·have hc:((((M:Nat):Int)==(0:Int))&&!r)=false:=by
   cases r
   ·have:M≠0:=fun h=>h0 ⟨h,rfl⟩
    simp; omega
   ·simp
  rw [hc,Arv]
  have he:-1140≤e∧e≤50000:=by omega
  obtain ⟨D,hl,hD⟩:=Ae3 63 n (m:=M) he r 62 0 63 (by omega) (by omega) (fun d' h=>by omega)
  have hs:r.toNat≤1:=by cases r<;>decide
  have hV:4*M+r.toNat≠0:=by
   intro h
   refine h0 ⟨by omega,?_⟩
   cases r
   ·rfl
   ·simp at h
  obtain ⟨t1,t2,t3⟩:=Ae5 hD hs hV (by omega) (by omega) (fun h=>by
   have:r=true:=by cases r<;>simp_all
   have:=hr this
   omega)
  have hl:soft.Cq.L0 63 63 n (M:Int) e r (0:Int)=soft.Cq.C7 63 n (M:Int) e r (D:Int):=hl
  rw [hl,Ae2 63 n (by omega) he r hD.le t3,← t1,Ab0 63 _ n (Od _ _),t2]
namespace EqSum
def sum.right.Bh:List (Nat × Entry):=[]
def sum.right.E:Env:=Bi (Bg sum.right.Bh) (fun _=>false) (fun _=>none) (fun _=>none)
theorem sum.right.ev (N:Nat) (m d:Int):Bw sum.right.E N f115 (Aq f115) [.int .u64 m,.int .i64 d]=bif (A3 63 d) then bif ((Bq .u64 (Ct .u64 m 63) 63) !=m) then some (.int .u64 (F9 .u64 (Ct .u64 m 63) 1)) else some (.int .u64 (Ct .u64 m 63)) else bif (decide (0≤d)) then bif (decide (0≤d)) then bif ((Bq .u64 (Ct .u64 m d) d) !=m) then some (.int .u64 (F9 .u64 (Ct .u64 m d) 1)) else some (.int .u64 (Ct .u64 m d)) else none else none:=by kernel_rfl
abbrev _root_.Go.Proofs.S1.sum.right.Kn:=A6 prog 115 sum.right.spec
theorem sum.right.Ad (hk:Ay prog sum.right.Bh) (h:Hyp sum.right.E f115 sum.right.ts sum.right.pre sum.right.out):sum.right.Kn :=
 Am (A2 hk _ _ _) func115 (by kernel_rfl) (by kernel_rfl) h
def sum.Dd.Bh:List (Nat × Entry):=[(71,soft.Finite.spec),(31,soft.Kind.spec)]
def sum.Dd.E:Env:=Bi (Bg sum.Dd.Bh) (fun _=>false) (fun _=>none) (fun _=>none)
theorem sum.Dd.ev (N:Nat) (a b:Int):Bw sum.Dd.E N f114 (Aq f114) [.int .u64 a,.int .u64 b]=bif (Aj a) then bif ((Ba a)==(4:Int)) then some (.tup [.int .u64 9221120237041090560,.int .u8 0]) else bif (Aj b) then bif ((Ba b)==(4:Int)) then some (.tup [.int .u64 9221120237041090560,.int .u8 0]) else bif (Aj a) then bif (Da a) then some (.tup [.int .u64 b,.int .u8 0]) else bif (Aj b) then bif ((Da b)||(a==b)) then some (.tup [.int .u64 a,.int .u8 0]) else some (.tup [.int .u64 9221120237041090560,.int .u8 16]) else none else none else none else none :=
 Eq.trans (by kernel_rfl)
 (Eu (Eu rfl (Eu (Eu rfl (Eu (Eu rfl (Eu (Aw (Kl (Da b)) (Aw (Kl (Da b)) (Aw (Ajt (Da b)) (Aw (Mt (Da b)) (Df (Ts (Da b) (a==b)) rfl rfl))))) rfl)) rfl)) rfl)) rfl)
abbrev _root_.Go.Proofs.S1.sum.Dd.Kn:=A6 prog 114 sum.Dd.spec
theorem sum.Dd.Ad (hk:Ay prog sum.Dd.Bh) (h:Hyp sum.Dd.E f114 sum.Dd.ts sum.Dd.pre sum.Dd.out):sum.Dd.Kn :=
 Am (A2 hk _ _ _) func114 (by kernel_rfl) (by kernel_rfl) h
def sum.Add.Bh:List (Nat × Entry):=[(71,soft.Finite.spec),(33,soft.Cq.spec),(32,soft.Ea.spec),(34,soft.Sign.spec),(115,sum.right.spec),(114,sum.Dd.spec)]
def sum.Add.E:Env:=Bi (Bg sum.Add.Bh) (fun _=>false) (fun _=>none) (fun _=>none)
theorem sum.Add.ev (N:Nat) (a b:Int):Bw sum.Add.E N f99 (Aq f99) [.int .u64 a,.int .u64 b]=bif (Aj a) then bif ((!(Da a))||(Aj b)) then bif ((!(Da a))||(!(Da b))) then bif ((Aj a&&Aj b)&&(!(Da a)||!(Da b))) then some (.tup [.int .u64 (Jh a b),.int .u8 (S4 a b)]) else none else bif (Aj a) then bif (Aj b) then bif (Aj a) then bif (Aj b) then bif (A3 (A7 a) (A7 b)) then bif (Aj (Bq .u64 (Bk a) 9)&&Br (0≤(Ab ((A7 b)-(A7 a)))∧(Ab ((A7 b)-(A7 a)))<1000000)) then bif ((C9 b)==(C9 a)) then bif (Dk (Bb ((Bq .u64 (Bk b) 9)+(D1 (Bq .u64 (Bk a) 9) (Ab ((A7 b)-(A7 a)))))) (Ab ((A7 b)-9)) false) then some (.tup [.int .u64 (Dw (C9 b) (Bb ((Bq .u64 (Bk b) 9)+(D1 (Bq .u64 (Bk a) 9) (Ab ((A7 b)-(A7 a)))))) (Ab ((A7 b)-9)) false),.int .u8 (Dv (C9 b) (Bb ((Bq .u64 (Bk b) 9)+(D1 (Bq .u64 (Bk a) 9) (Ab ((A7 b)-(A7 a)))))) (Ab ((A7 b)-9)) false)]) else none else bif (A3 (D1 (Bq .u64 (Bk a) 9) (Ab ((A7 b)-(A7 a)))) (Bq .u64 (Bk b) 9)) then bif (Dk (Bb ((Bq .u64 (Bk b) 9)-(D1 (Bq .u64 (Bk a) 9) (Ab ((A7 b)-(A7 a)))))) (Ab ((A7 b)-9)) false) then some (.tup [.int .u64 (Dw (C9 b) (Bb ((Bq .u64 (Bk b) 9)-(D1 (Bq .u64 (Bk a) 9) (Ab ((A7 b)-(A7 a)))))) (Ab ((A7 b)-9)) false),.int .u8 (Dv (C9 b) (Bb ((Bq .u64 (Bk b) 9)-(D1 (Bq .u64 (Bk a) 9) (Ab ((A7 b)-(A7 a)))))) (Ab ((A7 b)-9)) false)]) else none else bif (A3 (Bq .u64 (Bk b) 9) (D1 (Bq .u64 (Bk a) 9) (Ab ((A7 b)-(A7 a))))) then bif (Dk (Bb ((D1 (Bq .u64 (Bk a) 9) (Ab ((A7 b)-(A7 a))))-(Bq .u64 (Bk b) 9))) (Ab ((A7 b)-9)) false) then some (.tup [.int .u64 (Dw (C9 a) (Bb ((D1 (Bq .u64 (Bk a) 9) (Ab ((A7 b)-(A7 a))))-(Bq .u64 (Bk b) 9))) (Ab ((A7 b)-9)) false),.int .u8 (Dv (C9 a) (Bb ((D1 (Bq .u64 (Bk a) 9) (Ab ((A7 b)-(A7 a))))-(Bq .u64 (Bk b) 9))) (Ab ((A7 b)-9)) false)]) else none else some (.tup [.int .u64 0,.int .u8 0]) else none else bif (Aj (Bq .u64 (Bk b) 9)&&Br (0≤(Ab ((A7 a)-(A7 b)))∧(Ab ((A7 a)-(A7 b)))<1000000)) then bif ((C9 a)==(C9 b)) then bif (Dk (Bb ((Bq .u64 (Bk a) 9)+(D1 (Bq .u64 (Bk b) 9) (Ab ((A7 a)-(A7 b)))))) (Ab ((A7 a)-9)) false) then some (.tup [.int .u64 (Dw (C9 a) (Bb ((Bq .u64 (Bk a) 9)+(D1 (Bq .u64 (Bk b) 9) (Ab ((A7 a)-(A7 b)))))) (Ab ((A7 a)-9)) false),.int .u8 (Dv (C9 a) (Bb ((Bq .u64 (Bk a) 9)+(D1 (Bq .u64 (Bk b) 9) (Ab ((A7 a)-(A7 b)))))) (Ab ((A7 a)-9)) false)]) else none else bif (A3 (D1 (Bq .u64 (Bk b) 9) (Ab ((A7 a)-(A7 b)))) (Bq .u64 (Bk a) 9)) then bif (Dk (Bb ((Bq .u64 (Bk a) 9)-(D1 (Bq .u64 (Bk b) 9) (Ab ((A7 a)-(A7 b)))))) (Ab ((A7 a)-9)) false) then some (.tup [.int .u64 (Dw (C9 a) (Bb ((Bq .u64 (Bk a) 9)-(D1 (Bq .u64 (Bk b) 9) (Ab ((A7 a)-(A7 b)))))) (Ab ((A7 a)-9)) false),.int .u8 (Dv (C9 a) (Bb ((Bq .u64 (Bk a) 9)-(D1 (Bq .u64 (Bk b) 9) (Ab ((A7 a)-(A7 b)))))) (Ab ((A7 a)-9)) false)]) else none else bif (A3 (Bq .u64 (Bk a) 9) (D1 (Bq .u64 (Bk b) 9) (Ab ((A7 a)-(A7 b))))) then bif (Dk (Bb ((D1 (Bq .u64 (Bk b) 9) (Ab ((A7 a)-(A7 b))))-(Bq .u64 (Bk a) 9))) (Ab ((A7 a)-9)) false) then some (.tup [.int .u64 (Dw (C9 b) (Bb ((D1 (Bq .u64 (Bk b) 9) (Ab ((A7 a)-(A7 b))))-(Bq .u64 (Bk a) 9))) (Ab ((A7 a)-9)) false),.int .u8 (Dv (C9 b) (Bb ((D1 (Bq .u64 (Bk b) 9) (Ab ((A7 a)-(A7 b))))-(Bq .u64 (Bk a) 9))) (Ab ((A7 a)-9)) false)]) else none else some (.tup [.int .u64 0,.int .u8 0]) else none else none else none else none else none else none else none :=
 Eq.trans (by kernel_rfl)
 (Eu (Aw (tt9 (Da a)) (Df (tt8 (Da a) (Aj b)) (Aw (tt7 (Da a)) (Aw (tt6 (Da a)) (Df (tt5 (Da a) (Da b)) rfl rfl))) rfl)) rfl)
abbrev _root_.Go.Proofs.S1.sum.Add.Kn:=A6 prog 99 sum.Add.spec
theorem sum.Add.Ad (hk:Ay prog sum.Add.Bh) (h:Hyp sum.Add.E f99 sum.Add.ts sum.Add.pre sum.Add.out):sum.Add.Kn :=
 Am (A2 hk _ _ _) func99 (by kernel_rfl) (by kernel_rfl) h
def sum.Sub.Bh:List (Nat × Entry):=[(96,soft.Ef.spec),(99,sum.Add.spec)]
def sum.Sub.E:Env:=Bi (Bg sum.Sub.Bh) (fun _=>false) (fun _=>none) (fun _=>none)
theorem sum.Sub.ev (N:Nat) (a b:Int):Bw sum.Sub.E N f133 (Aq f133) [.int .u64 a,.int .u64 b]=bif (Aj b) then bif (Aj a&&Aj (Dc b)) then some (.tup [.int .u64 (Jh a (Dc b)),.int .u8 (S4 a (Dc b))]) else none else none:=by kernel_rfl
abbrev _root_.Go.Proofs.S1.sum.Sub.Kn:=A6 prog 133 sum.Sub.spec
theorem sum.Sub.Ad (hk:Ay prog sum.Sub.Bh) (h:Hyp sum.Sub.E f133 sum.Sub.ts sum.Sub.pre sum.Sub.out):sum.Sub.Kn :=
 Am (A2 hk _ _ _) func133 (by kernel_rfl) (by kernel_rfl) h
end EqSum
open EqSum
theorem Am6 (q:Nat):q ||| 1=2*(q / 2)+1:=by
 have e:q%2 ||| (q / 2*2^1)=q / 2*2^1+q%2:=Ka (Nat.mod_lt _ (by decide))
 have e1:1 ||| (q / 2*2^1)=q / 2*2^1+1:=Ka (k:=1) (by decide)
 have hq:q / 2*2^1+q%2=q:=by omega
 rw [hq] at e
 rcases Nat.mod_two_eq_zero_or_one q with h | h
 ·rw [h,Nat.zero_or] at e
  rw [e,Nat.or_comm] at e1
  omega
 ·rw [h] at e
  have:q ||| 1=q:=by
   conv=>lhs; rw [← e]
   rw [Nat.or_comm 1,Nat.or_assoc,Nat.or_self,Nat.or_comm,e]
  omega
theorem T8 {n s:Nat} (hn:n<2^64) (hs:s≤63) :
 (bif ((Bq .u64 (Ct .u64 (n:Int) (s:Int)) (s:Int)) !=(n:Int)) then
  some (DV.int .u64 (F9 .u64 (Ct .u64 (n:Int) (s:Int)) (1:Int)))
 else some (.int .u64 (Ct .u64 (n:Int) (s:Int))))=some (.int .u64 ((Ei n s:Nat):Int)):=by
 have hq:n / 2^s≤n:=Nat.div_le_self _ _
 have hm:n / 2^s*2^s≤n:=Nat.div_mul_le_self _ _
 have hd:=Nat.div_add_mod n (2^s)
 rw [Asf] at hd
 rw [F4 .u64 n s (by show s≤64; omega),D8 _ s (by omega),Ar4 (by omega)]
 have h1:F9 .u64 ((n / 2^s:Nat):Int) (1:Int)=((n / 2^s ||| 1:Nat):Int):=Rd (by omega) (by decide)
 rw [h1,Am6]
 unfold Ei
 by_cases h:n%2^s=0
 ·have:((((n / 2^s*2^s:Nat):Int)) !=(n:Int))=false:=by
   simp only [bne_eq_false_iff_eq]; omega
  rw [this,Ase h,Arv]
 ·have:((((n / 2^s*2^s:Nat):Int)) !=(n:Int))=true:=by
   simp only [bne_iff_ne,ne_eq]; omega
  rw [this,Asd h,Arr]
theorem sum.right.known:sum.right.Kn:=sum.right.Ad .nil fun m d hp=>by
 obtain ⟨h1,h2⟩:=Af.1 hp
 obtain ⟨n,rfl,hn⟩:=Bt h1
 have h2:=Al.1 h2
 obtain ⟨d,rfl⟩:∃ k:Nat,d=k:=⟨d.toNat,by omega⟩
 refine ⟨0,sum.right.out [.i n,.i d],[],?_,.int⟩
 rw [sum.right.ev,Av]
 show _=some (DV.int .u64 (D1 n d))
 unfold D1
 rw [Art,Art]
 by_cases h:63<d
 ·have:decide ((63:Int)<(d:Int))=true:=by simp; omega
  rw [this,Arr,Nat.min_eq_right (by omega)]
  exact T8 hn (Asm 63)
 ·have:decide ((63:Int)<(d:Int))=false:=by simp; omega
  have h0:decide ((0:Int)≤(d:Int))=true:=by simp
  rw [this,Arv,h0,Arr,Arr,Nat.min_eq_left (by omega)]
  exact T8 hn (by omega)
theorem Acw:((Vq:Nat):Int)=9221120237041090560:=rfl
theorem sum.Dd.known:sum.Dd.Kn:=sum.Dd.Ad (.cons soft.Finite.known (.cons soft.Kind.known .nil)) fun a b hp=>by
 obtain ⟨h1,h2⟩:=Af.1 hp
 obtain ⟨ha,hb⟩:=Af.1 h1
 obtain ⟨a,rfl,hn⟩:=Bt ha
 obtain ⟨b,rfl,hm⟩:=Bt hb
 refine ⟨0,sum.Dd.out [.i a,.i b],[],?_,Wk.E5 (.cons .int (.cons .int .nil))⟩
 rw [sum.Dd.ev,ha,hb]
 show _=some (DV.tup [.int .u64 (Jh a b),.int .u8 (S4 a b)])
 unfold Jh S4 N1 Ba Da
 simp only [Art,Arr]
 unfold Da at h2
 simp only [Art] at h2
 by_cases a4:Ag a=4
 ·simp [a4,Acw]
 ·have e4:((Ag a:Int)==4)=false:=by simp; omega
  rw [e4,Arv]
  by_cases b4:Ag b=4
  ·simp [b4,Acw]
  ·have f4:((Ag b:Int)==4)=false:=by simp; omega
   rw [f4,Arv]
   have ka:=Uy a
   have kb:=Uy b
   by_cases a3:Ag a=3
   ·have fa:Ii a=false:=by rw [ka]; simp [a3]
    rw [fa,Arv]
    by_cases b3:Ag b=3
    ·have fb:Ii b=false:=by rw [kb]; simp [b3]
     rw [fb]
     by_cases hab:a=b
     ·subst hab; simp [a3]
     ·have hab':((a:Int)==(b:Int))=false:=by simp; omega
      rw [hab']
      simp [a3,b3,hab,Acw]
    ·have fb:Ii b=true:=by rw [kb]; simp [b3,b4]
     rw [fb]
     simp [a3,b3,b4]
   ·have fa:Ii a=true:=by rw [ka]; simp [a3,a4]
    have b3:Ag b=3:=by
     rw [fa,kb] at h2
     simp [b4] at h2
     exact h2
    rw [fa,Arr]
    simp [a3,b3,a4]
def Ac3 (na nb:Bool) (X r:Nat) (e:Int):Nat × Nat :=
 if na=nb then Ev na (X+r) e false else if r<X then Ev na (X-r) e false else if X<r then Ev nb (r-X) e false else (0,0)
theorem Rx {na:Bool} {m:Int} {n:Nat} {e e':Int} (h:m=n) (he:e'=e) (hn:n<2^64) (h1:-1100≤e) (h2:e≤1000) :
 (bif Dk m e' false then some (DV.tup [.int .u64 (Dw na m e' false),.int .u8 (Dv na m e' false)]) else none)
  = some (.tup [.int .u64 (((Ev na n e false).1:Nat):Int),.int .u8 (((Ev na n e false).2:Nat):Int)]):=by
 subst h; subst he
 have hp:Dk (n:Int) e' false=true:=Al.2 ⟨by omega,by omega,by omega,.inl (by omega),fun h=>by cases h⟩
 rw [hp,Arr]
 unfold Dw Dv
 rw [Art]
theorem Aa4 (na nb:Bool) {X r:Nat} {e e':Int} (hX:X<2^62) (hr:r≤2^62) (h:e'=e) (h1:-1100≤e) (h2:e≤1000) :
 (bif (na==nb) then
  bif Dk (Bb ((X:Int)+(r:Int))) e' false then some (DV.tup [.int .u64 (Dw na (Bb ((X:Int)+(r:Int))) e' false),.int .u8 (Dv na (Bb ((X:Int)+(r:Int))) e' false)]) else none
 else bif A3 (r:Int) (X:Int) then
  bif Dk (Bb ((X:Int)-(r:Int))) e' false then some (DV.tup [.int .u64 (Dw na (Bb ((X:Int)-(r:Int))) e' false),.int .u8 (Dv na (Bb ((X:Int)-(r:Int))) e' false)]) else none
 else bif A3 (X:Int) (r:Int) then
  bif Dk (Bb ((r:Int)-(X:Int))) e' false then some (DV.tup [.int .u64 (Dw nb (Bb ((r:Int)-(X:Int))) e' false),.int .u8 (Dv nb (Bb ((r:Int)-(X:Int))) e' false)]) else none
 else some (.tup [.int .u64 (0:Int),.int .u8 (0:Int)])) =
  some (.tup [.int .u64 (((Ac3 na nb X r e).1:Nat):Int),.int .u8 (((Ac3 na nb X r e).2:Nat):Int)]):=by
 unfold Ac3
 rw [Av,Av]
 by_cases hs:na=nb
 ·have:(na==nb)=true:=by simp [hs]
  rw [this,Arr,Ase hs]
  exact Rx (by rw [Cu (by omega) (by omega)]; omega) h (by omega) h1 h2
 ·have:(na==nb)=false:=by simp [hs]
  rw [this,Arv,Asd hs]
  by_cases hl:r<X
  ·have:decide ((r:Int)<(X:Int))=true:=by simp; omega
   rw [this,Arr,Ase hl]
   exact Rx (by rw [Cu (by omega) (by omega)]; omega) h (by omega) h1 h2
  ·have:decide ((r:Int)<(X:Int))=false:=by simp; omega
   rw [this,Arv,Asd hl]
   by_cases hg:X<r
   ·have:decide ((X:Int)<(r:Int))=true:=by simp; omega
    rw [this,Arr,Ase hg]
    exact Rx (by rw [Cu (by omega) (by omega)]; omega) h (by omega) h1 h2
   ·have:decide ((X:Int)<(r:Int))=false:=by simp; omega
    rw [this,Arv,Asd hg]
    rfl
theorem Ad2 {a b:Nat} (ha:Ii a=true) (hb:Ii b=true) (hle:Ax b≤Ax a) :
 ∃ X r:Nat,X<2^62∧r≤2^62∧Bq .u64 (Bk a) (9:Int)=(X:Int)∧D1 (Bq .u64 (Bk b) (9:Int)) (Ab (A7 a-A7 b))=(r:Int)
  ∧ Ab (A7 a-9)=Ax a-9
  ∧ (Aj (Bq .u64 (Bk b) (9:Int))&&Br (0≤(Ab ((A7 a)-(A7 b)))∧(Ab ((A7 a)-(A7 b)))<1000000))=true
  ∧ Ac3 (C9 a) (C9 b) X r (Ax a-9)=N1 a b:=by
 obtain ⟨d,hd⟩:∃ d:Nat,Ax a=Ax b+d:=⟨(Ax a-Ax b).toNat,by omega⟩
 have hx:=Er a
 have hy:=Er b
 have ea:=Dt a
 have eb:=Dt b
 have C:=Aa3 (Mx:=Ar a) (My:=Ar b) hd hx hy (fun h=>Wo (by omega))
 have sh:∀ m:Nat,m<2^53→Bq .u64 (m:Int) (9:Int)=((m*2^9:Nat):Int):=fun m hm=>by
  have:=D8 m 9 (by decide)
  rw [Ar4 (by omega)] at this
  exact this
 have h2:Ab (A7 a-A7 b)=(d:Int):=by
  unfold A7
  rw [Art,Art,Ao (by omega) (by omega)]; omega
 have s1:Bq .u64 (Bk a) (9:Int)=((Ar a*2^9:Nat):Int):=by
  unfold Bk; rw [Art]; exact sh _ hx
 have s2:Bq .u64 (Bk b) (9:Int)=((Ar b*2^9:Nat):Int):=by
  unfold Bk; rw [Art]; exact sh _ hy
 refine ⟨Ar a*2^9,Ei (Ar b*2^9) (min d 63),by omega,C.small,s1,?_,?_,?_,?_⟩
 ·rw [s2,h2]; unfold D1; rw [Art,Art]
 ·unfold A7; rw [Art,Ao (by omega) (by omega)]
 ·rw [s2,h2,B6 (by omega),As5]
  exact Al.2 ⟨by omega,by omega⟩
 ·unfold C9
  rw [Art,Art,Aa2 ha hb hd]
  rfl
theorem sum.Add.known:sum.Add.Kn:=sum.Add.Ad (.cons soft.Finite.known (.cons soft.Cq.known (.cons soft.Ea.known (.cons soft.Sign.known (.cons sum.right.known (.cons sum.Dd.known .nil)))))) fun a b hp=>by
 obtain ⟨ha,hb⟩:=Af.1 hp
 obtain ⟨a,rfl,hn⟩:=Bt ha
 obtain ⟨b,rfl,hm⟩:=Bt hb
 refine ⟨0,sum.Add.out [.i a,.i b],[],?_,Wk.E5 (.cons .int (.cons .int .nil))⟩
 rw [sum.Add.ev,ha,hb]
 show _=some (DV.tup [.int .u64 (Jh a b),.int .u8 (S4 a b)])
 rw [As4,Arr,Arr]
 by_cases hf:(!(Da a)||!(Da b))=true
 ·rw [hf]; rfl
 ·have hf:(!(Da a)||!(Da b))=false:=by simpa using hf
  rw [hf,Arv,Arr,Arr,Arr,Arr]
  have fa:Ii a=true:=by
   have:=(Bool.or_eq_false_iff.1 hf).1
   unfold Da at this
   simpa using this
  have fb:Ii b=true:=by
   have:=(Bool.or_eq_false_iff.1 hf).2
   unfold Da at this
   simpa using this
  have xa:=Dt a
  have xb:=Dt b
  rw [Av]
  by_cases hl:Ax a<Ax b
  ·obtain ⟨X,r,hX,hr,e1,e2,e3,e4,e5⟩:=Ad2 fb fa (by omega)
   have:decide (A7 a<A7 b)=true:=by unfold A7; simpa using hl
   rw [this,Arr,e4,Arr,e1,e2,Aa4 _ _ hX hr e3 (by omega) (by omega),e5,Af4]
   rfl
  ·obtain ⟨X,r,hX,hr,e1,e2,e3,e4,e5⟩:=Ad2 fa fb (by omega)
   have:decide (A7 a<A7 b)=false:=by unfold A7; simpa using hl
   rw [this,Arv,e4,Arr,e1,e2,Aa4 _ _ hX hr e3 (by omega) (by omega),e5]
   rfl
theorem sum.Sub.known:sum.Sub.Kn:=sum.Sub.Ad (.cons soft.Ef.known (.cons sum.Add.known .nil)) fun a b hp=>by
 obtain ⟨ha,hb⟩:=Af.1 hp
 obtain ⟨b,rfl,hm⟩:=Bt hb
 refine ⟨0,sum.Sub.out [.i a,.i b],[],?_,Wk.E5 (.cons .int (.cons .int .nil))⟩
 have:Aj (Dc (b:Int))=true:=by unfold Dc; rw [Art]; exact B6 (Rz hm)
 rw [sum.Sub.ev,ha,hb,this]
 unfold Jh S4 Dc
 rw [Art]
 rfl
end Go.Proofs.S1
end
