/- A verified evaluator of the program's form and its use for this seat: S1Specs, S1Tt, S1EqSoft, S1PSoft, S1EqRefD, S1PRefD, S1EqRefA, S1PRefA, S1PRefAa, S1EqRefB, S1PRefB. -/
import Derived.Test.YtjbokjpbiobjpaaGreatTE
set_option linter.unusedVariables false
set_option linter.unusedSimpArgs false
noncomputable section
namespace Go.Proofs.S1
open Go Go.Den Go.Rnd
def soft.Split.pre:List Atom→Bool
  | [.i x]=>Ai x
  | _=>false
def soft.Split.out:List Atom→DV
  | [.i x]=>.agg [.bool (Dd x),.int .i64 (Kb x),.int .u64 (Ca x)]
  | _=>.undef
def soft.Split.spec:Entry:=entry [.i .u64] soft.Split.pre soft.Split.out
def soft.Kind.pre:List Atom→Bool
  | [.i x]=>Ai x
  | _=>false
def soft.Kind.out:List Atom→DV
  | [.i x]=>.int .i64 (A4 x)
  | _=>.undef
def soft.Kind.spec:Entry:=entry [.i .u64] soft.Kind.pre soft.Kind.out
def soft.Sign.pre:List Atom→Bool
  | [.i x]=>Ai x
  | _=>false
def soft.Sign.out:List Atom→DV
  | [.i x]=>.bool (Dd x)
  | _=>.undef
def soft.Sign.spec:Entry:=entry [.i .u64] soft.Sign.pre soft.Sign.out
def soft.Finite.pre:List Atom→Bool
  | [.i x]=>Ai x
  | _=>false
def soft.Finite.out:List Atom→DV
  | [.i x]=>.bool (Df x)
  | _=>.undef
def soft.Finite.spec:Entry:=entry [.i .u64] soft.Finite.pre soft.Finite.out
def soft.Fe.pre:List Atom→Bool
  | [.i x]=>Ai x
  | _=>false
def soft.Fe.out:List Atom→DV
  | [.i x]=>.int .u64 (Db x)
  | _=>.undef
def soft.Fe.spec:Entry:=entry [.i .u64] soft.Fe.pre soft.Fe.out
def soft.E2.pre:List Atom→Bool
  | [.i x]=>Ai x
  | _=>false
def soft.E2.out:List Atom→DV
  | [.i x]=>.tup [.int .u64 (Bf x),.int .i64 (Aw x)]
  | _=>.undef
def soft.E2.spec:Entry:=entry [.i .u64] soft.E2.pre soft.E2.out
def soft.Pack.mu:List Atom→Nat
  | [.b _n,.i m,.i e]=>L7 m e
  | _=>0
def soft.Pack.pre:List Atom→Bool
  | [.b _n,.i m,.i e]=>Iu m e
  | _=>false
def soft.Pack.out:List Atom→DV
  | [.b n,.i m,.i e]=>.int .u64 (Qg n m e)
  | _=>.undef
def soft.Pack.spec:Entry:=entry [.b,.i .u64,.i .i64] soft.Pack.pre soft.Pack.out
def soft.Cq.pre:List Atom→Bool
  | [.b _n,.i m,.i e,.b r]=>Di m e r
  | _=>false
def soft.Cq.out:List Atom→DV
  | [.b n,.i m,.i e,.b r]=>.tup [.int .u64 (Dz n m e r),.int .u8 (Dy n m e r)]
  | _=>.undef
def soft.Cq.spec:Entry:=entry [.b,.i .u64,.i .i64,.b] soft.Cq.pre soft.Cq.out
def sum.right.pre:List Atom→Bool
  | [.i m,.i d]=>Ai m&&Cn (0≤d∧d<1000000)
  | _=>false
def sum.right.out:List Atom→DV
  | [.i m,.i d]=>.int .u64 (D6 m d)
  | _=>.undef
def sum.right.spec:Entry:=entry [.i .u64,.i .i64] sum.right.pre sum.right.out
def sum.Dr.pre:List Atom→Bool
  | [.i a,.i b]=>(Ai a&&Ai b)&&(!(Df a)||!(Df b))
  | _=>false
def sum.Dr.out:List Atom→DV
  | [.i a,.i b]=>.tup [.int .u64 (Jm a b),.int .u8 (Su a b)]
  | _=>.undef
def sum.Dr.spec:Entry:=entry [.i .u64,.i .u64] sum.Dr.pre sum.Dr.out
def sum.Add.pre:List Atom→Bool
  | [.i a,.i b]=>Ai a&&Ai b
  | _=>false
def sum.Add.out:List Atom→DV
  | [.i a,.i b]=>.tup [.int .u64 (Jm a b),.int .u8 (Su a b)]
  | _=>.undef
def sum.Add.spec:Entry:=entry [.i .u64,.i .u64] sum.Add.pre sum.Add.out
def sum.Sub.pre:List Atom→Bool
  | [.i a,.i b]=>Ai a&&Ai b
  | _=>false
def sum.Sub.out:List Atom→DV
  | [.i a,.i b]=>.tup [.int .u64 (Dl a b),.int .u8 (Ap6 a b)]
  | _=>.undef
def sum.Sub.spec:Entry:=entry [.i .u64,.i .u64] sum.Sub.pre sum.Sub.out
def Bb.Neg.pre:List Atom→Bool
  | [.i x]=>Ai x
  | _=>false
def Bb.Neg.out:List Atom→DV
  | [.i x]=>.bool (Dd x)
  | _=>.undef
def Bb.Neg.spec:Entry:=entry [.i .u64] Bb.Neg.pre Bb.Neg.out
def Bb.Power.pre:List Atom→Bool
  | [.i x]=>Ph x
  | _=>false
def Bb.Power.out:List Atom→DV
  | [.i x]=>.int .i64 (Kb x)
  | _=>.undef
def Bb.Power.spec:Entry:=entry [.i .u64] Bb.Power.pre Bb.Power.out
def Bb.Jc.pre:List Atom→Bool
  | [.i x]=>Ph x
  | _=>false
def Bb.Jc.out:List Atom→DV
  | [.i x]=>.int .u64 (Ca x)
  | _=>.undef
def Bb.Jc.spec:Entry:=entry [.i .u64] Bb.Jc.pre Bb.Jc.out
def Bb.Kind.pre:List Atom→Bool
  | [.i x]=>Ph x
  | _=>false
def Bb.Kind.out:List Atom→DV
  | [.i x]=>.int .i64 (A4 x)
  | _=>.undef
def Bb.Kind.spec:Entry:=entry [.i .u64] Bb.Kind.pre Bb.Kind.out
def B9.Bk.pre:List Atom→Bool
  | [.i x]=>Ai x
  | _=>false
def B9.Bk.out:List Atom→DV
  | [.i x]=>.int .i64 (64-D0 x)
  | _=>.undef
def B9.Bk.spec:Entry:=entry [.i .u64] B9.Bk.pre B9.Bk.out
def B9.Gi.pre:List Atom→Bool
  | [.i x,.i y]=>Ai x&&Ai y
  | _=>false
def B9.Gi.out:List Atom→DV
  | [.i x,.i y]=>.tup [.int .u64 (Oz x y),.int .u64 (Ky x y)]
  | _=>.undef
def B9.Gi.spec:Entry:=entry [.i .u64,.i .u64] B9.Gi.pre B9.Gi.out
def times.signed.pre:List Atom→Bool
  | [.i b,.b _n]=>Ai b
  | _=>false
def times.signed.out:List Atom→DV
  | [.i b,.b n]=>.int .u64 (Ov n b)
  | _=>.undef
def times.signed.spec:Entry:=entry [.i .u64,.b] times.signed.pre times.signed.out
def times.nan.pre:List Atom→Bool
  | [.i a,.i b]=>Ai a&&Ai b
  | _=>false
def times.nan.out:List Atom→DV
  | [.i a,.i b]=>.bool (Ahk a b)
  | _=>.undef
def times.nan.spec:Entry:=entry [.i .u64,.i .u64] times.nan.pre times.nan.out
def times.norm.pre:List Atom→Bool
  | [.i b]=>Ai b&&Js b
  | _=>false
def times.norm.out:List Atom→DV
  | [.i b]=>.tup [.int .u64 (Cb b),.int .i64 (F0 b)]
  | _=>.undef
def times.norm.spec:Entry:=entry [.i .u64] times.norm.pre times.norm.out
def times.wide.pre:List Atom→Bool
  | [.b _n,.i m,.i e,.b _r]=>Lz m e
  | _=>false
def times.wide.out:List Atom→DV
  | [.b n,.i m,.i e,.b r]=>.tup [.int .u64 (Dz n m e r),.int .u8 (Dy n m e r)]
  | _=>.undef
def times.wide.spec:Entry:=entry [.b,.i .u64,.i .i64,.b] times.wide.pre times.wide.out
def times.Mul.pre:List Atom→Bool
  | [.i a,.i b]=>Ai a&&Ai b
  | _=>false
def times.Mul.out:List Atom→DV
  | [.i a,.i b]=>.tup [.int .u64 (Ej a b),.int .u8 (Aqf a b)]
  | _=>.undef
def times.Mul.spec:Entry:=entry [.i .u64,.i .u64] times.Mul.pre times.Mul.out
def times.Div.pre:List Atom→Bool
  | [.i a,.i b]=>Ai a&&Ai b
  | _=>false
def times.Div.out:List Atom→DV
  | [.i a,.i b]=>.tup [.int .u64 (E7 a b),.int .u8 (Aqo a b)]
  | _=>.undef
def times.Div.spec:Entry:=entry [.i .u64,.i .u64] times.Div.pre times.Div.out
def Ae.Add.pre:List Atom→Bool
  | [.i a,.i b]=>Ai a&&Ai b
  | _=>false
def Ae.Add.out:List Atom→DV
  | [.i a,.i b]=>.int .u64 (Jm a b)
  | _=>.undef
def Ae.Add.spec:Entry:=entry [.i .u64,.i .u64] Ae.Add.pre Ae.Add.out
def Ae.Sub.pre:List Atom→Bool
  | [.i a,.i b]=>Ai a&&Ai b
  | _=>false
def Ae.Sub.out:List Atom→DV
  | [.i a,.i b]=>.int .u64 (Dl a b)
  | _=>.undef
def Ae.Sub.spec:Entry:=entry [.i .u64,.i .u64] Ae.Sub.pre Ae.Sub.out
def Ae.Mul.pre:List Atom→Bool
  | [.i a,.i b]=>Ai a&&Ai b
  | _=>false
def Ae.Mul.out:List Atom→DV
  | [.i a,.i b]=>.int .u64 (Ej a b)
  | _=>.undef
def Ae.Mul.spec:Entry:=entry [.i .u64,.i .u64] Ae.Mul.pre Ae.Mul.out
def Ae.fit.pre:List Atom→Bool
  | [.l _x,.l _y]=>true
  | _=>false
def Ae.fit.out:List Atom→DV
  | [.l x,.l y]=>.bool (Rv x y)
  | _=>.undef
def Ae.fit.spec:Entry:=entry [.s .u64,.s .u64] Ae.fit.pre Ae.fit.out
def Ae.M5.pre:List Atom→Bool
  | [.l x,.l y]=>(Rv x y&&Ah x)&&Ah y
  | _=>false
def Ae.M5.out:List Atom→DV
  | [.l x,.l y]=>.tup [.int .u64 (M3 x y),.int .i64 (0:Int)]
  | _=>.undef
def Ae.M5.spec:Entry:=entry [.s .u64,.s .u64] Ae.M5.pre Ae.M5.out
def Aa.size.pre:List Atom→Bool
  | [.i _n]=>true
  | _=>false
def Aa.size.out:List Atom→DV
  | [.i n]=>.bool (Bn n)
  | _=>.undef
def Aa.size.spec:Entry:=entry [.i .i64] Aa.size.pre Aa.size.out
def Aa.Check.pre:List Atom→Bool
  | [.i _r,.i _c,.l _l]=>true
  | _=>false
def Aa.Check.out:List Atom→DV
  | [.i r,.i c,.l l]=>.int .i64 (Io r c l)
  | _=>.undef
def Aa.Check.spec:Entry:=entry [.st [.i .i64,.i .i64,.s .u64]] Aa.Check.pre Aa.Check.out
def Aa.get.pre:List Atom→Bool
  | [.i r,.i c,.l l,.i i,.i k]=>D1 r c l i k
  | _=>false
def Aa.get.out:List Atom→DV
  | [.i _r,.i c,.l l,.i i,.i k]=>.int .u64 (Ef c l i k)
  | _=>.undef
def Aa.get.spec:Entry:=entry [.st [.i .i64,.i .i64,.s .u64],.i .i64,.i .i64] Aa.get.pre Aa.get.out
def Aa.two.pre:List Atom→Bool
  | [.i _r,.i _c,.l _l,.i _p,.i _q,.l _m]=>true
  | _=>false
def Aa.two.out:List Atom→DV
  | [.i r,.i c,.l l,.i p,.i q,.l m]=>.int .i64 (Tn r c l p q m)
  | _=>.undef
def Aa.two.spec:Entry:=entry [.st [.i .i64,.i .i64,.s .u64],.st [.i .i64,.i .i64,.s .u64]] Aa.two.pre Aa.two.out
def Aa.Row.pre:List Atom→Bool
  | [.i r,.i c,.l l,.i i,.i f]=>Xn r c l i&&decide (f=0)
  | _=>false
def Aa.Row.out:List Atom→DV
  | [.i _r,.i c,.l l,.i i,.i _f]=>.ints .fresh .u64 (Ko c l i)
  | _=>.undef
def Aa.Row.spec:Entry:=entry [.st [.i .i64,.i .i64,.s .u64],.i .i64,.i .i64] Aa.Row.pre Aa.Row.out
def Aa.Cz.pre:List Atom→Bool
  | [.i r,.i c,.l l,.i k,.i f]=>Ki r c l k&&Cn (0≤f∧f≤r)
  | _=>false
def Aa.Cz.out:List Atom→DV
  | [.i r,.i c,.l l,.i k,.i f]=>.ints .fresh .u64 (Dg c l k f (Int.toNat (r-f)))
  | _=>.undef
def Aa.Cz.spec:Entry:=entry [.st [.i .i64,.i .i64,.s .u64],.i .i64,.i .i64] Aa.Cz.pre Aa.Cz.out
def Aa.Dk.pre:List Atom→Bool
  | [.i _i,.i _k]=>true
  | _=>false
def Aa.Dk.out:List Atom→DV
  | [.i _i,.i _k]=>.int .u64 (0:Int)
  | _=>.undef
def Aa.Dk.spec:Entry:=entry [.i .i64,.i .i64] Aa.Dk.pre Aa.Dk.out
def Aa.Gk.pre:List Atom→Bool
  | [.i _i,.i _k]=>true
  | _=>false
def Aa.Gk.out:List Atom→DV
  | [.i i,.i k]=>.int .u64 (Ry i k)
  | _=>.undef
def Aa.Gk.spec:Entry:=entry [.i .i64,.i .i64] Aa.Gk.pre Aa.Gk.out
def Aa.Es.pre:List Atom→Bool
  | [.i i,.i k,.i r,.i c,.l l]=>D1 r c l k i
  | _=>false
def Aa.Es.out:List Atom→DV
  | [.i i,.i k,.i _r,.i c,.l l]=>.int .u64 (Ef c l k i)
  | _=>.undef
def Aa.Es.spec:Entry:=entry [.i .i64,.i .i64,.cp [.i .i64,.i .i64,.s .u64]] Aa.Es.pre Aa.Es.out
def Aa.Eu.pre:List Atom→Bool
  | [.i i,.i k,.i r,.i c,.l l,.i x,.i y]=>D1 r c l (x+i) (y+k)&&Rf x y i k
  | _=>false
def Aa.Eu.out:List Atom→DV
  | [.i i,.i k,.i _r,.i c,.l l,.i x,.i y]=>.int .u64 (Ef c l (x+i) (y+k))
  | _=>.undef
def Aa.Eu.spec:Entry:=entry [.i .i64,.i .i64,.cp [.i .i64,.i .i64,.s .u64],.cp [.i .i64],.cp [.i .i64]] Aa.Eu.pre Aa.Eu.out
def Aa.Gg.pre:List Atom→Bool
  | [.i i,.i k,.i r,.i c,.l l,.i p,.i q,.l m]=>((D1 r c l i k&&D1 p q m i k)&&Ah l)&&Ah m
  | _=>false
def Aa.Gg.out:List Atom→DV
  | [.i i,.i k,.i _r,.i c,.l l,.i _p,.i q,.l m]=>.int .u64 (Dl (Ef c l i k) (Ef q m i k))
  | _=>.undef
def Aa.Gg.spec:Entry:=entry [.i .i64,.i .i64,.cp [.i .i64,.i .i64,.s .u64],.cp [.i .i64,.i .i64,.s .u64]] Aa.Gg.pre Aa.Gg.out
def Aa.Gh.pre:List Atom→Bool
  | [.i i,.i k,.i r,.i c,.l l,.i p,.i q,.l m]=>Pk r c l p q m i k
  | _=>false
def Aa.Gh.out:List Atom→DV
  | [.i i,.i k,.i _r,.i c,.l l,.i p,.i q,.l m]=>.int .u64 (M3 (Ko c l i) (Oq p q m k))
  | _=>.undef
def Aa.Gh.spec:Entry:=entry [.i .i64,.i .i64,.cp [.i .i64,.i .i64,.s .u64],.cp [.i .i64,.i .i64,.s .u64]] Aa.Gh.pre Aa.Gh.out
def Aa.of.Gm.pre:List Atom→Bool
  | [.i a,.i b]=>(Bn a&&Bn b)
  | _=>false
def Aa.of.Gm.out:List Atom→DV
  | [.i a,.i b]=>.agg [.int .i64 a,.int .i64 b,.ints .fresh .u64 (Ci (Int.toNat a) (Int.toNat b) (fun j1 j2=>Ry j1 j2))]
  | _=>.undef
def Aa.of.Gm.spec:Entry:=entry [.i .i64,.i .i64,.fn 246 []] Aa.of.Gm.pre Aa.of.Gm.out
def Aa.of.Cy.pre:List Atom→Bool
  | [.i a,.i b,.i r,.i c,.l l]=>(Bn a&&Bn b)&&Bh r c l&&decide (a=c∧b=r)
  | _=>false
def Aa.of.Cy.out:List Atom→DV
  | [.i a,.i b,.i _r,.i c,.l l]=>.agg [.int .i64 a,.int .i64 b,.ints .fresh .u64 (Ci (Int.toNat a) (Int.toNat b) (fun j1 j2=>Ef c l j2 j1))]
  | _=>.undef
def Aa.of.Cy.spec:Entry:=entry [.i .i64,.i .i64,.fn 220 [.cp [.i .i64,.i .i64,.s .u64]]] Aa.of.Cy.pre Aa.of.Cy.out
def Aa.of.Part.pre:List Atom→Bool
  | [.i a,.i b,.i r,.i c,.l l,.i x,.i y]=>(Bn a&&Bn b)&&Bh r c l&&Ow r c x y a b
  | _=>false
def Aa.of.Part.out:List Atom→DV
  | [.i a,.i b,.i _r,.i c,.l l,.i x,.i y]=>.agg [.int .i64 a,.int .i64 b,.ints .fresh .u64 (Ci (Int.toNat a) (Int.toNat b) (fun j1 j2=>Ef c l (x+j1) (y+j2)))]
  | _=>.undef
def Aa.of.Part.spec:Entry:=entry [.i .i64,.i .i64,.fn 192 [.cp [.i .i64,.i .i64,.s .u64],.cp [.i .i64],.cp [.i .i64]]] Aa.of.Part.pre Aa.of.Part.out
def Aa.of.Sub.pre:List Atom→Bool
  | [.i a,.i b,.i r,.i c,.l l,.i p,.i q,.l m]=>(Bn a&&Bn b)&&((Bh r c l&&Bh p q m)&&(Ah l&&Ah m))&&decide (a=r∧b=c∧p=r∧q=c)
  | _=>false
def Aa.of.Sub.out:List Atom→DV
  | [.i a,.i b,.i _r,.i c,.l l,.i _p,.i q,.l m]=>.agg [.int .i64 a,.int .i64 b,.ints .fresh .u64 (Ci (Int.toNat a) (Int.toNat b) (fun j1 j2=>Dl (Ef c l j1 j2) (Ef q m j1 j2)))]
  | _=>.undef
def Aa.of.Sub.spec:Entry:=entry [.i .i64,.i .i64,.fn 194 [.cp [.i .i64,.i .i64,.s .u64],.cp [.i .i64,.i .i64,.s .u64]]] Aa.of.Sub.pre Aa.of.Sub.out
def Aa.of.Mul.pre:List Atom→Bool
  | [.i a,.i b,.i r,.i c,.l l,.i p,.i q,.l m]=>(Bn a&&Bn b)&&((Bh r c l&&Bh p q m)&&(Ah l&&Ah m))&&decide (a=r∧b=q∧c=p)
  | _=>false
def Aa.of.Mul.out:List Atom→DV
  | [.i a,.i b,.i _r,.i c,.l l,.i p,.i q,.l m]=>.agg [.int .i64 a,.int .i64 b,.ints .fresh .u64 (Ci (Int.toNat a) (Int.toNat b) (fun j1 j2=>M3 (Ko c l j1) (Oq p q m j2)))]
  | _=>.undef
def Aa.of.Mul.spec:Entry:=entry [.i .i64,.i .i64,.fn 188 [.cp [.i .i64,.i .i64,.s .u64],.cp [.i .i64,.i .i64,.s .u64]]] Aa.of.Mul.pre Aa.of.Mul.out
def Aa.Gm.pre:List Atom→Bool
  | [.i _n]=>true
  | _=>false
def Aa.Gm.out:List Atom→DV
  | [.i n]=>.tup [.agg [.int .i64 ((Kg n).1),.int .i64 ((Kg n).2.1),.ints .fresh .u64 ((Kg n).2.2.1)],.int .i64 ((Kg n).2.2.2)]
  | _=>.undef
def Aa.Gm.spec:Entry:=entry [.i .i64] Aa.Gm.pre Aa.Gm.out
def Aa.Cy.pre:List Atom→Bool
  | [.i _r,.i _c,.l _l]=>true
  | _=>false
def Aa.Cy.out:List Atom→DV
  | [.i r,.i c,.l l]=>.tup [.agg [.int .i64 ((A5 r c l).1),.int .i64 ((A5 r c l).2.1),.ints .fresh .u64 ((A5 r c l).2.2.1)],.int .i64 ((A5 r c l).2.2.2)]
  | _=>.undef
def Aa.Cy.spec:Entry:=entry [.st [.i .i64,.i .i64,.s .u64]] Aa.Cy.pre Aa.Cy.out
def Aa.Part.pre:List Atom→Bool
  | [.i _r,.i _c,.l _l,.i _x,.i _y,.i _a,.i _b]=>true
  | _=>false
def Aa.Part.out:List Atom→DV
  | [.i r,.i c,.l l,.i x,.i y,.i a,.i b]=>.tup [.agg [.int .i64 ((D4 r c l x y a b).1),.int .i64 ((D4 r c l x y a b).2.1),.ints .fresh .u64 ((D4 r c l x y a b).2.2.1)],.int .i64 ((D4 r c l x y a b).2.2.2)]
  | _=>.undef
def Aa.Part.spec:Entry:=entry [.st [.i .i64,.i .i64,.s .u64],.i .i64,.i .i64,.i .i64,.i .i64] Aa.Part.pre Aa.Part.out
def Aa.Sub.pre:List Atom→Bool
  | [.i _r,.i _c,.l l,.i _p,.i _q,.l m]=>Ah l&&Ah m
  | _=>false
def Aa.Sub.out:List Atom→DV
  | [.i r,.i c,.l l,.i p,.i q,.l m]=>.tup [.agg [.int .i64 ((Ra r c l p q m).1),.int .i64 ((Ra r c l p q m).2.1),.ints .fresh .u64 ((Ra r c l p q m).2.2.1)],.int .i64 ((Ra r c l p q m).2.2.2)]
  | _=>.undef
def Aa.Sub.spec:Entry:=entry [.st [.i .i64,.i .i64,.s .u64],.st [.i .i64,.i .i64,.s .u64]] Aa.Sub.pre Aa.Sub.out
def Aa.Mul.pre:List Atom→Bool
  | [.i _r,.i _c,.l l,.i _p,.i _q,.l m]=>Ah l&&Ah m
  | _=>false
def Aa.Mul.out:List Atom→DV
  | [.i r,.i c,.l l,.i p,.i q,.l m]=>.tup [.agg [.int .i64 ((Mc r c l p q m).1),.int .i64 ((Mc r c l p q m).2.1),.ints .fresh .u64 ((Mc r c l p q m).2.2.1)],.int .i64 ((Mc r c l p q m).2.2.2)]
  | _=>.undef
def Aa.Mul.spec:Entry:=entry [.st [.i .i64,.i .i64,.s .u64],.st [.i .i64,.i .i64,.s .u64]] Aa.Mul.pre Aa.Mul.out
def Ac.Hg.pre:List Atom→Bool
  | [.l l,.i _i]=>E5 l
  | _=>false
def Ac.Hg.out:List Atom→DV
  | [.l l,.i i]=>.int .u64 (Ft l i)
  | _=>.undef
def Ac.Hg.spec:Entry:=entry [.s .u32,.i .i64] Ac.Hg.pre Ac.Hg.out
def Ac.Made.pre:List Atom→Bool
  | [.b _n,.l l]=>E5 l
  | _=>false
def Ac.Made.out:List Atom→DV
  | [.b n,.l l]=>.agg [.bool (Ar (wv n l)),.ints .arg .u32 (Ag (wv n l))]
  | _=>.undef
def Ac.Made.spec:Entry:=entry [.b,.s .u32] Ac.Made.pre Ac.Made.out
def Ac.Of.pre:List Atom→Bool
  | [.i n]=>Adq n
  | _=>false
def Ac.Of.out:List Atom→DV
  | [.i n]=>.agg [.bool (Ar (n)),.ints .arg .u32 (Ag (n))]
  | _=>.undef
def Ac.Of.spec:Entry:=entry [.i .i64] Ac.Of.pre Ac.Of.out
def Ac.Gu.pre:List Atom→Bool
  | [.l a,.l b]=>E5 a&&E5 b
  | _=>false
def Ac.Gu.out:List Atom→DV
  | [.l a,.l b]=>.int .i64 (R1 (Bq a) (Bq b))
  | _=>.undef
def Ac.Gu.spec:Entry:=entry [.s .u32,.s .u32] Ac.Gu.pre Ac.Gu.out
def Ac.plus.pre:List Atom→Bool
  | [.l a,.l b]=>E5 a&&E5 b
  | _=>false
def Ac.plus.out:List Atom→DV
  | [.l a,.l b]=>.ints .arg .u32 (G0 a b)
  | _=>.undef
def Ac.plus.spec:Entry:=entry [.s .u32,.s .u32] Ac.plus.pre Ac.plus.out
def Ac.minus.pre:List Atom→Bool
  | [.l a,.l b]=>(E5 a&&E5 b)&&leL b a
  | _=>false
def Ac.minus.out:List Atom→DV
  | [.l a,.l b]=>.ints .arg .u32 (F1 a b)
  | _=>.undef
def Ac.minus.spec:Entry:=entry [.s .u32,.s .u32] Ac.minus.pre Ac.minus.out
def Ac.Add.pre:List Atom→Bool
  | [.b n,.l a,.b m,.l b]=>Jr n a&&Jr m b
  | _=>false
def Ac.Add.out:List Atom→DV
  | [.b n,.l a,.b m,.l b]=>.agg [.bool (Ar (wv n a+wv m b)),.ints .arg .u32 (Ag (wv n a+wv m b))]
  | _=>.undef
def Ac.Add.spec:Entry:=entry [.st [.b,.s .u32],.st [.b,.s .u32]] Ac.Add.pre Ac.Add.out
def Ac.Neg.pre:List Atom→Bool
  | [.b n,.l a]=>Jr n a
  | _=>false
def Ac.Neg.out:List Atom→DV
  | [.b n,.l a]=>.agg [.bool (Ar (- wv n a)),.ints .arg .u32 (Ag (- wv n a))]
  | _=>.undef
def Ac.Neg.spec:Entry:=entry [.st [.b,.s .u32]] Ac.Neg.pre Ac.Neg.out
def Ac.Ex.pre:List Atom→Bool
  | [.b n,.l a]=>Jr n a
  | _=>false
def Ac.Ex.out:List Atom→DV
  | [.b n,.l a]=>.agg [.bool (Ar (2*wv n a)),.ints .arg .u32 (Ag (2*wv n a))]
  | _=>.undef
def Ac.Ex.spec:Entry:=entry [.st [.b,.s .u32]] Ac.Ex.pre Ac.Ex.out
def Ac.Gc.pre:List Atom→Bool
  | [.b n,.l a]=>Jr n a
  | _=>false
def Ac.Gc.out:List Atom→DV
  | [.b n,.l a]=>.agg [.bool (Ar (Is (wv n a) 1)),.ints .arg .u32 (Ag (Is (wv n a) 1))]
  | _=>.undef
def Ac.Gc.spec:Entry:=entry [.st [.b,.s .u32]] Ac.Gc.pre Ac.Gc.out
def Ac.Bp.pre:List Atom→Bool
  | [.b n,.l a,.i k]=>Vn n a&&Anq k
  | _=>false
def Ac.Bp.out:List Atom→DV
  | [.b n,.l a,.i k]=>.agg [.bool (Ar (Gn (wv n a) k)),.ints .arg .u32 (Ag (Gn (wv n a) k))]
  | _=>.undef
def Ac.Bp.spec:Entry:=entry [.st [.b,.s .u32],.i .i64] Ac.Bp.pre Ac.Bp.out
def Ac.Tj.pre:List Atom→Bool
  | [.b n,.l a]=>Jr n a
  | _=>false
def Ac.Tj.out:List Atom→DV
  | [.b n,.l a]=>.bool (Aes (wv n a))
  | _=>.undef
def Ac.Tj.spec:Entry:=entry [.st [.b,.s .u32]] Ac.Tj.pre Ac.Tj.out
def Ac.Du.pre:List Atom→Bool
  | [.b n,.l a,.b m,.l b]=>Jr n a&&Jr m b
  | _=>false
def Ac.Du.out:List Atom→DV
  | [.b n,.l a,.b m,.l b]=>.bool (Ty (wv n a) (wv m b))
  | _=>.undef
def Ac.Du.spec:Entry:=entry [.st [.b,.s .u32],.st [.b,.s .u32]] Ac.Du.pre Ac.Du.out
def Ay.Of.pre:List Atom→Bool
  | [.b n,.l a,.i e]=>Jr n a&&Ro e
  | _=>false
def Ay.Of.out:List Atom→DV
  | [.b n,.l a,.i e]=>.agg [.bool (Ar (mD (wv n a))),.ints .arg .u32 (Ag (mD (wv n a))),.int .i64 (eD (wv n a) e)]
  | _=>.undef
def Ay.Of.spec:Entry:=entry [.st [.b,.s .u32],.i .i64] Ay.Of.pre Ay.Of.out
def Ay.Tk.pre:List Atom→Bool
  | [.b n,.l a,.i _e,.b m,.l b,.i _f]=>Jr n a&&Jr m b
  | _=>false
def Ay.Tk.out:List Atom→DV
  | [.b n,.l a,.i e,.b m,.l b,.i f]=>.int .i64 (Cx (wv n a) e (wv m b) f)
  | _=>.undef
def Ay.Tk.spec:Entry:=entry [.st [.b,.s .u32,.i .i64],.st [.b,.s .u32,.i .i64]] Ay.Tk.pre Ay.Tk.out
def Ay.Level.pre:List Atom→Bool
  | [.b n,.l a,.i e,.i f]=>Vn n a&&Zw (wv n a) e f
  | _=>false
def Ay.Level.out:List Atom→DV
  | [.b n,.l a,.i e,.i f]=>.agg [.bool (Ar (Gn (wv n a) (e-f))),.ints .arg .u32 (Ag (Gn (wv n a) (e-f)))]
  | _=>.undef
def Ay.Level.spec:Entry:=entry [.st [.b,.s .u32,.i .i64],.i .i64] Ay.Level.pre Ay.Level.out
def Ay.Add.pre:List Atom→Bool
  | [.b n,.l a,.i e,.b m,.l b,.i f]=>((Vn n a&&Vn m b)&&Ta e)&&Ta f
  | _=>false
def Ay.Add.out:List Atom→DV
  | [.b n,.l a,.i e,.b m,.l b,.i f]=>.agg [.bool (Ar (Aa3 (wv n a) e (wv m b) f)),.ints .arg .u32 (Ag (Aa3 (wv n a) e (wv m b) f)),.int .i64 (Ajo (wv n a) e (wv m b) f)]
  | _=>.undef
def Ay.Add.spec:Entry:=entry [.st [.b,.s .u32,.i .i64],.st [.b,.s .u32,.i .i64]] Ay.Add.pre Ay.Add.out
def Ay.Du.pre:List Atom→Bool
  | [.b n,.l a,.i _e,.b m,.l b,.i _f]=>Jr n a&&Jr m b
  | _=>false
def Ay.Du.out:List Atom→DV
  | [.b n,.l a,.i e,.b m,.l b,.i f]=>.bool (((decide (e=f))&&Ty (wv n a) (wv m b)))
  | _=>.undef
def Ay.Du.spec:Entry:=entry [.st [.b,.s .u32,.i .i64],.st [.b,.s .u32,.i .i64]] Ay.Du.pre Ay.Du.out
def Bb.Value.pre:List Atom→Bool
  | [.i x]=>Ai x
  | _=>false
def Bb.Value.out:List Atom→DV
  | [.i x]=>.agg [.bool (Ar (mD (A8 x))),.ints .arg .u32 (Ag (mD (A8 x))),.int .i64 (eD (A8 x) (Aw x))]
  | _=>.undef
def Bb.Value.spec:Entry:=entry [.i .u64] Bb.Value.pre Bb.Value.out
def Ac.single.pre:List Atom→Bool
  | [.l a,.i x]=>E5 a&&Adp x
  | _=>false
def Ac.single.out:List Atom→DV
  | [.l a,.i x]=>.ints .arg .u32 (singleL a x)
  | _=>.undef
def Ac.single.spec:Entry:=entry [.s .u32,.i .u32] Ac.single.pre Ac.single.out
def Ac.Mul.pre:List Atom→Bool
  | [.b n,.l a,.b m,.l b]=>Xs n a&&Xs m b
  | _=>false
def Ac.Mul.out:List Atom→DV
  | [.b n,.l a,.b m,.l b]=>.agg [.bool (Ar (wv n a*wv m b)),.ints .arg .u32 (Ag (wv n a*wv m b))]
  | _=>.undef
def Ac.Mul.spec:Entry:=entry [.st [.b,.s .u32],.st [.b,.s .u32]] Ac.Mul.pre Ac.Mul.out
def Ay.Mul.pre:List Atom→Bool
  | [.b n,.l a,.i e,.b m,.l b,.i f]=>(Xs n a&&Xs m b)&&(Ta e&&Ta f)
  | _=>false
def Ay.Mul.out:List Atom→DV
  | [.b n,.l a,.i e,.b m,.l b,.i f]=>.agg [.bool (Ar (mD (wv n a*wv m b))),.ints .arg .u32 (Ag (mD (wv n a*wv m b))),.int .i64 (eD (wv n a*wv m b) (e+f))]
  | _=>.undef
def Ay.Mul.spec:Entry:=entry [.st [.b,.s .u32,.i .i64],.st [.b,.s .u32,.i .i64]] Ay.Mul.pre Ay.Mul.out
def compare.Jq.pre:List Atom→Bool
  | [.i b]=>Ai b
  | _=>false
def compare.Jq.out:List Atom→DV
  | [.i b]=>.int .i64 (Wa b)
  | _=>.undef
def compare.Jq.spec:Entry:=entry [.i .u64] compare.Jq.pre compare.Jq.out
def compare.Order.pre:List Atom→Bool
  | [.i a,.i b]=>Ai a&&Ai b
  | _=>false
def compare.Order.out:List Atom→DV
  | [.i a,.i b]=>.tup [.int .i64 (Abx a b),.bool (Aqb a b)]
  | _=>.undef
def compare.Order.spec:Entry:=entry [.i .u64,.i .u64] compare.Order.pre compare.Order.out
def compare.Jx.pre:List Atom→Bool
  | [.i a,.i b]=>Ai a&&Ai b
  | _=>false
def compare.Jx.out:List Atom→DV
  | [.i a,.i b]=>.bool (decide (Abx a b<0))
  | _=>.undef
def compare.Jx.spec:Entry:=entry [.i .u64,.i .u64] compare.Jx.pre compare.Jx.out
def compare.Sx.pre:List Atom→Bool
  | [.i a]=>Ai a
  | _=>false
def compare.Sx.out:List Atom→DV
  | [.i a]=>.int .u64 (Z4 a)
  | _=>.undef
def compare.Sx.spec:Entry:=entry [.i .u64] compare.Sx.pre compare.Sx.out
def compare.D5.pre:List Atom→Bool
  | [.i a,.i n]=>Eh a n
  | _=>false
def compare.D5.out:List Atom→DV
  | [.i a,.i n]=>.tup [.int .u64 (B8 a n),.int .u8 (Akh a n)]
  | _=>.undef
def compare.D5.spec:Entry:=entry [.i .u64,.i .i64] compare.D5.pre compare.D5.out
def Ae.Bp.pre:List Atom→Bool
  | [.i a,.i n]=>Eh a n
  | _=>false
def Ae.Bp.out:List Atom→DV
  | [.i a,.i n]=>.int .u64 (B8 a n)
  | _=>.undef
def Ae.Bp.spec:Entry:=entry [.i .u64,.i .i64] Ae.Bp.pre Ae.Bp.out
def Ae.Div.pre:List Atom→Bool
  | [.i a,.i b]=>Ai a&&Ai b
  | _=>false
def Ae.Div.out:List Atom→DV
  | [.i a,.i b]=>.int .u64 (E7 a b)
  | _=>.undef
def Ae.Div.spec:Entry:=entry [.i .u64,.i .u64] Ae.Div.pre Ae.Div.out
def Ae.Cf.pre:List Atom→Bool
  | [.l x]=>C4 x
  | _=>false
def Ae.Cf.out:List Atom→DV
  | [.l x]=>.int .u64 (Bl x)
  | _=>.undef
def Ae.Cf.spec:Entry:=entry [.s .u64] Ae.Cf.pre Ae.Cf.out
def Ae.Finite.pre:List Atom→Bool
  | [.l x]=>C4 x
  | _=>false
def Ae.Finite.out:List Atom→DV
  | [.l x]=>.bool (D9 x)
  | _=>.undef
def Ae.Finite.spec:Entry:=entry [.s .u64] Ae.Finite.pre Ae.Finite.out
def B4.Check.pre:List Atom→Bool
  | [.i _r,.i _c,.l l]=>Ah l
  | _=>false
def B4.Check.out:List Atom→DV
  | [.i r,.i c,.l l]=>.int .i64 (B5 r c l)
  | _=>.undef
def B4.Check.spec:Entry:=entry [.st [.i .i64,.i .i64,.s .u64]] B4.Check.pre B4.Check.out
def solve.check.pre:List Atom→Bool
  | [.i _r,.i _c,.l l,.i _p,.i _q,.l m]=>Ah l&&Ah m
  | _=>false
def solve.check.out:List Atom→DV
  | [.i r,.i c,.l l,.i p,.i q,.l m]=>.int .i64 (M4 r c l p q m)
  | _=>.undef
def solve.check.spec:Entry:=entry [.st [.i .i64,.i .i64,.s .u64],.st [.i .i64,.i .i64,.s .u64]] solve.check.pre solve.check.out
def Cm.Cl.up.pre:List Atom→Bool
  | [.i n,.i k]=>Cn (0≤k∧k<n∧n≤10)
  | _=>false
def Cm.Cl.up.out:List Atom→DV
  | [.i n,.i k]=>.int .i64 (n-1-k)
  | _=>.undef
def Cm.Cl.up.spec:Entry:=entry [.i .i64,.i .i64] Cm.Cl.up.pre Cm.Cl.up.out
def solve.Ds.pre:List Atom→Bool
  | [.i _i,.i _k]=>true
  | _=>false
def solve.Ds.out:List Atom→DV
  | [.i i,.i k]=>.bool (decide (i<k))
  | _=>.undef
def solve.Ds.spec:Entry:=entry [.i .i64,.i .i64] solve.Ds.pre solve.Ds.out
def Aa.of.B3.own.pre:List Atom→Bool
  | [.i a,.i b]=>Bn a&&Bn b
  | _=>false
def Aa.of.B3.own.out:List Atom→DV
  | [.i a,.i b]=>.agg [.int .i64 a,.int .i64 b,.ints (.own 108002 37) .u64 (Ci (Int.toNat a) (Int.toNat b) (fun _ _=>0))]
  | _=>.undef
def Aa.of.B3.own.spec:Entry:=entry [.i .i64,.i .i64,.fn 205 []] Aa.of.B3.own.pre Aa.of.B3.own.out
def Aa.B3.own.pre:List Atom→Bool
  | [.i a,.i b]=>Bn a&&Bn b
  | _=>false
def Aa.B3.own.out:List Atom→DV
  | [.i a,.i b]=>.tup [.agg [.int .i64 a,.int .i64 b,.ints (.own 1136 37) .u64 (Ci (Int.toNat a) (Int.toNat b) (fun _ _=>0))],.int .i64 (0:Int)]
  | _=>.undef
def Aa.B3.own.spec:Entry:=entry [.i .i64,.i .i64] Aa.B3.own.pre Aa.B3.own.out
def solve.Ap.Up.pre:List Atom→Bool
  | [.i r,.i c,.l l,.i p,.i q,.l m,.i n]=>M9 r c l p q m&&decide (n=r)
  | _=>false
def solve.Ap.Up.out:List Atom→DV
  | [.i r,.i c,.l l,.i _p,.i q,.l m,.i _n]=>.tup [.agg [.int .i64 ((Il r q (Y4 c l q m (Int.toNat r) (Int.toNat q))).1),.int .i64 ((Il r q (Y4 c l q m (Int.toNat r) (Int.toNat q))).2.1),.ints .fresh .u64 ((Il r q (Y4 c l q m (Int.toNat r) (Int.toNat q))).2.2.1)],.int .i64 ((Il r q (Y4 c l q m (Int.toNat r) (Int.toNat q))).2.2.2)]
  | _=>.undef
def solve.Ap.Up.spec:Entry:=entry [.st [.i .i64,.i .i64,.s .u64],.st [.i .i64,.i .i64,.s .u64],.fm 103 [.i .i64],.fn 104 []] solve.Ap.Up.pre solve.Ap.Up.out
def solve.Gf.pre:List Atom→Bool
  | [.i _r,.i _c,.l l,.i _p,.i _q,.l m]=>Ah l&&Ah m
  | _=>false
def solve.Gf.out:List Atom→DV
  | [.i r,.i c,.l l,.i p,.i q,.l m]=>.tup [.agg [.int .i64 ((Vy r c l p q m).1),.int .i64 ((Vy r c l p q m).2.1),.ints .fresh .u64 ((Vy r c l p q m).2.2.1)],.int .i64 ((Vy r c l p q m).2.2.2)]
  | _=>.undef
def solve.Gf.spec:Entry:=entry [.st [.i .i64,.i .i64,.s .u64],.st [.i .i64,.i .i64,.s .u64]] solve.Gf.pre solve.Gf.out
def solve.Flat.pre:List Atom→Bool
  | [.i _r,.i _c,.l l]=>Ah l
  | _=>false
def solve.Flat.out:List Atom→DV
  | [.i r,.i c,.l l]=>.tup [.bool ((Mw r c l).1),.int .i64 ((Mw r c l).2)]
  | _=>.undef
def solve.Flat.spec:Entry:=entry [.st [.i .i64,.i .i64,.s .u64]] solve.Flat.pre solve.Flat.out
def qr.Ec.pre:List Atom→Bool
  | [.i _r,.i _c,.l l,.i _p,.i _q,.l m]=>Ah l&&Ah m
  | _=>false
def qr.Ec.out:List Atom→DV
  | [.i r,.i c,.l l,.i p,.i q,.l m]=>.tup [.agg [.int .i64 ((D8 r c l p q m).1),.int .i64 ((D8 r c l p q m).2.1),.ints .fresh .u64 ((D8 r c l p q m).2.2.1)],.int .i64 ((D8 r c l p q m).2.2.2)]
  | _=>.undef
def qr.Ec.spec:Entry:=entry [.st [.i .i64,.i .i64,.s .u64],.st [.i .i64,.i .i64,.s .u64]] qr.Ec.pre qr.Ec.out
def Cm.Cl.down.pre:List Atom→Bool
  | [.i _n,.i _k]=>true
  | _=>false
def Cm.Cl.down.out:List Atom→DV
  | [.i _n,.i k]=>.int .i64 k
  | _=>.undef
def Cm.Cl.down.spec:Entry:=entry [.i .i64,.i .i64] Cm.Cl.down.pre Cm.Cl.down.out
def solve.Dt.pre:List Atom→Bool
  | [.i _i,.i _k]=>true
  | _=>false
def solve.Dt.out:List Atom→DV
  | [.i i,.i k]=>.bool (decide (k<i))
  | _=>.undef
def solve.Dt.spec:Entry:=entry [.i .i64,.i .i64] solve.Dt.pre solve.Dt.out
def solve.Ap.Lo.pre:List Atom→Bool
  | [.i r,.i c,.l l,.i p,.i q,.l m,.i n]=>M9 r c l p q m&&decide (n=r)
  | _=>false
def solve.Ap.Lo.out:List Atom→DV
  | [.i r,.i c,.l l,.i _p,.i q,.l m,.i _n]=>.tup [.agg [.int .i64 ((Il r q (loG c l q m (Int.toNat r) (Int.toNat q))).1),.int .i64 ((Il r q (loG c l q m (Int.toNat r) (Int.toNat q))).2.1),.ints .fresh .u64 ((Il r q (loG c l q m (Int.toNat r) (Int.toNat q))).2.2.1)],.int .i64 ((Il r q (loG c l q m (Int.toNat r) (Int.toNat q))).2.2.2)]
  | _=>.undef
def solve.Ap.Lo.spec:Entry:=entry [.st [.i .i64,.i .i64,.s .u64],.st [.i .i64,.i .i64,.s .u64],.fm 77 [.i .i64],.fn 78 []] solve.Ap.Lo.pre solve.Ap.Lo.out
def solve.Gj.pre:List Atom→Bool
  | [.i _r,.i _c,.l l,.i _p,.i _q,.l m]=>Ah l&&Ah m
  | _=>false
def solve.Gj.out:List Atom→DV
  | [.i r,.i c,.l l,.i p,.i q,.l m]=>.tup [.agg [.int .i64 ((Z8 r c l p q m).1),.int .i64 ((Z8 r c l p q m).2.1),.ints .fresh .u64 ((Z8 r c l p q m).2.2.1)],.int .i64 ((Z8 r c l p q m).2.2.2)]
  | _=>.undef
def solve.Gj.spec:Entry:=entry [.st [.i .i64,.i .i64,.s .u64],.st [.i .i64,.i .i64,.s .u64]] solve.Gj.pre solve.Gj.out
def root.Fm.pre:List Atom→Bool
  | [.i m]=>Cn (0≤m∧m<9223372036854775808)
  | _=>false
def root.Fm.out:List Atom→DV
  | [.i m]=>.tup [.int .u64 (Qp m),.bool (Qq m)]
  | _=>.undef
def root.Fm.spec:Entry:=entry [.i .u64] root.Fm.pre root.Fm.out
def root.Sqrt.pre:List Atom→Bool
  | [.i a]=>Ai a
  | _=>false
def root.Sqrt.out:List Atom→DV
  | [.i a]=>.tup [.int .u64 (G4 a),.int .u8 (Na a)]
  | _=>.undef
def root.Sqrt.spec:Entry:=entry [.i .u64] root.Sqrt.pre root.Sqrt.out
def Ae.Sqrt.pre:List Atom→Bool
  | [.i a]=>Ai a
  | _=>false
def Ae.Sqrt.out:List Atom→DV
  | [.i a]=>.int .u64 (G4 a)
  | _=>.undef
def Ae.Sqrt.spec:Entry:=entry [.i .u64] Ae.Sqrt.pre Ae.Sqrt.out
def compare.Sw.pre:List Atom→Bool
  | [.i a]=>Ai a
  | _=>false
def compare.Sw.out:List Atom→DV
  | [.i a]=>.int .i64 (Bz a)
  | _=>.undef
def compare.Sw.spec:Entry:=entry [.i .u64] compare.Sw.pre compare.Sw.out
def Ae.Norm.pre:List Atom→Bool
  | [.l x]=>C4 x&&Cn (List.length x≤64)
  | _=>false
def Ae.Norm.out:List Atom→DV
  | [.l x]=>.tup [.int .u64 (D7 x),.int .i64 (0:Int)]
  | _=>.undef
def Ae.Norm.spec:Entry:=entry [.s .u64] Ae.Norm.pre Ae.Norm.out
def Ak.Cp.pre:List Atom→Bool
  | [.l x]=>C4 x
  | _=>false
def Ak.Cp.out:List Atom→DV
  | [.l x]=>.bool (I2 x)
  | _=>.undef
def Ak.Cp.spec:Entry:=entry [.s .u64] Ak.Cp.pre Ak.Cp.out
def Ak.lead.pre:List Atom→Bool
  | [.l x]=>C4 x
  | _=>false
def Ak.lead.out:List Atom→DV
  | [.l x]=>.int .u64 (O1 x)
  | _=>.undef
def Ak.lead.spec:Entry:=entry [.s .u64] Ak.lead.pre Ak.lead.out
def Ak.Cr.pre:List Atom→Bool
  | [.l x,.i k]=>C4 x&&Cn (List.length x≤1000∧-2300≤k∧k≤2300)
  | _=>false
def Ak.Cr.out:List Atom→DV
  | [.l x,.i k]=>.ints .fresh .u64 (Bi x k)
  | _=>.undef
def Ak.Cr.spec:Entry:=entry [.s .u64,.i .i64] Ak.Cr.pre Ak.Cr.out
def Ak.Ew.pre:List Atom→Bool
  | [.i _i]=>true
  | _=>false
def Ak.Ew.out:List Atom→DV
  | [.i _i]=>.int .u64 (0:Int)
  | _=>.undef
def Ak.Ew.spec:Entry:=entry [.i .i64] Ak.Ew.pre Ak.Ew.out
def Ak.Ev.pre:List Atom→Bool
  | [.i i,.l y,.i d]=>(Cn (0≤i∧i<List.length y)&&Ah y)&&Ai d
  | _=>false
def Ak.Ev.out:List Atom→DV
  | [.i i,.l y,.i d]=>.int .u64 (E7 (List.getD y (Int.toNat i) 0) d)
  | _=>.undef
def Ak.Ev.spec:Entry:=entry [.i .i64,.cp [.s .u64],.cp [.i .u64]] Ak.Ev.pre Ak.Ev.out
def Ak.row.Zero.pre:List Atom→Bool
  | [.i n]=>Cn (1≤n∧n≤64)
  | _=>false
def Ak.row.Zero.out:List Atom→DV
  | [.i n]=>.ints .fresh .u64 (Ie (Int.toNat n) (fun _=>0))
  | _=>.undef
def Ak.row.Zero.spec:Entry:=entry [.i .i64,.fn 254 []] Ak.row.Zero.pre Ak.row.Zero.out
def Ak.row.Div.pre:List Atom→Bool
  | [.i n,.l y,.i d]=>(Cn (1≤n∧n≤64∧n=List.length y)&&Ah y)&&Ai d
  | _=>false
def Ak.row.Div.out:List Atom→DV
  | [.i n,.l y,.i d]=>.ints .fresh .u64 (Ie (Int.toNat n) (fun j=>E7 (List.getD y j 0) d))
  | _=>.undef
def Ak.row.Div.spec:Entry:=entry [.i .i64,.fn 259 [.cp [.s .u64],.cp [.i .u64]]] Ak.row.Div.pre Ak.row.Div.out
def Ak.Iq.pre:List Atom→Bool
  | [.l x]=>C4 x
  | _=>false
def Ak.Iq.out:List Atom→DV
  | [.l x]=>.tup [.ints .fresh .u64 ((B7 x).1),.int .u64 ((B7 x).2.1),.int .u64 ((B7 x).2.2.1),.int .i64 ((B7 x).2.2.2)]
  | _=>.undef
def Ak.Iq.spec:Entry:=entry [.s .u64] Ak.Iq.pre Ak.Iq.out
def Ak.Apply.pre:List Atom→Bool
  | [.i r,.i c,.l l,.i i,.i k,.l v,.i t]=>((Bh r c l&&Lf r c i k v)&&(Ah l&&Ah v))&&Ai t
  | _=>false
def Ak.Apply.out:List Atom→DV
  | [.i r,.i c,.l l,.i i,.i k,.l v,.i t]=>.tup [.agg [.int .i64 r,.int .i64 c,.ints (.own 114002 37) .u64 (Fu (Int.toNat r) (Int.toNat c) l i k v t)],.int .i64 (0:Int)]
  | _=>.undef
def Ak.Apply.spec:Entry:=entry [.st [.i .i64,.i .i64,.s .u64],.i .i64,.i .i64,.s .u64,.i .u64] Ak.Apply.pre Ak.Apply.out
def qr.down.pre:List Atom→Bool
  | [.i r,.i c,.l l]=>(Bh r c l&&D9 l)&&Ah l
  | _=>false
def qr.down.out:List Atom→DV
  | [.i r,.i c,.l l]=>.tup [.agg [.int .i64 ((E1 r c l).1),.int .i64 ((E1 r c l).2.1),.ints .arg .u64 ((E1 r c l).2.2.1)],.recs .fresh 2 (Ij r c l),.int .i64 ((E1 r c l).2.2.2)]
  | _=>.undef
def qr.down.spec:Entry:=entry [.st [.i .i64,.i .i64,.s .u64]] qr.down.pre qr.down.out
def qr.Cv.pre:List Atom→Bool
  | [.i _r,.i _c,.l l]=>Ah l
  | _=>false
def qr.Cv.out:List Atom→DV
  | [.i r,.i c,.l l]=>.tup [.agg [.int .i64 ((qX r c l).1),.int .i64 ((qX r c l).2.1),.ints .arg .u64 ((qX r c l).2.2.1)],.agg [.int .i64 ((rX r c l).1),.int .i64 ((rX r c l).2.1),.ints .arg .u64 ((rX r c l).2.2.1)],.int .i64 (Gl r c l)]
  | _=>.undef
def qr.Cv.spec:Entry:=entry [.st [.i .i64,.i .i64,.s .u64]] qr.Cv.pre qr.Cv.out
def law20.F9.pre:List Atom→Bool
  | []=>true
  | _=>false
def rq.both.pre:List Atom→Bool
  | [.i _r,.i _c,.l _l,.i _p,.i _q,.l _m]=>true
  | _=>false
def rq.both.out:List Atom→DV
  | [.i r,.i c,.l l,.i p,.i q,.l m]=>.tup [.agg [.int .i64 ((A5 p q m).1),.int .i64 ((A5 p q m).2.1),.ints .fresh .u64 ((A5 p q m).2.2.1)],.agg [.int .i64 ((A5 r c l).1),.int .i64 ((A5 r c l).2.1),.ints .fresh .u64 ((A5 r c l).2.2.1)]]
  | _=>.undef
def rq.both.spec:Entry:=entry [.st [.i .i64,.i .i64,.s .u64],.st [.i .i64,.i .i64,.s .u64]] rq.both.pre rq.both.out
def rq.Lq.pre:List Atom→Bool
  | [.i _r,.i _c,.l l]=>Ah l
  | _=>false
def rq.Lq.out:List Atom→DV
  | [.i r,.i c,.l l]=>.tup [.agg [.int .i64 ((Wl r c l).1),.int .i64 ((Wl r c l).2.1),.ints .fresh .u64 ((Wl r c l).2.2.1)],.agg [.int .i64 ((Vr r c l).1),.int .i64 ((Vr r c l).2.1),.ints .fresh .u64 ((Vr r c l).2.2.1)],.int .i64 (Q6 r c l)]
  | _=>.undef
def rq.Lq.spec:Entry:=entry [.st [.i .i64,.i .i64,.s .u64]] rq.Lq.pre rq.Lq.out
def A2.Check.pre:List Atom→Bool
  | [.i _r,.i _c,.l l,.i _p,.i _q,.l m,.i _u,.i _v,.l h]=>R7 l m h
  | _=>false
def A2.Check.out:List Atom→DV
  | [.i r,.i c,.l l,.i p,.i q,.l m,.i u,.i v,.l h]=>.int .i64 (Hw r c l p q m u v h)
  | _=>.undef
def A2.Check.spec:Entry:=entry [.st [.i .i64,.i .i64,.s .u64,.i .i64,.i .i64,.s .u64,.i .i64,.i .i64,.s .u64]] A2.Check.pre A2.Check.out
def A2.D2.pre:List Atom→Bool
  | [.i _r,.i _c,.l _l,.i x,.i y]=>Cn (-100≤x∧x≤100∧-100≤y∧y≤100)
  | _=>false
def A2.D2.out:List Atom→DV
  | [.i r,.i c,.l l,.i x,.i y]=>.agg [.int .i64 ((D4 r c l x 0 (y-x) c).1),.int .i64 ((D4 r c l x 0 (y-x) c).2.1),.ints .fresh .u64 ((D4 r c l x 0 (y-x) c).2.2.1)]
  | _=>.undef
def A2.D2.spec:Entry:=entry [.st [.i .i64,.i .i64,.s .u64],.i .i64,.i .i64] A2.D2.pre A2.D2.out
def A2.apart.pre:List Atom→Bool
  | [.i r,.i c,.l l,.i p,.i q,.l m,.i u,.i v,.l h]=>R7 l m h&&decide (Hw r c l p q m u v h=0)
  | _=>false
def A2.apart.out:List Atom→DV
  | [.i r,.i c,.l l,.i p,.i q,.l m,.i u,.i v,.l h]=>.tup [.agg [.int .i64 ((Me (gE r c l p q m u v h) (gT r c l)).1),.int .i64 ((Me (gE r c l p q m u v h) (gT r c l)).2.1),.ints .fresh .u64 ((Me (gE r c l p q m u v h) (gT r c l)).2.2.1),.int .i64 ((Me (gE r c l p q m u v h) (G3 c (gC r c l u v h))).1),.int .i64 ((Me (gE r c l p q m u v h) (G3 c (gC r c l u v h))).2.1),.ints .fresh .u64 ((Me (gE r c l p q m u v h) (G3 c (gC r c l u v h))).2.2.1),.int .i64 ((Me (gE r c l p q m u v h) (Fa r c (gC r c l u v h))).1),.int .i64 ((Me (gE r c l p q m u v h) (Fa r c (gC r c l u v h))).2.1),.ints .fresh .u64 ((Me (gE r c l p q m u v h) (Fa r c (gC r c l u v h))).2.2.1),.int .i64 ((Me (gE r c l p q m u v h) (G3 c (gC r c l p q m))).1),.int .i64 ((Me (gE r c l p q m u v h) (G3 c (gC r c l p q m))).2.1),.ints .fresh .u64 ((Me (gE r c l p q m u v h) (G3 c (gC r c l p q m))).2.2.1),.int .i64 ((Me (gE r c l p q m u v h) (Fa r c (gC r c l p q m))).1),.int .i64 ((Me (gE r c l p q m u v h) (Fa r c (gC r c l p q m))).2.1),.ints .fresh .u64 ((Me (gE r c l p q m u v h) (Fa r c (gC r c l p q m))).2.2.1)],.int .i64 (gE r c l p q m u v h)]
  | _=>.undef
def A2.apart.spec:Entry:=entry [.st [.i .i64,.i .i64,.s .u64,.i .i64,.i .i64,.s .u64,.i .i64,.i .i64,.s .u64]] A2.apart.pre A2.apart.out
def A2.errors.pre:List Atom→Bool
  | [.i _r,.i _c,.l l,.i _p,.i _q,.l m]=>Ah l&&Ah m
  | _=>false
def A2.errors.out:List Atom→DV
  | [.i r,.i c,.l l,.i p,.i q,.l m]=>.tup [.agg [.int .i64 ((erZ (r,c,l,0) (p,q,m,0)).1),.int .i64 ((erZ (r,c,l,0) (p,q,m,0)).2.1),.ints .fresh .u64 ((erZ (r,c,l,0) (p,q,m,0)).2.2.1)],.int .i64 ((erZ (r,c,l,0) (p,q,m,0)).2.2.2)]
  | _=>.undef
def A2.errors.spec:Entry:=entry [.st [.i .i64,.i .i64,.s .u64],.st [.i .i64,.i .i64,.s .u64]] A2.errors.pre A2.errors.out
def A2.Solve.pre:List Atom→Bool
  | [.i _r,.i _c,.l l,.i _p,.i _q,.l m,.i _u,.i _v,.l h]=>R7 l m h
  | _=>false
def A2.Solve.out:List Atom→DV
  | [.i r,.i c,.l l,.i p,.i q,.l m,.i u,.i v,.l h]=>.tup [.agg [.int .i64 ((gX r c l p q m u v h).1),.int .i64 ((gX r c l p q m u v h).2.1),.ints .fresh .u64 ((gX r c l p q m u v h).2.2.1)],.agg [.int .i64 ((gY r c l p q m u v h).1),.int .i64 ((gY r c l p q m u v h).2.1),.ints .fresh .u64 ((gY r c l p q m u v h).2.2.1)],.int .i64 ((gX r c l p q m u v h).2.2.2)]
  | _=>.undef
def A2.Solve.spec:Entry:=entry [.st [.i .i64,.i .i64,.s .u64,.i .i64,.i .i64,.s .u64,.i .i64,.i .i64,.s .u64]] A2.Solve.pre A2.Solve.out
def Dw.Ce.pre:List Atom→Bool
  | [.l x]=>C4 x&&Cn (List.length x=1)
  | _=>false
def Dw.Ce.out:List Atom→DV
  | [.l x]=>.agg [.bool (Ar (sqM (List.getD x 0 0))),.ints .arg .u32 (Ag (sqM (List.getD x 0 0))),.int .i64 (sqE (List.getD x 0 0))]
  | _=>.undef
def Dw.Ce.spec:Entry:=entry [.s .u64] Dw.Ce.pre Dw.Ce.out
def B1.one.pre:List Atom→Bool
  | [.i _b]=>true
  | _=>false
def B1.one.out:List Atom→DV
  | [.i b]=>.agg [.int .i64 (1:Int),.int .i64 (1:Int),.ints .fresh .u64 ([b])]
  | _=>.undef
def B1.one.spec:Entry:=entry [.i .u64] B1.one.pre B1.one.out
def B1.F9.pre:List Atom→Bool
  | []=>true
  | _=>false
def B1.F9.out:List Atom→DV
  | []=>.bool true
  | _=>.undef
def B1.F9.spec:Entry:=entry [] B1.F9.pre B1.F9.out
def B1.Bv.pre:List Atom→Bool
  | [.i _r,.i _c,.l l,.i _p,.i _q,.l m,.i _u,.i _v,.l h]=>R7 l m h
  | _=>false
def B1.Bv.out:List Atom→DV
  | [.i _r,.i _c,.l _l,.i _p,.i _q,.l _m,.i _u,.i _v,.l _h]=>.bool true
  | _=>.undef
def B1.Bv.spec:Entry:=entry [.st [.i .i64,.i .i64,.s .u64,.i .i64,.i .i64,.s .u64,.i .i64,.i .i64,.s .u64]] B1.Bv.pre B1.Bv.out
def B9.Ja.pre:List Atom→Bool
  | [.i x]=>Ai x
  | _=>false
def B9.Ja.out:List Atom→DV
  | [.i x]=>.int .i64 (D0 x)
  | _=>.undef
def B9.Ja.spec:Entry:=entry [.i .u64] B9.Ja.pre B9.Ja.out
def Ac.plus.own.pre:List Atom→Bool
  | [.l a,.l b]=>E5 a&&E5 b
  | _=>false
def Ac.plus.own.out:List Atom→DV
  | [.l a,.l b]=>.ints (.own 100005 173) .u32 (G0 a b)
  | _=>.undef
def Ac.plus.own.spec:Entry:=entry [.s .u32,.s .u32] Ac.plus.own.pre Ac.plus.own.out
theorem tt0:∀ a b c:Bool,((a==a)&&(b&&(c&&true)))=(b&&c):=by decide
theorem tt1:∀ a b:Bool,(bif a then b else false)=(a&&b):=by decide
theorem Q9:∀ a:Bool,(((!a)||(a==true))&&true)=true:=by decide
theorem Kq:∀ a:Bool,((!(a==true))||((((!(a==true))||(a==true))&&true)&&true))=true:=by decide
theorem N7:∀ a:Bool,((!(a==true))||true)=true:=by decide
theorem tt5:∀ a b:Bool,(bif a then true else b)=(a||b):=by decide
theorem tt6:∀ a:Bool,((!(!a))||(a==false))=true:=by decide
theorem Tp:∀ a:Bool,((!(a==false))||((((!(a==false))||(a==false))&&true)&&true))=true:=by decide
theorem tt8:∀ a:Bool,((!(a==false))||((((!(a==false))||(a==false))&&(((!(a==false))||(a==false))&&true))&&true))=true:=by decide
theorem Vk:∀ a:Bool,((!(a==false))||true)=true:=by decide
theorem C3:∀ a:Bool,(a&&true)=a:=by decide
theorem tt11:∀ a b c d e:Bool,(bif a then (bif b then true else (bif c then (bif d then true else e) else false)) else false)=(a&&(b||(c&&(d||e)))):=by decide
theorem tt12:∀ a b:Bool,((!(a==true))||(((!(a==true))||(a==true))&&((!(!b))||((a==true)&&(b==false)))))=true:=by decide
theorem tt13:∀ a b c:Bool,((!((a==true)&&(b==false)))||(((!((a==true)&&(b==false)))||((a==true)&&(b==false)))&&(((!c)||(((a==true)&&(b==false))&&(c==true)))&&true)))=true:=by decide
theorem tt14:∀ a b c d:Bool,((!(((a==true)&&(b==false))&&(c==true)))||(((!(((a==true)&&(b==false))&&(c==true)))||(((a==true)&&(b==false))&&(c==true)))&&((!(!d))||((((a==true)&&(b==false))&&(c==true))&&(d==false)))))=true:=by decide
theorem Ap0:∀ a b c d:Bool,((!((((a==true)&&(b==false))&&(c==true))&&(d==false)))||((((!((((a==true)&&(b==false))&&(c==true))&&(d==false)))||((((a==true)&&(b==false))&&(c==true))&&(d==false)))&&true)&&true))=true:=by decide
theorem tt16:∀ a b c d:Bool,((!((((a==true)&&(b==false))&&(c==true))&&(d==false)))||true)=true:=by decide
theorem tt17:∀ a b c:Bool,((!(((a==true)&&(b==false))&&(c==true)))||((((!(((a==true)&&(b==false))&&(c==true)))||(((a==true)&&(b==false))&&(c==true)))&&true)&&true))=true:=by decide
theorem tt18:∀ a b c:Bool,((!(((a==true)&&(b==false))&&(c==true)))||true)=true:=by decide
theorem tt19:∀ a b:Bool,((!((a==true)&&(b==false)))||((((!((a==true)&&(b==false)))||((a==true)&&(b==false)))&&true)&&true))=true:=by decide
theorem tt20:∀ a b:Bool,((!((a==true)&&(b==false)))||((((!((a==true)&&(b==false)))||((a==true)&&(b==false)))&&(((!((a==true)&&(b==false)))||((a==true)&&(b==false)))&&true))&&true))=true:=by decide
theorem Apz:∀ a b:Bool,((!((a==true)&&(b==false)))||true)=true:=by decide
theorem Agm:∀ a:Bool,((!(a==true))||((((!(a==true))||(a==true))&&(((!(a==true))||(a==true))&&true))&&true))=true:=by decide
theorem Apy:∀ a b:Bool,(bif (!a) then true else b)=((!a)||b):=by decide
theorem Ad7:∀ a:Bool,((!(!(!a)))||((!a)==false))=true:=by decide
theorem Tq:∀ a:Bool,((!((!a)==false))||((((!((!a)==false))||((!a)==false))&&true)&&true))=true:=by decide
theorem Ad6:∀ a:Bool,((!((!a)==false))||true)=true:=by decide
theorem tt27:∀ a b:Bool,(bif a then (!b) else false)=(a&&(!b)):=by decide
theorem Am7:∀ a b:Bool,(bif (!a) then true else (!b))=((!a)||(!b)):=by decide
theorem Am6:∀ a b:Bool,((!((!a)==false))||((((!((!a)==false))||((!a)==false))&&true)&&b))=((!a)||b):=by decide
theorem Apx:∀ a b c d:Bool,(bif (bif a then b else false) then true else (bif c then d else false))=((a&&b)||(c&&d)):=by decide
theorem Apw:∀ a b:Bool,((!(!(bif a then b else false)))||((bif a then b else false)==false))=true:=by decide
theorem Apv:∀ a b c:Bool,((!((bif a then b else false)==false))||(((!((bif a then b else false)==false))||((bif a then b else false)==false))&&(((!c)||(((bif a then b else false)==false)&&(c==true)))&&true)))=true:=by decide
theorem Apu:∀ a b c:Bool,((!(((bif a then b else false)==false)&&(c==true)))||((((!(((bif a then b else false)==false)&&(c==true)))||(((bif a then b else false)==false)&&(c==true)))&&true)&&true))=true:=by decide
theorem Apt:∀ a b c:Bool,((!(((bif a then b else false)==false)&&(c==true)))||true)=true:=by decide
theorem Aka:∀ a b:Bool,((!((bif a then b else false)==false))||((((!((bif a then b else false)==false))||((bif a then b else false)==false))&&true)&&true))=true:=by decide
theorem Aps:∀ a b:Bool,((!((bif a then b else false)==false))||true)=true:=by decide
theorem Li:∀ a b:Bool,((a&&b)&&true)=(a&&b):=by decide
theorem tt38:∀ a b c:Bool,(bif (bif (!a) then true else (!b)) then true else c)=(((!a)||(!b))||c):=by decide
theorem tt39:∀ a b:Bool,((!(!(bif (!a) then true else (!b))))||((bif (!a) then true else (!b))==false))=true:=by decide
theorem Apr:∀ a b:Bool,((!((bif (!a) then true else (!b))==false))||((((!((bif (!a) then true else (!b))==false))||((bif (!a) then true else (!b))==false))&&(((!((bif (!a) then true else (!b))==false))||((bif (!a) then true else (!b))==false))&&true))&&true))=true:=by decide
theorem Aj9:∀ a b:Bool,((!((bif (!a) then true else (!b))==false))||((((!((bif (!a) then true else (!b))==false))||((bif (!a) then true else (!b))==false))&&true)&&true))=true:=by decide
theorem Am5:∀ a b:Bool,((!((bif (!a) then true else (!b))==false))||true)=true:=by decide
theorem tt43:∀ a b c d:Bool,(((a&&b)&&(c&&d))&&true)=((a&&b)&&(c&&d)):=by decide
theorem tt44:∀ a b c d e f g h:Bool,(bif (bif (bif (bif (bif (bif (bif a then true else b) then true else c) then true else d) then true else e) then true else f) then true else g) then true else h)=(((((((a||b)||c)||d)||e)||f)||g)||h):=by decide
theorem tt45:∀ a b c d e f g:Bool,((!(!(bif (bif (bif (bif (bif (bif a then true else b) then true else c) then true else d) then true else e) then true else f) then true else g)))||((bif (bif (bif (bif (bif (bif a then true else b) then true else c) then true else d) then true else e) then true else f) then true else g)==false))=true:=by decide
theorem Apq:∀ a b c d e f g:Bool,((!((bif (bif (bif (bif (bif (bif a then true else b) then true else c) then true else d) then true else e) then true else f) then true else g)==false))||((((!((bif (bif (bif (bif (bif (bif a then true else b) then true else c) then true else d) then true else e) then true else f) then true else g)==false))||((bif (bif (bif (bif (bif (bif a then true else b) then true else c) then true else d) then true else e) then true else f) then true else g)==false))&&(((!((bif (bif (bif (bif (bif (bif a then true else b) then true else c) then true else d) then true else e) then true else f) then true else g)==false))||((bif (bif (bif (bif (bif (bif a then true else b) then true else c) then true else d) then true else e) then true else f) then true else g)==false))&&true))&&true))=true:=by decide
theorem Am4:∀ a b c d e f g:Bool,((!((bif (bif (bif (bif (bif (bif a then true else b) then true else c) then true else d) then true else e) then true else f) then true else g)==false))||true)=true:=by decide
theorem tt48:∀ a b c d e f g:Bool,((!((bif (bif (bif (bif (bif (bif a then true else b) then true else c) then true else d) then true else e) then true else f) then true else g)==false))||((((!((bif (bif (bif (bif (bif (bif a then true else b) then true else c) then true else d) then true else e) then true else f) then true else g)==false))||((bif (bif (bif (bif (bif (bif a then true else b) then true else c) then true else d) then true else e) then true else f) then true else g)==false))&&true)&&true))=true:=by decide
theorem tt49:∀ a b c d e f:Bool,((!(!(bif (bif (bif (bif (bif a then true else b) then true else c) then true else d) then true else e) then true else f)))||((bif (bif (bif (bif (bif a then true else b) then true else c) then true else d) then true else e) then true else f)==false))=true:=by decide
theorem Apo:∀ a b c d e f:Bool,((!((bif (bif (bif (bif (bif a then true else b) then true else c) then true else d) then true else e) then true else f)==false))||((((!((bif (bif (bif (bif (bif a then true else b) then true else c) then true else d) then true else e) then true else f)==false))||((bif (bif (bif (bif (bif a then true else b) then true else c) then true else d) then true else e) then true else f)==false))&&(((!((bif (bif (bif (bif (bif a then true else b) then true else c) then true else d) then true else e) then true else f)==false))||((bif (bif (bif (bif (bif a then true else b) then true else c) then true else d) then true else e) then true else f)==false))&&true))&&true))=true:=by decide
theorem Am3:∀ a b c d e f:Bool,((!((bif (bif (bif (bif (bif a then true else b) then true else c) then true else d) then true else e) then true else f)==false))||true)=true:=by decide
theorem tt52:∀ a b c d e f:Bool,((!((bif (bif (bif (bif (bif a then true else b) then true else c) then true else d) then true else e) then true else f)==false))||((((!((bif (bif (bif (bif (bif a then true else b) then true else c) then true else d) then true else e) then true else f)==false))||((bif (bif (bif (bif (bif a then true else b) then true else c) then true else d) then true else e) then true else f)==false))&&true)&&true))=true:=by decide
theorem tt53:∀ a b c d e:Bool,((!(!(bif (bif (bif (bif a then true else b) then true else c) then true else d) then true else e)))||((bif (bif (bif (bif a then true else b) then true else c) then true else d) then true else e)==false))=true:=by decide
theorem tt54:∀ a b c d e:Bool,((!((bif (bif (bif (bif a then true else b) then true else c) then true else d) then true else e)==false))||((((!((bif (bif (bif (bif a then true else b) then true else c) then true else d) then true else e)==false))||((bif (bif (bif (bif a then true else b) then true else c) then true else d) then true else e)==false))&&(((!((bif (bif (bif (bif a then true else b) then true else c) then true else d) then true else e)==false))||((bif (bif (bif (bif a then true else b) then true else c) then true else d) then true else e)==false))&&true))&&true))=true:=by decide
theorem tt55:∀ a b c d e:Bool,((!((bif (bif (bif (bif a then true else b) then true else c) then true else d) then true else e)==false))||((((!((bif (bif (bif (bif a then true else b) then true else c) then true else d) then true else e)==false))||((bif (bif (bif (bif a then true else b) then true else c) then true else d) then true else e)==false))&&true)&&true))=true:=by decide
theorem Apn:∀ a b c d e:Bool,((!((bif (bif (bif (bif a then true else b) then true else c) then true else d) then true else e)==false))||true)=true:=by decide
theorem Am2:∀ a b c d:Bool,((!(!(bif (bif (bif a then true else b) then true else c) then true else d)))||((bif (bif (bif a then true else b) then true else c) then true else d)==false))=true:=by decide
theorem Aj7:∀ a b c d:Bool,((!((bif (bif (bif a then true else b) then true else c) then true else d)==false))||((((!((bif (bif (bif a then true else b) then true else c) then true else d)==false))||((bif (bif (bif a then true else b) then true else c) then true else d)==false))&&(((!((bif (bif (bif a then true else b) then true else c) then true else d)==false))||((bif (bif (bif a then true else b) then true else c) then true else d)==false))&&true))&&true))=true:=by decide
theorem Aj6:∀ a b c d:Bool,((!((bif (bif (bif a then true else b) then true else c) then true else d)==false))||((((!((bif (bif (bif a then true else b) then true else c) then true else d)==false))||((bif (bif (bif a then true else b) then true else c) then true else d)==false))&&true)&&true))=true:=by decide
theorem Abe:∀ a b c d:Bool,((!((bif (bif (bif a then true else b) then true else c) then true else d)==false))||true)=true:=by decide
theorem Am1:∀ a b c:Bool,((!(!(bif (bif a then true else b) then true else c)))||((bif (bif a then true else b) then true else c)==false))=true:=by decide
theorem Apm:∀ a b c:Bool,((!((bif (bif a then true else b) then true else c)==false))||((((!((bif (bif a then true else b) then true else c)==false))||((bif (bif a then true else b) then true else c)==false))&&true)&&true))=true:=by decide
theorem Aj5:∀ a b c:Bool,((!((bif (bif a then true else b) then true else c)==false))||true)=true:=by decide
theorem Am0:∀ a b:Bool,((!(!(bif a then true else b)))||((bif a then true else b)==false))=true:=by decide
theorem Ad5:∀ a b:Bool,((!((bif a then true else b)==false))||((((!((bif a then true else b)==false))||((bif a then true else b)==false))&&true)&&true))=true:=by decide
theorem Agl:∀ a b:Bool,((!((bif a then true else b)==false))||true)=true:=by decide
theorem tt67:∀ a b:Bool,(!(a&&(b&&true)))=(!(a&&b)):=by decide
theorem tt75:∀ a b:Bool,(((!(bif a then b else false))||((bif a then b else false)==true))&&true)=true:=by decide
theorem tt76:∀ a b:Bool,((!((bif a then b else false)==true))||((((!((bif a then b else false)==true))||((bif a then b else false)==true))&&true)&&true))=true:=by decide
theorem tt77:∀ a b:Bool,((!((bif a then b else false)==true))||true)=true:=by decide
theorem tt78:∀ a b c:Bool,((!((bif a then b else false)==true))||((((!((bif a then b else false)==true))||((bif a then b else false)==true))&&(((!((bif a then b else false)==true))||((bif a then b else false)==true))&&true))&&c))=((!(a&&b))||c):=by decide
theorem tt79:∀ a b c:Bool,((!(a==true))||((((!(a==true))||(a==true))&&(((!(a==true))||(a==true))&&true))&&(b&&c)))=((!a)||(b&&c)):=by decide
theorem Apk:∀ a:Bool,(((a&&true)&&true)&&true)=a:=by decide
theorem Apj:∀ a b:Bool,((!(a==true))||((((!(a==true))||(a==true))&&true)&&b))=((!a)||b):=by decide
theorem tt82:∀ a b c:Bool,(bif (!(a==b)) then true else c)=((!(a==b))||c):=by decide
theorem tt83:∀ a b:Bool,((!(!(!(a==b))))||((!(a==b))==false))=true:=by decide
theorem tt84:∀ a b:Bool,((!((!(a==b))==false))||((((!((!(a==b))==false))||((!(a==b))==false))&&(((!((!(a==b))==false))||((!(a==b))==false))&&true))&&true))=true:=by decide
theorem Aj4:∀ a b:Bool,((!((!(a==b))==false))||((((!((!(a==b))==false))||((!(a==b))==false))&&true)&&true))=true:=by decide
theorem Api:∀ a b:Bool,((!((!(a==b))==false))||true)=true:=by decide
theorem tt87:∀ a b:Bool,((!(a==true))||((((!(a==true))||(a==true))&&(((!(a==true))||(a==true))&&true))&&b))=((!a)||b):=by decide
theorem Aph:∀ a b:Bool,((!(a==false))||((((!(a==false))||(a==false))&&true)&&b))=(a||b):=by decide
theorem tt89:∀ a b:Bool,(bif a then true else (!b))=(a||(!b)):=by decide
theorem Amz:∀ a b c:Bool,((a&&b)&&((a&&c)&&true))=((a&&b)&&(a&&c)):=by decide
theorem tt91:∀ a:Bool,((a&&true)&&true)=a:=by decide
theorem Apg:∀ a b c d e:Bool,(bif (bif (bif (bif a then true else b) then true else c) then true else d) then true else e)=((((a||b)||c)||d)||e):=by decide
theorem Apf:∀ a b:Bool,((!((bif a then true else b)==false))||((((!((bif a then true else b)==false))||((bif a then true else b)==false))&&(((!((bif a then true else b)==false))||((bif a then true else b)==false))&&true))&&true))=true:=by decide
theorem tt95:∀ a b c:Bool,((!((bif a then b else false)==true))||((((!((bif a then b else false)==true))||((bif a then b else false)==true))&&true)&&c))=((!(a&&b))||c):=by decide
theorem Ap3:∀ a b c:Bool,((!((bif (bif a then true else b) then true else c)==false))||((((!((bif (bif a then true else b) then true else c)==false))||((bif (bif a then true else b) then true else c)==false))&&(((!((bif (bif a then true else b) then true else c)==false))||((bif (bif a then true else b) then true else c)==false))&&true))&&true))=true:=by decide
theorem Ap2:∀ a b c:Bool,(((bif a then b else false)==true)&&((((!((bif a then b else false)==true))||((bif a then b else false)==true))&&true)&&c))=((a&&b)&&c):=by decide
theorem Ap1:∀ a b:Bool,(((bif a then b else false)==true)&&true)=(a&&b):=by decide
open Go Go.Den Go.Rnd Go.Proofs
set_option maxRecDepth 100000
namespace EqSoft
def soft.Split.Ba:List (Nat × Entry):=[]
def soft.Split.E:Env:=Bc (A9 soft.Split.Ba) (fun _=>false) (fun _=>none) (fun _=>none)
theorem soft.Split.ev (N:Nat) (x:Int):By soft.Split.E N Tryz.f206 (Am Tryz.f206) [.int .u64 x]=some (.agg [.bool ((Ct .u64 x 63)==(1:Int)),.int .i64 (Ab (E8 .u64 (Ct .u64 x 52) 2047)),.int .u64 (E8 .u64 x 4503599627370495)]):=by kernel_rfl
abbrev _root_.Go.Proofs.S1.soft.Split.Kn:=A7 Tryz.prog 206 soft.Split.spec
theorem soft.Split.Ad (hk:Ax Tryz.prog soft.Split.Ba) (h:∀ (x:Int),soft.Split.pre [.i x]=true→Bd soft.Split.E Tryz.f206 [.int .u64 x] (soft.Split.out [.i x])):soft.Split.Kn :=
  Al (A0 hk _ _ _) Tryz.func206 (by kernel_rfl) (by kernel_rfl) h
def soft.Kind.Ba:List (Nat × Entry):=[(206,soft.Split.spec)]
def soft.Kind.E:Env:=Bc (A9 soft.Kind.Ba) (fun _=>false) (fun _=>none) (fun _=>none)
theorem soft.Kind.ev (N:Nat) (x:Int):By soft.Kind.E N Tryz.f155 (Am Tryz.f155) [.int .u64 x]=bif (Ai x) then bif (((Kb x)==(2047:Int))&&((Ca x)==(0:Int))) then some (.int .i64 3) else bif ((Kb x)==(2047:Int)) then some (.int .i64 4) else bif (A1 0 (Kb x)) then some (.int .i64 2) else bif (A1 0 (Ca x)) then some (.int .i64 1) else some (.int .i64 0) else none :=
  Eq.trans (by kernel_rfl)
  (E3 (C0 (tt0 (Dd x) ((Kb x)==(2047:Int)) ((Ca x)==(0:Int))) rfl rfl) rfl)
abbrev _root_.Go.Proofs.S1.soft.Kind.Kn:=A7 Tryz.prog 155 soft.Kind.spec
theorem soft.Kind.Ad (hk:Ax Tryz.prog soft.Kind.Ba) (h:∀ (x:Int),soft.Kind.pre [.i x]=true→Bd soft.Kind.E Tryz.f155 [.int .u64 x] (soft.Kind.out [.i x])):soft.Kind.Kn :=
  Al (A0 hk _ _ _) Tryz.func155 (by kernel_rfl) (by kernel_rfl) h
def soft.Sign.Ba:List (Nat × Entry):=[]
def soft.Sign.E:Env:=Bc (A9 soft.Sign.Ba) (fun _=>false) (fun _=>none) (fun _=>none)
theorem soft.Sign.ev (N:Nat) (x:Int):By soft.Sign.E N Tryz.f213 (Am Tryz.f213) [.int .u64 x]=some (.bool ((Ct .u64 x 63)==(1:Int))):=by kernel_rfl
abbrev _root_.Go.Proofs.S1.soft.Sign.Kn:=A7 Tryz.prog 213 soft.Sign.spec
theorem soft.Sign.Ad (hk:Ax Tryz.prog soft.Sign.Ba) (h:∀ (x:Int),soft.Sign.pre [.i x]=true→Bd soft.Sign.E Tryz.f213 [.int .u64 x] (soft.Sign.out [.i x])):soft.Sign.Kn :=
  Al (A0 hk _ _ _) Tryz.func213 (by kernel_rfl) (by kernel_rfl) h
def soft.Finite.Ba:List (Nat × Entry):=[(155,soft.Kind.spec)]
def soft.Finite.E:Env:=Bc (A9 soft.Finite.Ba) (fun _=>false) (fun _=>none) (fun _=>none)
theorem soft.Finite.ev (N:Nat) (x:Int):By soft.Finite.E N Tryz.f148 (Am Tryz.f148) [.int .u64 x]=bif (Ai x) then bif ((A4 x)==(3:Int)) then some (.bool false) else bif ((A4 x)==(4:Int)) then some (.bool false) else some (.bool true) else none:=by kernel_rfl
abbrev _root_.Go.Proofs.S1.soft.Finite.Kn:=A7 Tryz.prog 148 soft.Finite.spec
theorem soft.Finite.Ad (hk:Ax Tryz.prog soft.Finite.Ba) (h:∀ (x:Int),soft.Finite.pre [.i x]=true→Bd soft.Finite.E Tryz.f148 [.int .u64 x] (soft.Finite.out [.i x])):soft.Finite.Kn :=
  Al (A0 hk _ _ _) Tryz.func148 (by kernel_rfl) (by kernel_rfl) h
def soft.Fe.Ba:List (Nat × Entry):=[]
def soft.Fe.E:Env:=Bc (A9 soft.Fe.Ba) (fun _=>false) (fun _=>none) (fun _=>none)
theorem soft.Fe.ev (N:Nat) (x:Int):By soft.Fe.E N Tryz.f233 (Am Tryz.f233) [.int .u64 x]=some (.int .u64 (Al3 .u64 x 9223372036854775808)):=by kernel_rfl
abbrev _root_.Go.Proofs.S1.soft.Fe.Kn:=A7 Tryz.prog 233 soft.Fe.spec
theorem soft.Fe.Ad (hk:Ax Tryz.prog soft.Fe.Ba) (h:∀ (x:Int),soft.Fe.pre [.i x]=true→Bd soft.Fe.E Tryz.f233 [.int .u64 x] (soft.Fe.out [.i x])):soft.Fe.Kn :=
  Al (A0 hk _ _ _) Tryz.func233 (by kernel_rfl) (by kernel_rfl) h
def soft.E2.Ba:List (Nat × Entry):=[(206,soft.Split.spec)]
def soft.E2.E:Env:=Bc (A9 soft.E2.Ba) (fun _=>false) (fun _=>none) (fun _=>none)
theorem soft.E2.ev (N:Nat) (x:Int):By soft.E2.E N Tryz.f211 (Am Tryz.f211) [.int .u64 x]=bif (Ai x) then bif ((Kb x)==(0:Int)) then some (.tup [.int .u64 (Ca x),.int .i64 (-1074:Int)]) else some (.tup [.int .u64 (G6 .u64 (Ca x) 4503599627370496),.int .i64 (Ab ((Kb x)-1075))]) else none:=by kernel_rfl
abbrev _root_.Go.Proofs.S1.soft.E2.Kn:=A7 Tryz.prog 211 soft.E2.spec
theorem soft.E2.Ad (hk:Ax Tryz.prog soft.E2.Ba) (h:∀ (x:Int),soft.E2.pre [.i x]=true→Bd soft.E2.E Tryz.f211 [.int .u64 x] (soft.E2.out [.i x])):soft.E2.Kn :=
  Al (A0 hk _ _ _) Tryz.func211 (by kernel_rfl) (by kernel_rfl) h
def soft.Pack.Ba:List (Nat × Entry):=[(233,soft.Fe.spec)]
def soft.Pack.E (rk:Nat):Env:=Bc (A9 ((239,Aem [.b,.i .u64,.i .i64] soft.Pack.pre soft.Pack.out soft.Pack.mu rk)::soft.Pack.Ba)) (fun _=>false) (fun _=>none) (fun _=>none)
theorem soft.Pack.ev (N rk:Nat) (n:Bool) (m e:Int):By (soft.Pack.E rk) N Tryz.f239 (Am Tryz.f239) [.bool n,.int .u64 m,.int .i64 e]=bif (m==(0:Int)) then bif n then bif (Ai 0) then some (.int .u64 (Db 0)) else none else some (.int .u64 0) else bif (Iw 9007199254740992 m) then bif ((Iu (Ct .u64 m 1) (Ab (e+1)))&&(Cn ((L7 (Ct .u64 m 1) (Ab (e+1)))<rk))) then some (.int .u64 (Qg n (Ct .u64 m 1) (Ab (e+1)))) else none else bif ((A1 m 4503599627370496)&&(A1 (-1074:Int) e)) then bif ((Iu (Bm .u64 m 1) (Ab (e-1)))&&(Cn ((L7 (Bm .u64 m 1) (Ab (e-1)))<rk))) then some (.int .u64 (Qg n (Bm .u64 m 1) (Ab (e-1)))) else none else bif (A1 m 4503599627370496) then bif n then bif (Ai m) then some (.int .u64 (Db m)) else none else some (.int .u64 m) else bif (Iw 2047 (Ab (e+1075))) then bif n then bif (Ai 9218868437227405312) then some (.int .u64 (Db 9218868437227405312)) else none else some (.int .u64 9218868437227405312) else bif n then bif (Ai (G6 .u64 (Bm .u64 (A3 (Ab (e+1075))) 52) (E8 .u64 m 4503599627370495))) then some (.int .u64 (Db (G6 .u64 (Bm .u64 (A3 (Ab (e+1075))) 52) (E8 .u64 m 4503599627370495)))) else none else some (.int .u64 (G6 .u64 (Bm .u64 (A3 (Ab (e+1075))) 52) (E8 .u64 m 4503599627370495))) :=
  Eq.trans (by kernel_rfl)
  (E3 rfl (E3 rfl (Au (N7 (A1 m 4503599627370496)) (Au (Kq (A1 m 4503599627370496)) (Au (Q9 (A1 m 4503599627370496)) (C0 (tt1 (A1 m 4503599627370496) (A1 (-1074:Int) e)) rfl rfl))))))
theorem soft.Pack.Ad (hk:Ax Tryz.prog soft.Pack.Ba) (h:∀ (rk:Nat) (n:Bool) (m e:Int),soft.Pack.pre [.b n,.i m,.i e]=true→soft.Pack.mu [.b n,.i m,.i e]<rk+1→∃ N dv drops,By (soft.Pack.E rk) N Tryz.f239 (Am Tryz.f239) [.bool n,.int .u64 m,.int .i64 e]=some dv∧Wk drops dv (soft.Pack.out [.b n,.i m,.i e])):A7 Tryz.prog 239 soft.Pack.spec:=by
  have call:=Mk (f:=239) Tryz.func239 (by kernel_rfl) (show Tryz.f239.body=some (Am Tryz.f239) by kernel_rfl)
  refine ⟨Ab6 (E:=soft.Pack.E) Tryz.func239 (show Tryz.f239.body=some (Am Tryz.f239) by kernel_rfl) soft.Pack.mu (fun rk hm=>A0 (.cons ⟨hm,call⟩ hk) _ _ _) fun rk ats dvs he hp hr=>?_,call⟩
  obtain ⟨n,_,_,rfl,rfl,he0⟩:=he.Aqq
  obtain ⟨m,_,_,rfl,rfl,he1⟩:=he0.Aif
  obtain ⟨e,_,_,rfl,rfl,he2⟩:=he1.Aif
  obtain ⟨rfl,rfl⟩:=he2.Xy
  exact h rk n m e hp hr
abbrev _root_.Go.Proofs.S1.soft.Pack.Kn:Prop:=A7 Tryz.prog 239 soft.Pack.spec
def soft.Cq.hint:Nat→Option A6
  | 0=>some { keep:=[0,1,2,3,10],objs:=[],boxes:=[] }
  | _=>none
def soft.Cq.Ba:List (Nat × Entry):=[(155,soft.Kind.spec),(239,soft.Pack.spec)]
def soft.Cq.live:Nat→Option (List Nat)
  | 7=>some [0,1,2,3,10]
  | 12=>some [0,2,3,10,11,12,13,14]
  | 14=>some [0,2,10,11,14]
  | 16=>some [0,2,10,11,14]
  | 18=>some [14,15,16]
  | _=>none
def soft.Cq.E:Env:=Bc (A9 soft.Cq.Ba) (fun _=>false) soft.Cq.hint soft.Cq.live
def soft.Cq.L0 (N M:Nat) (n:Bool) (m e:Int) (r:Bool) (p10:Int):Option DV:=B2 soft.Cq.E N Tryz.f212 (Am Tryz.f212) [1,1,1,0,0] [] M ⟨Fw 111 [(0,.bool n),(1,.int .u64 m),(2,.int .i64 e),(3,.bool r),(10,.int .i64 p10)],[]⟩
def soft.Cq.C7 (N:Nat) (n:Bool) (m e:Int) (r:Bool) (p10_1:Int):Option DV:=cutAt soft.Cq.E N Tryz.f212 (Am Tryz.f212) [1,1,1,1] [] ⟨Fw 111 [(0,.bool n),(1,.int .u64 m),(2,.int .i64 e),(3,.bool r),(10,.int .i64 p10_1)],[]⟩
def soft.Cq.C12 (N:Nat) (n:Bool) (e:Int) (r:Bool) (p10_2 p11_1:Int) (p12 p13:Int) (p14:Bool):Option DV:=cutAt soft.Cq.E N Tryz.f212 (Am Tryz.f212) [1,1,1,1,1,1,1,1,0] [] ⟨Fw 111 [(0,.bool n),(2,.int .i64 e),(3,.bool r),(10,.int .i64 p10_2),(11,.int .u64 p11_1),(12,.int .u64 p12),(13,.int .u64 p13),(14,.bool p14)],[]⟩
def soft.Cq.C14 (N:Nat) (n:Bool) (e p10_3 p11_2:Int) (p14_1:Bool):Option DV:=cutAt soft.Cq.E N Tryz.f212 (Am Tryz.f212) [1,1,1,1,1,1,1,1,1,0] [] ⟨Fw 111 [(0,.bool n),(2,.int .i64 e),(10,.int .i64 p10_3),(11,.int .u64 p11_2),(14,.bool p14_1)],[]⟩
def soft.Cq.C16 (N:Nat) (n:Bool) (e p11 p10_4:Int) (p14_2:Bool):Option DV:=cutAt soft.Cq.E N Tryz.f212 (Am Tryz.f212) [1,1,1,1,1,1,1,1,1,1] [] ⟨Fw 111 [(0,.bool n),(2,.int .i64 e),(10,.int .i64 p10_4),(11,.int .u64 p11),(14,.bool p14_2)],[]⟩
def soft.Cq.C18 (N:Nat) (p14_3:Bool) (p15:Int):Option DV:=cutAt soft.Cq.E N Tryz.f212 (Am Tryz.f212) [1,1,1,1,1,1,1,1,1,1,1,1,0] [] ⟨Fw 111 [(14,.bool p14_3),(15,.int .u64 p15),(16,.int .u8 0)],[]⟩
theorem soft.Cq.At (N M:Nat) (n:Bool) (m e:Int) (r:Bool) (p10:Int):soft.Cq.L0 N (M+1) n m e r p10=bif (decide (0≤p10)) then bif ((Iw 9007199254740992 (Ct .u64 m p10))||(A1 (Ab (e+p10)) (-1074:Int))) then bif ((Ab (p10+1))==(63:Int)) then soft.Cq.C7 N n m e r (Ab (p10+1)) else soft.Cq.L0 N M n m e r (Ab (p10+1)) else soft.Cq.C7 N n m e r p10 else none :=
  Eq.trans (by kernel_rfl)
  (E3 (Au (Vk (Iw 9007199254740992 (Ct .u64 m p10))) (Au (Vk (Iw 9007199254740992 (Ct .u64 m p10))) (Au (tt8 (Iw 9007199254740992 (Ct .u64 m p10))) (Au (Tp (Iw 9007199254740992 (Ct .u64 m p10))) (Au (tt6 (Iw 9007199254740992 (Ct .u64 m p10))) (C0 (tt5 (Iw 9007199254740992 (Ct .u64 m p10)) (A1 (Ab (e+p10)) (-1074:Int))) rfl rfl)))))) rfl)
theorem soft.Cq.Ajs (N:Nat) (n:Bool) (m e:Int) (r:Bool) (p10_1:Int):soft.Cq.C7 N n m e r p10_1=bif (decide (0≤p10_1)) then bif (decide (0≤p10_1)) then bif (A1 0 p10_1) then bif (decide (0≤(Ab (p10_1-1)))) then soft.Cq.C12 N n e r p10_1 (Ct .u64 m p10_1) (E8 .u64 m (A3 ((Bm .u64 1 p10_1)-1))) (Bm .u64 1 (Ab (p10_1-1))) (bif ((E8 .u64 m (A3 ((Bm .u64 1 p10_1)-1)))==(0:Int)) then (!r) else false) else none else soft.Cq.C12 N n e r p10_1 (Ct .u64 m p10_1) (E8 .u64 m (A3 ((Bm .u64 1 p10_1)-1))) 0 (bif ((E8 .u64 m (A3 ((Bm .u64 1 p10_1)-1)))==(0:Int)) then (!r) else false) else none else none :=
  Eq.trans ((Dp _ _ _ _ _ _ _).trans (by kernel_rfl))
  (C0 (C3 (decide (0≤p10_1))) (C0 (C3 (decide (0≤p10_1))) (E3 (E3 (Au (N7 ((E8 .u64 m (A3 ((Bm .u64 1 p10_1)-1)))==(0:Int))) (Au (Kq ((E8 .u64 m (A3 ((Bm .u64 1 p10_1)-1)))==(0:Int))) (Au (Q9 ((E8 .u64 m (A3 ((Bm .u64 1 p10_1)-1)))==(0:Int))) rfl))) rfl) (Au (N7 ((E8 .u64 m (A3 ((Bm .u64 1 p10_1)-1)))==(0:Int))) (Au (Kq ((E8 .u64 m (A3 ((Bm .u64 1 p10_1)-1)))==(0:Int))) (Au (Q9 ((E8 .u64 m (A3 ((Bm .u64 1 p10_1)-1)))==(0:Int))) rfl)))) rfl) rfl)
theorem soft.Cq.Vj (N:Nat) (n:Bool) (e:Int) (r:Bool) (p10_2 p11_1:Int) (p12 p13:Int) (p14:Bool):soft.Cq.C12 N n e r p10_2 p11_1 p12 p13 p14=bif ((A1 0 p10_2)&&((A1 p13 p12)||((p12==p13)&&(r||((E8 .u64 p11_1 1)==(1:Int)))))) then soft.Cq.C14 N n e p10_2 (A3 (p11_1+1)) p14 else soft.Cq.C14 N n e p10_2 p11_1 p14 :=
  Eq.trans ((Dp _ _ _ _ _ _ _).trans (by kernel_rfl))
  (Au (N7 (A1 0 p10_2)) (Au (N7 (A1 0 p10_2)) (Au (Agm (A1 0 p10_2)) (Au (Kq (A1 0 p10_2)) (Au (Apz (A1 0 p10_2) (A1 p13 p12)) (Au (Apz (A1 0 p10_2) (A1 p13 p12)) (Au (tt20 (A1 0 p10_2) (A1 p13 p12)) (Au (tt19 (A1 0 p10_2) (A1 p13 p12)) (Au (tt18 (A1 0 p10_2) (A1 p13 p12) (p12==p13)) (Au (tt17 (A1 0 p10_2) (A1 p13 p12) (p12==p13)) (Au (tt16 (A1 0 p10_2) (A1 p13 p12) (p12==p13) r) (Au (Ap0 (A1 0 p10_2) (A1 p13 p12) (p12==p13) r) (Au (Ap0 (A1 0 p10_2) (A1 p13 p12) (p12==p13) r) (Au (tt14 (A1 0 p10_2) (A1 p13 p12) (p12==p13) r) (Au (tt13 (A1 0 p10_2) (A1 p13 p12) (p12==p13)) (Au (tt12 (A1 0 p10_2) (A1 p13 p12)) (Au (Q9 (A1 0 p10_2)) (C0 (tt11 (A1 0 p10_2) (A1 p13 p12) (p12==p13) r ((E8 .u64 p11_1 1)==(1:Int))) rfl rfl))))))))))))))))))
theorem soft.Cq.Vi (N:Nat) (n:Bool) (e p10_3 p11_2:Int) (p14_1:Bool):soft.Cq.C14 N n e p10_3 p11_2 p14_1=bif (A1 (Ab (e+p10_3)) (-1074:Int)) then soft.Cq.C16 N n e 0 p10_3 p14_1 else soft.Cq.C16 N n e p11_2 p10_3 p14_1:=(Dp _ _ _ _ _ _ _).trans (by kernel_rfl)
theorem soft.Cq.Aol (N:Nat) (n:Bool) (e p11 p10_4:Int) (p14_2:Bool):soft.Cq.C16 N n e p11 p10_4 p14_2=bif (Iu p11 (max (Ab (e+p10_4)) (-1074:Int))) then soft.Cq.C18 N p14_2 (Qg n p11 (max (Ab (e+p10_4)) (-1074:Int))) else none:=(Dp _ _ _ _ _ _ _).trans (by kernel_rfl)
theorem soft.Cq.Aoj (N:Nat) (p14_3:Bool) (p15:Int):soft.Cq.C18 N p14_3 p15=bif ((!p14_3)||((Mm .u64 p15 9223372036854775808)==(9218868437227405312:Int))) then bif (Ai p15) then bif ((A4 p15)==(3:Int)) then some (.tup [.int .u64 p15,.int .u8 5]) else bif ((A4 p15)==(0:Int)) then bif ((A4 p15)==(0:Int)) then some (.tup [.int .u64 p15,.int .u8 3]) else some (.tup [.int .u64 p15,.int .u8 1]) else bif ((A4 p15)==(1:Int)) then some (.tup [.int .u64 p15,.int .u8 3]) else some (.tup [.int .u64 p15,.int .u8 1]) else none else some (.tup [.int .u64 p15,.int .u8 0]) :=
  Eq.trans ((Dp _ _ _ _ _ _ _).trans (by kernel_rfl))
  (Au (Ad6 p14_3) (Au (Tq p14_3) (Au (Tq p14_3) (Au (Ad7 p14_3) (C0 (Apy p14_3 ((Mm .u64 p15 9223372036854775808)==(9218868437227405312:Int))) rfl rfl)))))
theorem soft.Cq.ev (N:Nat) (n:Bool) (m e:Int) (r:Bool):By soft.Cq.E N Tryz.f212 (Am Tryz.f212) [.bool n,.int .u64 m,.int .i64 e,.bool r]=bif ((m==(0:Int))&&(!r)) then bif (Iu 0 (-1074:Int)) then some (.tup [.int .u64 (Qg n 0 (-1074:Int)),.int .u8 0]) else none else soft.Cq.L0 N N n m e r 0 :=
  Eq.trans (by kernel_rfl)
  (Au (N7 (m==(0:Int))) (Au (Kq (m==(0:Int))) (Au (Q9 (m==(0:Int))) (C0 (tt27 (m==(0:Int)) r) rfl rfl))))
abbrev _root_.Go.Proofs.S1.soft.Cq.Kn:=A7 Tryz.prog 212 soft.Cq.spec
theorem soft.Cq.Ad (hk:Ax Tryz.prog soft.Cq.Ba) (h:∀ (n:Bool) (m e:Int) (r:Bool),soft.Cq.pre [.b n,.i m,.i e,.b r]=true→Bd soft.Cq.E Tryz.f212 [.bool n,.int .u64 m,.int .i64 e,.bool r] (soft.Cq.out [.b n,.i m,.i e,.b r])):soft.Cq.Kn :=
  Al (A0 hk _ _ _) Tryz.func212 (by kernel_rfl) (by kernel_rfl) h
end EqSoft
theorem Af {a b:Bool}:(a&&b)=true↔a=true∧b=true:=by simp
theorem Adj {n:Nat} (hn:n<2^64):((Ct .u64 (n:Int) (63:Int))==(1:Int))=Dd n:=by
  rw [show (63:Int)=((63:Nat):Int) from rfl,F8 .u64 n 63 (by decide)]
  unfold Dd D3
  rw [Aqy,Arc]
  simp only [beq_iff_eq,Aq3]
  omega
theorem Akl {n:Nat} (hn:n<2^64):Ab (E8 .u64 (Ct .u64 (n:Int) (52:Int)) (2047:Int))=Kb n:=by
  rw [show (52:Int)=((52:Nat):Int) from rfl,F8 .u64 n 52 (by decide),show (2047:Int)=((2^11-1:Nat):Int) from rfl,Gx 11 (by omega) (by decide)]
  unfold Kb Gv
  rw [Aqy,An (by omega) (by omega)]
theorem Aik {n:Nat} (hn:n<2^64):E8 .u64 (n:Int) (4503599627370495:Int)=Ca n:=by
  rw [show (4503599627370495:Int)=((2^52-1:Nat):Int) from rfl,Gx 52 hn (by decide)]
  unfold Ca Fc
  rw [Aqy]
theorem soft.Split.known:soft.Split.Kn:=EqSoft.soft.Split.Ad .nil fun x hp=>by
  obtain ⟨n,rfl,hn⟩:=Bt (x:=x) hp
  refine ⟨0,soft.Split.out [.i n],[],?_,Wk.Ip (.cons .bool (.cons .int (.cons .int .nil)))⟩
  rw [EqSoft.soft.Split.ev,Adj hn,Akl hn,Aik hn]
  rfl
theorem soft.Kind.known:soft.Kind.Kn:=EqSoft.soft.Kind.Ad (.cons soft.Split.known .nil) fun x hp=>by
  obtain ⟨n,rfl,hn⟩:=Bt (x:=x) hp
  refine ⟨0,soft.Kind.out [.i n],[],?_,.int⟩
  rw [EqSoft.soft.Kind.ev,B0 hn]
  show _=some (DV.int .i64 (A4 n))
  unfold A4 As Kb Ca
  simp only [Aqy,Aqw,Aq]
  have:=It n
  by_cases h1:Gv n=2047
  · by_cases h2:Fc n=0
    · simp [h1,h2]
    · have:((Fc n:Int)==0)=false:=by simp; exact h2
      simp [h1,this,h2]
  · have h1':((Gv n:Int)==2047)=false:=by simp; omega
    rw [h1']
    by_cases h3:0<Gv n
    · simp [h1,h3]
    · by_cases h4:0<Fc n
      · simp [h1,h3,h4]
      · simp [h1,h3,h4]
theorem soft.Sign.known:soft.Sign.Kn:=EqSoft.soft.Sign.Ad .nil fun x hp=>by
  obtain ⟨n,rfl,hn⟩:=Bt (x:=x) hp
  refine ⟨0,soft.Sign.out [.i n],[],?_,.bool⟩
  rw [EqSoft.soft.Sign.ev,Adj hn]
  rfl
theorem Uv (n:Nat):Lu n=!(decide (As n=3)||decide (As n=4)):=by
  have:=It n
  unfold Lu As
  by_cases h1:Gv n=2047
  · by_cases h2:Fc n=0<;>simp [h1,h2]
  · have:Gv n<2047:=by omega
    by_cases h3:0<Gv n
    · simp [h1,h3,this]
    · by_cases h4:0<Fc n<;>simp [h1,h3,h4,this]
theorem soft.Finite.known:soft.Finite.Kn:=EqSoft.soft.Finite.Ad (.cons soft.Kind.known .nil) fun x hp=>by
  obtain ⟨n,rfl,hn⟩:=Bt (x:=x) hp
  refine ⟨0,soft.Finite.out [.i n],[],?_,.bool⟩
  rw [EqSoft.soft.Finite.ev,B0 hn]
  show _=some (DV.bool (Df n))
  unfold Df A4
  rw [Aqy,Uv]
  by_cases h3:As n=3
  · simp [h3]
  · by_cases h4:As n=4
    · simp [h4]
    · have e3:((As n:Int)==3)=false:=by simp; omega
      have e4:((As n:Int)==4)=false:=by simp; omega
      simp [h3,h4,e3,e4]
theorem Ae4 {n:Nat} (hn:n<2^64):Al3 .u64 (n:Int) (9223372036854775808:Int)=Db n:=by
  rw [show (9223372036854775808:Int)=((2^63:Nat):Int) from rfl,Ajf hn (by decide),Ajw hn]
  unfold Db Pl
  rw [Aqy]
theorem soft.Fe.known:soft.Fe.Kn:=EqSoft.soft.Fe.Ad .nil fun x hp=>by
  obtain ⟨n,rfl,hn⟩:=Bt (x:=x) hp
  refine ⟨0,soft.Fe.out [.i n],[],?_,.int⟩
  rw [EqSoft.soft.Fe.ev,Ae4 hn]
  rfl
theorem soft.E2.known:soft.E2.Kn:=EqSoft.soft.E2.Ad (.cons soft.Split.known .nil) fun x hp=>by
  obtain ⟨n,rfl,hn⟩:=Bt (x:=x) hp
  refine ⟨0,soft.E2.out [.i n],[],?_,Wk.Gb (.cons .int (.cons .int .nil))⟩
  rw [EqSoft.soft.E2.ev,B0 hn]
  show _=some (DV.tup [.int .u64 (Bf n),.int .i64 (Aw n)])
  have hf:=Qx n
  have hp:=It n
  unfold Bf Aw Kb Ca Av Be
  rw [Aqy]
  by_cases h:Gv n=0
  · simp [h]
  · have e:((Gv n:Int)==0)=false:=by simp; omega
    have e2:G6 .u64 ((Fc n:Nat):Int) (4503599627370496:Int)=((Fc n+2^52:Nat):Int):=by
      rw [show (4503599627370496:Int)=((1*2^52:Nat):Int) from rfl,Afv (by omega) (by omega)]
      congr 1; omega
    rw [e,e2,An (by omega) (by omega)]
    simp [h]
namespace EqRefD
def Bb.Neg.Ba:List (Nat × Entry):=[]
def Bb.Neg.E:Env:=Bc (A9 Bb.Neg.Ba) (fun _=>false) (fun _=>none) (fun _=>none)
theorem Bb.Neg.ev (N:Nat) (x:Int):By Bb.Neg.E N Tryz.f142 (Am Tryz.f142) [.int .u64 x]=some (.bool ((A3 (Int.tdiv x 9223372036854775808))==(1:Int))):=by kernel_rfl
abbrev _root_.Go.Proofs.S1.Bb.Neg.Kn:=A7 Tryz.prog 142 Bb.Neg.spec
theorem Bb.Neg.Ad (hk:Ax Tryz.prog Bb.Neg.Ba) (h:∀ (x:Int),Bb.Neg.pre [.i x]=true→Bd Bb.Neg.E Tryz.f142 [.int .u64 x] (Bb.Neg.out [.i x])):Bb.Neg.Kn :=
  Al (A0 hk _ _ _) Tryz.func142 (by kernel_rfl) (by kernel_rfl) h
def Bb.Power.Ba:List (Nat × Entry):=[]
def Bb.Power.E:Env:=Bc (A9 Bb.Power.Ba) (fun _=>false) (fun _=>none) (fun _=>none)
theorem Bb.Power.ev (N:Nat) (x:Int):By Bb.Power.E N Tryz.f140 (Am Tryz.f140) [.int .u64 x]=some (.int .i64 (Ab (A3 (Int.tdiv (Int.tmod x 9223372036854775808) 4503599627370496)))):=by kernel_rfl
abbrev _root_.Go.Proofs.S1.Bb.Power.Kn:=A7 Tryz.prog 140 Bb.Power.spec
theorem Bb.Power.Ad (hk:Ax Tryz.prog Bb.Power.Ba) (h:∀ (x:Int),Bb.Power.pre [.i x]=true→Bd Bb.Power.E Tryz.f140 [.int .u64 x] (Bb.Power.out [.i x])):Bb.Power.Kn :=
  Al (A0 hk _ _ _) Tryz.func140 (by kernel_rfl) (by kernel_rfl) h
def Bb.Jc.Ba:List (Nat × Entry):=[]
def Bb.Jc.E:Env:=Bc (A9 Bb.Jc.Ba) (fun _=>false) (fun _=>none) (fun _=>none)
theorem Bb.Jc.ev (N:Nat) (x:Int):By Bb.Jc.E N Tryz.f141 (Am Tryz.f141) [.int .u64 x]=some (.int .u64 (Int.tmod x 4503599627370496)):=by kernel_rfl
abbrev _root_.Go.Proofs.S1.Bb.Jc.Kn:=A7 Tryz.prog 141 Bb.Jc.spec
theorem Bb.Jc.Ad (hk:Ax Tryz.prog Bb.Jc.Ba) (h:∀ (x:Int),Bb.Jc.pre [.i x]=true→Bd Bb.Jc.E Tryz.f141 [.int .u64 x] (Bb.Jc.out [.i x])):Bb.Jc.Kn :=
  Al (A0 hk _ _ _) Tryz.func141 (by kernel_rfl) (by kernel_rfl) h
def Bb.Kind.Ba:List (Nat × Entry):=[(141,Bb.Jc.spec),(140,Bb.Power.spec)]
def Bb.Kind.E:Env:=Bc (A9 Bb.Kind.Ba) (fun _=>false) (fun _=>none) (fun _=>none)
theorem Bb.Kind.ev (N:Nat) (x:Int):By Bb.Kind.E N Tryz.f62 (Am Tryz.f62) [.int .u64 x]=bif (Ph x) then bif ((Kb x)==(2047:Int)) then bif (Ph x) then bif ((Ca x)==(0:Int)) then some (.int .i64 3) else some (.int .i64 4) else none else bif (Ph x) then bif (A1 0 (Kb x)) then some (.int .i64 2) else bif (Ph x) then bif (A1 0 (Ca x)) then some (.int .i64 1) else some (.int .i64 0) else none else none else none:=by kernel_rfl
abbrev _root_.Go.Proofs.S1.Bb.Kind.Kn:=A7 Tryz.prog 62 Bb.Kind.spec
theorem Bb.Kind.Ad (hk:Ax Tryz.prog Bb.Kind.Ba) (h:∀ (x:Int),Bb.Kind.pre [.i x]=true→Bd Bb.Kind.E Tryz.f62 [.int .u64 x] (Bb.Kind.out [.i x])):Bb.Kind.Kn :=
  Al (A0 hk _ _ _) Tryz.func62 (by kernel_rfl) (by kernel_rfl) h
end EqRefD
open EqRefD
theorem Hv (n m:Nat):Int.tdiv (n:Int) (m:Int)=((n / m:Nat):Int):=rfl
theorem G7 (n m:Nat):Int.tmod (n:Int) (m:Int)=((n%m:Nat):Int):=rfl
theorem Amj:(9223372036854775808:Int)=((2^63:Nat):Int):=rfl
theorem Amk:(4503599627370496:Int)=((2^52:Nat):Int):=rfl
theorem Bb.Neg.known:Bb.Neg.Kn:=Bb.Neg.Ad .nil fun x hp=>by
  obtain ⟨n,rfl,hn⟩:=Bt (x:=x) hp
  refine ⟨0,Bb.Neg.out [.i n],[],?_,.bool⟩
  rw [Bb.Neg.ev,Amj,Hv,Cg (by omega) (by omega)]
  show _=some (DV.bool (Dd n))
  unfold Dd D3
  rw [Aqy]
  congr 2
  rw [Arc]
  simp only [beq_iff_eq,Aq3]
  omega
theorem Bb.Power.known:Bb.Power.Kn:=Bb.Power.Ad .nil fun x hp=>by
  obtain ⟨n,rfl⟩:=Ue (x:=x) hp
  refine ⟨0,Bb.Power.out [.i n],[],?_,.int⟩
  rw [Bb.Power.ev,Amj,Amk,G7,Hv,Cg (by omega) (by omega),An (by omega) (by omega)]
  show _=some (DV.int .i64 (Kb n))
  unfold Kb Gv
  rw [Aqy]
  congr 2
  have:n%2^63 / 2^52=n / 2^52%2048:=by omega
  rw [this]
theorem Bb.Jc.known:Bb.Jc.Kn:=Bb.Jc.Ad .nil fun x hp=>by
  obtain ⟨n,rfl⟩:=Ue (x:=x) hp
  refine ⟨0,Bb.Jc.out [.i n],[],?_,.int⟩
  rw [Bb.Jc.ev,Amk,G7]
  rfl
theorem Bb.Kind.known:Bb.Kind.Kn:=Bb.Kind.Ad (.cons Bb.Jc.known (.cons Bb.Power.known .nil)) fun x hp=>by
  obtain ⟨n,rfl⟩:=Ue (x:=x) hp
  refine ⟨0,Bb.Kind.out [.i n],[],?_,.int⟩
  rw [Bb.Kind.ev,Ud]
  show _=some (DV.int .i64 (A4 n))
  unfold A4 As Kb Ca
  simp only [Aqy,Aqw,Aq]
  have:=It n
  by_cases h1:Gv n=2047
  · by_cases h2:Fc n=0
    · simp [h1,h2]
    · have:((Fc n:Int)==0)=false:=by simp; exact h2
      simp [h1,this,h2]
  · have h1':((Gv n:Int)==2047)=false:=by simp; omega
    rw [h1']
    by_cases h3:0<Gv n
    · simp [h1,h3]
    · by_cases h4:0<Fc n
      · simp [h1,h3,h4]
      · simp [h1,h3,h4]
namespace EqRefA
def Ac.Hg.Ba:List (Nat × Entry):=[]
def Ac.Hg.E:Env:=Bc (A9 Ac.Hg.Ba) (fun _=>false) (fun _=>none) (fun _=>none)
theorem Ac.Hg.ev (N:Nat) (l:List Int) (i:Int):By Ac.Hg.E N Tryz.f221 (Am Tryz.f221) [.ints .arg .u32 l,.int .i64 i]=bif ((Iw 0 i)&&(A1 i (List.length l:Int))) then bif ((decide (0≤i))&&(decide (i<(List.length l:Int)))) then some (.int .u64 (A3 (List.getD l (Int.toNat i) 0))) else none else some (.int .u64 0) :=
  Eq.trans (by kernel_rfl)
  (Au (N7 (Iw 0 i)) (Au (N7 (Iw 0 i)) (Au (Kq (Iw 0 i)) (Au (Agm (Iw 0 i)) (Au (Q9 (Iw 0 i)) (C0 (tt1 (Iw 0 i) (A1 i (List.length l:Int))) rfl rfl))))))
abbrev _root_.Go.Proofs.S1.Ac.Hg.Kn:=A7 Tryz.prog 221 Ac.Hg.spec
theorem Ac.Hg.Ad (hk:Ax Tryz.prog Ac.Hg.Ba) (h:∀ (l:List Int) (i:Int),Ac.Hg.pre [.l l,.i i]=true→Bd Ac.Hg.E Tryz.f221 [.ints .arg .u32 l,.int .i64 i] (Ac.Hg.out [.l l,.i i])):Ac.Hg.Kn :=
  Al (A0 hk _ _ _) Tryz.func221 (by kernel_rfl) (by kernel_rfl) h
def Ac.Made.hint:Nat→Option A6
  | 0=>some { keep:=[0,1,4,5],objs:=[],boxes:=[4] }
  | _=>none
def Ac.Made.Ba:List (Nat × Entry):=[]
def Ac.Made.E:Env:=Bc (A9 Ac.Made.Ba) (fun _=>false) Ac.Made.hint (fun _=>none)
def Ac.Made.L0 (N M:Nat) (n:Bool) (l:List Int) (p5:Int):Option DV:=B2 Ac.Made.E N Tryz.f171 (Am Tryz.f171) [1,1,0,0] [] M ⟨Fw 28 [(0,.bool n),(1,.ints .arg .u32 l),(4,.ptr 4 0 0),(5,.int .i64 p5)],[(4,false,.box [.bool false,.nil])]⟩
theorem Ac.Made.At (N M:Nat) (n:Bool) (l:List Int) (p5:Int):Ac.Made.L0 N (M+1) n l p5=bif ((!(A1 0 p5))||((decide (0≤(Ab (p5-1))))&&(decide ((Ab (p5-1))<(List.length l:Int))))) then bif ((A1 0 p5)&&((List.getD l (Int.toNat (Ab (p5-1))) 0)==(0:Int))) then Ac.Made.L0 N M n l (Ab (p5-1)) else bif (p5==(0:Int)) then some (.agg [.bool false,.nil]) else bif ((decide ((0:Int)≤p5))&&(decide (p5≤(List.length l:Int)))) then some (.agg [.bool n,.ints .arg .u32 (List.take (Int.toNat p5) l)]) else none else none :=
  Eq.trans (by kernel_rfl)
  (Au (N7 (A1 0 p5)) (Au (N7 (A1 0 p5)) (Au (Kq (A1 0 p5)) (C0 (tt79 (A1 0 p5) (decide (0≤(Ab (p5-1)))) (decide ((Ab (p5-1))<(List.length l:Int)))) (Au (Kq (A1 0 p5)) (Au (Kq (A1 0 p5)) (Au (Q9 (A1 0 p5)) (C0 (tt1 (A1 0 p5) ((List.getD l (Int.toNat (Ab (p5-1))) 0)==(0:Int))) rfl (E3 rfl (C0 (Li (decide ((0:Int)≤p5)) (decide (p5≤(List.length l:Int)))) rfl rfl)))))) rfl))))
theorem Ac.Made.ev (N:Nat) (n:Bool) (l:List Int):By Ac.Made.E N Tryz.f171 (Am Tryz.f171) [.bool n,.ints .arg .u32 l] =
  Ac.Made.L0 N N n l (List.length l:Int):=by kernel_rfl
abbrev _root_.Go.Proofs.S1.Ac.Made.Kn:=A7 Tryz.prog 171 Ac.Made.spec
theorem Ac.Made.Ad (hk:Ax Tryz.prog Ac.Made.Ba) (h:∀ (n:Bool) (l:List Int),Ac.Made.pre [.b n,.l l]=true→Bd Ac.Made.E Tryz.f171 [.bool n,.ints .arg .u32 l] (Ac.Made.out [.b n,.l l])):Ac.Made.Kn :=
  Al (A0 hk _ _ _) Tryz.func171 (by kernel_rfl) (by kernel_rfl) h
def Ac.Of.Ba:List (Nat × Entry):=[(171,Ac.Made.spec)]
def Ac.Of.E:Env:=Bc (A9 Ac.Of.Ba) (fun _=>false) (fun _=>none) (fun _=>none)
theorem Ac.Of.ev (N:Nat) (n:Int):By Ac.Of.E N Tryz.f115 (Am Tryz.f115) [.int .i64 n]=bif (A1 n 0) then bif (E5 [(Hi (Int.tmod (A3 ((A3 (Ab (0-(Ab (n+1)))))+1)) 4294967296)),(Hi (A3 (Int.tdiv (A3 ((A3 (Ab (0-(Ab (n+1)))))+1)) 4294967296)))]) then some (.agg [.bool (Ar (wv true [(Hi (Int.tmod (A3 ((A3 (Ab (0-(Ab (n+1)))))+1)) 4294967296)),(Hi (A3 (Int.tdiv (A3 ((A3 (Ab (0-(Ab (n+1)))))+1)) 4294967296)))])),.ints .arg .u32 (Ag (wv true [(Hi (Int.tmod (A3 ((A3 (Ab (0-(Ab (n+1)))))+1)) 4294967296)),(Hi (A3 (Int.tdiv (A3 ((A3 (Ab (0-(Ab (n+1)))))+1)) 4294967296)))]))]) else none else bif (E5 [(Hi (Int.tmod n 4294967296)),(Hi (Ab (Int.tdiv n 4294967296)))]) then some (.agg [.bool (Ar (wv false [(Hi (Int.tmod n 4294967296)),(Hi (Ab (Int.tdiv n 4294967296)))])),.ints .arg .u32 (Ag (wv false [(Hi (Int.tmod n 4294967296)),(Hi (Ab (Int.tdiv n 4294967296)))]))]) else none:=by kernel_rfl
abbrev _root_.Go.Proofs.S1.Ac.Of.Kn:=A7 Tryz.prog 115 Ac.Of.spec
theorem Ac.Of.Ad (hk:Ax Tryz.prog Ac.Of.Ba) (h:∀ (n:Int),Ac.Of.pre [.i n]=true→Bd Ac.Of.E Tryz.f115 [.int .i64 n] (Ac.Of.out [.i n])):Ac.Of.Kn :=
  Al (A0 hk _ _ _) Tryz.func115 (by kernel_rfl) (by kernel_rfl) h
def Ac.Gu.hint:Nat→Option A6
  | 0=>some { keep:=[0,1,5],objs:=[],boxes:=[] }
  | _=>none
def Ac.Gu.Ba:List (Nat × Entry):=[(221,Ac.Hg.spec)]
def Ac.Gu.E:Env:=Bc (A9 Ac.Gu.Ba) (fun _=>false) Ac.Gu.hint (fun _=>none)
def Ac.Gu.L0 (N M:Nat) (a b:List Int) (p5:Int):Option DV:=B2 Ac.Gu.E N Tryz.f176 (Am Tryz.f176) [1,0,1,0] [] M ⟨Fw 29 [(0,.ints .arg .u32 a),(1,.ints .arg .u32 b),(5,.int .i64 p5)],[]⟩
theorem Ac.Gu.At (N M:Nat) (a b:List Int) (p5:Int):Ac.Gu.L0 N (M+1) a b p5=bif (Iw 0 p5) then bif (E5 a) then bif (E5 b) then bif (A1 (Ft a p5) (Ft b p5)) then some (.int .i64 (-1:Int)) else bif (E5 a) then bif (E5 b) then bif (A1 (Ft b p5) (Ft a p5)) then some (.int .i64 1) else Ac.Gu.L0 N M a b (Ab (p5-1)) else none else none else none else none else some (.int .i64 0):=by kernel_rfl
theorem Ac.Gu.ev (N:Nat) (a b:List Int):By Ac.Gu.E N Tryz.f176 (Am Tryz.f176) [.ints .arg .u32 a,.ints .arg .u32 b] =
  Ac.Gu.L0 N N a b (max (List.length a:Int) (List.length b:Int)):=by kernel_rfl
abbrev _root_.Go.Proofs.S1.Ac.Gu.Kn:=A7 Tryz.prog 176 Ac.Gu.spec
theorem Ac.Gu.Ad (hk:Ax Tryz.prog Ac.Gu.Ba) (h:∀ (a b:List Int),Ac.Gu.pre [.l a,.l b]=true→Bd Ac.Gu.E Tryz.f176 [.ints .arg .u32 a,.ints .arg .u32 b] (Ac.Gu.out [.l a,.l b])):Ac.Gu.Kn :=
  Al (A0 hk _ _ _) Tryz.func176 (by kernel_rfl) (by kernel_rfl) h
def Ac.plus.hint:Nat→Option A6
  | 0=>some { keep:=[0,1,5,6,7],objs:=[(0,5,100005,.ints 173 .u32 [])],boxes:=[] }
  | _=>none
def Ac.plus.Ba:List (Nat × Entry):=[(221,Ac.Hg.spec)]
def Ac.plus.E:Env:=Bc (A9 Ac.plus.Ba) (fun _=>false) Ac.plus.hint (fun _=>none)
def Ac.plus.L0 (N M:Nat) (a b:List Int) (p6 p7:Int) (p5:List Int):Option DV:=B2 Ac.plus.E N Tryz.f174 (Am Tryz.f174) [1,1,1,0,1,0] [] M ⟨Fw 37 [(0,.ints .arg .u32 a),(1,.ints .arg .u32 b),(5,.oref 100005),(6,.int .u64 p6),(7,.int .i64 p7)],[(100005,false,.ints 173 .u32 p5)]⟩
theorem Ac.plus.At (N M:Nat) (a b:List Int) (p6 p7:Int) (p5:List Int):Ac.plus.L0 N (M+1) a b p6 p7 p5=bif (Iw p7 (max (List.length a:Int) (List.length b:Int))) then bif (E5 a) then bif (E5 b) then bif (decide ((List.length p5)+1≤Gq)) then Ac.plus.L0 N M a b (A3 (Int.tdiv (A3 ((A3 ((Ft a p7)+(Ft b p7)))+p6)) 4294967296)) (Ab (p7+1)) (p5++[(Hi (Int.tmod (A3 ((A3 ((Ft a p7)+(Ft b p7)))+p6)) 4294967296))]) else none else none else none else some (.ints (.own 100005 173) .u32 p5):=by kernel_rfl
theorem Ac.plus.ev (N:Nat) (a b:List Int):By Ac.plus.E N Tryz.f174 (Am Tryz.f174) [.ints .arg .u32 a,.ints .arg .u32 b] =
  Ac.plus.L0 N N a b 0 0 []:=by kernel_rfl
abbrev _root_.Go.Proofs.S1.Ac.plus.Kn:=A7 Tryz.prog 174 Ac.plus.spec
theorem Ac.plus.Ad (hk:Ax Tryz.prog Ac.plus.Ba) (h:∀ (a b:List Int),Ac.plus.pre [.l a,.l b]=true→Bd Ac.plus.E Tryz.f174 [.ints .arg .u32 a,.ints .arg .u32 b] (Ac.plus.out [.l a,.l b])):Ac.plus.Kn :=
  Al (A0 hk _ _ _) Tryz.func174 (by kernel_rfl) (by kernel_rfl) h
def Ac.minus.hint:Nat→Option A6
  | 0=>some { keep:=[0,1,5,6,7],objs:=[(0,5,100005,.ints 173 .u32 [])],boxes:=[] }
  | _=>none
def Ac.minus.Ba:List (Nat × Entry):=[(221,Ac.Hg.spec)]
def Ac.minus.E:Env:=Bc (A9 Ac.minus.Ba) (fun _=>false) Ac.minus.hint (fun _=>none)
def Ac.minus.L0 (N M:Nat) (a b:List Int) (p6 p7:Int) (p5:List Int):Option DV:=B2 Ac.minus.E N Tryz.f177 (Am Tryz.f177) [1,1,1,0,1,0] [] M ⟨Fw 36 [(0,.ints .arg .u32 a),(1,.ints .arg .u32 b),(5,.oref 100005),(6,.int .u64 p6),(7,.int .i64 p7)],[(100005,false,.ints 173 .u32 p5)]⟩
theorem Ac.minus.At (N M:Nat) (a b:List Int) (p6 p7:Int) (p5:List Int):Ac.minus.L0 N (M+1) a b p6 p7 p5=bif (A1 p7 (List.length a:Int)) then bif (E5 a) then bif (E5 b) then bif (decide ((List.length p5)+1≤Gq)) then Ac.minus.L0 N M a b (A3 ((1:Int)-(A3 (Int.tdiv (A3 ((A3 ((A3 ((4294967296:Int)+(Ft a p7)))-(Ft b p7)))-p6)) 4294967296)))) (Ab (p7+1)) (p5++[(Hi (Int.tmod (A3 ((A3 ((A3 ((4294967296:Int)+(Ft a p7)))-(Ft b p7)))-p6)) 4294967296))]) else none else none else none else some (.ints (.own 100005 173) .u32 p5):=by kernel_rfl
theorem Ac.minus.ev (N:Nat) (a b:List Int):By Ac.minus.E N Tryz.f177 (Am Tryz.f177) [.ints .arg .u32 a,.ints .arg .u32 b] =
  Ac.minus.L0 N N a b 0 0 []:=by kernel_rfl
abbrev _root_.Go.Proofs.S1.Ac.minus.Kn:=A7 Tryz.prog 177 Ac.minus.spec
theorem Ac.minus.Ad (hk:Ax Tryz.prog Ac.minus.Ba) (h:∀ (a b:List Int),Ac.minus.pre [.l a,.l b]=true→Bd Ac.minus.E Tryz.f177 [.ints .arg .u32 a,.ints .arg .u32 b] (Ac.minus.out [.l a,.l b])):Ac.minus.Kn :=
  Al (A0 hk _ _ _) Tryz.func177 (by kernel_rfl) (by kernel_rfl) h
def Ac.Add.Ba:List (Nat × Entry):=[(171,Ac.Made.spec),(176,Ac.Gu.spec),(177,Ac.minus.spec),(174,Ac.plus.spec)]
def Ac.Add.E:Env:=Bc (A9 Ac.Add.Ba) (fun _=>false) (fun _=>none) (fun _=>none)
theorem Ac.Add.ev (N:Nat) (n:Bool) (a:List Int) (m:Bool) (b:List Int):By Ac.Add.E N Tryz.f112 (Am Tryz.f112) [.agg [.bool n,.ints .arg .u32 a],.agg [.bool m,.ints .arg .u32 b]]=bif (n==m) then bif (E5 a&&E5 b) then bif (E5 (G0 a b)) then some (.agg [.bool (Ar (wv n (G0 a b))),.ints .arg .u32 (Ag (wv n (G0 a b)))]) else none else none else bif (E5 a&&E5 b) then bif (A1 (R1 (Bq a) (Bq b)) 0) then bif ((E5 b&&E5 a)&&leL a b) then bif (E5 (F1 b a)) then some (.agg [.bool (Ar (wv m (F1 b a))),.ints .arg .u32 (Ag (wv m (F1 b a)))]) else none else none else bif ((E5 a&&E5 b)&&leL b a) then bif (E5 (F1 a b)) then some (.agg [.bool (Ar (wv n (F1 a b))),.ints .arg .u32 (Ag (wv n (F1 a b)))]) else none else none else none :=
  Eq.trans (by kernel_rfl)
  (E3 (C0 (C3 (E5 a&&E5 b)) (C0 (C3 (E5 (G0 a b))) rfl rfl) rfl) (E3 (E3 (C0 (C3 ((E5 b&&E5 a)&&leL a b)) (C0 (C3 (E5 (F1 b a))) rfl rfl) rfl) (C0 (C3 ((E5 a&&E5 b)&&leL b a)) (C0 (C3 (E5 (F1 a b))) rfl rfl) rfl)) rfl))
abbrev _root_.Go.Proofs.S1.Ac.Add.Kn:=A7 Tryz.prog 112 Ac.Add.spec
theorem Ac.Add.Ad (hk:Ax Tryz.prog Ac.Add.Ba) (h:∀ (n:Bool) (a:List Int) (m:Bool) (b:List Int),Ac.Add.pre [.b n,.l a,.b m,.l b]=true→Bd Ac.Add.E Tryz.f112 [.agg [.bool n,.ints .arg .u32 a],.agg [.bool m,.ints .arg .u32 b]] (Ac.Add.out [.b n,.l a,.b m,.l b])):Ac.Add.Kn :=
  Al (A0 hk _ _ _) Tryz.func112 (by kernel_rfl) (by kernel_rfl) h
def Ac.Neg.Ba:List (Nat × Entry):=[(171,Ac.Made.spec)]
def Ac.Neg.E:Env:=Bc (A9 Ac.Neg.Ba) (fun _=>false) (fun _=>none) (fun _=>none)
theorem Ac.Neg.ev (N:Nat) (n:Bool) (a:List Int):By Ac.Neg.E N Tryz.f143 (Am Tryz.f143) [.agg [.bool n,.ints .arg .u32 a]]=bif (E5 a) then some (.agg [.bool (Ar (wv (!n) a)),.ints .arg .u32 (Ag (wv (!n) a))]) else none:=by kernel_rfl
abbrev _root_.Go.Proofs.S1.Ac.Neg.Kn:=A7 Tryz.prog 143 Ac.Neg.spec
theorem Ac.Neg.Ad (hk:Ax Tryz.prog Ac.Neg.Ba) (h:∀ (n:Bool) (a:List Int),Ac.Neg.pre [.b n,.l a]=true→Bd Ac.Neg.E Tryz.f143 [.agg [.bool n,.ints .arg .u32 a]] (Ac.Neg.out [.b n,.l a])):Ac.Neg.Kn :=
  Al (A0 hk _ _ _) Tryz.func143 (by kernel_rfl) (by kernel_rfl) h
end EqRefA
open EqRefA
theorem Ac.Hg.known:Ac.Hg.Kn:=Ac.Hg.Ad .nil fun l i hp=>by
  obtain ⟨hl,hi⟩:=H2 hp
  refine ⟨0,Ac.Hg.out [.l l,.i i],[],?_,.int⟩
  rw [Ac.Hg.ev,Er,Aq]
  show _=some (DV.int .u64 (Ft l i))
  by_cases h0:0≤i
  · obtain ⟨k,rfl⟩:∃ k:Nat,i=k:=⟨i.toNat,by omega⟩
    have hv:=F4 hi k
    have hg:=Mf hi k
    rw [hv,Aqy,hg,Aqx h0,Bool.true_and]
    by_cases h1:(k:Int)<(l.length:Int)
    · rw [Aqx h1,Aqw,Aqw,Cg (by omega) (by omega)]
    · have h2:l.getD k 0=0:=by
        rw [Aq6,List.getElem?_eq_none (by omega)]; rfl
      rw [h2] at hg
      rw [Aq1 h1,Aq0,← hg]
  · have:Ft l i=0:=by unfold Ft; rw [if_neg h0]
    rw [Aq1 h0,Bool.false_and,Aq0,this]
theorem W9 {drops:List Nat} {b:Bool} {l:List Int}:Wk drops (.agg [.bool b,.ints .arg .u32 l]) (.agg [.bool b,.ints .arg .u32 l]):=Wk.Ip (.cons .bool (.cons .Ajh .nil))
theorem Aew:Ar 0=false:=rfl
theorem Aad:Ag 0=[]:=rfl
theorem Ae5 (N:Nat) (n:Bool) {l:List Int} (hl:l.length<1073741824) (hi:Qu l):∀ (p F:Nat),p≤l.length→p<F→Bq l<2^(32*p) →
    ∃ dv,Ac.Made.L0 N F n l (p:Int)=some dv∧Wk [] dv (.agg [.bool (Ar (wv n l)),.ints .arg .u32 (Ag (wv n l))]):=by
  have hlast:∀ p,p≤l.length→C9 (Bq l)=p→p≠0→some (DV.agg [.bool n,.ints .arg .u32 (l.take p)])=some (DV.agg [.bool (Ar (wv n l)),.ints .arg .u32 (Ag (wv n l))]):=by
    intro p hp hq h0
    have h1:=Acb hi
    rw [hq] at h1
    have h2:Bq l≠0:=fun h=>by rw [h] at hq; exact h0 hq.symm
    have e:(wv n l).natAbs=Bq l:=by unfold wv H9; split<;>omega
    have e1:Ag (wv n l)=Mt (Bq l):=by unfold Ag; rw [e]
    have e2:Ar (wv n l)=n:=by unfold Ar wv H9; cases n<;>simp<;>omega
    rw [h1,e1,e2]
  intro p
  induction p with
  | zero =>
    intro F hp hF hv
    obtain ⟨F,rfl⟩:∃ G,F=G+1:=⟨F-1,by omega⟩
    have hz:wv n l=0:=by
      have:Bq l=0:=by rw [Nat.mul_zero,Nat.pow_zero] at hv; omega
      unfold wv H9; rw [this]; cases n<;>rfl
    refine ⟨.agg [.bool false,.nil],?_,?_⟩
    · rw [Ac.Made.At,Aq]; rfl
    · rw [hz,Aew,Aad]
      exact Wk.Ip (.cons .bool (.cons (.nil _ _) .nil))
  | succ p ih =>
    intro F hp hF hv
    obtain ⟨F,rfl⟩:∃ G,F=G+1:=⟨F-1,by omega⟩
    rw [Ac.Made.At,Aq,An (by omega) (by omega)]
    have e0:((p+1:Nat):Int)-1=(p:Int):=by omega
    have t0:decide ((0:Int)<((p+1:Nat):Int))=true:=Aqx (by omega)
    have t1:decide ((0:Int)≤(p:Int))=true:=by simp
    have t2:decide ((p:Int)<(l.length:Int))=true:=by simp; omega
    have hg:=Mf hi p
    have hq:Bq l / 2^(32*p)<4294967296:=by
      rw [Nat.div_lt_iff_lt_mul (Cd _),← Jj]; exact hv
    rw [Aq9 hq] at hg
    rw [e0,t0,t1,t2,Aqy,hg]
    simp only [Bool.not_true,Aq2,Bool.false_or,Aqw,Bool.true_and]
    by_cases hz:Bq l / 2^(32*p)=0
    · have:(((Bq l / 2^(32*p):Nat):Int)==0)=true:=by rw [hz]; rfl
      rw [this,Aqw]
      refine ih F (by omega) (by omega) ?_
      rcases Nat.lt_or_ge (Bq l) (2^(32*p)) with h | h
      · exact h
      · have:=Nat.div_pos h (Cd _); omega
    · have:(((Bq l / 2^(32*p):Nat):Int)==0)=false:=by simp only [beq_eq_false_iff_ne,ne_eq]; omega
      have t3:(((p+1:Nat):Int)==0)=false:=by simp only [beq_eq_false_iff_ne,ne_eq]; omega
      have t4:decide (((p+1:Nat):Int)≤(l.length:Int))=true:=by simp; omega
      have t5:decide ((0:Int)≤((p+1:Nat):Int))=true:=Aqx (by omega)
      rw [this,Aq0,t3,Aq0,t4,t5,Aq2,Aqw,Aqy]
      have hlen:C9 (Bq l)=p+1:=by
        have a1:=Jv hv
        have a2:=Ala (n:=Bq l) (k:=p) (by
          rcases Nat.lt_or_ge (Bq l) (2^(32*p)) with h | h
          · exact absurd (Nat.div_eq_of_lt h) hz
          · exact h)
        omega
      exact ⟨_,hlast (p+1) hp hlen (by omega),W9⟩
theorem Ac.Made.known:Ac.Made.Kn:=Ac.Made.Ad .nil fun n l hp=>by
  obtain ⟨hl,hi⟩:=H2 hp
  obtain ⟨dv,h1,h2⟩:=Ae5 (l.length+1) n hl hi l.length (l.length+1) (Nat.le_refl _) (by omega) (Hu hi)
  exact ⟨l.length+1,dv,[],by rw [Ac.Made.ev]; exact h1,h2⟩
theorem Vz {a b:Int} (ha:0≤a∧a<4294967296) (hb:0≤b∧b<4294967296):E5 [a,b]=true :=
  H0 (show 2<1073741824 by decide) fun x hx=>by
    rcases List.mem_cons.1 hx with rfl | hx
    · exact ha
    · rcases List.mem_cons.1 hx with rfl | hx
      · exact hb
      · cases hx
theorem Aab:(4294967296:Int)=((4294967296:Nat):Int):=rfl
theorem Ac.Of.known:Ac.Of.Kn:=Ac.Of.Ad (.cons Ac.Made.known .nil) fun n hp=>by
  have hp:=Ao.1 hp
  refine ⟨0,Ac.Of.out [.i n],[],?_,W9⟩
  rw [Ac.Of.ev,Aq]
  show _=some (DV.agg [.bool (Ar n),.ints .arg .u32 (Ag n)])
  by_cases h:n<0
  · obtain ⟨k,rfl⟩:∃ k:Nat,n=-(k:Int):=⟨(-n).toNat,by omega⟩
    have e1:A3 (A3 (Ab (0-Ab (-(k:Int)+1)))+1)=(k:Int):=by
      rw [An (x:=-(k:Int)+1) (by omega) (by omega),An (by omega) (by omega),Cg (x:=0-(-(k:Int)+1)) (by omega) (by omega),Cg (by omega) (by omega)]; omega
    rw [Aqx h,Aqw,e1,Aab,G7,Hv,Ht (by omega) (by omega),Cg (by omega) (by omega),Ht (by omega) (by omega),
      Vz (by omega) (by omega),Aqw]
    have e2:wv true [((k%4294967296:Nat):Int),((k / 4294967296:Nat):Int)]=-(k:Int):=by
      unfold wv H9 Bq Bq Bq
      rw [if_pos rfl,Aqy,Aqy]
      omega
    rw [e2]
  · obtain ⟨k,rfl⟩:∃ k:Nat,n=(k:Int):=⟨n.toNat,by omega⟩
    rw [Aq1 h,Aq0,Aab,G7,Hv,Ht (by omega) (by omega),An (by omega) (by omega),Ht (by omega) (by omega),
      Vz (by omega) (by omega),Aqw]
    have e2:wv false [((k%4294967296:Nat):Int),((k / 4294967296:Nat):Int)]=(k:Int):=by
      unfold wv H9 Bq Bq Bq
      rw [if_neg (by decide),Aqy,Aqy]
      omega
    rw [e2]
theorem Ac.Neg.known:Ac.Neg.Kn:=Ac.Neg.Ad (.cons Ac.Made.known .nil) fun n a hp=>by
  obtain ⟨v,rfl,rfl,hv⟩:=Hz hp
  refine ⟨0,Ac.Neg.out [.b (Ar v),.l (Ag v)],[],?_,W9⟩
  rw [Ac.Neg.ev,Ln (by omega),Aqw,Amq]
  rfl
open EqRefA
theorem Ae3 (N:Nat) {a b:List Int} (ha:E5 a=true) (hb:E5 b=true):∀ (j F:Nat),j<4000000000→j<F→Bq a / 2^(32*j)=Bq b / 2^(32*j) →
    Ac.Gu.L0 N F a b ((j:Int)-1)=some (.int .i64 (R1 (Bq a) (Bq b))):=by
  have ia:=(H2 ha).2
  have ib:=(H2 hb).2
  intro j
  induction j with
  | zero =>
    intro F hj hF h
    obtain ⟨F,rfl⟩:∃ G,F=G+1:=⟨F-1,by omega⟩
    rw [Nat.mul_zero,Nat.pow_zero,Nat.div_one,Nat.div_one] at h
    have e:R1 (Bq a) (Bq b)=0:=by unfold R1; rw [if_neg (by omega),if_neg (by omega)]
    rw [Ac.Gu.At,Er,e]
    rfl
  | succ j ih =>
    intro F hj hF h
    obtain ⟨F,rfl⟩:∃ G,F=G+1:=⟨F-1,by omega⟩
    have e0:((j+1:Nat):Int)-1=(j:Int):=by omega
    have t0:decide ((0:Int)≤(j:Int))=true:=Aqx (by omega)
    rw [Jj,Nat.mul_comm,← Nat.div_div_eq_div_mul,← Nat.div_div_eq_div_mul] at h
    have up:Bq a / 2^(32*j)<Bq b / 2^(32*j)→Bq a<Bq b:=fun k=>by
      rcases Nat.lt_or_ge (Bq a) (Bq b) with h1 | h1
      · exact h1
      · have:=Nat.div_le_div_right (c:=2^(32*j)) h1; omega
    have down:Bq b / 2^(32*j)<Bq a / 2^(32*j)→Bq b<Bq a:=fun k=>by
      rcases Nat.lt_or_ge (Bq b) (Bq a) with h1 | h1
      · exact h1
      · have:=Nat.div_le_div_right (c:=2^(32*j)) h1; omega
    rw [Ac.Gu.At,e0,Er,t0,Aqw,ha,hb,Aqw,Aqw,Aq,Aq,F4 ia,F4 ib,An (by omega) (by omega)]
    have ih:=ih F (by omega) (by omega)
    generalize Bq a / 2^(32*j)=x at *
    generalize Bq b / 2^(32*j)=y at *
    by_cases h1:x%4294967296<y%4294967296
    · have e:R1 (Bq a) (Bq b)=-1:=by unfold R1; rw [if_pos (up (by omega))]
      rw [Aqx (by omega),Aqw,e]
    · rw [Aq1 (by omega),Aq0]
      by_cases h2:y%4294967296<x%4294967296
      · have:=down (by omega)
        have e:R1 (Bq a) (Bq b)=1:=by unfold R1; rw [if_neg (by omega),if_pos this]
        rw [Aqx (by omega),Aqw,e]
        rfl
      · rw [Aq1 (by omega),Aq0]
        exact ih (by omega)
theorem Adu {l:List Int} (h:Qu l) {j:Nat} (hj:l.length≤j):Bq l / 2^(32*j)=0 :=
  Nat.div_eq_of_lt (Nat.lt_of_lt_of_le (Hu h) (Arb (by decide) (by omega)))
theorem Ac.Gu.known:Ac.Gu.Kn:=Ac.Gu.Ad (.cons Ac.Hg.known .nil) fun a b hp=>by
  obtain ⟨ha,hb⟩:=Af.1 hp
  obtain ⟨la,ia⟩:=H2 ha
  obtain ⟨lb,ib⟩:=H2 hb
  refine ⟨max a.length b.length+2,Ac.Gu.out [.l a,.l b],[],?_,.int⟩
  rw [Ac.Gu.ev]
  have e:max (a.length:Int) (b.length:Int)=((max a.length b.length+1:Nat):Int)-1:=by omega
  rw [e]
  exact Ae3 _ ha hb _ _ (by omega) (by omega) (by rw [Adu ia (by omega),Adu ib (by omega)])
theorem Wb (N:Nat) {a b:List Int} (ha:E5 a=true) (hb:E5 b=true):∀ (k i c F:Nat),i+k=max a.length b.length+1→k<F→c≤1 →
    Bq a / 2^(32*i)+Bq b / 2^(32*i)+c=(Bq a+Bq b) / 2^(32*i) →
    Ac.plus.L0 N F a b (c:Int) (i:Int) (digits i (Bq a+Bq b))=some (.ints (.own 100005 tW) .u32 (G0 a b)):=by
  obtain ⟨la,ia⟩:=H2 ha
  obtain ⟨lb,ib⟩:=H2 hb
  intro k
  induction k with
  | zero =>
    intro i c F hi hF hc h
    obtain ⟨F,rfl⟩:∃ G,F=G+1:=⟨F-1,by omega⟩
    have t0:decide ((i:Int)≤max (a.length:Int) (b.length:Int))=false:=Aq1 (by omega)
    rw [Ac.plus.At,Er,t0,Aq0]
    unfold G0
    rw [show i=max a.length b.length+1 by omega]
  | succ k ih =>
    intro i c F hi hF hc h
    obtain ⟨F,rfl⟩:∃ G,F=G+1:=⟨F-1,by omega⟩
    have t0:decide ((i:Int)≤max (a.length:Int) (b.length:Int))=true:=Aqx (by omega)
    have t1:decide ((digits i (Bq a+Bq b)).length+1≤Gq)=true:=Aqx (by rw [Dc]; unfold Gq; omega)
    rw [Ac.plus.At,Er,t0,ha,hb,t1]
    simp only [Aqw]
    rw [F4 ia,F4 ib]
    have ih:=ih (i+1)
    rw [Jj,Nat.mul_comm 4294967296,← Nat.div_div_eq_div_mul,← Nat.div_div_eq_div_mul,← Nat.div_div_eq_div_mul,Hp] at ih
    generalize Bq a / 2^(32*i)=x at *
    generalize Bq b / 2^(32*i)=y at *
    generalize (Bq a+Bq b) / 2^(32*i)=z at *
    have e1:A3 (A3 (((x%4294967296:Nat):Int)+((y%4294967296:Nat):Int))+(c:Int))=((x%4294967296+y%4294967296+c:Nat):Int):=by
      rw [Cg (x:=((x%4294967296:Nat):Int)+((y%4294967296:Nat):Int)) (by omega) (by omega),Cg (by omega) (by omega)]; omega
    rw [e1,Aab,G7,Hv,Ht (by omega) (by omega),Cg (by omega) (by omega),An (by omega) (by omega)]
    have e2:(x%4294967296+y%4294967296+c)%4294967296=z%4294967296:=by omega
    rw [e2]
    exact ih ((x%4294967296+y%4294967296+c) / 4294967296) F (by omega) (by omega) (by omega) (by omega)
theorem Xo {i:Nat} {e:TypeId} {k:IntKind} {l:List Int}:Wk [i] (.ints (.own i e) k l) (.ints .arg k l):=.dropA i e k l (List.mem_singleton.2 rfl)
theorem Ac.plus.known:Ac.plus.Kn:=Ac.plus.Ad (.cons Ac.Hg.known .nil) fun a b hp=>by
  obtain ⟨ha,hb⟩:=Af.1 hp
  refine ⟨max a.length b.length+2,.ints (.own 100005 tW) .u32 (G0 a b),[100005],?_,Xo⟩
  rw [Ac.plus.ev]
  exact Wb _ ha hb (max a.length b.length+1) 0 0 _ (by omega) (by omega) (by omega) (by simp)
theorem Ab4 (N:Nat) {a b:List Int} (ha:E5 a=true) (hb:E5 b=true):∀ (k i w F:Nat),i+k=a.length→k<F→w≤1 →
    Bq a / 2^(32*i)=Bq b / 2^(32*i)+(Bq a-Bq b) / 2^(32*i)+w →
    Ac.minus.L0 N F a b (w:Int) (i:Int) (digits i (Bq a-Bq b))=some (.ints (.own 100005 tW) .u32 (F1 a b)):=by
  obtain ⟨la,ia⟩:=H2 ha
  obtain ⟨lb,ib⟩:=H2 hb
  intro k
  induction k with
  | zero =>
    intro i c F hi hF hc h
    obtain ⟨F,rfl⟩:∃ G,F=G+1:=⟨F-1,by omega⟩
    have t0:decide ((i:Int)<(a.length:Int))=false:=Aq1 (by omega)
    rw [Ac.minus.At,Aq,t0,Aq0]
    unfold F1
    rw [show i=a.length by omega]
  | succ k ih =>
    intro i w F hi hF hc h
    obtain ⟨F,rfl⟩:∃ G,F=G+1:=⟨F-1,by omega⟩
    have t0:decide ((i:Int)<(a.length:Int))=true:=Aqx (by omega)
    have t1:decide ((digits i (Bq a-Bq b)).length+1≤Gq)=true:=Aqx (by rw [Dc]; unfold Gq; omega)
    rw [Ac.minus.At,Aq,t0,ha,hb,t1]
    simp only [Aqw]
    rw [F4 ia,F4 ib]
    have ih:=ih (i+1)
    rw [Jj,Nat.mul_comm 4294967296,← Nat.div_div_eq_div_mul,← Nat.div_div_eq_div_mul,← Nat.div_div_eq_div_mul,Hp] at ih
    generalize Bq a / 2^(32*i)=x at *
    generalize Bq b / 2^(32*i)=y at *
    generalize (Bq a-Bq b) / 2^(32*i)=z at *
    have e1:A3 (A3 (A3 ((4294967296:Int)+((x%4294967296:Nat):Int))-((y%4294967296:Nat):Int))-(w:Int))=((4294967296+x%4294967296-y%4294967296-w:Nat):Int):=by
      rw [Cg (x:=(4294967296:Int)+((x%4294967296:Nat):Int)) (by omega) (by omega),Cg (x:=(4294967296:Int)+((x%4294967296:Nat):Int)-((y%4294967296:Nat):Int)) (by omega) (by omega),Cg (by omega) (by omega)]; omega
    have e2:(4294967296+x%4294967296-y%4294967296-w)%4294967296=z%4294967296:=by omega
    have e3:A3 ((1:Int)-(((4294967296+x%4294967296-y%4294967296-w) / 4294967296:Nat):Int))=((1-(4294967296+x%4294967296-y%4294967296-w) / 4294967296:Nat):Int):=by
      rw [Cg (by omega) (by omega)]; omega
    rw [e1,Aab,G7,Hv,Ht (by omega) (by omega),Cg (x:=(((4294967296+x%4294967296-y%4294967296-w) / 4294967296:Nat):Int)) (by omega) (by omega),An (by omega) (by omega),e2,e3]
    exact ih (1-(4294967296+x%4294967296-y%4294967296-w) / 4294967296) F (by omega) (by omega) (by omega) (by omega)
theorem Ac.minus.known:Ac.minus.Kn:=Ac.minus.Ad (.cons Ac.Hg.known .nil) fun a b hp=>by
  obtain ⟨h1,hle⟩:=Af.1 hp
  obtain ⟨ha,hb⟩:=Af.1 h1
  have hle:=Ao.1 hle
  refine ⟨a.length+1,.ints (.own 100005 tW) .u32 (F1 a b),[100005],?_,Xo⟩
  rw [Ac.minus.ev]
  exact Ab4 _ ha hb a.length 0 0 _ (by omega) (by omega) (by omega) (by simp; omega)
theorem Ff (v:Int):Qu (Ag v):=Aac _
theorem Af7 {v w:Int} (h:Ar v=Ar w):wv (Ar v) (G0 (Ag v) (Ag w))=v+w:=by
  unfold wv
  rw [Wc (Ff _) (Ff _),Da,Da]
  unfold Ar at h ⊢
  unfold H9
  rw [decide_eq_decide] at h
  by_cases hv:v<0
  · have hw:=h.1 hv
    rw [Aqx hv,if_pos rfl]; omega
  · have hw:¬ w<0:=fun k=>hv (h.2 k)
    rw [Aq1 hv,if_neg (by decide)]; omega
theorem Ac4 {v w:Int} (h:Ar v≠Ar w) (hl:w.natAbs≤v.natAbs):wv (Ar v) (F1 (Ag v) (Ag w))=v+w:=by
  unfold wv
  rw [Ab5 _ (Ff _),Da,Da]
  unfold Ar at h ⊢
  unfold H9
  rw [ne_eq,decide_eq_decide] at h
  by_cases hv:v<0
  · have hw:¬ w<0:=fun k=>h ⟨fun _=>k,fun _=>hv⟩
    rw [Aqx hv,if_pos rfl]; omega
  · have hw:w<0:=by
      rcases Int.lt_or_le w 0 with k | k
      · exact k
      · exact absurd ⟨fun k'=>absurd k' hv,fun k'=>by omega⟩ h
    rw [Aq1 hv,if_neg (by decide)]; omega
theorem Ac.Add.known:Ac.Add.Kn:=Ac.Add.Ad (.cons Ac.Made.known (.cons Ac.Gu.known (.cons Ac.minus.known (.cons Ac.plus.known .nil)))) fun n a m b hp=>by
  obtain ⟨h1,h2⟩:=Af.1 hp
  obtain ⟨v,rfl,rfl,hv⟩:=Hz h1
  obtain ⟨w,rfl,rfl,hw⟩:=Hz h2
  refine ⟨0,Ac.Add.out [.b (Ar v),.l (Ag v),.b (Ar w),.l (Ag w)],[],?_,W9⟩
  have o1:E5 (Ag v)=true:=Ln (by omega)
  have o2:E5 (Ag w)=true:=Ln (by omega)
  rw [Ac.Add.ev,o1,o2,Aq2,Aqw]
  show _=some (DV.agg [.bool (Ar (wv (Ar v) (Ag v)+wv (Ar w) (Ag w))),.ints .arg .u32 (Ag (wv (Ar v) (Ag v)+wv (Ar w) (Ag w)))])
  rw [Fy,Fy]
  by_cases hs:Ar v=Ar w
  · have:(Ar v==Ar w)=true:=by simp [hs]
    have o3:E5 (G0 (Ag v) (Ag w))=true:=H0 (by rw [L6,Bx,Bx]; omega) (T6 _ _)
    rw [this,Aqw,o3,Aqw,Af7 hs]
  · have:(Ar v==Ar w)=false:=by simp [hs]
    rw [this,Aq0,Aqw,Aq,Da,Da,Bool.true_and,Bool.true_and]
    by_cases hl:v.natAbs<w.natAbs
    · have e:decide (R1 v.natAbs w.natAbs<0)=true:=Aqx (by unfold R1; rw [if_pos hl]; decide)
      have o3:E5 (F1 (Ag w) (Ag v))=true:=H0 (by rw [O0,Bx]; omega) (Wj _ _)
      have o4:leL (Ag v) (Ag w)=true:=Ao.2 (by rw [Da,Da]; omega)
      rw [e,Aqw,o4,Aqw,o3,Aqw,Ac4 (fun k=>hs k.symm) (by omega),Int.add_comm]
    · have e:decide (R1 v.natAbs w.natAbs<0)=false:=Aq1 (by unfold R1; rw [if_neg hl]; split<;>decide)
      have o3:E5 (F1 (Ag v) (Ag w))=true:=H0 (by rw [O0,Bx]; omega) (Wj _ _)
      have o4:leL (Ag w) (Ag v)=true:=Ao.2 (by rw [Da,Da]; omega)
      rw [e,Aq0,o4,Aqw,o3,Aqw,Ac4 hs (by omega)]
namespace EqRefB
def Ac.Ex.Ba:List (Nat × Entry):=[(171,Ac.Made.spec),(174,Ac.plus.spec)]
def Ac.Ex.E:Env:=Bc (A9 Ac.Ex.Ba) (fun _=>false) (fun _=>none) (fun _=>none)
theorem Ac.Ex.ev (N:Nat) (n:Bool) (a:List Int):By Ac.Ex.E N Tryz.f222 (Am Tryz.f222) [.agg [.bool n,.ints .arg .u32 a]]=bif (E5 a&&E5 a) then bif (E5 (G0 a a)) then some (.agg [.bool (Ar (wv n (G0 a a))),.ints .arg .u32 (Ag (wv n (G0 a a)))]) else none else none :=
  Eq.trans (by kernel_rfl)
  (C0 (C3 (E5 a&&E5 a)) (C0 (C3 (E5 (G0 a a))) rfl rfl) rfl)
abbrev _root_.Go.Proofs.S1.Ac.Ex.Kn:=A7 Tryz.prog 222 Ac.Ex.spec
theorem Ac.Ex.Ad (hk:Ax Tryz.prog Ac.Ex.Ba) (h:∀ (n:Bool) (a:List Int),Ac.Ex.pre [.b n,.l a]=true→Bd Ac.Ex.E Tryz.f222 [.agg [.bool n,.ints .arg .u32 a]] (Ac.Ex.out [.b n,.l a])):Ac.Ex.Kn :=
  Al (A0 hk _ _ _) Tryz.func222 (by kernel_rfl) (by kernel_rfl) h
def Ac.Gc.hint:Nat→Option A6
  | 0=>some { keep:=[1,2,3,4],objs:=[(0,3,100003,.ints 173 .u32 [])],boxes:=[1,2] }
  | _=>none
def Ac.Gc.Ba:List (Nat × Entry):=[(171,Ac.Made.spec),(221,Ac.Hg.spec)]
def Ac.Gc.E:Env:=Bc (A9 Ac.Gc.Ba) (fun _=>false) Ac.Gc.hint (fun _=>none)
def Ac.Gc.L0 (N M:Nat) (n:Bool) (a:List Int) (p4:Int) (p3:List Int):Option DV:=B2 Ac.Gc.E N Tryz.f173 (Am Tryz.f173) [1,1,0,1,0] [] M ⟨Fw 37 [(1,.ptr 1 0 0),(2,.ptr 2 0 0),(3,.oref 100003),(4,.int .i64 p4)],[(1,false,.box [.bool n,.ints .arg .u32 a]),(2,false,.box [.bool false,.nil]),(100003,false,.ints 173 .u32 p3)]⟩
theorem Ac.Gc.At (N M:Nat) (n:Bool) (a:List Int) (p4:Int) (p3:List Int):Ac.Gc.L0 N (M+1) n a p4 p3=bif (A1 p4 (List.length a:Int)) then bif (E5 a) then bif (E5 a) then bif ((decide (0≤p4))&&(decide (p4<(List.length p3:Int)))) then bif (decide ((Int.toNat p4)<(List.length p3))) then Ac.Gc.L0 N M n a (Ab (p4+1)) (List.set p3 (Int.toNat p4) (Hi (A3 (Int.tdiv (A3 ((A3 ((Int.tmod (Ft a (Ab (p4+1))) 2)*4294967296))+(Ft a p4))) 2)))) else none else none else none else none else bif (E5 p3) then some (.agg [.bool (Ar (wv n p3)),.ints .arg .u32 (Ag (wv n p3))]) else none :=
  Eq.trans (by kernel_rfl)
  (E3 (C0 (C3 (E5 a)) (C0 (C3 (E5 a)) (C0 (Li (decide (0≤p4)) (decide (p4<(List.length p3:Int)))) (C0 (C3 (decide ((Int.toNat p4)<(List.length p3)))) rfl rfl) rfl) rfl) rfl) rfl)
theorem Ac.Gc.ev (N:Nat) (n:Bool) (a:List Int):By Ac.Gc.E N Tryz.f173 (Am Tryz.f173) [.agg [.bool n,.ints .arg .u32 a]]=bif (((decide ((0:Int)≤(List.length a:Int)))&&(decide ((List.length a:Int)≤(List.length a:Int))))&&(decide ((List.length a:Int)≤Gq))) then Ac.Gc.L0 N N n a 0 (List.replicate (Int.toNat (List.length a:Int)) 0) else none:=by kernel_rfl
abbrev _root_.Go.Proofs.S1.Ac.Gc.Kn:=A7 Tryz.prog 173 Ac.Gc.spec
theorem Ac.Gc.Ad (hk:Ax Tryz.prog Ac.Gc.Ba) (h:∀ (n:Bool) (a:List Int),Ac.Gc.pre [.b n,.l a]=true→Bd Ac.Gc.E Tryz.f173 [.agg [.bool n,.ints .arg .u32 a]] (Ac.Gc.out [.b n,.l a])):Ac.Gc.Kn :=
  Al (A0 hk _ _ _) Tryz.func173 (by kernel_rfl) (by kernel_rfl) h
def Ac.Bp.hint:Nat→Option A6
  | 0=>some { keep:=[1,2,4],objs:=[],boxes:=[2,4] }
  | 2=>some { keep:=[1,2,4],objs:=[],boxes:=[2,4] }
  | 4=>some { keep:=[1,2,4],objs:=[],boxes:=[2,4] }
  | 6=>some { keep:=[1,2,4],objs:=[],boxes:=[2,4] }
  | _=>none
def Ac.Bp.Ba:List (Nat × Entry):=[(222,Ac.Ex.spec),(173,Ac.Gc.spec),(171,Ac.Made.spec)]
def Ac.Bp.E:Env:=Bc (A9 Ac.Bp.Ba) (fun _=>false) Ac.Bp.hint (fun _=>none)
def Ac.Bp.L0 (N M:Nat) (p1:Int) (p2:Bool) (p2_1:List Int):Option DV:=B2 Ac.Bp.E N Tryz.f178 (Am Tryz.f178) [1,0,0] [] M ⟨Fw 63 [(1,.int .i64 p1),(2,.ptr 2 0 0),(4,.ptr 4 0 0)],[(2,false,.box [.bool p2,.ints .arg .u32 p2_1]),(4,false,.box [.bool false,.nil])]⟩
def Ac.Bp.L1 (N M:Nat) (p1_1:Int) (p2_2:Bool) (p2_3:List Int):Option DV:=B2 Ac.Bp.E N Tryz.f178 (Am Tryz.f178) [1,1,0,0] [] M ⟨Fw 63 [(1,.int .i64 p1_1),(2,.ptr 2 0 0),(4,.ptr 4 0 0)],[(2,false,.box [.bool p2_2,.ints .arg .u32 p2_3]),(4,false,.box [.bool false,.nil])]⟩
def Ac.Bp.L2 (N M:Nat) (p1_2:Int) (p2_4:Bool) (p2_5:List Int):Option DV:=B2 Ac.Bp.E N Tryz.f178 (Am Tryz.f178) [1,1,1,0,0] [] M ⟨Fw 63 [(1,.int .i64 p1_2),(2,.ptr 2 0 0),(4,.ptr 4 0 0)],[(2,false,.box [.bool p2_4,.ints .arg .u32 p2_5]),(4,false,.box [.bool false,.nil])]⟩
def Ac.Bp.L3 (N M:Nat) (p1_3:Int) (p2_6:Bool) (p2_7:List Int):Option DV:=B2 Ac.Bp.E N Tryz.f178 (Am Tryz.f178) [1,1,1,1,0,0] [] M ⟨Fw 63 [(1,.int .i64 p1_3),(2,.ptr 2 0 0),(4,.ptr 4 0 0)],[(2,false,.box [.bool p2_6,.ints .arg .u32 p2_7]),(4,false,.box [.bool false,.nil])]⟩
theorem Ac.Bp.At (N M:Nat) (p1:Int) (p2:Bool) (p2_1:List Int):Ac.Bp.L0 N (M+1) p1 p2 p2_1=bif ((Iw 32 p1)&&(A1 0 (List.length p2_1:Int))) then bif (decide (1+(List.length p2_1)≤Gq)) then bif (E5 ([(0:Int)]++p2_1)) then Ac.Bp.L0 N M (Ab (p1-32)) (Ar (wv p2 ([(0:Int)]++p2_1))) (Ag (wv p2 ([(0:Int)]++p2_1))) else none else none else Ac.Bp.L1 N N p1 p2 p2_1 :=
  Eq.trans (by kernel_rfl)
  (Au (N7 (Iw 32 p1)) (Au (Kq (Iw 32 p1)) (Au (Kq (Iw 32 p1)) (Au (Kq (Iw 32 p1)) (Au (Q9 (Iw 32 p1)) (C0 (tt1 (Iw 32 p1) (A1 0 (List.length p2_1:Int))) (C0 (C3 (decide (1+(List.length p2_1)≤Gq))) (C0 (C3 (E5 ([(0:Int)]++p2_1))) rfl rfl) rfl) rfl))))))
theorem Ac.Bp.Cc (N M:Nat) (p1_1:Int) (p2_2:Bool) (p2_3:List Int):Ac.Bp.L1 N (M+1) p1_1 p2_2 p2_3=bif ((A1 0 p1_1)&&(A1 0 (List.length p2_3:Int))) then bif (Jr p2_2 p2_3) then Ac.Bp.L1 N M (Ab (p1_1-1)) (Ar (2*wv p2_2 p2_3)) (Ag (2*wv p2_2 p2_3)) else none else Ac.Bp.L2 N N p1_1 p2_2 p2_3 :=
  Eq.trans (by kernel_rfl)
  (Au (N7 (A1 0 p1_1)) (Au (Kq (A1 0 p1_1)) (Au (Kq (A1 0 p1_1)) (Au (Kq (A1 0 p1_1)) (Au (Q9 (A1 0 p1_1)) (C0 (tt1 (A1 0 p1_1) (A1 0 (List.length p2_3:Int))) rfl rfl))))))
theorem Ac.Bp.Gz (N M:Nat) (p1_2:Int) (p2_4:Bool) (p2_5:List Int):Ac.Bp.L2 N (M+1) p1_2 p2_4 p2_5=bif ((Iw p1_2 (-32:Int))&&(A1 0 (List.length p2_5:Int))) then bif (decide ((1:Int)≤(List.length p2_5:Int))) then bif (E5 (List.drop 1 p2_5)) then Ac.Bp.L2 N M (Ab (p1_2+32)) (Ar (wv p2_4 (List.drop 1 p2_5))) (Ag (wv p2_4 (List.drop 1 p2_5))) else none else none else Ac.Bp.L3 N N p1_2 p2_4 p2_5 :=
  Eq.trans (by kernel_rfl)
  (Au (N7 (Iw p1_2 (-32:Int))) (Au (Kq (Iw p1_2 (-32:Int))) (Au (Kq (Iw p1_2 (-32:Int))) (Au (Kq (Iw p1_2 (-32:Int))) (Au (Q9 (Iw p1_2 (-32:Int))) (C0 (tt1 (Iw p1_2 (-32:Int)) (A1 0 (List.length p2_5:Int))) (C0 (Apk (decide ((1:Int)≤(List.length p2_5:Int)))) (C0 (C3 (E5 (List.drop 1 p2_5))) rfl rfl) rfl) rfl))))))
theorem Ac.Bp.Yw (N M:Nat) (p1_3:Int) (p2_6:Bool) (p2_7:List Int):Ac.Bp.L3 N (M+1) p1_3 p2_6 p2_7=bif ((A1 p1_3 0)&&(A1 0 (List.length p2_7:Int))) then bif (Jr p2_6 p2_7) then Ac.Bp.L3 N M (Ab (p1_3+1)) (Ar (Is (wv p2_6 p2_7) 1)) (Ag (Is (wv p2_6 p2_7) 1)) else none else some (.agg [.bool p2_6,.ints .arg .u32 p2_7]) :=
  Eq.trans (by kernel_rfl)
  (Au (N7 (A1 p1_3 0)) (Au (Kq (A1 p1_3 0)) (Au (Kq (A1 p1_3 0)) (Au (Kq (A1 p1_3 0)) (Au (Q9 (A1 p1_3 0)) (C0 (tt1 (A1 p1_3 0) (A1 0 (List.length p2_7:Int))) rfl rfl))))))
theorem Ac.Bp.ev (N:Nat) (n:Bool) (a:List Int) (k:Int):By Ac.Bp.E N Tryz.f178 (Am Tryz.f178) [.agg [.bool n,.ints .arg .u32 a],.int .i64 k] =
  Ac.Bp.L0 N N k n a:=by kernel_rfl
abbrev _root_.Go.Proofs.S1.Ac.Bp.Kn:=A7 Tryz.prog 178 Ac.Bp.spec
theorem Ac.Bp.Ad (hk:Ax Tryz.prog Ac.Bp.Ba) (h:∀ (n:Bool) (a:List Int) (k:Int),Ac.Bp.pre [.b n,.l a,.i k]=true→Bd Ac.Bp.E Tryz.f178 [.agg [.bool n,.ints .arg .u32 a],.int .i64 k] (Ac.Bp.out [.b n,.l a,.i k])):Ac.Bp.Kn :=
  Al (A0 hk _ _ _) Tryz.func178 (by kernel_rfl) (by kernel_rfl) h
def Ac.Tj.Ba:List (Nat × Entry):=[]
def Ac.Tj.E:Env:=Bc (A9 Ac.Tj.Ba) (fun _=>false) (fun _=>none) (fun _=>none)
theorem Ac.Tj.ev (N:Nat) (n:Bool) (a:List Int):By Ac.Tj.E N Tryz.f172 (Am Tryz.f172) [.agg [.bool n,.ints .arg .u32 a]]=bif ((!(A1 0 (List.length a:Int)))||(decide ((0:Int)<(List.length a:Int)))) then some (.bool (bif (A1 0 (List.length a:Int)) then ((Int.tmod (List.getD a 0 0) 2)==(1:Int)) else false)) else none :=
  Eq.trans (by kernel_rfl)
  (Au (N7 (A1 0 (List.length a:Int))) (Au (Kq (A1 0 (List.length a:Int))) (C0 (Apj (A1 0 (List.length a:Int)) (decide ((0:Int)<(List.length a:Int)))) (Au (Kq (A1 0 (List.length a:Int))) (Au (Kq (A1 0 (List.length a:Int))) (Au (Kq (A1 0 (List.length a:Int))) (Au (Q9 (A1 0 (List.length a:Int))) rfl)))) rfl)))
abbrev _root_.Go.Proofs.S1.Ac.Tj.Kn:=A7 Tryz.prog 172 Ac.Tj.spec
theorem Ac.Tj.Ad (hk:Ax Tryz.prog Ac.Tj.Ba) (h:∀ (n:Bool) (a:List Int),Ac.Tj.pre [.b n,.l a]=true→Bd Ac.Tj.E Tryz.f172 [.agg [.bool n,.ints .arg .u32 a]] (Ac.Tj.out [.b n,.l a])):Ac.Tj.Kn :=
  Al (A0 hk _ _ _) Tryz.func172 (by kernel_rfl) (by kernel_rfl) h
def Ac.Du.hint:Nat→Option A6
  | 0=>some { keep:=[2,3,5],objs:=[],boxes:=[2,3] }
  | _=>none
def Ac.Du.Ba:List (Nat × Entry):=[]
def Ac.Du.E:Env:=Bc (A9 Ac.Du.Ba) (fun _=>false) Ac.Du.hint (fun _=>none)
def Ac.Du.L0 (N M:Nat) (n:Bool) (a:List Int) (m:Bool) (b:List Int) (p5:Int):Option DV:=B2 Ac.Du.E N Tryz.f133 (Am Tryz.f133) [1,1,0,1,0] [] M ⟨Fw 38 [(2,.ptr 2 0 0),(3,.ptr 3 0 0),(5,.int .i64 p5)],[(2,false,.box [.bool n,.ints .arg .u32 a]),(3,false,.box [.bool m,.ints .arg .u32 b])]⟩
theorem Ac.Du.At (N M:Nat) (n:Bool) (a:List Int) (m:Bool) (b:List Int) (p5:Int):Ac.Du.L0 N (M+1) n a m b p5=bif (A1 p5 (List.length a:Int)) then bif ((decide (0≤p5))&&(decide (p5<(List.length a:Int)))) then bif ((decide (0≤p5))&&(decide (p5<(List.length b:Int)))) then bif ((List.getD a (Int.toNat p5) 0) !=(List.getD b (Int.toNat p5) 0)) then some (.bool false) else Ac.Du.L0 N M n a m b (Ab (p5+1)) else none else none else some (.bool true) :=
  Eq.trans (by kernel_rfl)
  (E3 (C0 (Li (decide (0≤p5)) (decide (p5<(List.length a:Int)))) (C0 (Li (decide (0≤p5)) (decide (p5<(List.length b:Int)))) rfl rfl) rfl) rfl)
theorem Ac.Du.ev (N:Nat) (n:Bool) (a:List Int) (m:Bool) (b:List Int):By Ac.Du.E N Tryz.f133 (Am Tryz.f133) [.agg [.bool n,.ints .arg .u32 a],.agg [.bool m,.ints .arg .u32 b]]=bif ((!(n==m))||((List.length a:Int) !=(List.length b:Int))) then some (.bool false) else Ac.Du.L0 N N n a m b 0 :=
  Eq.trans (by kernel_rfl)
  (Au (Api n m) (Au (Aj4 n m) (Au (Aj4 n m) (Au (Api n m) (Au (Aj4 n m) (Au (Aj4 n m) (Au (tt84 n m) (Au (tt83 n m) (C0 (tt82 n m ((List.length a:Int) !=(List.length b:Int))) rfl rfl)))))))))
abbrev _root_.Go.Proofs.S1.Ac.Du.Kn:=A7 Tryz.prog 133 Ac.Du.spec
theorem Ac.Du.Ad (hk:Ax Tryz.prog Ac.Du.Ba) (h:∀ (n:Bool) (a:List Int) (m:Bool) (b:List Int),Ac.Du.pre [.b n,.l a,.b m,.l b]=true→Bd Ac.Du.E Tryz.f133 [.agg [.bool n,.ints .arg .u32 a],.agg [.bool m,.ints .arg .u32 b]] (Ac.Du.out [.b n,.l a,.b m,.l b])):Ac.Du.Kn :=
  Al (A0 hk _ _ _) Tryz.func133 (by kernel_rfl) (by kernel_rfl) h
end EqRefB
open EqRefB
theorem Ac.Ex.known:Ac.Ex.Kn:=Ac.Ex.Ad (.cons Ac.Made.known (.cons Ac.plus.known .nil)) fun n a hp=>by
  obtain ⟨v,rfl,rfl,hv⟩:=Hz hp
  refine ⟨0,Ac.Ex.out [.b (Ar v),.l (Ag v)],[],?_,W9⟩
  have o1:E5 (Ag v)=true:=Ln (by omega)
  have o3:E5 (G0 (Ag v) (Ag v))=true:=H0 (by rw [L6,Bx]; omega) (T6 _ _)
  rw [Ac.Ex.ev,o1,o3,Aq2,Aqw,Aqw,Af7 rfl]
  show _=some (DV.agg [.bool (Ar (2*wv (Ar v) (Ag v))),.ints .arg .u32 (Ag (2*wv (Ar v) (Ag v)))])
  rw [Fy,Int.two_mul]
theorem Ani (l:List Int) (y x:Int) (r:List Int):∀ i,i=l.length→(l++y::r).set i x=l++x::r:=by
  induction l with
  | nil=>intro i h; subst h; rfl
  | cons z l ih =>
    intro i h
    obtain ⟨j,rfl⟩:∃ j,i=j+1:=⟨i-1,by rw [List.length_cons] at h; omega⟩
    show z::(l++y::r).set j x=z::(l++x::r)
    rw [ih j (by rw [List.length_cons] at h; omega)]
theorem Aff (N:Nat) {v:Int} (hv:C9 v.natAbs<268435456):∀ (k i F:Nat),i+k=C9 v.natAbs→k<F →
    Ac.Gc.L0 N F (Ar v) (Ag v) (i:Int) (digits i (v.natAbs / 2)++List.replicate k 0)=some (.agg [.bool (Ar (Is v 1)),.ints .arg .u32 (Ag (Is v 1))]):=by
  have o1:E5 (Ag v)=true:=Ln (by omega)
  have ia:=Ff v
  intro k
  induction k with
  | zero =>
    intro i F hi hF
    obtain ⟨F,rfl⟩:∃ G,F=G+1:=⟨F-1,by omega⟩
    have t0:decide ((i:Int)<((Ag v).length:Int))=false:=Aq1 (by rw [Bx]; omega)
    rw [List.replicate_zero,List.append_nil,Ac.Gc.At,Aq,t0,Aq0]
    have o3:E5 (digits i (v.natAbs / 2))=true:=H0 (by rw [Dc]; omega) (J6 _ _)
    have e:wv (Ar v) (digits i (v.natAbs / 2))=Is v 1:=by
      unfold wv Is
      rw [Hj,Aq9,Nat.pow_one]
      have:=Iv v.natAbs
      rw [show i=C9 v.natAbs by omega]
      exact Nat.lt_of_le_of_lt (Nat.div_le_self _ _) this
    rw [o3,Aqw,e]
  | succ k ih =>
    intro i F hi hF
    obtain ⟨F,rfl⟩:∃ G,F=G+1:=⟨F-1,by omega⟩
    have hlen:(digits i (v.natAbs / 2)++List.replicate (k+1) (0:Int)).length=i+(k+1):=by rw [List.length_append,Dc,List.length_replicate]
    have t0:decide ((i:Int)<((Ag v).length:Int))=true:=Aqx (by rw [Bx]; omega)
    have t1:decide ((0:Int)≤(i:Int))=true:=Aqx (by omega)
    have t2:decide ((i:Int)<((digits i (v.natAbs / 2)++List.replicate (k+1) (0:Int)).length:Int))=true:=Aqx (by rw [hlen]; omega)
    have t3:decide (i<(digits i (v.natAbs / 2)++List.replicate (k+1) (0:Int)).length)=true:=Aqx (by rw [hlen]; omega)
    have e0:Ab ((i:Int)+1)=((i+1:Nat):Int):=by rw [An (by omega) (by omega)]; omega
    rw [Ac.Gc.At,Aq,t0,o1,Aqy,t1,t2,t3,Aq2]
    simp only [Aqw]
    rw [e0,F4 ia,F4 ia,Da]
    have ih:=ih (i+1) F (by omega) (by omega)
    rw [Hp,Nat.div_div_eq_div_mul,Nat.mul_comm 2,← Nat.div_div_eq_div_mul] at ih
    rw [Jj,Nat.mul_comm 4294967296,← Nat.div_div_eq_div_mul,List.replicate_succ,Ani _ _ _ _ i (Dc _ _).symm]
    rw [List.append_assoc] at ih
    generalize v.natAbs / 2^(32*i)=x at *
    have e1:Int.tmod ((x / 4294967296%4294967296:Nat):Int) 2=((x / 4294967296%4294967296%2:Nat):Int):=G7 _ 2
    have e2:A3 (A3 (((x / 4294967296%4294967296%2:Nat):Int)*4294967296)+((x%4294967296:Nat):Int))=((x / 4294967296%4294967296%2*4294967296+x%4294967296:Nat):Int):=by
      rw [Cg (x:=((x / 4294967296%4294967296%2:Nat):Int)*4294967296) (by omega) (by omega),Cg (by omega) (by omega)]; omega
    have e3:Int.tdiv ((x / 4294967296%4294967296%2*4294967296+x%4294967296:Nat):Int) 2=(((x / 4294967296%4294967296%2*4294967296+x%4294967296) / 2:Nat):Int):=Hv _ 2
    have e4:(x / 4294967296%4294967296%2*4294967296+x%4294967296) / 2=x / 2%4294967296:=by omega
    rw [e1,e2,e3,e4,Cg (by omega) (by omega),Ht (by omega) (by omega)]
    exact ih
theorem Ac.Gc.known:Ac.Gc.Kn:=Ac.Gc.Ad (.cons Ac.Made.known (.cons Ac.Hg.known .nil)) fun n a hp=>by
  obtain ⟨v,rfl,rfl,hv⟩:=Hz hp
  refine ⟨C9 v.natAbs+1,Ac.Gc.out [.b (Ar v),.l (Ag v)],[],?_,W9⟩
  show _=some (DV.agg [.bool (Ar (Is (wv (Ar v) (Ag v)) 1)),.ints .arg .u32 (Ag (Is (wv (Ar v) (Ag v)) 1))])
  rw [Ac.Gc.ev,Fy,Bx,Aqx (by omega),Aqx (by omega),Aqx (by unfold Gq; omega),Aq2,Aq2,Aqw,Aqy]
  have h:=Aff (C9 v.natAbs+1) hv (C9 v.natAbs) 0 (C9 v.natAbs+1) (by omega) (by omega)
  rw [digits,List.nil_append] at h
  exact h
def Aa9 (v:Int):Option DV:=some (.agg [.bool (Ar v),.ints .arg .u32 (Ag v)])
theorem Qr (v:Int):A1 (0:Int) ((Ag v).length:Int)=decide (v≠0):=by
  rw [Aq,Bx,decide_eq_decide]
  constructor
  · intro h e
    rw [e] at h
    exact absurd h (by decide)
  · intro h
    have:=I6 (n:=v.natAbs) (by omega)
    omega
theorem Ane (N:Nat):∀ (j F:Nat) (v:Int),j<F→j<2000000→C9 v.natAbs<268435456→Ac.Bp.L3 N F (-(j:Int)) (Ar v) (Ag v)=Aa9 (Is v j):=by
  intro j
  induction j with
  | zero =>
    intro F v hF _ hv
    obtain ⟨F,rfl⟩:∃ G,F=G+1:=⟨F-1,by omega⟩
    rw [Ac.Bp.Yw,Aq,Aq1 (by omega),Bool.false_and,Aq0,Zh]
    rfl
  | succ j ih =>
    intro F v hF hj hv
    obtain ⟨F,rfl⟩:∃ G,F=G+1:=⟨F-1,by omega⟩
    rw [Ac.Bp.Yw,Aq,Aqx (by omega),Bool.true_and,Qr]
    by_cases h0:v=0
    · rw [Aq1 (by omega),Aq0,h0,P4]
      rfl
    · rw [Aqx h0,Aqw,Jd hv,Aqw,Fy,An (by omega) (by omega)]
      have e:-((j+1:Nat):Int)+1=-(j:Int):=by omega
      have hl:C9 (Is v 1).natAbs<268435456:=by
        rw [Jo]
        exact Nat.lt_of_le_of_lt (J3 (Nat.div_le_self _ _)) hv
      rw [e,ih F (Is v 1) (by omega) (by omega) hl,Xl,Nat.add_comm]
theorem Ac3 (v:Int):wv (Ar v) ((Ag v).drop 1)=Is v 32:=by
  unfold wv Is
  rw [Ad4 (Ff v),Da,two32]
theorem Anf (N:Nat):∀ (F j:Nat) (v:Int),j<F→j<N→j<2000000→C9 v.natAbs<268435456→Ac.Bp.L2 N F (-(j:Int)) (Ar v) (Ag v)=Aa9 (Is v j):=by
  intro F
  induction F with
  | zero=>intro j v h; omega
  | succ F ih =>
    intro j v hF hN hj hv
    rw [Ac.Bp.Gz,Er,Qr]
    by_cases hc:32≤j∧v≠0
    · have o3:E5 ((Ag v).drop 1)=true:=H0 (by rw [List.length_drop,Bx]; omega) (Aah (Ff v))
      have t1:decide ((1:Int)≤((Ag v).length:Int))=true:=Aqx (by
        rw [Bx]
        have:=I6 (n:=v.natAbs) (by omega)
        omega)
      have hl:C9 (Is v 32).natAbs<268435456:=by
        rw [Jo]
        exact Nat.lt_of_le_of_lt (J3 (Nat.div_le_self _ _)) hv
      rw [Aqx (by omega),Aqx hc.2,Aq2,Aqw,t1,Aqw,o3,Aqw,Ac3,An (by omega) (by omega)]
      have e:-(j:Int)+32=-((j-32:Nat):Int):=by omega
      rw [e,ih (j-32) (Is v 32) (by omega) (by omega) (by omega) hl,Xl]
      congr 2
      omega
    · have:(decide (-(j:Int)≤-32)&&decide (v≠0))=false:=by
        rw [Bool.and_eq_false_iff,Arf,Arf]
        omega
      rw [this,Aq0]
      exact Ane N j N v hN hj hv
theorem Sc (N F:Nat) {k:Int} (hk:0≤k) (hN:0<N) (v:Int):Ac.Bp.L2 N (F+1) k (Ar v) (Ag v)=Aa9 v:=by
  obtain ⟨M,rfl⟩:∃ M,N=M+1:=⟨N-1,by omega⟩
  rw [Ac.Bp.Gz,Er,Aq1 (by omega),Bool.false_and,Aq0,Ac.Bp.Yw,Aq,Aq1 (by omega),Bool.false_and,Aq0]
  rfl
theorem Ang (N:Nat) (hN:0<N):∀ (j F:Nat) (v:Int),j<F→j<2000000→C9 v.natAbs+j<268435456→Ac.Bp.L1 N F (j:Int) (Ar v) (Ag v)=Aa9 (v*((2^j:Nat):Int)):=by
  obtain ⟨M,rfl⟩:∃ M,N=M+1:=⟨N-1,by omega⟩
  intro j
  induction j with
  | zero =>
    intro F v hF _ hv
    obtain ⟨F,rfl⟩:∃ G,F=G+1:=⟨F-1,by omega⟩
    rw [Ac.Bp.Cc,Aq,Aq1 (by omega),Bool.false_and,Aq0,Sc _ _ (by omega) (by omega),Nat.pow_zero]
    congr 1
    omega
  | succ j ih =>
    intro F v hF hj hv
    obtain ⟨F,rfl⟩:∃ G,F=G+1:=⟨F-1,by omega⟩
    rw [Ac.Bp.Cc,Aq,Aqx (by omega),Bool.true_and,Qr]
    by_cases h0:v=0
    · rw [Aq1 (by omega),Aq0,h0,Int.zero_mul,Sc _ _ (by omega) (by omega)]
    · have hl:=Ah4 v.natAbs
      have e2:(2*v).natAbs=2*v.natAbs:=by omega
      have e:((j+1:Nat):Int)-1=(j:Int):=by omega
      rw [Aqx h0,Aqw,Jd (by omega),Aqw,Fy,An (by omega) (by omega),e,ih F (2*v) (by omega) (by omega) (by rw [e2]; omega)]
      congr 1
      rw [Nat.pow_succ,Ari,Int.mul_comm 2 v,Int.mul_assoc,Int.mul_comm ((2^j:Nat):Int)]
      rfl
theorem Aos (v:Int):wv (Ar v) ([(0:Int)]++Ag v)=v*((2^32:Nat):Int):=by
  have e:Bq ([(0:Int)]++Ag v)=4294967296*v.natAbs:=by
    show Bq (0::Ag v)=_
    rw [Bq,Da]
    exact Nat.zero_add _
  unfold wv
  rw [e,two32]
  by_cases h:v<0
  · rw [P7 h]; omega
  · rw [P6 h]; omega
theorem Anh (N:Nat):∀ (F j:Nat) (v:Int),j<F→j<N→j<2000000→C9 v.natAbs+j<268435456→Ac.Bp.L0 N F (j:Int) (Ar v) (Ag v)=Aa9 (v*((2^j:Nat):Int)):=by
  intro F
  induction F with
  | zero=>intro j v h; omega
  | succ F ih =>
    intro j v hF hN hj hv
    rw [Ac.Bp.At,Er,Qr]
    by_cases hc:32≤j∧v≠0
    · have o3:E5 ([(0:Int)]++Ag v)=true:=H0 (by rw [List.length_append,Bx]; show 1+_<_; omega) (Aag (Ff v))
      have t1:decide (1+(Ag v).length≤Gq)=true:=Aqx (by rw [Bx]; unfold Gq; omega)
      have e2:(v*((2^32:Nat):Int)).natAbs=v.natAbs*4294967296:=by rw [Int.natAbs_mul,Int.natAbs_natCast,two32]
      have hl:=Ak9 v.natAbs
      rw [Aqx (by omega),Aqx hc.2,Aq2,Aqw,t1,Aqw,o3,Aqw,Aos,An (by omega) (by omega)]
      have e:(j:Int)-32=((j-32:Nat):Int):=by omega
      rw [e,ih (j-32) _ (by omega) (by omega) (by omega) (by rw [e2]; omega)]
      have e3:2^j=2^32*2^(j-32):=by rw [← Nat.pow_add]; congr 1; omega
      rw [e3,Ari,Int.mul_assoc]
    · have:(decide ((32:Int)≤(j:Int))&&decide (v≠0))=false:=by
        rw [Bool.and_eq_false_iff,Arf,Arf]
        omega
      rw [this,Aq0]
      exact Ang N (by omega) j N v hN hj hv
theorem Abk (N j:Nat) (v:Int) (hj:0<j) (hN:j<N) (hj2:j<2000000) (hv:C9 v.natAbs<268435456):Ac.Bp.L0 N N (-(j:Int)) (Ar v) (Ag v)=Aa9 (Is v j):=by
  obtain ⟨M,rfl⟩:∃ M,N=M+1:=⟨N-1,by omega⟩
  rw [Ac.Bp.At,Er,Aq1 (by omega),Bool.false_and,Aq0,Ac.Bp.Cc,Aq,Aq1 (by omega),Bool.false_and,Aq0]
  exact Anf _ _ j v hN hN hj2 hv
theorem Ac.Bp.known:Ac.Bp.Kn:=Ac.Bp.Ad (.cons Ac.Ex.known (.cons Ac.Gc.known (.cons Ac.Made.known .nil))) fun n a k hp=>by
  obtain ⟨h1,h2⟩:=Af.1 hp
  obtain ⟨v,rfl,rfl,hv⟩:=S8 h1
  have h2:=Ao.1 h2
  refine ⟨k.natAbs+1,Ac.Bp.out [.b (Ar v),.l (Ag v),.i k],[],?_,W9⟩
  show _=some (DV.agg [.bool (Ar (Gn (wv (Ar v) (Ag v)) k)),.ints .arg .u32 (Ag (Gn (wv (Ar v) (Ag v)) k))])
  rw [Ac.Bp.ev,Fy]
  unfold Gn
  by_cases h:0≤k
  · obtain ⟨j,rfl⟩:∃ j:Nat,k=j:=⟨k.toNat,by omega⟩
    rw [if_pos h,Aqy,Int.natAbs_natCast]
    exact Anh _ _ j v (by omega) (by omega) (by omega) (by omega)
  · obtain ⟨j,rfl⟩:∃ j:Nat,k=-(j:Int):=⟨(-k).toNat,by omega⟩
    have e:(-(-(j:Int))).toNat=j:=by omega
    rw [if_neg h,e,Int.natAbs_neg,Int.natAbs_natCast]
    exact Abk _ j v (by omega) (by omega) (by omega) (by omega)
end Go.Proofs.S1
end
