/- A verified evaluator of the program's form and its use for this seat: S1Specs, S1Tt, S1EqSoft, S1PSoft, S1EqRefD, S1PRefD, S1EqRefA, S1PRefA, S1PRefAa, S1EqRefB. -/
import Derived.Test.YtjbokjpbiobjpaaGreatTE
set_option linter.unusedVariables false
set_option linter.unusedSimpArgs false
noncomputable section
namespace Go.Proofs.S1
open Go Go.Den Go.Rnd
def soft.Split.pre:List Atom→Bool
  | [.i x]=>Ai x
  | _=>false
def soft.Split.out:List Atom→DV
  | [.i x]=>.agg [.bool (Dv x),.int .i64 (Kc x),.int .u64 (Cj x)]
  | _=>.undef
def soft.Split.spec:Entry:=entry [.i .u64] soft.Split.pre soft.Split.out
def soft.Kind.pre:List Atom→Bool
  | [.i x]=>Ai x
  | _=>false
def soft.Kind.out:List Atom→DV
  | [.i x]=>.int .i64 (A3 x)
  | _=>.undef
def soft.Kind.spec:Entry:=entry [.i .u64] soft.Kind.pre soft.Kind.out
def soft.Sign.pre:List Atom→Bool
  | [.i x]=>Ai x
  | _=>false
def soft.Sign.out:List Atom→DV
  | [.i x]=>.bool (Dv x)
  | _=>.undef
def soft.Sign.spec:Entry:=entry [.i .u64] soft.Sign.pre soft.Sign.out
def soft.Finite.pre:List Atom→Bool
  | [.i x]=>Ai x
  | _=>false
def soft.Finite.out:List Atom→DV
  | [.i x]=>.bool (Cy x)
  | _=>.undef
def soft.Finite.spec:Entry:=entry [.i .u64] soft.Finite.pre soft.Finite.out
def soft.Fy.pre:List Atom→Bool
  | [.i x]=>Ai x
  | _=>false
def soft.Fy.out:List Atom→DV
  | [.i x]=>.int .u64 (Ds x)
  | _=>.undef
def soft.Fy.spec:Entry:=entry [.i .u64] soft.Fy.pre soft.Fy.out
def soft.Fk.pre:List Atom→Bool
  | [.i x]=>Ai x
  | _=>false
def soft.Fk.out:List Atom→DV
  | [.i x]=>.tup [.int .u64 (Bh x),.int .i64 (Az x)]
  | _=>.undef
def soft.Fk.spec:Entry:=entry [.i .u64] soft.Fk.pre soft.Fk.out
def soft.Pack.mu:List Atom→Nat
  | [.b _n,.i m,.i e]=>Nh m e
  | _=>0
def soft.Pack.pre:List Atom→Bool
  | [.b _n,.i m,.i e]=>Jt m e
  | _=>false
def soft.Pack.out:List Atom→DV
  | [.b n,.i m,.i e]=>.int .u64 (Ry n m e)
  | _=>.undef
def soft.Pack.spec:Entry:=entry [.b,.i .u64,.i .i64] soft.Pack.pre soft.Pack.out
def soft.C0.pre:List Atom→Bool
  | [.b _n,.i m,.i e,.b r]=>D0 m e r
  | _=>false
def soft.C0.out:List Atom→DV
  | [.b n,.i m,.i e,.b r]=>.tup [.int .u64 (Eh n m e r),.int .u8 (Eg n m e r)]
  | _=>.undef
def soft.C0.spec:Entry:=entry [.b,.i .u64,.i .i64,.b] soft.C0.pre soft.C0.out
def sum.right.pre:List Atom→Bool
  | [.i m,.i d]=>Ai m&&Cu (0≤d∧d<1000000)
  | _=>false
def sum.right.out:List Atom→DV
  | [.i m,.i d]=>.int .u64 (Ep m d)
  | _=>.undef
def sum.right.spec:Entry:=entry [.i .u64,.i .i64] sum.right.pre sum.right.out
def sum.D8.pre:List Atom→Bool
  | [.i a,.i b]=>(Ai a&&Ai b)&&(!(Cy a)||!(Cy b))
  | _=>false
def sum.D8.out:List Atom→DV
  | [.i a,.i b]=>.tup [.int .u64 (Kp a b),.int .u8 (Ui a b)]
  | _=>.undef
def sum.D8.spec:Entry:=entry [.i .u64,.i .u64] sum.D8.pre sum.D8.out
def sum.Add.pre:List Atom→Bool
  | [.i a,.i b]=>Ai a&&Ai b
  | _=>false
def sum.Add.out:List Atom→DV
  | [.i a,.i b]=>.tup [.int .u64 (Kp a b),.int .u8 (Ui a b)]
  | _=>.undef
def sum.Add.spec:Entry:=entry [.i .u64,.i .u64] sum.Add.pre sum.Add.out
def sum.Sub.pre:List Atom→Bool
  | [.i a,.i b]=>Ai a&&Ai b
  | _=>false
def sum.Sub.out:List Atom→DV
  | [.i a,.i b]=>.tup [.int .u64 (Dr a b),.int .u8 (At6 a b)]
  | _=>.undef
def sum.Sub.spec:Entry:=entry [.i .u64,.i .u64] sum.Sub.pre sum.Sub.out
def A5.Neg.pre:List Atom→Bool
  | [.i x]=>Ai x
  | _=>false
def A5.Neg.out:List Atom→DV
  | [.i x]=>.bool (Dv x)
  | _=>.undef
def A5.Neg.spec:Entry:=entry [.i .u64] A5.Neg.pre A5.Neg.out
def A5.Power.pre:List Atom→Bool
  | [.i x]=>Oa x
  | _=>false
def A5.Power.out:List Atom→DV
  | [.i x]=>.int .i64 (Kc x)
  | _=>.undef
def A5.Power.spec:Entry:=entry [.i .u64] A5.Power.pre A5.Power.out
def A5.Ka.pre:List Atom→Bool
  | [.i x]=>Oa x
  | _=>false
def A5.Ka.out:List Atom→DV
  | [.i x]=>.int .u64 (Cj x)
  | _=>.undef
def A5.Ka.spec:Entry:=entry [.i .u64] A5.Ka.pre A5.Ka.out
def A5.Kind.pre:List Atom→Bool
  | [.i x]=>Oa x
  | _=>false
def A5.Kind.out:List Atom→DV
  | [.i x]=>.int .i64 (A3 x)
  | _=>.undef
def A5.Kind.spec:Entry:=entry [.i .u64] A5.Kind.pre A5.Kind.out
def A5.Finite.pre:List Atom→Bool
  | [.i x]=>Ai x
  | _=>false
def A5.Finite.out:List Atom→DV
  | [.i x]=>.bool (Cy x)
  | _=>.undef
def A5.Finite.spec:Entry:=entry [.i .u64] A5.Finite.pre A5.Finite.out
def Ci.Bo.pre:List Atom→Bool
  | [.i x]=>Ai x
  | _=>false
def Ci.Bo.out:List Atom→DV
  | [.i x]=>.int .i64 (64-Ei x)
  | _=>.undef
def Ci.Bo.spec:Entry:=entry [.i .u64] Ci.Bo.pre Ci.Bo.out
def Ci.G2.pre:List Atom→Bool
  | [.i x,.i y]=>Ai x&&Ai y
  | _=>false
def Ci.G2.out:List Atom→DV
  | [.i x,.i y]=>.tup [.int .u64 (Qb x y),.int .u64 (Lz x y)]
  | _=>.undef
def Ci.G2.spec:Entry:=entry [.i .u64,.i .u64] Ci.G2.pre Ci.G2.out
def times.signed.pre:List Atom→Bool
  | [.i b,.b _n]=>Ai b
  | _=>false
def times.signed.out:List Atom→DV
  | [.i b,.b n]=>.int .u64 (P8 n b)
  | _=>.undef
def times.signed.spec:Entry:=entry [.i .u64,.b] times.signed.pre times.signed.out
def times.nan.pre:List Atom→Bool
  | [.i a,.i b]=>Ai a&&Ai b
  | _=>false
def times.nan.out:List Atom→DV
  | [.i a,.i b]=>.bool (Akm a b)
  | _=>.undef
def times.nan.spec:Entry:=entry [.i .u64,.i .u64] times.nan.pre times.nan.out
def times.norm.pre:List Atom→Bool
  | [.i b]=>Ai b&&Ky b
  | _=>false
def times.norm.out:List Atom→DV
  | [.i b]=>.tup [.int .u64 (Cl b),.int .i64 (Gg b)]
  | _=>.undef
def times.norm.spec:Entry:=entry [.i .u64] times.norm.pre times.norm.out
def times.wide.pre:List Atom→Bool
  | [.b _n,.i m,.i e,.b _r]=>Na m e
  | _=>false
def times.wide.out:List Atom→DV
  | [.b n,.i m,.i e,.b r]=>.tup [.int .u64 (Eh n m e r),.int .u8 (Eg n m e r)]
  | _=>.undef
def times.wide.spec:Entry:=entry [.b,.i .u64,.i .i64,.b] times.wide.pre times.wide.out
def times.Mul.pre:List Atom→Bool
  | [.i a,.i b]=>Ai a&&Ai b
  | _=>false
def times.Mul.out:List Atom→DV
  | [.i a,.i b]=>.tup [.int .u64 (Ek a b),.int .u8 (Aud a b)]
  | _=>.undef
def times.Mul.spec:Entry:=entry [.i .u64,.i .u64] times.Mul.pre times.Mul.out
def times.Div.pre:List Atom→Bool
  | [.i a,.i b]=>Ai a&&Ai b
  | _=>false
def times.Div.out:List Atom→DV
  | [.i a,.i b]=>.tup [.int .u64 (Ev a b),.int .u8 (Aum a b)]
  | _=>.undef
def times.Div.spec:Entry:=entry [.i .u64,.i .u64] times.Div.pre times.Div.out
def Af.Add.pre:List Atom→Bool
  | [.i a,.i b]=>Ai a&&Ai b
  | _=>false
def Af.Add.out:List Atom→DV
  | [.i a,.i b]=>.int .u64 (Kp a b)
  | _=>.undef
def Af.Add.spec:Entry:=entry [.i .u64,.i .u64] Af.Add.pre Af.Add.out
def Af.Sub.pre:List Atom→Bool
  | [.i a,.i b]=>Ai a&&Ai b
  | _=>false
def Af.Sub.out:List Atom→DV
  | [.i a,.i b]=>.int .u64 (Dr a b)
  | _=>.undef
def Af.Sub.spec:Entry:=entry [.i .u64,.i .u64] Af.Sub.pre Af.Sub.out
def Af.Mul.pre:List Atom→Bool
  | [.i a,.i b]=>Ai a&&Ai b
  | _=>false
def Af.Mul.out:List Atom→DV
  | [.i a,.i b]=>.int .u64 (Ek a b)
  | _=>.undef
def Af.Mul.spec:Entry:=entry [.i .u64,.i .u64] Af.Mul.pre Af.Mul.out
def Af.fit.pre:List Atom→Bool
  | [.l _x,.l _y]=>true
  | _=>false
def Af.fit.out:List Atom→DV
  | [.l x,.l y]=>.bool (To x y)
  | _=>.undef
def Af.fit.spec:Entry:=entry [.s .u64,.s .u64] Af.fit.pre Af.fit.out
def Af.Od.pre:List Atom→Bool
  | [.l x,.l y]=>(To x y&&Ah x)&&Ah y
  | _=>false
def Af.Od.out:List Atom→DV
  | [.l x,.l y]=>.tup [.int .u64 (Lw x y),.int .i64 (0:Int)]
  | _=>.undef
def Af.Od.spec:Entry:=entry [.s .u64,.s .u64] Af.Od.pre Af.Od.out
def Aa.size.pre:List Atom→Bool
  | [.i _n]=>true
  | _=>false
def Aa.size.out:List Atom→DV
  | [.i n]=>.bool (Bg n)
  | _=>.undef
def Aa.size.spec:Entry:=entry [.i .i64] Aa.size.pre Aa.size.out
def Aa.Check.pre:List Atom→Bool
  | [.i _r,.i _c,.l _l]=>true
  | _=>false
def Aa.Check.out:List Atom→DV
  | [.i r,.i c,.l l]=>.int .i64 (Jp r c l)
  | _=>.undef
def Aa.Check.spec:Entry:=entry [.st [.i .i64,.i .i64,.s .u64]] Aa.Check.pre Aa.Check.out
def Aa.get.pre:List Atom→Bool
  | [.i r,.i c,.l l,.i i,.i k]=>Dq r c l i k
  | _=>false
def Aa.get.out:List Atom→DV
  | [.i _r,.i c,.l l,.i i,.i k]=>.int .u64 (D4 c l i k)
  | _=>.undef
def Aa.get.spec:Entry:=entry [.st [.i .i64,.i .i64,.s .u64],.i .i64,.i .i64] Aa.get.pre Aa.get.out
def Aa.two.pre:List Atom→Bool
  | [.i _r,.i _c,.l _l,.i _p,.i _q,.l _m]=>true
  | _=>false
def Aa.two.out:List Atom→DV
  | [.i r,.i c,.l l,.i p,.i q,.l m]=>.int .i64 (Su r c l p q m)
  | _=>.undef
def Aa.two.spec:Entry:=entry [.st [.i .i64,.i .i64,.s .u64],.st [.i .i64,.i .i64,.s .u64]] Aa.two.pre Aa.two.out
def Aa.Row.pre:List Atom→Bool
  | [.i r,.i c,.l l,.i i,.i f]=>Vr r c l i&&decide (f=0)
  | _=>false
def Aa.Row.out:List Atom→DV
  | [.i _r,.i c,.l l,.i i,.i _f]=>.ints .fresh .u64 (It c l i)
  | _=>.undef
def Aa.Row.spec:Entry:=entry [.st [.i .i64,.i .i64,.s .u64],.i .i64,.i .i64] Aa.Row.pre Aa.Row.out
def Aa.Dk.pre:List Atom→Bool
  | [.i r,.i c,.l l,.i k,.i f]=>Lp r c l k&&Cu (0≤f∧f≤r)
  | _=>false
def Aa.Dk.out:List Atom→DV
  | [.i r,.i c,.l l,.i k,.i f]=>.ints .fresh .u64 (Dy c l k f (Int.toNat (r-f)))
  | _=>.undef
def Aa.Dk.spec:Entry:=entry [.st [.i .i64,.i .i64,.s .u64],.i .i64,.i .i64] Aa.Dk.pre Aa.Dk.out
def Aa.D3.pre:List Atom→Bool
  | [.i _i,.i _k]=>true
  | _=>false
def Aa.D3.out:List Atom→DV
  | [.i _i,.i _k]=>.int .u64 (0:Int)
  | _=>.undef
def Aa.D3.spec:Entry:=entry [.i .i64,.i .i64] Aa.D3.pre Aa.D3.out
def Aa.G4.pre:List Atom→Bool
  | [.i _i,.i _k]=>true
  | _=>false
def Aa.G4.out:List Atom→DV
  | [.i i,.i k]=>.int .u64 (Ca i k)
  | _=>.undef
def Aa.G4.spec:Entry:=entry [.i .i64,.i .i64] Aa.G4.pre Aa.G4.out
def Aa.E8.pre:List Atom→Bool
  | [.i i,.i k,.i r,.i c,.l l]=>Dq r c l k i
  | _=>false
def Aa.E8.out:List Atom→DV
  | [.i i,.i k,.i _r,.i c,.l l]=>.int .u64 (D4 c l k i)
  | _=>.undef
def Aa.E8.spec:Entry:=entry [.i .i64,.i .i64,.cp [.i .i64,.i .i64,.s .u64]] Aa.E8.pre Aa.E8.out
def Aa.Fa.pre:List Atom→Bool
  | [.i i,.i k,.i r,.i c,.l l,.i x,.i y]=>Dq r c l (x+i) (y+k)&&S4 x y i k
  | _=>false
def Aa.Fa.out:List Atom→DV
  | [.i i,.i k,.i _r,.i c,.l l,.i x,.i y]=>.int .u64 (D4 c l (x+i) (y+k))
  | _=>.undef
def Aa.Fa.spec:Entry:=entry [.i .i64,.i .i64,.cp [.i .i64,.i .i64,.s .u64],.cp [.i .i64],.cp [.i .i64]] Aa.Fa.pre Aa.Fa.out
def Aa.G0.pre:List Atom→Bool
  | [.i i,.i k,.i r,.i c,.l l,.i p,.i q,.l m]=>((Dq r c l i k&&Dq p q m i k)&&Ah l)&&Ah m
  | _=>false
def Aa.G0.out:List Atom→DV
  | [.i i,.i k,.i _r,.i c,.l l,.i _p,.i q,.l m]=>.int .u64 (Dr (D4 c l i k) (D4 q m i k))
  | _=>.undef
def Aa.G0.spec:Entry:=entry [.i .i64,.i .i64,.cp [.i .i64,.i .i64,.s .u64],.cp [.i .i64,.i .i64,.s .u64]] Aa.G0.pre Aa.G0.out
def Aa.Ea.pre:List Atom→Bool
  | [.i i,.i k,.i r,.i c,.l l,.i p,.i q,.l m]=>Lf r c l p q m i k
  | _=>false
def Aa.Ea.out:List Atom→DV
  | [.i i,.i k,.i r,.i c,.l l,.i _p,.i q,.l m]=>.int .u64 (Hp r c l q m i k)
  | _=>.undef
def Aa.Ea.spec:Entry:=entry [.i .i64,.i .i64,.cp [.i .i64,.i .i64,.s .u64],.cp [.i .i64,.i .i64,.s .u64]] Aa.Ea.pre Aa.Ea.out
def Aa.G1.pre:List Atom→Bool
  | [.i i,.i k,.i r,.i c,.l l,.i p,.i q,.l m]=>Qs r c l p q m i k
  | _=>false
def Aa.G1.out:List Atom→DV
  | [.i i,.i k,.i _r,.i c,.l l,.i p,.i q,.l m]=>.int .u64 (Lw (It c l i) (Mk p q m k))
  | _=>.undef
def Aa.G1.spec:Entry:=entry [.i .i64,.i .i64,.cp [.i .i64,.i .i64,.s .u64],.cp [.i .i64,.i .i64,.s .u64]] Aa.G1.pre Aa.G1.out
def Aa.of.Et.pre:List Atom→Bool
  | [.i a,.i b]=>(Bg a&&Bg b)
  | _=>false
def Aa.of.Et.out:List Atom→DV
  | [.i a,.i b]=>.agg [.int .i64 a,.int .i64 b,.ints .fresh .u64 (Bf (Int.toNat a) (Int.toNat b) (fun j1 j2=>Ca j1 j2))]
  | _=>.undef
def Aa.of.Et.spec:Entry:=entry [.i .i64,.i .i64,.fn 246 []] Aa.of.Et.pre Aa.of.Et.out
def Aa.of.Dn.pre:List Atom→Bool
  | [.i a,.i b,.i r,.i c,.l l]=>(Bg a&&Bg b)&&Av r c l&&decide (a=c∧b=r)
  | _=>false
def Aa.of.Dn.out:List Atom→DV
  | [.i a,.i b,.i _r,.i c,.l l]=>.agg [.int .i64 a,.int .i64 b,.ints .fresh .u64 (Bf (Int.toNat a) (Int.toNat b) (fun j1 j2=>D4 c l j2 j1))]
  | _=>.undef
def Aa.of.Dn.spec:Entry:=entry [.i .i64,.i .i64,.fn 220 [.cp [.i .i64,.i .i64,.s .u64]]] Aa.of.Dn.pre Aa.of.Dn.out
def Aa.of.Part.pre:List Atom→Bool
  | [.i a,.i b,.i r,.i c,.l l,.i x,.i y]=>(Bg a&&Bg b)&&Av r c l&&Li r c x y a b
  | _=>false
def Aa.of.Part.out:List Atom→DV
  | [.i a,.i b,.i _r,.i c,.l l,.i x,.i y]=>.agg [.int .i64 a,.int .i64 b,.ints .fresh .u64 (Bf (Int.toNat a) (Int.toNat b) (fun j1 j2=>D4 c l (x+j1) (y+j2)))]
  | _=>.undef
def Aa.of.Part.spec:Entry:=entry [.i .i64,.i .i64,.fn 192 [.cp [.i .i64,.i .i64,.s .u64],.cp [.i .i64],.cp [.i .i64]]] Aa.of.Part.pre Aa.of.Part.out
def Aa.of.Sub.pre:List Atom→Bool
  | [.i a,.i b,.i r,.i c,.l l,.i p,.i q,.l m]=>(Bg a&&Bg b)&&((Av r c l&&Av p q m)&&(Ah l&&Ah m))&&decide (a=r∧b=c∧p=r∧q=c)
  | _=>false
def Aa.of.Sub.out:List Atom→DV
  | [.i a,.i b,.i _r,.i c,.l l,.i _p,.i q,.l m]=>.agg [.int .i64 a,.int .i64 b,.ints .fresh .u64 (Bf (Int.toNat a) (Int.toNat b) (fun j1 j2=>Dr (D4 c l j1 j2) (D4 q m j1 j2)))]
  | _=>.undef
def Aa.of.Sub.spec:Entry:=entry [.i .i64,.i .i64,.fn 194 [.cp [.i .i64,.i .i64,.s .u64],.cp [.i .i64,.i .i64,.s .u64]]] Aa.of.Sub.pre Aa.of.Sub.out
def Aa.of.Stack.pre:List Atom→Bool
  | [.i a,.i b,.i r,.i c,.l l,.i p,.i q,.l m]=>(Bg a&&Bg b)&&(Av r c l&&Av p q m)&&decide (a=r+p∧b=c∧q=c)
  | _=>false
def Aa.of.Stack.out:List Atom→DV
  | [.i a,.i b,.i r,.i c,.l l,.i _p,.i q,.l m]=>.agg [.int .i64 a,.int .i64 b,.ints .fresh .u64 (Bf (Int.toNat a) (Int.toNat b) (fun j1 j2=>Hp r c l q m j1 j2))]
  | _=>.undef
def Aa.of.Stack.spec:Entry:=entry [.i .i64,.i .i64,.fn 195 [.cp [.i .i64,.i .i64,.s .u64],.cp [.i .i64,.i .i64,.s .u64]]] Aa.of.Stack.pre Aa.of.Stack.out
def Aa.of.Mul.pre:List Atom→Bool
  | [.i a,.i b,.i r,.i c,.l l,.i p,.i q,.l m]=>(Bg a&&Bg b)&&((Av r c l&&Av p q m)&&(Ah l&&Ah m))&&decide (a=r∧b=q∧c=p)
  | _=>false
def Aa.of.Mul.out:List Atom→DV
  | [.i a,.i b,.i _r,.i c,.l l,.i p,.i q,.l m]=>.agg [.int .i64 a,.int .i64 b,.ints .fresh .u64 (Bf (Int.toNat a) (Int.toNat b) (fun j1 j2=>Lw (It c l j1) (Mk p q m j2)))]
  | _=>.undef
def Aa.of.Mul.spec:Entry:=entry [.i .i64,.i .i64,.fn 188 [.cp [.i .i64,.i .i64,.s .u64],.cp [.i .i64,.i .i64,.s .u64]]] Aa.of.Mul.pre Aa.of.Mul.out
def Aa.Et.pre:List Atom→Bool
  | [.i _n]=>true
  | _=>false
def Aa.Et.out:List Atom→DV
  | [.i n]=>.tup [.agg [.int .i64 ((Lm n).1),.int .i64 ((Lm n).2.1),.ints .fresh .u64 ((Lm n).2.2.1)],.int .i64 ((Lm n).2.2.2)]
  | _=>.undef
def Aa.Et.spec:Entry:=entry [.i .i64] Aa.Et.pre Aa.Et.out
def Aa.Dn.pre:List Atom→Bool
  | [.i _r,.i _c,.l _l]=>true
  | _=>false
def Aa.Dn.out:List Atom→DV
  | [.i r,.i c,.l l]=>.tup [.agg [.int .i64 ((Ck r c l).1),.int .i64 ((Ck r c l).2.1),.ints .fresh .u64 ((Ck r c l).2.2.1)],.int .i64 ((Ck r c l).2.2.2)]
  | _=>.undef
def Aa.Dn.spec:Entry:=entry [.st [.i .i64,.i .i64,.s .u64]] Aa.Dn.pre Aa.Dn.out
def Aa.Part.pre:List Atom→Bool
  | [.i _r,.i _c,.l _l,.i _x,.i _y,.i _a,.i _b]=>true
  | _=>false
def Aa.Part.out:List Atom→DV
  | [.i r,.i c,.l l,.i x,.i y,.i a,.i b]=>.tup [.agg [.int .i64 ((Ey r c l x y a b).1),.int .i64 ((Ey r c l x y a b).2.1),.ints .fresh .u64 ((Ey r c l x y a b).2.2.1)],.int .i64 ((Ey r c l x y a b).2.2.2)]
  | _=>.undef
def Aa.Part.spec:Entry:=entry [.st [.i .i64,.i .i64,.s .u64],.i .i64,.i .i64,.i .i64,.i .i64] Aa.Part.pre Aa.Part.out
def Aa.Sub.pre:List Atom→Bool
  | [.i _r,.i _c,.l l,.i _p,.i _q,.l m]=>Ah l&&Ah m
  | _=>false
def Aa.Sub.out:List Atom→DV
  | [.i r,.i c,.l l,.i p,.i q,.l m]=>.tup [.agg [.int .i64 ((Ir r c l p q m).1),.int .i64 ((Ir r c l p q m).2.1),.ints .fresh .u64 ((Ir r c l p q m).2.2.1)],.int .i64 ((Ir r c l p q m).2.2.2)]
  | _=>.undef
def Aa.Sub.spec:Entry:=entry [.st [.i .i64,.i .i64,.s .u64],.st [.i .i64,.i .i64,.s .u64]] Aa.Sub.pre Aa.Sub.out
def Aa.Stack.pre:List Atom→Bool
  | [.i _r,.i _c,.l _l,.i _p,.i _q,.l _m]=>true
  | _=>false
def Aa.Stack.out:List Atom→DV
  | [.i r,.i c,.l l,.i p,.i q,.l m]=>.tup [.agg [.int .i64 ((B6 r c l p q m).1),.int .i64 ((B6 r c l p q m).2.1),.ints .fresh .u64 ((B6 r c l p q m).2.2.1)],.int .i64 ((B6 r c l p q m).2.2.2)]
  | _=>.undef
def Aa.Stack.spec:Entry:=entry [.st [.i .i64,.i .i64,.s .u64],.st [.i .i64,.i .i64,.s .u64]] Aa.Stack.pre Aa.Stack.out
def Aa.Mul.pre:List Atom→Bool
  | [.i _r,.i _c,.l l,.i _p,.i _q,.l m]=>Ah l&&Ah m
  | _=>false
def Aa.Mul.out:List Atom→DV
  | [.i r,.i c,.l l,.i p,.i q,.l m]=>.tup [.agg [.int .i64 ((En r c l p q m).1),.int .i64 ((En r c l p q m).2.1),.ints .fresh .u64 ((En r c l p q m).2.2.1)],.int .i64 ((En r c l p q m).2.2.2)]
  | _=>.undef
def Aa.Mul.spec:Entry:=entry [.st [.i .i64,.i .i64,.s .u64],.st [.i .i64,.i .i64,.s .u64]] Aa.Mul.pre Aa.Mul.out
def Bl.Gh.pre:List Atom→Bool
  | [.i _r,.i _c,.l _l]=>true
  | _=>false
def Bl.Gh.out:List Atom→DV
  | [.i r,.i c,.l l]=>.bool (Av r c l)
  | _=>.undef
def Bl.Gh.spec:Entry:=entry [.st [.i .i64,.i .i64,.s .u64]] Bl.Gh.pre Bl.Gh.out
def Bl.Bq.pre:List Atom→Bool
  | [.i a,.i b]=>Bg a&&Bg b
  | _=>false
def Bl.Bq.out:List Atom→DV
  | [.i a,.i b]=>.agg [.int .i64 a,.int .i64 b,.ints .fresh .u64 (Bf (Int.toNat a) (Int.toNat b) (fun _ _=>0))]
  | _=>.undef
def Bl.Bq.spec:Entry:=entry [.i .i64,.i .i64] Bl.Bq.pre Bl.Bq.out
def Bl.Lt.pre:List Atom→Bool
  | [.i r,.i c,.l l,.i i,.i k,.i _b]=>Dq r c l i k
  | _=>false
def Bl.Lt.out:List Atom→DV
  | [.i r,.i c,.l l,.i i,.i k,.i b]=>.agg [.int .i64 r,.int .i64 c,.ints .fresh .u64 (List.set l (Int.toNat (i*c+k)) b)]
  | _=>.undef
def Bl.Lt.spec:Entry:=entry [.st [.i .i64,.i .i64,.s .u64],.i .i64,.i .i64,.i .u64] Bl.Lt.pre Bl.Lt.out
def Bl.Et.pre:List Atom→Bool
  | [.i n]=>Bg n
  | _=>false
def Bl.Et.out:List Atom→DV
  | [.i n]=>.agg [.int .i64 n,.int .i64 n,.ints .fresh .u64 (Bf (Int.toNat n) (Int.toNat n) (fun j1 j2=>Ca j1 j2))]
  | _=>.undef
def Bl.Et.spec:Entry:=entry [.i .i64] Bl.Et.pre Bl.Et.out
def Bl.Row.pre:List Atom→Bool
  | [.i r,.i c,.l l,.i i]=>Vr r c l i
  | _=>false
def Ac.H8.pre:List Atom→Bool
  | [.l l,.i _i]=>Fo l
  | _=>false
def Ac.H8.out:List Atom→DV
  | [.l l,.i i]=>.int .u64 (F9 l i)
  | _=>.undef
def Ac.H8.spec:Entry:=entry [.s .u32,.i .i64] Ac.H8.pre Ac.H8.out
def Ac.Made.pre:List Atom→Bool
  | [.b _n,.l l]=>Fo l
  | _=>false
def Ac.Made.out:List Atom→DV
  | [.b n,.l l]=>.agg [.bool (Ax (wv n l)),.ints .arg .u32 (Ag (wv n l))]
  | _=>.undef
def Ac.Made.spec:Entry:=entry [.b,.s .u32] Ac.Made.pre Ac.Made.out
def Ac.Of.pre:List Atom→Bool
  | [.i n]=>Age n
  | _=>false
def Ac.Of.out:List Atom→DV
  | [.i n]=>.agg [.bool (Ax (n)),.ints .arg .u32 (Ag (n))]
  | _=>.undef
def Ac.Of.spec:Entry:=entry [.i .i64] Ac.Of.pre Ac.Of.out
def Ac.He.pre:List Atom→Bool
  | [.l a,.l b]=>Fo a&&Fo b
  | _=>false
def Ac.He.out:List Atom→DV
  | [.l a,.l b]=>.int .i64 (Tt (By a) (By b))
  | _=>.undef
def Ac.He.spec:Entry:=entry [.s .u32,.s .u32] Ac.He.pre Ac.He.out
def Ac.plus.pre:List Atom→Bool
  | [.l a,.l b]=>Fo a&&Fo b
  | _=>false
def Ac.plus.out:List Atom→DV
  | [.l a,.l b]=>.ints .arg .u32 (Hn a b)
  | _=>.undef
def Ac.plus.spec:Entry:=entry [.s .u32,.s .u32] Ac.plus.pre Ac.plus.out
def Ac.minus.pre:List Atom→Bool
  | [.l a,.l b]=>(Fo a&&Fo b)&&leL b a
  | _=>false
def Ac.minus.out:List Atom→DV
  | [.l a,.l b]=>.ints .arg .u32 (Gj a b)
  | _=>.undef
def Ac.minus.spec:Entry:=entry [.s .u32,.s .u32] Ac.minus.pre Ac.minus.out
def Ac.Add.pre:List Atom→Bool
  | [.b n,.l a,.b m,.l b]=>Jh n a&&Jh m b
  | _=>false
def Ac.Add.out:List Atom→DV
  | [.b n,.l a,.b m,.l b]=>.agg [.bool (Ax (wv n a+wv m b)),.ints .arg .u32 (Ag (wv n a+wv m b))]
  | _=>.undef
def Ac.Add.spec:Entry:=entry [.st [.b,.s .u32],.st [.b,.s .u32]] Ac.Add.pre Ac.Add.out
def Ac.Neg.pre:List Atom→Bool
  | [.b n,.l a]=>Jh n a
  | _=>false
def Ac.Neg.out:List Atom→DV
  | [.b n,.l a]=>.agg [.bool (Ax (- wv n a)),.ints .arg .u32 (Ag (- wv n a))]
  | _=>.undef
def Ac.Neg.spec:Entry:=entry [.st [.b,.s .u32]] Ac.Neg.pre Ac.Neg.out
def Ac.Fe.pre:List Atom→Bool
  | [.b n,.l a]=>Jh n a
  | _=>false
def Ac.Fe.out:List Atom→DV
  | [.b n,.l a]=>.agg [.bool (Ax (2*wv n a)),.ints .arg .u32 (Ag (2*wv n a))]
  | _=>.undef
def Ac.Fe.spec:Entry:=entry [.st [.b,.s .u32]] Ac.Fe.pre Ac.Fe.out
def Ac.Gv.pre:List Atom→Bool
  | [.b n,.l a]=>Jh n a
  | _=>false
def Ac.Gv.out:List Atom→DV
  | [.b n,.l a]=>.agg [.bool (Ax (Js (wv n a) 1)),.ints .arg .u32 (Ag (Js (wv n a) 1))]
  | _=>.undef
def Ac.Gv.spec:Entry:=entry [.st [.b,.s .u32]] Ac.Gv.pre Ac.Gv.out
def Ac.Bx.pre:List Atom→Bool
  | [.b n,.l a,.i k]=>W4 n a&&Are k
  | _=>false
def Ac.Bx.out:List Atom→DV
  | [.b n,.l a,.i k]=>.agg [.bool (Ax (G5 (wv n a) k)),.ints .arg .u32 (Ag (G5 (wv n a) k))]
  | _=>.undef
def Ac.Bx.spec:Entry:=entry [.st [.b,.s .u32],.i .i64] Ac.Bx.pre Ac.Bx.out
def Ac.Pd.pre:List Atom→Bool
  | [.b n,.l a]=>Jh n a
  | _=>false
def Ac.Pd.out:List Atom→DV
  | [.b n,.l a]=>.int .i64 (Zs (wv n a))
  | _=>.undef
def Ac.Pd.spec:Entry:=entry [.st [.b,.s .u32]] Ac.Pd.pre Ac.Pd.out
def Ac.Ve.pre:List Atom→Bool
  | [.b n,.l a]=>Jh n a
  | _=>false
def Ac.Ve.out:List Atom→DV
  | [.b n,.l a]=>.bool (Ahp (wv n a))
  | _=>.undef
def Ac.Ve.spec:Entry:=entry [.st [.b,.s .u32]] Ac.Ve.pre Ac.Ve.out
def Ac.Ed.pre:List Atom→Bool
  | [.b n,.l a,.b m,.l b]=>Jh n a&&Jh m b
  | _=>false
def Ac.Ed.out:List Atom→DV
  | [.b n,.l a,.b m,.l b]=>.bool (T4 (wv n a) (wv m b))
  | _=>.undef
def Ac.Ed.spec:Entry:=entry [.st [.b,.s .u32],.st [.b,.s .u32]] Ac.Ed.pre Ac.Ed.out
def Ay.Of.pre:List Atom→Bool
  | [.b n,.l a,.i e]=>Jh n a&&Tf e
  | _=>false
def Ay.Of.out:List Atom→DV
  | [.b n,.l a,.i e]=>.agg [.bool (Ax (mD (wv n a))),.ints .arg .u32 (Ag (mD (wv n a))),.int .i64 (eD (wv n a) e)]
  | _=>.undef
def Ay.Of.spec:Entry:=entry [.st [.b,.s .u32],.i .i64] Ay.Of.pre Ay.Of.out
def Ay.Vf.pre:List Atom→Bool
  | [.b n,.l a,.i _e,.b m,.l b,.i _f]=>Jh n a&&Jh m b
  | _=>false
def Ay.Vf.out:List Atom→DV
  | [.b n,.l a,.i e,.b m,.l b,.i f]=>.int .i64 (Db (wv n a) e (wv m b) f)
  | _=>.undef
def Ay.Vf.spec:Entry:=entry [.st [.b,.s .u32,.i .i64],.st [.b,.s .u32,.i .i64]] Ay.Vf.pre Ay.Vf.out
def Ay.Level.pre:List Atom→Bool
  | [.b n,.l a,.i e,.i f]=>W4 n a&&Abj (wv n a) e f
  | _=>false
def Ay.Level.out:List Atom→DV
  | [.b n,.l a,.i e,.i f]=>.agg [.bool (Ax (G5 (wv n a) (e-f))),.ints .arg .u32 (Ag (G5 (wv n a) (e-f)))]
  | _=>.undef
def Ay.Level.spec:Entry:=entry [.st [.b,.s .u32,.i .i64],.i .i64] Ay.Level.pre Ay.Level.out
def Ay.Add.pre:List Atom→Bool
  | [.b n,.l a,.i e,.b m,.l b,.i f]=>((W4 n a&&W4 m b)&&Tg e)&&Tg f
  | _=>false
def Ay.Add.out:List Atom→DV
  | [.b n,.l a,.i e,.b m,.l b,.i f]=>.agg [.bool (Ax (Aae (wv n a) e (wv m b) f)),.ints .arg .u32 (Ag (Aae (wv n a) e (wv m b) f)),.int .i64 (Amv (wv n a) e (wv m b) f)]
  | _=>.undef
def Ay.Add.spec:Entry:=entry [.st [.b,.s .u32,.i .i64],.st [.b,.s .u32,.i .i64]] Ay.Add.pre Ay.Add.out
def Ay.Vc.pre:List Atom→Bool
  | [.b n,.l a,.i e]=>Jh n a&&Tg e
  | _=>false
def Ay.Vc.out:List Atom→DV
  | [.b n,.l a,.i e]=>.int .i64 (Ag0 (wv n a) e)
  | _=>.undef
def Ay.Vc.spec:Entry:=entry [.st [.b,.s .u32,.i .i64]] Ay.Vc.pre Ay.Vc.out
def Ay.Ed.pre:List Atom→Bool
  | [.b n,.l a,.i _e,.b m,.l b,.i _f]=>Jh n a&&Jh m b
  | _=>false
def Ay.Ed.out:List Atom→DV
  | [.b n,.l a,.i e,.b m,.l b,.i f]=>.bool (((decide (e=f))&&T4 (wv n a) (wv m b)))
  | _=>.undef
def Ay.Ed.spec:Entry:=entry [.st [.b,.s .u32,.i .i64],.st [.b,.s .u32,.i .i64]] Ay.Ed.pre Ay.Ed.out
def A5.Value.pre:List Atom→Bool
  | [.i x]=>Ai x
  | _=>false
def A5.Value.out:List Atom→DV
  | [.i x]=>.agg [.bool (Ax (mD (A7 x))),.ints .arg .u32 (Ag (mD (A7 x))),.int .i64 (eD (A7 x) (Az x))]
  | _=>.undef
def A5.Value.spec:Entry:=entry [.i .u64] A5.Value.pre A5.Value.out
def Ac.single.pre:List Atom→Bool
  | [.l a,.i x]=>Fo a&&Agd x
  | _=>false
def Ac.single.out:List Atom→DV
  | [.l a,.i x]=>.ints .arg .u32 (singleL a x)
  | _=>.undef
def Ac.single.spec:Entry:=entry [.s .u32,.i .u32] Ac.single.pre Ac.single.out
def Ac.Mul.pre:List Atom→Bool
  | [.b n,.l a,.b m,.l b]=>Zd n a&&Zd m b
  | _=>false
def Ac.Mul.out:List Atom→DV
  | [.b n,.l a,.b m,.l b]=>.agg [.bool (Ax (wv n a*wv m b)),.ints .arg .u32 (Ag (wv n a*wv m b))]
  | _=>.undef
def Ac.Mul.spec:Entry:=entry [.st [.b,.s .u32],.st [.b,.s .u32]] Ac.Mul.pre Ac.Mul.out
def Ay.Mul.pre:List Atom→Bool
  | [.b n,.l a,.i e,.b m,.l b,.i f]=>(Zd n a&&Zd m b)&&(Tg e&&Tg f)
  | _=>false
def Ay.Mul.out:List Atom→DV
  | [.b n,.l a,.i e,.b m,.l b,.i f]=>.agg [.bool (Ax (mD (wv n a*wv m b))),.ints .arg .u32 (Ag (mD (wv n a*wv m b))),.int .i64 (eD (wv n a*wv m b) (e+f))]
  | _=>.undef
def Ay.Mul.spec:Entry:=entry [.st [.b,.s .u32,.i .i64],.st [.b,.s .u32,.i .i64]] Ay.Mul.pre Ay.Mul.out
def compare.Kv.pre:List Atom→Bool
  | [.i b]=>Ai b
  | _=>false
def compare.Kv.out:List Atom→DV
  | [.i b]=>.int .i64 (Xv b)
  | _=>.undef
def compare.Kv.spec:Entry:=entry [.i .u64] compare.Kv.pre compare.Kv.out
def compare.Order.pre:List Atom→Bool
  | [.i a,.i b]=>Ai a&&Ai b
  | _=>false
def compare.Order.out:List Atom→DV
  | [.i a,.i b]=>.tup [.int .i64 (Ad3 a b),.bool (Aua a b)]
  | _=>.undef
def compare.Order.spec:Entry:=entry [.i .u64,.i .u64] compare.Order.pre compare.Order.out
def compare.K5.pre:List Atom→Bool
  | [.i a,.i b]=>Ai a&&Ai b
  | _=>false
def compare.K5.out:List Atom→DV
  | [.i a,.i b]=>.bool (decide (Ad3 a b<0))
  | _=>.undef
def compare.K5.spec:Entry:=entry [.i .u64,.i .u64] compare.K5.pre compare.K5.out
def compare.Uk.pre:List Atom→Bool
  | [.i a]=>Ai a
  | _=>false
def compare.Uk.out:List Atom→DV
  | [.i a]=>.int .u64 (Abt a)
  | _=>.undef
def compare.Uk.spec:Entry:=entry [.i .u64] compare.Uk.pre compare.Uk.out
def compare.El.pre:List Atom→Bool
  | [.i a,.i n]=>E0 a n
  | _=>false
def compare.El.out:List Atom→DV
  | [.i a,.i n]=>.tup [.int .u64 (Ch a n),.int .u8 (Anx a n)]
  | _=>.undef
def compare.El.spec:Entry:=entry [.i .u64,.i .i64] compare.El.pre compare.El.out
def Af.Bx.pre:List Atom→Bool
  | [.i a,.i n]=>E0 a n
  | _=>false
def Af.Bx.out:List Atom→DV
  | [.i a,.i n]=>.int .u64 (Ch a n)
  | _=>.undef
def Af.Bx.spec:Entry:=entry [.i .u64,.i .i64] Af.Bx.pre Af.Bx.out
def Af.Div.pre:List Atom→Bool
  | [.i a,.i b]=>Ai a&&Ai b
  | _=>false
def Af.Div.out:List Atom→DV
  | [.i a,.i b]=>.int .u64 (Ev a b)
  | _=>.undef
def Af.Div.spec:Entry:=entry [.i .u64,.i .u64] Af.Div.pre Af.Div.out
def Af.Cn.pre:List Atom→Bool
  | [.l x]=>Cx x
  | _=>false
def Af.Cn.out:List Atom→DV
  | [.l x]=>.int .u64 (Bp x)
  | _=>.undef
def Af.Cn.spec:Entry:=entry [.s .u64] Af.Cn.pre Af.Cn.out
def Af.Finite.pre:List Atom→Bool
  | [.l x]=>Cx x
  | _=>false
def Af.Finite.out:List Atom→DV
  | [.l x]=>.bool (Dz x)
  | _=>.undef
def Af.Finite.spec:Entry:=entry [.s .u64] Af.Finite.pre Af.Finite.out
def Cc.Check.pre:List Atom→Bool
  | [.i _r,.i _c,.l l]=>Ah l
  | _=>false
def Cc.Check.out:List Atom→DV
  | [.i r,.i c,.l l]=>.int .i64 (Bt r c l)
  | _=>.undef
def Cc.Check.spec:Entry:=entry [.st [.i .i64,.i .i64,.s .u64]] Cc.Check.pre Cc.Check.out
def solve.check.pre:List Atom→Bool
  | [.i _r,.i _c,.l l,.i _p,.i _q,.l m]=>Ah l&&Ah m
  | _=>false
def solve.check.out:List Atom→DV
  | [.i r,.i c,.l l,.i p,.i q,.l m]=>.int .i64 (Nv r c l p q m)
  | _=>.undef
def solve.check.spec:Entry:=entry [.st [.i .i64,.i .i64,.s .u64],.st [.i .i64,.i .i64,.s .u64]] solve.check.pre solve.check.out
def Cw.Cv.up.pre:List Atom→Bool
  | [.i n,.i k]=>Cu (0≤k∧k<n∧n≤10)
  | _=>false
def Cw.Cv.up.out:List Atom→DV
  | [.i n,.i k]=>.int .i64 (n-1-k)
  | _=>.undef
def Cw.Cv.up.spec:Entry:=entry [.i .i64,.i .i64] Cw.Cv.up.pre Cw.Cv.up.out
def solve.D9.pre:List Atom→Bool
  | [.i _i,.i _k]=>true
  | _=>false
def solve.D9.out:List Atom→DV
  | [.i i,.i k]=>.bool (decide (i<k))
  | _=>.undef
def solve.D9.spec:Entry:=entry [.i .i64,.i .i64] solve.D9.pre solve.D9.out
def Aa.of.Bq.own.pre:List Atom→Bool
  | [.i a,.i b]=>Bg a&&Bg b
  | _=>false
def Aa.of.Bq.own.out:List Atom→DV
  | [.i a,.i b]=>.agg [.int .i64 a,.int .i64 b,.ints (.own 108002 37) .u64 (Bf (Int.toNat a) (Int.toNat b) (fun _ _=>0))]
  | _=>.undef
def Aa.of.Bq.own.spec:Entry:=entry [.i .i64,.i .i64,.fn 205 []] Aa.of.Bq.own.pre Aa.of.Bq.own.out
def Aa.Bq.own.pre:List Atom→Bool
  | [.i a,.i b]=>Bg a&&Bg b
  | _=>false
def Aa.Bq.own.out:List Atom→DV
  | [.i a,.i b]=>.tup [.agg [.int .i64 a,.int .i64 b,.ints (.own 1136 37) .u64 (Bf (Int.toNat a) (Int.toNat b) (fun _ _=>0))],.int .i64 (0:Int)]
  | _=>.undef
def Aa.Bq.own.spec:Entry:=entry [.i .i64,.i .i64] Aa.Bq.own.pre Aa.Bq.own.out
def solve.As.Up.pre:List Atom→Bool
  | [.i r,.i c,.l l,.i p,.i q,.l m,.i n]=>Oi r c l p q m&&decide (n=r)
  | _=>false
def solve.As.Up.out:List Atom→DV
  | [.i r,.i c,.l l,.i _p,.i q,.l m,.i _n]=>.tup [.agg [.int .i64 ((Jo r q (upG c l q m (Int.toNat r) (Int.toNat q))).1),.int .i64 ((Jo r q (upG c l q m (Int.toNat r) (Int.toNat q))).2.1),.ints .fresh .u64 ((Jo r q (upG c l q m (Int.toNat r) (Int.toNat q))).2.2.1)],.int .i64 ((Jo r q (upG c l q m (Int.toNat r) (Int.toNat q))).2.2.2)]
  | _=>.undef
def solve.As.Up.spec:Entry:=entry [.st [.i .i64,.i .i64,.s .u64],.st [.i .i64,.i .i64,.s .u64],.fm 103 [.i .i64],.fn 104 []] solve.As.Up.pre solve.As.Up.out
def solve.Gz.pre:List Atom→Bool
  | [.i _r,.i _c,.l l,.i _p,.i _q,.l m]=>Ah l&&Ah m
  | _=>false
def solve.Gz.out:List Atom→DV
  | [.i r,.i c,.l l,.i p,.i q,.l m]=>.tup [.agg [.int .i64 ((upX r c l p q m).1),.int .i64 ((upX r c l p q m).2.1),.ints .fresh .u64 ((upX r c l p q m).2.2.1)],.int .i64 ((upX r c l p q m).2.2.2)]
  | _=>.undef
def solve.Gz.spec:Entry:=entry [.st [.i .i64,.i .i64,.s .u64],.st [.i .i64,.i .i64,.s .u64]] solve.Gz.pre solve.Gz.out
def solve.Flat.pre:List Atom→Bool
  | [.i _r,.i _c,.l l]=>Ah l
  | _=>false
def solve.Flat.out:List Atom→DV
  | [.i r,.i c,.l l]=>.tup [.bool ((J5 r c l).1),.int .i64 ((J5 r c l).2)]
  | _=>.undef
def solve.Flat.spec:Entry:=entry [.st [.i .i64,.i .i64,.s .u64]] solve.Flat.pre solve.Flat.out
def qr.E7.pre:List Atom→Bool
  | [.i _r,.i _c,.l l,.i _p,.i _q,.l m]=>Ah l&&Ah m
  | _=>false
def qr.E7.out:List Atom→DV
  | [.i r,.i c,.l l,.i p,.i q,.l m]=>.tup [.agg [.int .i64 ((Dl r c l p q m).1),.int .i64 ((Dl r c l p q m).2.1),.ints .fresh .u64 ((Dl r c l p q m).2.2.1)],.int .i64 ((Dl r c l p q m).2.2.2)]
  | _=>.undef
def qr.E7.spec:Entry:=entry [.st [.i .i64,.i .i64,.s .u64],.st [.i .i64,.i .i64,.s .u64]] qr.E7.pre qr.E7.out
def Bk.Finite.pre:List Atom→Bool
  | [.l x]=>Cx x
  | _=>false
def Bk.Finite.out:List Atom→DV
  | [.l x]=>.bool (Dz x)
  | _=>.undef
def Bk.Finite.spec:Entry:=entry [.s .u64] Bk.Finite.pre Bk.Finite.out
def Dp.Check.pre:List Atom→Bool
  | [.i _r,.i _c,.l l]=>Ah l
  | _=>false
def Dp.Check.out:List Atom→DV
  | [.i r,.i c,.l l]=>.int .i64 (Bt r c l)
  | _=>.undef
def Dp.Check.spec:Entry:=entry [.st [.i .i64,.i .i64,.s .u64]] Dp.Check.pre Dp.Check.out
def Cw.Cv.down.pre:List Atom→Bool
  | [.i _n,.i _k]=>true
  | _=>false
def Cw.Cv.down.out:List Atom→DV
  | [.i _n,.i k]=>.int .i64 k
  | _=>.undef
def Cw.Cv.down.spec:Entry:=entry [.i .i64,.i .i64] Cw.Cv.down.pre Cw.Cv.down.out
def solve.Eb.pre:List Atom→Bool
  | [.i _i,.i _k]=>true
  | _=>false
def solve.Eb.out:List Atom→DV
  | [.i i,.i k]=>.bool (decide (k<i))
  | _=>.undef
def solve.Eb.spec:Entry:=entry [.i .i64,.i .i64] solve.Eb.pre solve.Eb.out
def solve.As.Lo.pre:List Atom→Bool
  | [.i r,.i c,.l l,.i p,.i q,.l m,.i n]=>Oi r c l p q m&&decide (n=r)
  | _=>false
def solve.As.Lo.out:List Atom→DV
  | [.i r,.i c,.l l,.i _p,.i q,.l m,.i _n]=>.tup [.agg [.int .i64 ((Jo r q (Xa c l q m (Int.toNat r) (Int.toNat q))).1),.int .i64 ((Jo r q (Xa c l q m (Int.toNat r) (Int.toNat q))).2.1),.ints .fresh .u64 ((Jo r q (Xa c l q m (Int.toNat r) (Int.toNat q))).2.2.1)],.int .i64 ((Jo r q (Xa c l q m (Int.toNat r) (Int.toNat q))).2.2.2)]
  | _=>.undef
def solve.As.Lo.spec:Entry:=entry [.st [.i .i64,.i .i64,.s .u64],.st [.i .i64,.i .i64,.s .u64],.fm 77 [.i .i64],.fn 78 []] solve.As.Lo.pre solve.As.Lo.out
def solve.G3.pre:List Atom→Bool
  | [.i _r,.i _c,.l l,.i _p,.i _q,.l m]=>Ah l&&Ah m
  | _=>false
def solve.G3.out:List Atom→DV
  | [.i r,.i c,.l l,.i p,.i q,.l m]=>.tup [.agg [.int .i64 ((U3 r c l p q m).1),.int .i64 ((U3 r c l p q m).2.1),.ints .fresh .u64 ((U3 r c l p q m).2.2.1)],.int .i64 ((U3 r c l p q m).2.2.2)]
  | _=>.undef
def solve.G3.spec:Entry:=entry [.st [.i .i64,.i .i64,.s .u64],.st [.i .i64,.i .i64,.s .u64]] solve.G3.pre solve.G3.out
def root.F3.pre:List Atom→Bool
  | [.i m]=>Cu (0≤m∧m<9223372036854775808)
  | _=>false
def root.F3.out:List Atom→DV
  | [.i m]=>.tup [.int .u64 (R8 m),.bool (R9 m)]
  | _=>.undef
def root.F3.spec:Entry:=entry [.i .u64] root.F3.pre root.F3.out
def root.Sqrt.pre:List Atom→Bool
  | [.i a]=>Ai a
  | _=>false
def root.Sqrt.out:List Atom→DV
  | [.i a]=>.tup [.int .u64 (Hq a),.int .u8 (Oj a)]
  | _=>.undef
def root.Sqrt.spec:Entry:=entry [.i .u64] root.Sqrt.pre root.Sqrt.out
def Af.Sqrt.pre:List Atom→Bool
  | [.i a]=>Ai a
  | _=>false
def Af.Sqrt.out:List Atom→DV
  | [.i a]=>.int .u64 (Hq a)
  | _=>.undef
def Af.Sqrt.spec:Entry:=entry [.i .u64] Af.Sqrt.pre Af.Sqrt.out
def compare.Kq.pre:List Atom→Bool
  | [.i a]=>Ai a
  | _=>false
def compare.Kq.out:List Atom→DV
  | [.i a]=>.int .i64 (Bs a)
  | _=>.undef
def compare.Kq.spec:Entry:=entry [.i .u64] compare.Kq.pre compare.Kq.out
def Af.Norm.pre:List Atom→Bool
  | [.l x]=>Cx x&&Cu (List.length x≤64)
  | _=>false
def Af.Norm.out:List Atom→DV
  | [.l x]=>.tup [.int .u64 (Er x),.int .i64 (0:Int)]
  | _=>.undef
def Af.Norm.spec:Entry:=entry [.s .u64] Af.Norm.pre Af.Norm.out
def An.Cz.pre:List Atom→Bool
  | [.l x]=>Cx x
  | _=>false
def An.Cz.out:List Atom→DV
  | [.l x]=>.bool (Jz x)
  | _=>.undef
def An.Cz.spec:Entry:=entry [.s .u64] An.Cz.pre An.Cz.out
def An.lead.pre:List Atom→Bool
  | [.l x]=>Cx x
  | _=>false
def An.lead.out:List Atom→DV
  | [.l x]=>.int .u64 (Qd x)
  | _=>.undef
def An.lead.spec:Entry:=entry [.s .u64] An.lead.pre An.lead.out
def An.C3.pre:List Atom→Bool
  | [.l x,.i k]=>Cx x&&Cu (List.length x≤1000∧-2300≤k∧k≤2300)
  | _=>false
def An.C3.out:List Atom→DV
  | [.l x,.i k]=>.ints .fresh .u64 (Bj x k)
  | _=>.undef
def An.C3.spec:Entry:=entry [.s .u64,.i .i64] An.C3.pre An.C3.out
def An.Fc.pre:List Atom→Bool
  | [.i _i]=>true
  | _=>false
def An.Fc.out:List Atom→DV
  | [.i _i]=>.int .u64 (0:Int)
  | _=>.undef
def An.Fc.spec:Entry:=entry [.i .i64] An.Fc.pre An.Fc.out
def An.Fb.pre:List Atom→Bool
  | [.i i,.l y,.i d]=>(Cu (0≤i∧i<List.length y)&&Ah y)&&Ai d
  | _=>false
def An.Fb.out:List Atom→DV
  | [.i i,.l y,.i d]=>.int .u64 (Ev (List.getD y (Int.toNat i) 0) d)
  | _=>.undef
def An.Fb.spec:Entry:=entry [.i .i64,.cp [.s .u64],.cp [.i .u64]] An.Fb.pre An.Fb.out
def An.row.Zero.pre:List Atom→Bool
  | [.i n]=>Cu (1≤n∧n≤64)
  | _=>false
def An.row.Zero.out:List Atom→DV
  | [.i n]=>.ints .fresh .u64 (Jc (Int.toNat n) (fun _=>0))
  | _=>.undef
def An.row.Zero.spec:Entry:=entry [.i .i64,.fn 254 []] An.row.Zero.pre An.row.Zero.out
def An.row.Div.pre:List Atom→Bool
  | [.i n,.l y,.i d]=>(Cu (1≤n∧n≤64∧n=List.length y)&&Ah y)&&Ai d
  | _=>false
def An.row.Div.out:List Atom→DV
  | [.i n,.l y,.i d]=>.ints .fresh .u64 (Jc (Int.toNat n) (fun j=>Ev (List.getD y j 0) d))
  | _=>.undef
def An.row.Div.spec:Entry:=entry [.i .i64,.fn 259 [.cp [.s .u64],.cp [.i .u64]]] An.row.Div.pre An.row.Div.out
def An.Jq.pre:List Atom→Bool
  | [.l x]=>Cx x
  | _=>false
def An.Jq.out:List Atom→DV
  | [.l x]=>.tup [.ints .fresh .u64 ((Cg x).1),.int .u64 ((Cg x).2.1),.int .u64 ((Cg x).2.2.1),.int .i64 ((Cg x).2.2.2)]
  | _=>.undef
def An.Jq.spec:Entry:=entry [.s .u64] An.Jq.pre An.Jq.out
def An.Apply.pre:List Atom→Bool
  | [.i r,.i c,.l l,.i i,.i k,.l v,.i t]=>((Av r c l&&Mm r c i k v)&&(Ah l&&Ah v))&&Ai t
  | _=>false
def An.Apply.out:List Atom→DV
  | [.i r,.i c,.l l,.i i,.i k,.l v,.i t]=>.tup [.agg [.int .i64 r,.int .i64 c,.ints (.own 114002 37) .u64 (Ga (Int.toNat r) (Int.toNat c) l i k v t)],.int .i64 (0:Int)]
  | _=>.undef
def An.Apply.spec:Entry:=entry [.st [.i .i64,.i .i64,.s .u64],.i .i64,.i .i64,.s .u64,.i .u64] An.Apply.pre An.Apply.out
def qr.down.pre:List Atom→Bool
  | [.i r,.i c,.l l]=>(Av r c l&&Dz l)&&Ah l
  | _=>false
def qr.down.out:List Atom→DV
  | [.i r,.i c,.l l]=>.tup [.agg [.int .i64 ((Fj r c l).1),.int .i64 ((Fj r c l).2.1),.ints .arg .u64 ((Fj r c l).2.2.1)],.recs .fresh 2 (Jk r c l),.int .i64 ((Fj r c l).2.2.2)]
  | _=>.undef
def qr.down.spec:Entry:=entry [.st [.i .i64,.i .i64,.s .u64]] qr.down.pre qr.down.out
def qr.Di.pre:List Atom→Bool
  | [.i _r,.i _c,.l l]=>Ah l
  | _=>false
def qr.Di.out:List Atom→DV
  | [.i r,.i c,.l l]=>.tup [.agg [.int .i64 ((qX r c l).1),.int .i64 ((qX r c l).2.1),.ints .arg .u64 ((qX r c l).2.2.1)],.agg [.int .i64 ((rX r c l).1),.int .i64 ((rX r c l).2.1),.ints .arg .u64 ((rX r c l).2.2.1)],.int .i64 (E1 r c l)]
  | _=>.undef
def qr.Di.spec:Entry:=entry [.st [.i .i64,.i .i64,.s .u64]] qr.Di.pre qr.Di.out
def qr.K4.pre:List Atom→Bool
  | [.i _r,.i _c,.l l]=>Ah l
  | _=>false
def qr.K4.out:List Atom→DV
  | [.i r,.i c,.l l]=>.tup [.agg [.int .i64 ((Hv r c l).1),.int .i64 ((Hv r c l).2.1),.ints .fresh .u64 ((Hv r c l).2.2.1)],.agg [.int .i64 ((Mo r c l).1),.int .i64 ((Mo r c l).2.1),.ints .fresh .u64 ((Mo r c l).2.2.1)],.int .i64 (E1 r c l)]
  | _=>.undef
def qr.K4.spec:Entry:=entry [.st [.i .i64,.i .i64,.s .u64]] qr.K4.pre qr.K4.out
def solve.Gs.pre:List Atom→Bool
  | [.i _r,.i _c,.l l,.i _p,.i _q,.l m]=>Ah l&&Ah m
  | _=>false
def solve.Gs.out:List Atom→DV
  | [.i r,.i c,.l l,.i p,.i q,.l m]=>.tup [.agg [.int .i64 ((I1 r c l p q m).1),.int .i64 ((I1 r c l p q m).2.1),.ints .fresh .u64 ((I1 r c l p q m).2.2.1)],.int .i64 ((I1 r c l p q m).2.2.2)]
  | _=>.undef
def solve.Gs.spec:Entry:=entry [.st [.i .i64,.i .i64,.s .u64],.st [.i .i64,.i .i64,.s .u64]] solve.Gs.pre solve.Gs.out
def G8.Kq.pre:List Atom→Bool
  | [.i a]=>Ai a
  | _=>false
def G8.Kq.out:List Atom→DV
  | [.i a]=>.int .i64 (Bs a)
  | _=>.undef
def G8.Kq.spec:Entry:=entry [.i .u64] G8.Kq.pre G8.Kq.out
def C6.Check.pre:List Atom→Bool
  | [.i _r,.i _c,.l l,.i _p,.i _q,.l m,.i _a,.i _b,.l g,.i _u,.i _v,.l h]=>So l m g h
  | _=>false
def C6.Check.out:List Atom→DV
  | [.i r,.i c,.l l,.i p,.i q,.l m,.i a,.i b,.l g,.i u,.i v,.l h]=>.int .i64 (Le r c l p q m a b g u v h)
  | _=>.undef
def C6.Check.spec:Entry:=entry [.st [.i .i64,.i .i64,.s .u64,.i .i64,.i .i64,.s .u64,.i .i64,.i .i64,.s .u64,.i .i64,.i .i64,.s .u64]] C6.Check.pre C6.Check.out
def C6.finite.pre:List Atom→Bool
  | [.i _r,.i _c,.l l,.i _e]=>Ah l
  | _=>false
def C6.finite.out:List Atom→DV
  | [.i r,.i c,.l l,.i e]=>.tup [.agg [.int .i64 ((Lv r c l e).1),.int .i64 ((Lv r c l e).2.1),.ints .arg .u64 ((Lv r c l e).2.2.1)],.int .i64 ((Lv r c l e).2.2.2)]
  | _=>.undef
def C6.finite.spec:Entry:=entry [.st [.i .i64,.i .i64,.s .u64],.i .i64] C6.finite.pre C6.finite.out
def C6.held.pre:List Atom→Bool
  | [.i r,.i c,.l l,.i p,.i q,.l m,.i a,.i b,.l g,.i u,.i v,.l h]=>So l m g h&&decide (Le r c l p q m a b g u v h=0)
  | _=>false
def C6.held.out:List Atom→DV
  | [.i _r,.i _c,.l _l,.i p,.i q,.l m,.i _a,.i _b,.l _g,.i u,.i v,.l h]=>.tup [.agg [.int .i64 ((hQ p q m).1),.int .i64 ((hQ p q m).2.1),.ints .arg .u64 ((hQ p q m).2.2.1)],.agg [.int .i64 ((hY p q m u v h).1),.int .i64 ((hY p q m u v h).2.1),.ints .fresh .u64 ((hY p q m u v h).2.2.1)],.int .i64 ((hY p q m u v h).2.2.2)]
  | _=>.undef
def C6.held.spec:Entry:=entry [.st [.i .i64,.i .i64,.s .u64,.i .i64,.i .i64,.s .u64,.i .i64,.i .i64,.s .u64,.i .i64,.i .i64,.s .u64]] C6.held.pre C6.held.out
def C6.Solve.pre:List Atom→Bool
  | [.i _r,.i _c,.l l,.i _p,.i _q,.l m,.i _a,.i _b,.l g,.i _u,.i _v,.l h]=>So l m g h
  | _=>false
def C6.Solve.out:List Atom→DV
  | [.i r,.i c,.l l,.i p,.i q,.l m,.i a,.i b,.l g,.i u,.i v,.l h]=>.tup [.agg [.int .i64 ((Cd r c l p q m a b g u v h).1),.int .i64 ((Cd r c l p q m a b g u v h).2.1),.ints .arg .u64 ((Cd r c l p q m a b g u v h).2.2.1)],.int .i64 ((Cd r c l p q m a b g u v h).2.2.2)]
  | _=>.undef
def C6.Solve.spec:Entry:=entry [.st [.i .i64,.i .i64,.s .u64,.i .i64,.i .i64,.s .u64,.i .i64,.i .i64,.s .u64,.i .i64,.i .i64,.s .u64]] C6.Solve.pre C6.Solve.out
def B9.one.pre:List Atom→Bool
  | [.i _b]=>true
  | _=>false
def B9.one.out:List Atom→DV
  | [.i b]=>.agg [.int .i64 (1:Int),.int .i64 (1:Int),.ints .fresh .u64 ([b])]
  | _=>.undef
def B9.one.spec:Entry:=entry [.i .u64] B9.one.pre B9.one.out
def B9.Gx.pre:List Atom→Bool
  | []=>true
  | _=>false
def B9.Gx.out:List Atom→DV
  | []=>.bool true
  | _=>.undef
def B9.Gx.spec:Entry:=entry [] B9.Gx.pre B9.Gx.out
def Bk.Cm.pre:List Atom→Bool
  | [.l x]=>Cx x&&Cu (List.length x=1)
  | _=>false
def Bk.Cm.out:List Atom→DV
  | [.l x]=>.agg [.bool (Ax (Um (List.getD x 0 0))),.ints .arg .u32 (Ag (Um (List.getD x 0 0))),.int .i64 (sqE (List.getD x 0 0))]
  | _=>.undef
def Bk.Cm.spec:Entry:=entry [.s .u64] Bk.Cm.pre Bk.Cm.out
def Bk.Ec.pre:List Atom→Bool
  | [.l x,.i k]=>Cx x&&Cu (0≤k∧k≤1000)
  | _=>false
def Bk.Ec.out:List Atom→DV
  | [.l x,.i k]=>.bool (Ct x k)
  | _=>.undef
def Bk.Ec.spec:Entry:=entry [.s .u64,.i .i64] Bk.Ec.pre Bk.Ec.out
def Dp.Ec.pre:List Atom→Bool
  | [.i _r,.i _c,.l l,.i k]=>Ah l&&Cu (0≤k∧k≤1000)
  | _=>false
def Dp.Ec.out:List Atom→DV
  | [.i r,.i c,.l l,.i k]=>.bool (Av r c l&&Ct l k)
  | _=>.undef
def Dp.Ec.spec:Entry:=entry [.st [.i .i64,.i .i64,.s .u64],.i .i64] Dp.Ec.pre Dp.Ec.out
def B9.Cp.pre:List Atom→Bool
  | [.i _r,.i _c,.l l,.i _p,.i _q,.l m,.l d]=>(Ah l&&Ah m)&&(Cx d&&Ap6 d)
  | _=>false
def B9.Cp.out:List Atom→DV
  | [.i _r,.i _c,.l _l,.i _p,.i _q,.l _m,.l _d]=>.bool true
  | _=>.undef
def B9.Cp.spec:Entry:=entry [.st [.i .i64,.i .i64,.s .u64],.st [.i .i64,.i .i64,.s .u64],.s .u64] B9.Cp.pre B9.Cp.out
def Ci.J8.pre:List Atom→Bool
  | [.i x]=>Ai x
  | _=>false
def Ci.J8.out:List Atom→DV
  | [.i x]=>.int .i64 (Ei x)
  | _=>.undef
def Ci.J8.spec:Entry:=entry [.i .u64] Ci.J8.pre Ci.J8.out
def Ac.plus.own.pre:List Atom→Bool
  | [.l a,.l b]=>Fo a&&Fo b
  | _=>false
def Ac.plus.own.out:List Atom→DV
  | [.l a,.l b]=>.ints (.own 100005 173) .u32 (Hn a b)
  | _=>.undef
def Ac.plus.own.spec:Entry:=entry [.s .u32,.s .u32] Ac.plus.own.pre Ac.plus.own.out
theorem tt0:∀ a b c:Bool,((a==a)&&(b&&(c&&true)))=(b&&c):=by decide
theorem tt1:∀ a b:Bool,(bif a then b else false)=(a&&b):=by decide
theorem Sr:∀ a:Bool,(((!a)||(a==true))&&true)=true:=by decide
theorem Ki:∀ a:Bool,((!(a==true))||((((!(a==true))||(a==true))&&true)&&true))=true:=by decide
theorem N4:∀ a:Bool,((!(a==true))||true)=true:=by decide
theorem tt5:∀ a b:Bool,(bif a then true else b)=(a||b):=by decide
theorem tt6:∀ a:Bool,((!(!a))||(a==false))=true:=by decide
theorem Q9:∀ a:Bool,((!(a==false))||((((!(a==false))||(a==false))&&true)&&true))=true:=by decide
theorem tt8:∀ a:Bool,((!(a==false))||((((!(a==false))||(a==false))&&(((!(a==false))||(a==false))&&true))&&true))=true:=by decide
theorem Ul:∀ a:Bool,((!(a==false))||true)=true:=by decide
theorem De:∀ a:Bool,(a&&true)=a:=by decide
theorem tt11:∀ a b c d e:Bool,(bif a then (bif b then true else (bif c then (bif d then true else e) else false)) else false)=(a&&(b||(c&&(d||e)))):=by decide
theorem At3:∀ a b:Bool,((!(a==true))||(((!(a==true))||(a==true))&&((!(!b))||((a==true)&&(b==false)))))=true:=by decide
theorem tt13:∀ a b c:Bool,((!((a==true)&&(b==false)))||(((!((a==true)&&(b==false)))||((a==true)&&(b==false)))&&(((!c)||(((a==true)&&(b==false))&&(c==true)))&&true)))=true:=by decide
theorem tt14:∀ a b c d:Bool,((!(((a==true)&&(b==false))&&(c==true)))||(((!(((a==true)&&(b==false))&&(c==true)))||(((a==true)&&(b==false))&&(c==true)))&&((!(!d))||((((a==true)&&(b==false))&&(c==true))&&(d==false)))))=true:=by decide
theorem Atq:∀ a b c d:Bool,((!((((a==true)&&(b==false))&&(c==true))&&(d==false)))||((((!((((a==true)&&(b==false))&&(c==true))&&(d==false)))||((((a==true)&&(b==false))&&(c==true))&&(d==false)))&&true)&&true))=true:=by decide
theorem tt16:∀ a b c d:Bool,((!((((a==true)&&(b==false))&&(c==true))&&(d==false)))||true)=true:=by decide
theorem tt17:∀ a b c:Bool,((!(((a==true)&&(b==false))&&(c==true)))||((((!(((a==true)&&(b==false))&&(c==true)))||(((a==true)&&(b==false))&&(c==true)))&&true)&&true))=true:=by decide
theorem tt18:∀ a b c:Bool,((!(((a==true)&&(b==false))&&(c==true)))||true)=true:=by decide
theorem Atp:∀ a b:Bool,((!((a==true)&&(b==false)))||((((!((a==true)&&(b==false)))||((a==true)&&(b==false)))&&true)&&true))=true:=by decide
theorem Ato:∀ a b:Bool,((!((a==true)&&(b==false)))||((((!((a==true)&&(b==false)))||((a==true)&&(b==false)))&&(((!((a==true)&&(b==false)))||((a==true)&&(b==false)))&&true))&&true))=true:=by decide
theorem Ajm:∀ a b:Bool,((!((a==true)&&(b==false)))||true)=true:=by decide
theorem Agy:∀ a:Bool,((!(a==true))||((((!(a==true))||(a==true))&&(((!(a==true))||(a==true))&&true))&&true))=true:=by decide
theorem Aqy:∀ a b:Bool,(bif (!a) then true else b)=((!a)||b):=by decide
theorem Aar:∀ a:Bool,((!(!(!a)))||((!a)==false))=true:=by decide
theorem Sv:∀ a:Bool,((!((!a)==false))||((((!((!a)==false))||((!a)==false))&&true)&&true))=true:=by decide
theorem Aaq:∀ a:Bool,((!((!a)==false))||true)=true:=by decide
theorem tt27:∀ a b:Bool,(bif a then (!b) else false)=(a&&(!b)):=by decide
theorem Aqx:∀ a b:Bool,(bif (!a) then true else (!b))=((!a)||(!b)):=by decide
theorem Ajl:∀ a b:Bool,((!((!a)==false))||((((!((!a)==false))||((!a)==false))&&true)&&b))=((!a)||b):=by decide
theorem Atn:∀ a b c d:Bool,(bif (bif a then b else false) then true else (bif c then d else false))=((a&&b)||(c&&d)):=by decide
theorem Atm:∀ a b:Bool,((!(!(bif a then b else false)))||((bif a then b else false)==false))=true:=by decide
theorem Atl:∀ a b c:Bool,((!((bif a then b else false)==false))||(((!((bif a then b else false)==false))||((bif a then b else false)==false))&&(((!c)||(((bif a then b else false)==false)&&(c==true)))&&true)))=true:=by decide
theorem Atk:∀ a b c:Bool,((!(((bif a then b else false)==false)&&(c==true)))||((((!(((bif a then b else false)==false)&&(c==true)))||(((bif a then b else false)==false)&&(c==true)))&&true)&&true))=true:=by decide
theorem Atj:∀ a b c:Bool,((!(((bif a then b else false)==false)&&(c==true)))||true)=true:=by decide
theorem Ano:∀ a b:Bool,((!((bif a then b else false)==false))||((((!((bif a then b else false)==false))||((bif a then b else false)==false))&&true)&&true))=true:=by decide
theorem Ati:∀ a b:Bool,((!((bif a then b else false)==false))||true)=true:=by decide
theorem Mq:∀ a b:Bool,((a&&b)&&true)=(a&&b):=by decide
theorem tt38:∀ a b c:Bool,(bif (bif (!a) then true else (!b)) then true else c)=(((!a)||(!b))||c):=by decide
theorem Ath:∀ a b:Bool,((!(!(bif (!a) then true else (!b))))||((bif (!a) then true else (!b))==false))=true:=by decide
theorem Aqw:∀ a b:Bool,((!((bif (!a) then true else (!b))==false))||((((!((bif (!a) then true else (!b))==false))||((bif (!a) then true else (!b))==false))&&(((!((bif (!a) then true else (!b))==false))||((bif (!a) then true else (!b))==false))&&true))&&true))=true:=by decide
theorem Agx:∀ a b:Bool,((!((bif (!a) then true else (!b))==false))||((((!((bif (!a) then true else (!b))==false))||((bif (!a) then true else (!b))==false))&&true)&&true))=true:=by decide
theorem Ajk:∀ a b:Bool,((!((bif (!a) then true else (!b))==false))||true)=true:=by decide
theorem tt43:∀ a b c d:Bool,(((a&&b)&&(c&&d))&&true)=((a&&b)&&(c&&d)):=by decide
theorem tt44:∀ a b c d e f g h:Bool,(bif (bif (bif (bif (bif (bif (bif a then true else b) then true else c) then true else d) then true else e) then true else f) then true else g) then true else h)=(((((((a||b)||c)||d)||e)||f)||g)||h):=by decide
theorem tt45:∀ a b c d e f g:Bool,((!(!(bif (bif (bif (bif (bif (bif a then true else b) then true else c) then true else d) then true else e) then true else f) then true else g)))||((bif (bif (bif (bif (bif (bif a then true else b) then true else c) then true else d) then true else e) then true else f) then true else g)==false))=true:=by decide
theorem Atg:∀ a b c d e f g:Bool,((!((bif (bif (bif (bif (bif (bif a then true else b) then true else c) then true else d) then true else e) then true else f) then true else g)==false))||((((!((bif (bif (bif (bif (bif (bif a then true else b) then true else c) then true else d) then true else e) then true else f) then true else g)==false))||((bif (bif (bif (bif (bif (bif a then true else b) then true else c) then true else d) then true else e) then true else f) then true else g)==false))&&(((!((bif (bif (bif (bif (bif (bif a then true else b) then true else c) then true else d) then true else e) then true else f) then true else g)==false))||((bif (bif (bif (bif (bif (bif a then true else b) then true else c) then true else d) then true else e) then true else f) then true else g)==false))&&true))&&true))=true:=by decide
theorem Aqv:∀ a b c d e f g:Bool,((!((bif (bif (bif (bif (bif (bif a then true else b) then true else c) then true else d) then true else e) then true else f) then true else g)==false))||true)=true:=by decide
theorem tt48:∀ a b c d e f g:Bool,((!((bif (bif (bif (bif (bif (bif a then true else b) then true else c) then true else d) then true else e) then true else f) then true else g)==false))||((((!((bif (bif (bif (bif (bif (bif a then true else b) then true else c) then true else d) then true else e) then true else f) then true else g)==false))||((bif (bif (bif (bif (bif (bif a then true else b) then true else c) then true else d) then true else e) then true else f) then true else g)==false))&&true)&&true))=true:=by decide
theorem Atf:∀ a b c d e f:Bool,((!(!(bif (bif (bif (bif (bif a then true else b) then true else c) then true else d) then true else e) then true else f)))||((bif (bif (bif (bif (bif a then true else b) then true else c) then true else d) then true else e) then true else f)==false))=true:=by decide
theorem Ann:∀ a b c d e f:Bool,((!((bif (bif (bif (bif (bif a then true else b) then true else c) then true else d) then true else e) then true else f)==false))||((((!((bif (bif (bif (bif (bif a then true else b) then true else c) then true else d) then true else e) then true else f)==false))||((bif (bif (bif (bif (bif a then true else b) then true else c) then true else d) then true else e) then true else f)==false))&&(((!((bif (bif (bif (bif (bif a then true else b) then true else c) then true else d) then true else e) then true else f)==false))||((bif (bif (bif (bif (bif a then true else b) then true else c) then true else d) then true else e) then true else f)==false))&&true))&&true))=true:=by decide
theorem Agw:∀ a b c d e f:Bool,((!((bif (bif (bif (bif (bif a then true else b) then true else c) then true else d) then true else e) then true else f)==false))||true)=true:=by decide
theorem Aqu:∀ a b c d e f:Bool,((!((bif (bif (bif (bif (bif a then true else b) then true else c) then true else d) then true else e) then true else f)==false))||((((!((bif (bif (bif (bif (bif a then true else b) then true else c) then true else d) then true else e) then true else f)==false))||((bif (bif (bif (bif (bif a then true else b) then true else c) then true else d) then true else e) then true else f)==false))&&true)&&true))=true:=by decide
theorem Ate:∀ a b c d e:Bool,((!(!(bif (bif (bif (bif a then true else b) then true else c) then true else d) then true else e)))||((bif (bif (bif (bif a then true else b) then true else c) then true else d) then true else e)==false))=true:=by decide
theorem Atd:∀ a b c d e:Bool,((!((bif (bif (bif (bif a then true else b) then true else c) then true else d) then true else e)==false))||((((!((bif (bif (bif (bif a then true else b) then true else c) then true else d) then true else e)==false))||((bif (bif (bif (bif a then true else b) then true else c) then true else d) then true else e)==false))&&(((!((bif (bif (bif (bif a then true else b) then true else c) then true else d) then true else e)==false))||((bif (bif (bif (bif a then true else b) then true else c) then true else d) then true else e)==false))&&true))&&true))=true:=by decide
theorem tt55:∀ a b c d e:Bool,((!((bif (bif (bif (bif a then true else b) then true else c) then true else d) then true else e)==false))||((((!((bif (bif (bif (bif a then true else b) then true else c) then true else d) then true else e)==false))||((bif (bif (bif (bif a then true else b) then true else c) then true else d) then true else e)==false))&&true)&&true))=true:=by decide
theorem Anm:∀ a b c d e:Bool,((!((bif (bif (bif (bif a then true else b) then true else c) then true else d) then true else e)==false))||true)=true:=by decide
theorem Aqt:∀ a b c d:Bool,((!(!(bif (bif (bif a then true else b) then true else c) then true else d)))||((bif (bif (bif a then true else b) then true else c) then true else d)==false))=true:=by decide
theorem Atc:∀ a b c d:Bool,((!((bif (bif (bif a then true else b) then true else c) then true else d)==false))||((((!((bif (bif (bif a then true else b) then true else c) then true else d)==false))||((bif (bif (bif a then true else b) then true else c) then true else d)==false))&&(((!((bif (bif (bif a then true else b) then true else c) then true else d)==false))||((bif (bif (bif a then true else b) then true else c) then true else d)==false))&&true))&&true))=true:=by decide
theorem Ajj:∀ a b c d:Bool,((!((bif (bif (bif a then true else b) then true else c) then true else d)==false))||((((!((bif (bif (bif a then true else b) then true else c) then true else d)==false))||((bif (bif (bif a then true else b) then true else c) then true else d)==false))&&true)&&true))=true:=by decide
theorem Aji:∀ a b c d:Bool,((!((bif (bif (bif a then true else b) then true else c) then true else d)==false))||true)=true:=by decide
theorem Anl:∀ a b c:Bool,((!(!(bif (bif a then true else b) then true else c)))||((bif (bif a then true else b) then true else c)==false))=true:=by decide
theorem Adg:∀ a b c:Bool,((!((bif (bif a then true else b) then true else c)==false))||((((!((bif (bif a then true else b) then true else c)==false))||((bif (bif a then true else b) then true else c)==false))&&true)&&true))=true:=by decide
theorem Ank:∀ a b c:Bool,((!((bif (bif a then true else b) then true else c)==false))||true)=true:=by decide
theorem Anj:∀ a b:Bool,((!(!(bif a then true else b)))||((bif a then true else b)==false))=true:=by decide
theorem Adf:∀ a b:Bool,((!((bif a then true else b)==false))||((((!((bif a then true else b)==false))||((bif a then true else b)==false))&&true)&&true))=true:=by decide
theorem Aap:∀ a b:Bool,((!((bif a then true else b)==false))||true)=true:=by decide
theorem tt67:∀ a b:Bool,(!(a&&(b&&true)))=(!(a&&b)):=by decide
theorem tt68:∀ a b c d:Bool,(((!(bif (bif (bif a then b else false) then c else false) then d else false))||((bif (bif (bif a then b else false) then c else false) then d else false)==true))&&true)=true:=by decide
theorem Atb:∀ a b c d:Bool,((!((bif (bif (bif a then b else false) then c else false) then d else false)==true))||((((!((bif (bif (bif a then b else false) then c else false) then d else false)==true))||((bif (bif (bif a then b else false) then c else false) then d else false)==true))&&(((!((bif (bif (bif a then b else false) then c else false) then d else false)==true))||((bif (bif (bif a then b else false) then c else false) then d else false)==true))&&true))&&true))=true:=by decide
theorem Ani:∀ a b c d:Bool,((!((bif (bif (bif a then b else false) then c else false) then d else false)==true))||((((!((bif (bif (bif a then b else false) then c else false) then d else false)==true))||((bif (bif (bif a then b else false) then c else false) then d else false)==true))&&true)&&true))=true:=by decide
theorem Aqs:∀ a b c d:Bool,((!((bif (bif (bif a then b else false) then c else false) then d else false)==true))||true)=true:=by decide
theorem tt72:∀ a b c:Bool,(((!(bif (bif a then b else false) then c else false))||((bif (bif a then b else false) then c else false)==true))&&true)=true:=by decide
theorem Ata:∀ a b c:Bool,((!((bif (bif a then b else false) then c else false)==true))||((((!((bif (bif a then b else false) then c else false)==true))||((bif (bif a then b else false) then c else false)==true))&&true)&&true))=true:=by decide
theorem tt74:∀ a b c:Bool,((!((bif (bif a then b else false) then c else false)==true))||true)=true:=by decide
theorem As9:∀ a b:Bool,(((!(bif a then b else false))||((bif a then b else false)==true))&&true)=true:=by decide
theorem Ajh:∀ a b:Bool,((!((bif a then b else false)==true))||((((!((bif a then b else false)==true))||((bif a then b else false)==true))&&true)&&true))=true:=by decide
theorem As8:∀ a b:Bool,((!((bif a then b else false)==true))||true)=true:=by decide
theorem As7:∀ a b c:Bool,((!(a==true))||((((!(a==true))||(a==true))&&(((!(a==true))||(a==true))&&true))&&(b&&c)))=((!a)||(b&&c)):=by decide
theorem As6:∀ a:Bool,(((a&&true)&&true)&&true)=a:=by decide
theorem Aqq:∀ a b:Bool,((!(a==true))||((((!(a==true))||(a==true))&&true)&&b))=((!a)||b):=by decide
theorem tt82:∀ a b c:Bool,(bif (!(a==b)) then true else c)=((!(a==b))||c):=by decide
theorem tt83:∀ a b:Bool,((!(!(!(a==b))))||((!(a==b))==false))=true:=by decide
theorem tt84:∀ a b:Bool,((!((!(a==b))==false))||((((!((!(a==b))==false))||((!(a==b))==false))&&(((!((!(a==b))==false))||((!(a==b))==false))&&true))&&true))=true:=by decide
theorem Anh:∀ a b:Bool,((!((!(a==b))==false))||((((!((!(a==b))==false))||((!(a==b))==false))&&true)&&true))=true:=by decide
theorem As5:∀ a b:Bool,((!((!(a==b))==false))||true)=true:=by decide
theorem As4:∀ a b:Bool,((!(a==true))||((((!(a==true))||(a==true))&&(((!(a==true))||(a==true))&&true))&&b))=((!a)||b):=by decide
theorem As3:∀ a b:Bool,((!(a==false))||((((!(a==false))||(a==false))&&true)&&b))=(a||b):=by decide
theorem tt89:∀ a b:Bool,(bif a then true else (!b))=(a||(!b)):=by decide
theorem Aqp:∀ a b c:Bool,((a&&b)&&((a&&c)&&true))=((a&&b)&&(a&&c)):=by decide
theorem tt91:∀ a:Bool,((a&&true)&&true)=a:=by decide
theorem tt92:∀ a b c d e:Bool,(bif (bif (bif (bif a then true else b) then true else c) then true else d) then true else e)=((((a||b)||c)||d)||e):=by decide
theorem Ang:∀ a b:Bool,((!((bif a then true else b)==false))||((((!((bif a then true else b)==false))||((bif a then true else b)==false))&&(((!((bif a then true else b)==false))||((bif a then true else b)==false))&&true))&&true))=true:=by decide
theorem tt94:∀ a b c d e f g:Bool,(bif (bif (bif (bif (bif (bif a then true else b) then true else c) then true else d) then true else e) then true else f) then true else g)=((((((a||b)||c)||d)||e)||f)||g):=by decide
theorem tt95:∀ a b c:Bool,((!((bif a then b else false)==true))||((((!((bif a then b else false)==true))||((bif a then b else false)==true))&&true)&&c))=((!(a&&b))||c):=by decide
theorem At4:∀ a b c d:Bool,(bif (bif (bif a then true else b) then true else c) then true else d)=(((a||b)||c)||d):=by decide
theorem At2:∀ a b c:Bool,(bif a then (bif b then true else c) else false)=(a&&(b||c)):=by decide
theorem At1:∀ a b c:Bool,((!((a==true)&&(b==false)))||((((!((a==true)&&(b==false)))||((a==true)&&(b==false)))&&true)&&c))=((!(a&&(!b)))||c):=by decide
theorem At0:∀ a b c d:Bool,((!((a==true)&&(b==false)))||((((!((a==true)&&(b==false)))||((a==true)&&(b==false)))&&(((!((a==true)&&(b==false)))||((a==true)&&(b==false)))&&true))&&(c&&d)))=((!(a&&(!b)))||(c&&d)):=by decide
theorem Ap1:∀ a b c d:Bool,((((a&&b)&&(c&&d))&&true)&&true)=((a&&b)&&(c&&d)):=by decide
theorem Atz:∀ a b c d e f:Bool,(bif (bif (bif (bif (bif (!a) then true else (!b)) then true else c) then true else d) then true else e) then true else (!f))=((((((!a)||(!b))||c)||d)||e)||(!f)):=by decide
theorem Aty:∀ a b c d e:Bool,((!(!(bif (bif (bif (bif (!a) then true else (!b)) then true else c) then true else d) then true else e)))||((bif (bif (bif (bif (!a) then true else (!b)) then true else c) then true else d) then true else e)==false))=true:=by decide
theorem Atx:∀ a b c d e:Bool,((!((bif (bif (bif (bif (!a) then true else (!b)) then true else c) then true else d) then true else e)==false))||((((!((bif (bif (bif (bif (!a) then true else (!b)) then true else c) then true else d) then true else e)==false))||((bif (bif (bif (bif (!a) then true else (!b)) then true else c) then true else d) then true else e)==false))&&true)&&true))=true:=by decide
theorem Atw:∀ a b c d e f:Bool,((!((bif (bif (bif (bif (!a) then true else (!b)) then true else c) then true else d) then true else e)==false))||((((!((bif (bif (bif (bif (!a) then true else (!b)) then true else c) then true else d) then true else e)==false))||((bif (bif (bif (bif (!a) then true else (!b)) then true else c) then true else d) then true else e)==false))&&true)&&f))=((((((!a)||(!b))||c)||d)||e)||f):=by decide
theorem Atv:∀ a b c d e:Bool,((!((bif (bif (bif (bif (!a) then true else (!b)) then true else c) then true else d) then true else e)==false))||true)=true:=by decide
theorem Atu:∀ a b c d:Bool,((!(!(bif (bif (bif (!a) then true else (!b)) then true else c) then true else d)))||((bif (bif (bif (!a) then true else (!b)) then true else c) then true else d)==false))=true:=by decide
theorem Ap0:∀ a b c d:Bool,((!((bif (bif (bif (!a) then true else (!b)) then true else c) then true else d)==false))||((((!((bif (bif (bif (!a) then true else (!b)) then true else c) then true else d)==false))||((bif (bif (bif (!a) then true else (!b)) then true else c) then true else d)==false))&&true)&&true))=true:=by decide
theorem Att:∀ a b c d:Bool,((!((bif (bif (bif (!a) then true else (!b)) then true else c) then true else d)==false))||true)=true:=by decide
theorem Ats:∀ a b c:Bool,((!(!(bif (bif (!a) then true else (!b)) then true else c)))||((bif (bif (!a) then true else (!b)) then true else c)==false))=true:=by decide
theorem Atr:∀ a b c:Bool,((!((bif (bif (!a) then true else (!b)) then true else c)==false))||((((!((bif (bif (!a) then true else (!b)) then true else c)==false))||((bif (bif (!a) then true else (!b)) then true else c)==false))&&(((!((bif (bif (!a) then true else (!b)) then true else c)==false))||((bif (bif (!a) then true else (!b)) then true else c)==false))&&true))&&true))=true:=by decide
theorem Apz:∀ a b c:Bool,((!((bif (bif (!a) then true else (!b)) then true else c)==false))||((((!((bif (bif (!a) then true else (!b)) then true else c)==false))||((bif (bif (!a) then true else (!b)) then true else c)==false))&&true)&&true))=true:=by decide
theorem Apy:∀ a b c:Bool,((!((bif (bif (!a) then true else (!b)) then true else c)==false))||true)=true:=by decide
open Go Go.Den Go.Rnd Go.Proofs
set_option maxRecDepth 100000
namespace EqSoft
def soft.Split.Bb:List (Nat × Entry):=[]
def soft.Split.E:Env:=Bc (Ba soft.Split.Bb) (fun _=>false) (fun _=>none) (fun _=>none)
theorem soft.Split.ev (N:Nat) (x:Int):Bw soft.Split.E N Tryz.f206 (Am Tryz.f206) [.int .u64 x]=some (.agg [.bool ((Dg .u64 x 63)==(1:Int)),.int .i64 (Ab (Fs .u64 (Dg .u64 x 52) 2047)),.int .u64 (Fs .u64 x 4503599627370495)]):=by kernel_rfl
abbrev _root_.Go.Proofs.S1.soft.Split.Kn:=A6 Tryz.prog 206 soft.Split.spec
theorem soft.Split.Ad (hk:A0 Tryz.prog soft.Split.Bb) (h:∀ (x:Int),soft.Split.pre [.i x]=true→Be soft.Split.E Tryz.f206 [.int .u64 x] (soft.Split.out [.i x])):soft.Split.Kn :=
  Ak (A1 hk _ _ _) Tryz.func206 (by kernel_rfl) (by kernel_rfl) h
def soft.Kind.Bb:List (Nat × Entry):=[(206,soft.Split.spec)]
def soft.Kind.E:Env:=Bc (Ba soft.Kind.Bb) (fun _=>false) (fun _=>none) (fun _=>none)
theorem soft.Kind.ev (N:Nat) (x:Int):Bw soft.Kind.E N Tryz.f155 (Am Tryz.f155) [.int .u64 x]=bif (Ai x) then bif (((Kc x)==(2047:Int))&&((Cj x)==(0:Int))) then some (.int .i64 3) else bif ((Kc x)==(2047:Int)) then some (.int .i64 4) else bif (A2 0 (Kc x)) then some (.int .i64 2) else bif (A2 0 (Cj x)) then some (.int .i64 1) else some (.int .i64 0) else none :=
  Eq.trans (by kernel_rfl)
  (Es (Da (tt0 (Dv x) ((Kc x)==(2047:Int)) ((Cj x)==(0:Int))) rfl rfl) rfl)
abbrev _root_.Go.Proofs.S1.soft.Kind.Kn:=A6 Tryz.prog 155 soft.Kind.spec
theorem soft.Kind.Ad (hk:A0 Tryz.prog soft.Kind.Bb) (h:∀ (x:Int),soft.Kind.pre [.i x]=true→Be soft.Kind.E Tryz.f155 [.int .u64 x] (soft.Kind.out [.i x])):soft.Kind.Kn :=
  Ak (A1 hk _ _ _) Tryz.func155 (by kernel_rfl) (by kernel_rfl) h
def soft.Sign.Bb:List (Nat × Entry):=[]
def soft.Sign.E:Env:=Bc (Ba soft.Sign.Bb) (fun _=>false) (fun _=>none) (fun _=>none)
theorem soft.Sign.ev (N:Nat) (x:Int):Bw soft.Sign.E N Tryz.f213 (Am Tryz.f213) [.int .u64 x]=some (.bool ((Dg .u64 x 63)==(1:Int))):=by kernel_rfl
abbrev _root_.Go.Proofs.S1.soft.Sign.Kn:=A6 Tryz.prog 213 soft.Sign.spec
theorem soft.Sign.Ad (hk:A0 Tryz.prog soft.Sign.Bb) (h:∀ (x:Int),soft.Sign.pre [.i x]=true→Be soft.Sign.E Tryz.f213 [.int .u64 x] (soft.Sign.out [.i x])):soft.Sign.Kn :=
  Ak (A1 hk _ _ _) Tryz.func213 (by kernel_rfl) (by kernel_rfl) h
def soft.Finite.Bb:List (Nat × Entry):=[(155,soft.Kind.spec)]
def soft.Finite.E:Env:=Bc (Ba soft.Finite.Bb) (fun _=>false) (fun _=>none) (fun _=>none)
theorem soft.Finite.ev (N:Nat) (x:Int):Bw soft.Finite.E N Tryz.f148 (Am Tryz.f148) [.int .u64 x]=bif (Ai x) then bif ((A3 x)==(3:Int)) then some (.bool false) else bif ((A3 x)==(4:Int)) then some (.bool false) else some (.bool true) else none:=by kernel_rfl
abbrev _root_.Go.Proofs.S1.soft.Finite.Kn:=A6 Tryz.prog 148 soft.Finite.spec
theorem soft.Finite.Ad (hk:A0 Tryz.prog soft.Finite.Bb) (h:∀ (x:Int),soft.Finite.pre [.i x]=true→Be soft.Finite.E Tryz.f148 [.int .u64 x] (soft.Finite.out [.i x])):soft.Finite.Kn :=
  Ak (A1 hk _ _ _) Tryz.func148 (by kernel_rfl) (by kernel_rfl) h
def soft.Fy.Bb:List (Nat × Entry):=[]
def soft.Fy.E:Env:=Bc (Ba soft.Fy.Bb) (fun _=>false) (fun _=>none) (fun _=>none)
theorem soft.Fy.ev (N:Nat) (x:Int):Bw soft.Fy.E N Tryz.f233 (Am Tryz.f233) [.int .u64 x]=some (.int .u64 (Apl .u64 x 9223372036854775808)):=by kernel_rfl
abbrev _root_.Go.Proofs.S1.soft.Fy.Kn:=A6 Tryz.prog 233 soft.Fy.spec
theorem soft.Fy.Ad (hk:A0 Tryz.prog soft.Fy.Bb) (h:∀ (x:Int),soft.Fy.pre [.i x]=true→Be soft.Fy.E Tryz.f233 [.int .u64 x] (soft.Fy.out [.i x])):soft.Fy.Kn :=
  Ak (A1 hk _ _ _) Tryz.func233 (by kernel_rfl) (by kernel_rfl) h
def soft.Fk.Bb:List (Nat × Entry):=[(206,soft.Split.spec)]
def soft.Fk.E:Env:=Bc (Ba soft.Fk.Bb) (fun _=>false) (fun _=>none) (fun _=>none)
theorem soft.Fk.ev (N:Nat) (x:Int):Bw soft.Fk.E N Tryz.f211 (Am Tryz.f211) [.int .u64 x]=bif (Ai x) then bif ((Kc x)==(0:Int)) then some (.tup [.int .u64 (Cj x),.int .i64 (-1074:Int)]) else some (.tup [.int .u64 (Hr .u64 (Cj x) 4503599627370496),.int .i64 (Ab ((Kc x)-1075))]) else none:=by kernel_rfl
abbrev _root_.Go.Proofs.S1.soft.Fk.Kn:=A6 Tryz.prog 211 soft.Fk.spec
theorem soft.Fk.Ad (hk:A0 Tryz.prog soft.Fk.Bb) (h:∀ (x:Int),soft.Fk.pre [.i x]=true→Be soft.Fk.E Tryz.f211 [.int .u64 x] (soft.Fk.out [.i x])):soft.Fk.Kn :=
  Ak (A1 hk _ _ _) Tryz.func211 (by kernel_rfl) (by kernel_rfl) h
def soft.Pack.Bb:List (Nat × Entry):=[(233,soft.Fy.spec)]
def soft.Pack.E (rk:Nat):Env:=Bc (Ba ((239,Ahj [.b,.i .u64,.i .i64] soft.Pack.pre soft.Pack.out soft.Pack.mu rk)::soft.Pack.Bb)) (fun _=>false) (fun _=>none) (fun _=>none)
theorem soft.Pack.ev (N rk:Nat) (n:Bool) (m e:Int):Bw (soft.Pack.E rk) N Tryz.f239 (Am Tryz.f239) [.bool n,.int .u64 m,.int .i64 e]=bif (m==(0:Int)) then bif n then bif (Ai 0) then some (.int .u64 (Ds 0)) else none else some (.int .u64 0) else bif (D1 9007199254740992 m) then bif ((Jt (Dg .u64 m 1) (Ab (e+1)))&&(Cu ((Nh (Dg .u64 m 1) (Ab (e+1)))<rk))) then some (.int .u64 (Ry n (Dg .u64 m 1) (Ab (e+1)))) else none else bif ((A2 m 4503599627370496)&&(A2 (-1074:Int) e)) then bif ((Jt (Br .u64 m 1) (Ab (e-1)))&&(Cu ((Nh (Br .u64 m 1) (Ab (e-1)))<rk))) then some (.int .u64 (Ry n (Br .u64 m 1) (Ab (e-1)))) else none else bif (A2 m 4503599627370496) then bif n then bif (Ai m) then some (.int .u64 (Ds m)) else none else some (.int .u64 m) else bif (D1 2047 (Ab (e+1075))) then bif n then bif (Ai 9218868437227405312) then some (.int .u64 (Ds 9218868437227405312)) else none else some (.int .u64 9218868437227405312) else bif n then bif (Ai (Hr .u64 (Br .u64 (A9 (Ab (e+1075))) 52) (Fs .u64 m 4503599627370495))) then some (.int .u64 (Ds (Hr .u64 (Br .u64 (A9 (Ab (e+1075))) 52) (Fs .u64 m 4503599627370495)))) else none else some (.int .u64 (Hr .u64 (Br .u64 (A9 (Ab (e+1075))) 52) (Fs .u64 m 4503599627370495))) :=
  Eq.trans (by kernel_rfl)
  (Es rfl (Es rfl (Ap (N4 (A2 m 4503599627370496)) (Ap (Ki (A2 m 4503599627370496)) (Ap (Sr (A2 m 4503599627370496)) (Da (tt1 (A2 m 4503599627370496) (A2 (-1074:Int) e)) rfl rfl))))))
theorem soft.Pack.Ad (hk:A0 Tryz.prog soft.Pack.Bb) (h:∀ (rk:Nat) (n:Bool) (m e:Int),soft.Pack.pre [.b n,.i m,.i e]=true→soft.Pack.mu [.b n,.i m,.i e]<rk+1→∃ N dv drops,Bw (soft.Pack.E rk) N Tryz.f239 (Am Tryz.f239) [.bool n,.int .u64 m,.int .i64 e]=some dv∧Wk drops dv (soft.Pack.out [.b n,.i m,.i e])):A6 Tryz.prog 239 soft.Pack.spec:=by
  have call:=Nw (f:=239) Tryz.func239 (by kernel_rfl) (show Tryz.f239.body=some (Am Tryz.f239) by kernel_rfl)
  refine ⟨Aed (E:=soft.Pack.E) Tryz.func239 (show Tryz.f239.body=some (Am Tryz.f239) by kernel_rfl) soft.Pack.mu (fun rk hm=>A1 (.cons ⟨hm,call⟩ hk) _ _ _) fun rk ats dvs he hp hr=>?_,call⟩
  obtain ⟨n,_,_,rfl,rfl,he0⟩:=he.Aup
  obtain ⟨m,_,_,rfl,rfl,he1⟩:=he0.Alk
  obtain ⟨e,_,_,rfl,rfl,he2⟩:=he1.Alk
  obtain ⟨rfl,rfl⟩:=he2.Zk
  exact h rk n m e hp hr
abbrev _root_.Go.Proofs.S1.soft.Pack.Kn:Prop:=A6 Tryz.prog 239 soft.Pack.spec
def soft.C0.hint:Nat→Option A8
  | 0=>some { keep:=[0,1,2,3,10],objs:=[],boxes:=[] }
  | _=>none
def soft.C0.Bb:List (Nat × Entry):=[(155,soft.Kind.spec),(239,soft.Pack.spec)]
def soft.C0.live:Nat→Option (List Nat)
  | 7=>some [0,1,2,3,10]
  | 12=>some [0,2,3,10,11,12,13,14]
  | 14=>some [0,2,10,11,14]
  | 16=>some [0,2,10,11,14]
  | 18=>some [14,15,16]
  | _=>none
def soft.C0.E:Env:=Bc (Ba soft.C0.Bb) (fun _=>false) soft.C0.hint soft.C0.live
def soft.C0.L0 (N M:Nat) (n:Bool) (m e:Int) (r:Bool) (p10:Int):Option DV:=B3 soft.C0.E N Tryz.f212 (Am Tryz.f212) [1,1,1,0,0] [] M ⟨Gb 111 [(0,.bool n),(1,.int .u64 m),(2,.int .i64 e),(3,.bool r),(10,.int .i64 p10)],[]⟩
def soft.C0.C7 (N:Nat) (n:Bool) (m e:Int) (r:Bool) (p10_1:Int):Option DV:=cutAt soft.C0.E N Tryz.f212 (Am Tryz.f212) [1,1,1,1] [] ⟨Gb 111 [(0,.bool n),(1,.int .u64 m),(2,.int .i64 e),(3,.bool r),(10,.int .i64 p10_1)],[]⟩
def soft.C0.C12 (N:Nat) (n:Bool) (e:Int) (r:Bool) (p10_2 p11_1:Int) (p12 p13:Int) (p14:Bool):Option DV:=cutAt soft.C0.E N Tryz.f212 (Am Tryz.f212) [1,1,1,1,1,1,1,1,0] [] ⟨Gb 111 [(0,.bool n),(2,.int .i64 e),(3,.bool r),(10,.int .i64 p10_2),(11,.int .u64 p11_1),(12,.int .u64 p12),(13,.int .u64 p13),(14,.bool p14)],[]⟩
def soft.C0.C14 (N:Nat) (n:Bool) (e p10_3 p11_2:Int) (p14_1:Bool):Option DV:=cutAt soft.C0.E N Tryz.f212 (Am Tryz.f212) [1,1,1,1,1,1,1,1,1,0] [] ⟨Gb 111 [(0,.bool n),(2,.int .i64 e),(10,.int .i64 p10_3),(11,.int .u64 p11_2),(14,.bool p14_1)],[]⟩
def soft.C0.C16 (N:Nat) (n:Bool) (e p11 p10_4:Int) (p14_2:Bool):Option DV:=cutAt soft.C0.E N Tryz.f212 (Am Tryz.f212) [1,1,1,1,1,1,1,1,1,1] [] ⟨Gb 111 [(0,.bool n),(2,.int .i64 e),(10,.int .i64 p10_4),(11,.int .u64 p11),(14,.bool p14_2)],[]⟩
def soft.C0.C18 (N:Nat) (p14_3:Bool) (p15:Int):Option DV:=cutAt soft.C0.E N Tryz.f212 (Am Tryz.f212) [1,1,1,1,1,1,1,1,1,1,1,1,0] [] ⟨Gb 111 [(14,.bool p14_3),(15,.int .u64 p15),(16,.int .u8 0)],[]⟩
theorem soft.C0.Au (N M:Nat) (n:Bool) (m e:Int) (r:Bool) (p10:Int):soft.C0.L0 N (M+1) n m e r p10=bif (decide (0≤p10)) then bif ((D1 9007199254740992 (Dg .u64 m p10))||(A2 (Ab (e+p10)) (-1074:Int))) then bif ((Ab (p10+1))==(63:Int)) then soft.C0.C7 N n m e r (Ab (p10+1)) else soft.C0.L0 N M n m e r (Ab (p10+1)) else soft.C0.C7 N n m e r p10 else none :=
  Eq.trans (by kernel_rfl)
  (Es (Ap (Ul (D1 9007199254740992 (Dg .u64 m p10))) (Ap (Ul (D1 9007199254740992 (Dg .u64 m p10))) (Ap (tt8 (D1 9007199254740992 (Dg .u64 m p10))) (Ap (Q9 (D1 9007199254740992 (Dg .u64 m p10))) (Ap (tt6 (D1 9007199254740992 (Dg .u64 m p10))) (Da (tt5 (D1 9007199254740992 (Dg .u64 m p10)) (A2 (Ab (e+p10)) (-1074:Int))) rfl rfl)))))) rfl)
theorem soft.C0.Aus (N:Nat) (n:Bool) (m e:Int) (r:Bool) (p10_1:Int):soft.C0.C7 N n m e r p10_1=bif (decide (0≤p10_1)) then bif (decide (0≤p10_1)) then bif (A2 0 p10_1) then bif (decide (0≤(Ab (p10_1-1)))) then soft.C0.C12 N n e r p10_1 (Dg .u64 m p10_1) (Fs .u64 m (A9 ((Br .u64 1 p10_1)-1))) (Br .u64 1 (Ab (p10_1-1))) (bif ((Fs .u64 m (A9 ((Br .u64 1 p10_1)-1)))==(0:Int)) then (!r) else false) else none else soft.C0.C12 N n e r p10_1 (Dg .u64 m p10_1) (Fs .u64 m (A9 ((Br .u64 1 p10_1)-1))) 0 (bif ((Fs .u64 m (A9 ((Br .u64 1 p10_1)-1)))==(0:Int)) then (!r) else false) else none else none :=
  Eq.trans ((Fq _ _ _ _ _ _ _).trans (by kernel_rfl))
  (Da (De (decide (0≤p10_1))) (Da (De (decide (0≤p10_1))) (Es (Es (Ap (N4 ((Fs .u64 m (A9 ((Br .u64 1 p10_1)-1)))==(0:Int))) (Ap (Ki ((Fs .u64 m (A9 ((Br .u64 1 p10_1)-1)))==(0:Int))) (Ap (Sr ((Fs .u64 m (A9 ((Br .u64 1 p10_1)-1)))==(0:Int))) rfl))) rfl) (Ap (N4 ((Fs .u64 m (A9 ((Br .u64 1 p10_1)-1)))==(0:Int))) (Ap (Ki ((Fs .u64 m (A9 ((Br .u64 1 p10_1)-1)))==(0:Int))) (Ap (Sr ((Fs .u64 m (A9 ((Br .u64 1 p10_1)-1)))==(0:Int))) rfl)))) rfl) rfl)
theorem soft.C0.Afg (N:Nat) (n:Bool) (e:Int) (r:Bool) (p10_2 p11_1:Int) (p12 p13:Int) (p14:Bool):soft.C0.C12 N n e r p10_2 p11_1 p12 p13 p14=bif ((A2 0 p10_2)&&((A2 p13 p12)||((p12==p13)&&(r||((Fs .u64 p11_1 1)==(1:Int)))))) then soft.C0.C14 N n e p10_2 (A9 (p11_1+1)) p14 else soft.C0.C14 N n e p10_2 p11_1 p14 :=
  Eq.trans ((Fq _ _ _ _ _ _ _).trans (by kernel_rfl))
  (Ap (N4 (A2 0 p10_2)) (Ap (N4 (A2 0 p10_2)) (Ap (Agy (A2 0 p10_2)) (Ap (Ki (A2 0 p10_2)) (Ap (Ajm (A2 0 p10_2) (A2 p13 p12)) (Ap (Ajm (A2 0 p10_2) (A2 p13 p12)) (Ap (Ato (A2 0 p10_2) (A2 p13 p12)) (Ap (Atp (A2 0 p10_2) (A2 p13 p12)) (Ap (tt18 (A2 0 p10_2) (A2 p13 p12) (p12==p13)) (Ap (tt17 (A2 0 p10_2) (A2 p13 p12) (p12==p13)) (Ap (tt16 (A2 0 p10_2) (A2 p13 p12) (p12==p13) r) (Ap (Atq (A2 0 p10_2) (A2 p13 p12) (p12==p13) r) (Ap (Atq (A2 0 p10_2) (A2 p13 p12) (p12==p13) r) (Ap (tt14 (A2 0 p10_2) (A2 p13 p12) (p12==p13) r) (Ap (tt13 (A2 0 p10_2) (A2 p13 p12) (p12==p13)) (Ap (At3 (A2 0 p10_2) (A2 p13 p12)) (Ap (Sr (A2 0 p10_2)) (Da (tt11 (A2 0 p10_2) (A2 p13 p12) (p12==p13) r ((Fs .u64 p11_1 1)==(1:Int))) rfl rfl))))))))))))))))))
theorem soft.C0.Aff (N:Nat) (n:Bool) (e p10_3 p11_2:Int) (p14_1:Bool):soft.C0.C14 N n e p10_3 p11_2 p14_1=bif (A2 (Ab (e+p10_3)) (-1074:Int)) then soft.C0.C16 N n e 0 p10_3 p14_1 else soft.C0.C16 N n e p11_2 p10_3 p14_1:=(Fq _ _ _ _ _ _ _).trans (by kernel_rfl)
theorem soft.C0.Ar8 (N:Nat) (n:Bool) (e p11 p10_4:Int) (p14_2:Bool):soft.C0.C16 N n e p11 p10_4 p14_2=bif (Jt p11 (max (Ab (e+p10_4)) (-1074:Int))) then soft.C0.C18 N p14_2 (Ry n p11 (max (Ab (e+p10_4)) (-1074:Int))) else none:=(Fq _ _ _ _ _ _ _).trans (by kernel_rfl)
theorem soft.C0.Afe (N:Nat) (p14_3:Bool) (p15:Int):soft.C0.C18 N p14_3 p15=bif ((!p14_3)||((Ny .u64 p15 9223372036854775808)==(9218868437227405312:Int))) then bif (Ai p15) then bif ((A3 p15)==(3:Int)) then some (.tup [.int .u64 p15,.int .u8 5]) else bif ((A3 p15)==(0:Int)) then bif ((A3 p15)==(0:Int)) then some (.tup [.int .u64 p15,.int .u8 3]) else some (.tup [.int .u64 p15,.int .u8 1]) else bif ((A3 p15)==(1:Int)) then some (.tup [.int .u64 p15,.int .u8 3]) else some (.tup [.int .u64 p15,.int .u8 1]) else none else some (.tup [.int .u64 p15,.int .u8 0]) :=
  Eq.trans ((Fq _ _ _ _ _ _ _).trans (by kernel_rfl))
  (Ap (Aaq p14_3) (Ap (Sv p14_3) (Ap (Sv p14_3) (Ap (Aar p14_3) (Da (Aqy p14_3 ((Ny .u64 p15 9223372036854775808)==(9218868437227405312:Int))) rfl rfl)))))
theorem soft.C0.ev (N:Nat) (n:Bool) (m e:Int) (r:Bool):Bw soft.C0.E N Tryz.f212 (Am Tryz.f212) [.bool n,.int .u64 m,.int .i64 e,.bool r]=bif ((m==(0:Int))&&(!r)) then bif (Jt 0 (-1074:Int)) then some (.tup [.int .u64 (Ry n 0 (-1074:Int)),.int .u8 0]) else none else soft.C0.L0 N N n m e r 0 :=
  Eq.trans (by kernel_rfl)
  (Ap (N4 (m==(0:Int))) (Ap (Ki (m==(0:Int))) (Ap (Sr (m==(0:Int))) (Da (tt27 (m==(0:Int)) r) rfl rfl))))
abbrev _root_.Go.Proofs.S1.soft.C0.Kn:=A6 Tryz.prog 212 soft.C0.spec
theorem soft.C0.Ad (hk:A0 Tryz.prog soft.C0.Bb) (h:∀ (n:Bool) (m e:Int) (r:Bool),soft.C0.pre [.b n,.i m,.i e,.b r]=true→Be soft.C0.E Tryz.f212 [.bool n,.int .u64 m,.int .i64 e,.bool r] (soft.C0.out [.b n,.i m,.i e,.b r])):soft.C0.Kn :=
  Ak (A1 hk _ _ _) Tryz.func212 (by kernel_rfl) (by kernel_rfl) h
end EqSoft
theorem Ae {a b:Bool}:(a&&b)=true↔a=true∧b=true:=by simp
theorem Af4 {n:Nat} (hn:n<2^64):((Dg .u64 (n:Int) (63:Int))==(1:Int))=Dv n:=by
  rw [show (63:Int)=((63:Nat):Int) from rfl,Gr .u64 n 63 (by decide)]
  unfold Dv Cs
  rw [Auv,Au9]
  simp only [beq_iff_eq,Au0]
  omega
theorem An3 {n:Nat} (hn:n<2^64):Ab (Fs .u64 (Dg .u64 (n:Int) (52:Int)) (2047:Int))=Kc n:=by
  rw [show (52:Int)=((52:Nat):Int) from rfl,Gr .u64 n 52 (by decide),show (2047:Int)=((2^11-1:Nat):Int) from rfl,Hl 11 (by omega) (by decide)]
  unfold Kc Em
  rw [Auv,Al (by omega) (by omega)]
theorem Alo {n:Nat} (hn:n<2^64):Fs .u64 (n:Int) (4503599627370495:Int)=Cj n:=by
  rw [show (4503599627370495:Int)=((2^52-1:Nat):Int) from rfl,Hl 52 hn (by decide)]
  unfold Cj Dt
  rw [Auv]
theorem soft.Split.known:soft.Split.Kn:=EqSoft.soft.Split.Ad .nil fun x hp=>by
  obtain ⟨n,rfl,hn⟩:=Bu (x:=x) hp
  refine ⟨0,soft.Split.out [.i n],[],?_,Wk.H0 (.cons .bool (.cons .int (.cons .int .nil)))⟩
  rw [EqSoft.soft.Split.ev,Af4 hn,An3 hn,Alo hn]
  rfl
theorem soft.Kind.known:soft.Kind.Kn:=EqSoft.soft.Kind.Ad (.cons soft.Split.known .nil) fun x hp=>by
  obtain ⟨n,rfl,hn⟩:=Bu (x:=x) hp
  refine ⟨0,soft.Kind.out [.i n],[],?_,.int⟩
  rw [EqSoft.soft.Kind.ev,B5 hn]
  show _=some (DV.int .i64 (A3 n))
  unfold A3 Ao Kc Cj
  simp only [Auv,Aut,At]
  have:=Iu n
  by_cases h1:Em n=2047
  · by_cases h2:Dt n=0
    · simp [h1,h2]
    · have:((Dt n:Int)==0)=false:=by simp; exact h2
      simp [h1,this,h2]
  · have h1':((Em n:Int)==2047)=false:=by simp; omega
    rw [h1']
    by_cases h3:0<Em n
    · simp [h1,h3]
    · by_cases h4:0<Dt n
      · simp [h1,h3,h4]
      · simp [h1,h3,h4]
theorem soft.Sign.known:soft.Sign.Kn:=EqSoft.soft.Sign.Ad .nil fun x hp=>by
  obtain ⟨n,rfl,hn⟩:=Bu (x:=x) hp
  refine ⟨0,soft.Sign.out [.i n],[],?_,.bool⟩
  rw [EqSoft.soft.Sign.ev,Af4 hn]
  rfl
theorem Wh (n:Nat):Hk n=!(decide (Ao n=3)||decide (Ao n=4)):=by
  have:=Iu n
  unfold Hk Ao
  by_cases h1:Em n=2047
  · by_cases h2:Dt n=0<;>simp [h1,h2]
  · have:Em n<2047:=by omega
    by_cases h3:0<Em n
    · simp [h1,h3,this]
    · by_cases h4:0<Dt n<;>simp [h1,h3,h4,this]
theorem soft.Finite.known:soft.Finite.Kn:=EqSoft.soft.Finite.Ad (.cons soft.Kind.known .nil) fun x hp=>by
  obtain ⟨n,rfl,hn⟩:=Bu (x:=x) hp
  refine ⟨0,soft.Finite.out [.i n],[],?_,.bool⟩
  rw [EqSoft.soft.Finite.ev,B5 hn]
  show _=some (DV.bool (Cy n))
  unfold Cy A3
  rw [Auv,Wh]
  by_cases h3:Ao n=3
  · simp [h3]
  · by_cases h4:Ao n=4
    · simp [h4]
    · have e3:((Ao n:Int)==3)=false:=by simp; omega
      have e4:((Ao n:Int)==4)=false:=by simp; omega
      simp [h3,h4,e3,e4]
theorem Ah0 {n:Nat} (hn:n<2^64):Apl .u64 (n:Int) (9223372036854775808:Int)=Ds n:=by
  rw [show (9223372036854775808:Int)=((2^63:Nat):Int) from rfl,Amn hn (by decide),Am4 hn]
  unfold Ds G9
  rw [Auv]
theorem soft.Fy.known:soft.Fy.Kn:=EqSoft.soft.Fy.Ad .nil fun x hp=>by
  obtain ⟨n,rfl,hn⟩:=Bu (x:=x) hp
  refine ⟨0,soft.Fy.out [.i n],[],?_,.int⟩
  rw [EqSoft.soft.Fy.ev,Ah0 hn]
  rfl
theorem soft.Fk.known:soft.Fk.Kn:=EqSoft.soft.Fk.Ad (.cons soft.Split.known .nil) fun x hp=>by
  obtain ⟨n,rfl,hn⟩:=Bu (x:=x) hp
  refine ⟨0,soft.Fk.out [.i n],[],?_,Wk.Gu (.cons .int (.cons .int .nil))⟩
  rw [EqSoft.soft.Fk.ev,B5 hn]
  show _=some (DV.tup [.int .u64 (Bh n),.int .i64 (Az n)])
  have hf:=M6 n
  have hp:=Iu n
  unfold Bh Az Kc Cj Ar Aw
  rw [Auv]
  by_cases h:Em n=0
  · simp [h]
  · have e:((Em n:Int)==0)=false:=by simp; omega
    have e2:Hr .u64 ((Dt n:Nat):Int) (4503599627370496:Int)=((Dt n+2^52:Nat):Int):=by
      rw [show (4503599627370496:Int)=((1*2^52:Nat):Int) from rfl,Aiu (by omega) (by omega)]
      congr 1; omega
    rw [e,e2,Al (by omega) (by omega)]
    simp [h]
namespace EqRefD
def A5.Neg.Bb:List (Nat × Entry):=[]
def A5.Neg.E:Env:=Bc (Ba A5.Neg.Bb) (fun _=>false) (fun _=>none) (fun _=>none)
theorem A5.Neg.ev (N:Nat) (x:Int):Bw A5.Neg.E N Tryz.f142 (Am Tryz.f142) [.int .u64 x]=some (.bool ((A9 (Int.tdiv x 9223372036854775808))==(1:Int))):=by kernel_rfl
abbrev _root_.Go.Proofs.S1.A5.Neg.Kn:=A6 Tryz.prog 142 A5.Neg.spec
theorem A5.Neg.Ad (hk:A0 Tryz.prog A5.Neg.Bb) (h:∀ (x:Int),A5.Neg.pre [.i x]=true→Be A5.Neg.E Tryz.f142 [.int .u64 x] (A5.Neg.out [.i x])):A5.Neg.Kn :=
  Ak (A1 hk _ _ _) Tryz.func142 (by kernel_rfl) (by kernel_rfl) h
def A5.Power.Bb:List (Nat × Entry):=[]
def A5.Power.E:Env:=Bc (Ba A5.Power.Bb) (fun _=>false) (fun _=>none) (fun _=>none)
theorem A5.Power.ev (N:Nat) (x:Int):Bw A5.Power.E N Tryz.f140 (Am Tryz.f140) [.int .u64 x]=some (.int .i64 (Ab (A9 (Int.tdiv (Int.tmod x 9223372036854775808) 4503599627370496)))):=by kernel_rfl
abbrev _root_.Go.Proofs.S1.A5.Power.Kn:=A6 Tryz.prog 140 A5.Power.spec
theorem A5.Power.Ad (hk:A0 Tryz.prog A5.Power.Bb) (h:∀ (x:Int),A5.Power.pre [.i x]=true→Be A5.Power.E Tryz.f140 [.int .u64 x] (A5.Power.out [.i x])):A5.Power.Kn :=
  Ak (A1 hk _ _ _) Tryz.func140 (by kernel_rfl) (by kernel_rfl) h
def A5.Ka.Bb:List (Nat × Entry):=[]
def A5.Ka.E:Env:=Bc (Ba A5.Ka.Bb) (fun _=>false) (fun _=>none) (fun _=>none)
theorem A5.Ka.ev (N:Nat) (x:Int):Bw A5.Ka.E N Tryz.f141 (Am Tryz.f141) [.int .u64 x]=some (.int .u64 (Int.tmod x 4503599627370496)):=by kernel_rfl
abbrev _root_.Go.Proofs.S1.A5.Ka.Kn:=A6 Tryz.prog 141 A5.Ka.spec
theorem A5.Ka.Ad (hk:A0 Tryz.prog A5.Ka.Bb) (h:∀ (x:Int),A5.Ka.pre [.i x]=true→Be A5.Ka.E Tryz.f141 [.int .u64 x] (A5.Ka.out [.i x])):A5.Ka.Kn :=
  Ak (A1 hk _ _ _) Tryz.func141 (by kernel_rfl) (by kernel_rfl) h
def A5.Kind.Bb:List (Nat × Entry):=[(141,A5.Ka.spec),(140,A5.Power.spec)]
def A5.Kind.E:Env:=Bc (Ba A5.Kind.Bb) (fun _=>false) (fun _=>none) (fun _=>none)
theorem A5.Kind.ev (N:Nat) (x:Int):Bw A5.Kind.E N Tryz.f62 (Am Tryz.f62) [.int .u64 x]=bif (Oa x) then bif ((Kc x)==(2047:Int)) then bif (Oa x) then bif ((Cj x)==(0:Int)) then some (.int .i64 3) else some (.int .i64 4) else none else bif (Oa x) then bif (A2 0 (Kc x)) then some (.int .i64 2) else bif (Oa x) then bif (A2 0 (Cj x)) then some (.int .i64 1) else some (.int .i64 0) else none else none else none:=by kernel_rfl
abbrev _root_.Go.Proofs.S1.A5.Kind.Kn:=A6 Tryz.prog 62 A5.Kind.spec
theorem A5.Kind.Ad (hk:A0 Tryz.prog A5.Kind.Bb) (h:∀ (x:Int),A5.Kind.pre [.i x]=true→Be A5.Kind.E Tryz.f62 [.int .u64 x] (A5.Kind.out [.i x])):A5.Kind.Kn :=
  Ak (A1 hk _ _ _) Tryz.func62 (by kernel_rfl) (by kernel_rfl) h
def A5.Finite.Bb:List (Nat × Entry):=[(140,A5.Power.spec)]
def A5.Finite.E:Env:=Bc (Ba A5.Finite.Bb) (fun _=>false) (fun _=>none) (fun _=>none)
theorem A5.Finite.ev (N:Nat) (x:Int):Bw A5.Finite.E N Tryz.f131 (Am Tryz.f131) [.int .u64 x]=bif (Oa x) then some (.bool (A2 (Kc x) 2047)) else none:=by kernel_rfl
abbrev _root_.Go.Proofs.S1.A5.Finite.Kn:=A6 Tryz.prog 131 A5.Finite.spec
theorem A5.Finite.Ad (hk:A0 Tryz.prog A5.Finite.Bb) (h:∀ (x:Int),A5.Finite.pre [.i x]=true→Be A5.Finite.E Tryz.f131 [.int .u64 x] (A5.Finite.out [.i x])):A5.Finite.Kn :=
  Ak (A1 hk _ _ _) Tryz.func131 (by kernel_rfl) (by kernel_rfl) h
end EqRefD
open EqRefD
theorem Hx (n m:Nat):Int.tdiv (n:Int) (m:Int)=((n / m:Nat):Int):=rfl
theorem Hw (n m:Nat):Int.tmod (n:Int) (m:Int)=((n%m:Nat):Int):=rfl
theorem Ap9:(9223372036854775808:Int)=((2^63:Nat):Int):=rfl
theorem Aqa:(4503599627370496:Int)=((2^52:Nat):Int):=rfl
theorem A5.Neg.known:A5.Neg.Kn:=A5.Neg.Ad .nil fun x hp=>by
  obtain ⟨n,rfl,hn⟩:=Bu (x:=x) hp
  refine ⟨0,A5.Neg.out [.i n],[],?_,.bool⟩
  rw [A5.Neg.ev,Ap9,Hx,Co (by omega) (by omega)]
  show _=some (DV.bool (Dv n))
  unfold Dv Cs
  rw [Auv]
  congr 2
  rw [Au9]
  simp only [beq_iff_eq,Au0]
  omega
theorem A5.Power.known:A5.Power.Kn:=A5.Power.Ad .nil fun x hp=>by
  obtain ⟨n,rfl⟩:=V3 (x:=x) hp
  refine ⟨0,A5.Power.out [.i n],[],?_,.int⟩
  rw [A5.Power.ev,Ap9,Aqa,Hw,Hx,Co (by omega) (by omega),Al (by omega) (by omega)]
  show _=some (DV.int .i64 (Kc n))
  unfold Kc Em
  rw [Auv]
  congr 2
  have:n%2^63 / 2^52=n / 2^52%2048:=by omega
  rw [this]
theorem A5.Ka.known:A5.Ka.Kn:=A5.Ka.Ad .nil fun x hp=>by
  obtain ⟨n,rfl⟩:=V3 (x:=x) hp
  refine ⟨0,A5.Ka.out [.i n],[],?_,.int⟩
  rw [A5.Ka.ev,Aqa,Hw]
  rfl
theorem A5.Kind.known:A5.Kind.Kn:=A5.Kind.Ad (.cons A5.Ka.known (.cons A5.Power.known .nil)) fun x hp=>by
  obtain ⟨n,rfl⟩:=V3 (x:=x) hp
  refine ⟨0,A5.Kind.out [.i n],[],?_,.int⟩
  rw [A5.Kind.ev,Ot]
  show _=some (DV.int .i64 (A3 n))
  unfold A3 Ao Kc Cj
  simp only [Auv,Aut,At]
  have:=Iu n
  by_cases h1:Em n=2047
  · by_cases h2:Dt n=0
    · simp [h1,h2]
    · have:((Dt n:Int)==0)=false:=by simp; exact h2
      simp [h1,this,h2]
  · have h1':((Em n:Int)==2047)=false:=by simp; omega
    rw [h1']
    by_cases h3:0<Em n
    · simp [h1,h3]
    · by_cases h4:0<Dt n
      · simp [h1,h3,h4]
      · simp [h1,h3,h4]
theorem A5.Finite.known:A5.Finite.Kn:=A5.Finite.Ad (.cons A5.Power.known .nil) fun x hp=>by
  obtain ⟨n,rfl,hn⟩:=Bu (x:=x) hp
  refine ⟨0,A5.Finite.out [.i n],[],?_,.bool⟩
  rw [A5.Finite.ev,Ot,Aut,At]
  show _=some (DV.bool (Cy n))
  unfold Cy Hk Kc
  rw [Auv]
  have:decide ((Em n:Int)<2047)=decide (Em n<2047):=decide_eq_decide.2 (by omega)
  rw [this]
namespace EqRefA
def Ac.H8.Bb:List (Nat × Entry):=[]
def Ac.H8.E:Env:=Bc (Ba Ac.H8.Bb) (fun _=>false) (fun _=>none) (fun _=>none)
theorem Ac.H8.ev (N:Nat) (l:List Int) (i:Int):Bw Ac.H8.E N Tryz.f221 (Am Tryz.f221) [.ints .arg .u32 l,.int .i64 i]=bif ((D1 0 i)&&(A2 i (List.length l:Int))) then bif ((decide (0≤i))&&(decide (i<(List.length l:Int)))) then some (.int .u64 (A9 (List.getD l (Int.toNat i) 0))) else none else some (.int .u64 0) :=
  Eq.trans (by kernel_rfl)
  (Ap (N4 (D1 0 i)) (Ap (N4 (D1 0 i)) (Ap (Ki (D1 0 i)) (Ap (Agy (D1 0 i)) (Ap (Sr (D1 0 i)) (Da (tt1 (D1 0 i) (A2 i (List.length l:Int))) rfl rfl))))))
abbrev _root_.Go.Proofs.S1.Ac.H8.Kn:=A6 Tryz.prog 221 Ac.H8.spec
theorem Ac.H8.Ad (hk:A0 Tryz.prog Ac.H8.Bb) (h:∀ (l:List Int) (i:Int),Ac.H8.pre [.l l,.i i]=true→Be Ac.H8.E Tryz.f221 [.ints .arg .u32 l,.int .i64 i] (Ac.H8.out [.l l,.i i])):Ac.H8.Kn :=
  Ak (A1 hk _ _ _) Tryz.func221 (by kernel_rfl) (by kernel_rfl) h
def Ac.Made.hint:Nat→Option A8
  | 0=>some { keep:=[0,1,4,5],objs:=[],boxes:=[4] }
  | _=>none
def Ac.Made.Bb:List (Nat × Entry):=[]
def Ac.Made.E:Env:=Bc (Ba Ac.Made.Bb) (fun _=>false) Ac.Made.hint (fun _=>none)
def Ac.Made.L0 (N M:Nat) (n:Bool) (l:List Int) (p5:Int):Option DV:=B3 Ac.Made.E N Tryz.f171 (Am Tryz.f171) [1,1,0,0] [] M ⟨Gb 28 [(0,.bool n),(1,.ints .arg .u32 l),(4,.ptr 4 0 0),(5,.int .i64 p5)],[(4,false,.box [.bool false,.nil])]⟩
theorem Ac.Made.Au (N M:Nat) (n:Bool) (l:List Int) (p5:Int):Ac.Made.L0 N (M+1) n l p5=bif ((!(A2 0 p5))||((decide (0≤(Ab (p5-1))))&&(decide ((Ab (p5-1))<(List.length l:Int))))) then bif ((A2 0 p5)&&((List.getD l (Int.toNat (Ab (p5-1))) 0)==(0:Int))) then Ac.Made.L0 N M n l (Ab (p5-1)) else bif (p5==(0:Int)) then some (.agg [.bool false,.nil]) else bif ((decide ((0:Int)≤p5))&&(decide (p5≤(List.length l:Int)))) then some (.agg [.bool n,.ints .arg .u32 (List.take (Int.toNat p5) l)]) else none else none :=
  Eq.trans (by kernel_rfl)
  (Ap (N4 (A2 0 p5)) (Ap (N4 (A2 0 p5)) (Ap (Ki (A2 0 p5)) (Da (As7 (A2 0 p5) (decide (0≤(Ab (p5-1)))) (decide ((Ab (p5-1))<(List.length l:Int)))) (Ap (Ki (A2 0 p5)) (Ap (Ki (A2 0 p5)) (Ap (Sr (A2 0 p5)) (Da (tt1 (A2 0 p5) ((List.getD l (Int.toNat (Ab (p5-1))) 0)==(0:Int))) rfl (Es rfl (Da (Mq (decide ((0:Int)≤p5)) (decide (p5≤(List.length l:Int)))) rfl rfl)))))) rfl))))
theorem Ac.Made.ev (N:Nat) (n:Bool) (l:List Int):Bw Ac.Made.E N Tryz.f171 (Am Tryz.f171) [.bool n,.ints .arg .u32 l] =
  Ac.Made.L0 N N n l (List.length l:Int):=by kernel_rfl
abbrev _root_.Go.Proofs.S1.Ac.Made.Kn:=A6 Tryz.prog 171 Ac.Made.spec
theorem Ac.Made.Ad (hk:A0 Tryz.prog Ac.Made.Bb) (h:∀ (n:Bool) (l:List Int),Ac.Made.pre [.b n,.l l]=true→Be Ac.Made.E Tryz.f171 [.bool n,.ints .arg .u32 l] (Ac.Made.out [.b n,.l l])):Ac.Made.Kn :=
  Ak (A1 hk _ _ _) Tryz.func171 (by kernel_rfl) (by kernel_rfl) h
def Ac.Of.Bb:List (Nat × Entry):=[(171,Ac.Made.spec)]
def Ac.Of.E:Env:=Bc (Ba Ac.Of.Bb) (fun _=>false) (fun _=>none) (fun _=>none)
theorem Ac.Of.ev (N:Nat) (n:Int):Bw Ac.Of.E N Tryz.f115 (Am Tryz.f115) [.int .i64 n]=bif (A2 n 0) then bif (Fo [(Hu (Int.tmod (A9 ((A9 (Ab (0-(Ab (n+1)))))+1)) 4294967296)),(Hu (A9 (Int.tdiv (A9 ((A9 (Ab (0-(Ab (n+1)))))+1)) 4294967296)))]) then some (.agg [.bool (Ax (wv true [(Hu (Int.tmod (A9 ((A9 (Ab (0-(Ab (n+1)))))+1)) 4294967296)),(Hu (A9 (Int.tdiv (A9 ((A9 (Ab (0-(Ab (n+1)))))+1)) 4294967296)))])),.ints .arg .u32 (Ag (wv true [(Hu (Int.tmod (A9 ((A9 (Ab (0-(Ab (n+1)))))+1)) 4294967296)),(Hu (A9 (Int.tdiv (A9 ((A9 (Ab (0-(Ab (n+1)))))+1)) 4294967296)))]))]) else none else bif (Fo [(Hu (Int.tmod n 4294967296)),(Hu (Ab (Int.tdiv n 4294967296)))]) then some (.agg [.bool (Ax (wv false [(Hu (Int.tmod n 4294967296)),(Hu (Ab (Int.tdiv n 4294967296)))])),.ints .arg .u32 (Ag (wv false [(Hu (Int.tmod n 4294967296)),(Hu (Ab (Int.tdiv n 4294967296)))]))]) else none:=by kernel_rfl
abbrev _root_.Go.Proofs.S1.Ac.Of.Kn:=A6 Tryz.prog 115 Ac.Of.spec
theorem Ac.Of.Ad (hk:A0 Tryz.prog Ac.Of.Bb) (h:∀ (n:Int),Ac.Of.pre [.i n]=true→Be Ac.Of.E Tryz.f115 [.int .i64 n] (Ac.Of.out [.i n])):Ac.Of.Kn :=
  Ak (A1 hk _ _ _) Tryz.func115 (by kernel_rfl) (by kernel_rfl) h
def Ac.He.hint:Nat→Option A8
  | 0=>some { keep:=[0,1,5],objs:=[],boxes:=[] }
  | _=>none
def Ac.He.Bb:List (Nat × Entry):=[(221,Ac.H8.spec)]
def Ac.He.E:Env:=Bc (Ba Ac.He.Bb) (fun _=>false) Ac.He.hint (fun _=>none)
def Ac.He.L0 (N M:Nat) (a b:List Int) (p5:Int):Option DV:=B3 Ac.He.E N Tryz.f176 (Am Tryz.f176) [1,0,1,0] [] M ⟨Gb 29 [(0,.ints .arg .u32 a),(1,.ints .arg .u32 b),(5,.int .i64 p5)],[]⟩
theorem Ac.He.Au (N M:Nat) (a b:List Int) (p5:Int):Ac.He.L0 N (M+1) a b p5=bif (D1 0 p5) then bif (Fo a) then bif (Fo b) then bif (A2 (F9 a p5) (F9 b p5)) then some (.int .i64 (-1:Int)) else bif (Fo a) then bif (Fo b) then bif (A2 (F9 b p5) (F9 a p5)) then some (.int .i64 1) else Ac.He.L0 N M a b (Ab (p5-1)) else none else none else none else none else some (.int .i64 0):=by kernel_rfl
theorem Ac.He.ev (N:Nat) (a b:List Int):Bw Ac.He.E N Tryz.f176 (Am Tryz.f176) [.ints .arg .u32 a,.ints .arg .u32 b] =
  Ac.He.L0 N N a b (max (List.length a:Int) (List.length b:Int)):=by kernel_rfl
abbrev _root_.Go.Proofs.S1.Ac.He.Kn:=A6 Tryz.prog 176 Ac.He.spec
theorem Ac.He.Ad (hk:A0 Tryz.prog Ac.He.Bb) (h:∀ (a b:List Int),Ac.He.pre [.l a,.l b]=true→Be Ac.He.E Tryz.f176 [.ints .arg .u32 a,.ints .arg .u32 b] (Ac.He.out [.l a,.l b])):Ac.He.Kn :=
  Ak (A1 hk _ _ _) Tryz.func176 (by kernel_rfl) (by kernel_rfl) h
def Ac.plus.hint:Nat→Option A8
  | 0=>some { keep:=[0,1,5,6,7],objs:=[(0,5,100005,.ints 173 .u32 [])],boxes:=[] }
  | _=>none
def Ac.plus.Bb:List (Nat × Entry):=[(221,Ac.H8.spec)]
def Ac.plus.E:Env:=Bc (Ba Ac.plus.Bb) (fun _=>false) Ac.plus.hint (fun _=>none)
def Ac.plus.L0 (N M:Nat) (a b:List Int) (p6 p7:Int) (p5:List Int):Option DV:=B3 Ac.plus.E N Tryz.f174 (Am Tryz.f174) [1,1,1,0,1,0] [] M ⟨Gb 37 [(0,.ints .arg .u32 a),(1,.ints .arg .u32 b),(5,.oref 100005),(6,.int .u64 p6),(7,.int .i64 p7)],[(100005,false,.ints 173 .u32 p5)]⟩
theorem Ac.plus.Au (N M:Nat) (a b:List Int) (p6 p7:Int) (p5:List Int):Ac.plus.L0 N (M+1) a b p6 p7 p5=bif (D1 p7 (max (List.length a:Int) (List.length b:Int))) then bif (Fo a) then bif (Fo b) then bif (decide ((List.length p5)+1≤Gd)) then Ac.plus.L0 N M a b (A9 (Int.tdiv (A9 ((A9 ((F9 a p7)+(F9 b p7)))+p6)) 4294967296)) (Ab (p7+1)) (p5++[(Hu (Int.tmod (A9 ((A9 ((F9 a p7)+(F9 b p7)))+p6)) 4294967296))]) else none else none else none else some (.ints (.own 100005 173) .u32 p5):=by kernel_rfl
theorem Ac.plus.ev (N:Nat) (a b:List Int):Bw Ac.plus.E N Tryz.f174 (Am Tryz.f174) [.ints .arg .u32 a,.ints .arg .u32 b] =
  Ac.plus.L0 N N a b 0 0 []:=by kernel_rfl
abbrev _root_.Go.Proofs.S1.Ac.plus.Kn:=A6 Tryz.prog 174 Ac.plus.spec
theorem Ac.plus.Ad (hk:A0 Tryz.prog Ac.plus.Bb) (h:∀ (a b:List Int),Ac.plus.pre [.l a,.l b]=true→Be Ac.plus.E Tryz.f174 [.ints .arg .u32 a,.ints .arg .u32 b] (Ac.plus.out [.l a,.l b])):Ac.plus.Kn :=
  Ak (A1 hk _ _ _) Tryz.func174 (by kernel_rfl) (by kernel_rfl) h
def Ac.minus.hint:Nat→Option A8
  | 0=>some { keep:=[0,1,5,6,7],objs:=[(0,5,100005,.ints 173 .u32 [])],boxes:=[] }
  | _=>none
def Ac.minus.Bb:List (Nat × Entry):=[(221,Ac.H8.spec)]
def Ac.minus.E:Env:=Bc (Ba Ac.minus.Bb) (fun _=>false) Ac.minus.hint (fun _=>none)
def Ac.minus.L0 (N M:Nat) (a b:List Int) (p6 p7:Int) (p5:List Int):Option DV:=B3 Ac.minus.E N Tryz.f177 (Am Tryz.f177) [1,1,1,0,1,0] [] M ⟨Gb 36 [(0,.ints .arg .u32 a),(1,.ints .arg .u32 b),(5,.oref 100005),(6,.int .u64 p6),(7,.int .i64 p7)],[(100005,false,.ints 173 .u32 p5)]⟩
theorem Ac.minus.Au (N M:Nat) (a b:List Int) (p6 p7:Int) (p5:List Int):Ac.minus.L0 N (M+1) a b p6 p7 p5=bif (A2 p7 (List.length a:Int)) then bif (Fo a) then bif (Fo b) then bif (decide ((List.length p5)+1≤Gd)) then Ac.minus.L0 N M a b (A9 ((1:Int)-(A9 (Int.tdiv (A9 ((A9 ((A9 ((4294967296:Int)+(F9 a p7)))-(F9 b p7)))-p6)) 4294967296)))) (Ab (p7+1)) (p5++[(Hu (Int.tmod (A9 ((A9 ((A9 ((4294967296:Int)+(F9 a p7)))-(F9 b p7)))-p6)) 4294967296))]) else none else none else none else some (.ints (.own 100005 173) .u32 p5):=by kernel_rfl
theorem Ac.minus.ev (N:Nat) (a b:List Int):Bw Ac.minus.E N Tryz.f177 (Am Tryz.f177) [.ints .arg .u32 a,.ints .arg .u32 b] =
  Ac.minus.L0 N N a b 0 0 []:=by kernel_rfl
abbrev _root_.Go.Proofs.S1.Ac.minus.Kn:=A6 Tryz.prog 177 Ac.minus.spec
theorem Ac.minus.Ad (hk:A0 Tryz.prog Ac.minus.Bb) (h:∀ (a b:List Int),Ac.minus.pre [.l a,.l b]=true→Be Ac.minus.E Tryz.f177 [.ints .arg .u32 a,.ints .arg .u32 b] (Ac.minus.out [.l a,.l b])):Ac.minus.Kn :=
  Ak (A1 hk _ _ _) Tryz.func177 (by kernel_rfl) (by kernel_rfl) h
def Ac.Add.Bb:List (Nat × Entry):=[(171,Ac.Made.spec),(176,Ac.He.spec),(177,Ac.minus.spec),(174,Ac.plus.spec)]
def Ac.Add.E:Env:=Bc (Ba Ac.Add.Bb) (fun _=>false) (fun _=>none) (fun _=>none)
theorem Ac.Add.ev (N:Nat) (n:Bool) (a:List Int) (m:Bool) (b:List Int):Bw Ac.Add.E N Tryz.f112 (Am Tryz.f112) [.agg [.bool n,.ints .arg .u32 a],.agg [.bool m,.ints .arg .u32 b]]=bif (n==m) then bif (Fo a&&Fo b) then bif (Fo (Hn a b)) then some (.agg [.bool (Ax (wv n (Hn a b))),.ints .arg .u32 (Ag (wv n (Hn a b)))]) else none else none else bif (Fo a&&Fo b) then bif (A2 (Tt (By a) (By b)) 0) then bif ((Fo b&&Fo a)&&leL a b) then bif (Fo (Gj b a)) then some (.agg [.bool (Ax (wv m (Gj b a))),.ints .arg .u32 (Ag (wv m (Gj b a)))]) else none else none else bif ((Fo a&&Fo b)&&leL b a) then bif (Fo (Gj a b)) then some (.agg [.bool (Ax (wv n (Gj a b))),.ints .arg .u32 (Ag (wv n (Gj a b)))]) else none else none else none :=
  Eq.trans (by kernel_rfl)
  (Es (Da (De (Fo a&&Fo b)) (Da (De (Fo (Hn a b))) rfl rfl) rfl) (Es (Es (Da (De ((Fo b&&Fo a)&&leL a b)) (Da (De (Fo (Gj b a))) rfl rfl) rfl) (Da (De ((Fo a&&Fo b)&&leL b a)) (Da (De (Fo (Gj a b))) rfl rfl) rfl)) rfl))
abbrev _root_.Go.Proofs.S1.Ac.Add.Kn:=A6 Tryz.prog 112 Ac.Add.spec
theorem Ac.Add.Ad (hk:A0 Tryz.prog Ac.Add.Bb) (h:∀ (n:Bool) (a:List Int) (m:Bool) (b:List Int),Ac.Add.pre [.b n,.l a,.b m,.l b]=true→Be Ac.Add.E Tryz.f112 [.agg [.bool n,.ints .arg .u32 a],.agg [.bool m,.ints .arg .u32 b]] (Ac.Add.out [.b n,.l a,.b m,.l b])):Ac.Add.Kn :=
  Ak (A1 hk _ _ _) Tryz.func112 (by kernel_rfl) (by kernel_rfl) h
def Ac.Neg.Bb:List (Nat × Entry):=[(171,Ac.Made.spec)]
def Ac.Neg.E:Env:=Bc (Ba Ac.Neg.Bb) (fun _=>false) (fun _=>none) (fun _=>none)
theorem Ac.Neg.ev (N:Nat) (n:Bool) (a:List Int):Bw Ac.Neg.E N Tryz.f143 (Am Tryz.f143) [.agg [.bool n,.ints .arg .u32 a]]=bif (Fo a) then some (.agg [.bool (Ax (wv (!n) a)),.ints .arg .u32 (Ag (wv (!n) a))]) else none:=by kernel_rfl
abbrev _root_.Go.Proofs.S1.Ac.Neg.Kn:=A6 Tryz.prog 143 Ac.Neg.spec
theorem Ac.Neg.Ad (hk:A0 Tryz.prog Ac.Neg.Bb) (h:∀ (n:Bool) (a:List Int),Ac.Neg.pre [.b n,.l a]=true→Be Ac.Neg.E Tryz.f143 [.agg [.bool n,.ints .arg .u32 a]] (Ac.Neg.out [.b n,.l a])):Ac.Neg.Kn :=
  Ak (A1 hk _ _ _) Tryz.func143 (by kernel_rfl) (by kernel_rfl) h
end EqRefA
open EqRefA
theorem Ac.H8.known:Ac.H8.Kn:=Ac.H8.Ad .nil fun l i hp=>by
  obtain ⟨hl,hi⟩:=Iw hp
  refine ⟨0,Ac.H8.out [.l l,.i i],[],?_,.int⟩
  rw [Ac.H8.ev,Ej,At]
  show _=some (DV.int .u64 (F9 l i))
  by_cases h0:0≤i
  · obtain ⟨k,rfl⟩:∃ k:Nat,i=k:=⟨i.toNat,by omega⟩
    have hv:=Gm hi k
    have hg:=L5 hi k
    rw [hv,Auv,hg,Auu h0,Bool.true_and]
    by_cases h1:(k:Int)<(l.length:Int)
    · rw [Auu h1,Aut,Aut,Co (by omega) (by omega)]
    · have h2:l.getD k 0=0:=by
        rw [Au3,List.getElem?_eq_none (by omega)]; rfl
      rw [h2] at hg
      rw [Auy h1,Aux,← hg]
  · have:F9 l i=0:=by unfold F9; rw [if_neg h0]
    rw [Auy h0,Bool.false_and,Aux,this]
theorem Yw {drops:List Nat} {b:Bool} {l:List Int}:Wk drops (.agg [.bool b,.ints .arg .u32 l]) (.agg [.bool b,.ints .arg .u32 l]):=Wk.H0 (.cons .bool (.cons .Ae9 .nil))
theorem Ahs:Ax 0=false:=rfl
theorem Ab3:Ag 0=[]:=rfl
theorem Ah1 (N:Nat) (n:Bool) {l:List Int} (hl:l.length<1073741824) (hi:Se l):∀ (p F:Nat),p≤l.length→p<F→By l<2^(32*p) →
    ∃ dv,Ac.Made.L0 N F n l (p:Int)=some dv∧Wk [] dv (.agg [.bool (Ax (wv n l)),.ints .arg .u32 (Ag (wv n l))]):=by
  have hlast:∀ p,p≤l.length→C1 (By l)=p→p≠0→some (DV.agg [.bool n,.ints .arg .u32 (l.take p)])=some (DV.agg [.bool (Ax (wv n l)),.ints .arg .u32 (Ag (wv n l))]):=by
    intro p hp hq h0
    have h1:=Aek hi
    rw [hq] at h1
    have h2:By l≠0:=fun h=>by rw [h] at hq; exact h0 hq.symm
    have e:(wv n l).natAbs=By l:=by unfold wv Ie; split<;>omega
    have e1:Ag (wv n l)=N7 (By l):=by unfold Ag; rw [e]
    have e2:Ax (wv n l)=n:=by unfold Ax wv Ie; cases n<;>simp<;>omega
    rw [h1,e1,e2]
  intro p
  induction p with
  | zero =>
    intro F hp hF hv
    obtain ⟨F,rfl⟩:∃ G,F=G+1:=⟨F-1,by omega⟩
    have hz:wv n l=0:=by
      have:By l=0:=by rw [Nat.mul_zero,Nat.pow_zero] at hv; omega
      unfold wv Ie; rw [this]; cases n<;>rfl
    refine ⟨.agg [.bool false,.nil],?_,?_⟩
    · rw [Ac.Made.Au,At]; rfl
    · rw [hz,Ahs,Ab3]
      exact Wk.H0 (.cons .bool (.cons (.nil _ _) .nil))
  | succ p ih =>
    intro F hp hF hv
    obtain ⟨F,rfl⟩:∃ G,F=G+1:=⟨F-1,by omega⟩
    rw [Ac.Made.Au,At,Al (by omega) (by omega)]
    have e0:((p+1:Nat):Int)-1=(p:Int):=by omega
    have t0:decide ((0:Int)<((p+1:Nat):Int))=true:=Auu (by omega)
    have t1:decide ((0:Int)≤(p:Int))=true:=by simp
    have t2:decide ((p:Int)<(l.length:Int))=true:=by simp; omega
    have hg:=L5 hi p
    have hq:By l / 2^(32*p)<4294967296:=by
      rw [Nat.div_lt_iff_lt_mul (B8 _),← Kl]; exact hv
    rw [Au6 hq] at hg
    rw [e0,t0,t1,t2,Auv,hg]
    simp only [Bool.not_true,Auz,Bool.false_or,Aut,Bool.true_and]
    by_cases hz:By l / 2^(32*p)=0
    · have:(((By l / 2^(32*p):Nat):Int)==0)=true:=by rw [hz]; rfl
      rw [this,Aut]
      refine ih F (by omega) (by omega) ?_
      rcases Nat.lt_or_ge (By l) (2^(32*p)) with h | h
      · exact h
      · have:=Nat.div_pos h (B8 _); omega
    · have:(((By l / 2^(32*p):Nat):Int)==0)=false:=by simp only [beq_eq_false_iff_ne,ne_eq]; omega
      have t3:(((p+1:Nat):Int)==0)=false:=by simp only [beq_eq_false_iff_ne,ne_eq]; omega
      have t4:decide (((p+1:Nat):Int)≤(l.length:Int))=true:=by simp; omega
      have t5:decide ((0:Int)≤((p+1:Nat):Int))=true:=Auu (by omega)
      rw [this,Aux,t3,Aux,t4,t5,Auz,Aut,Auv]
      have hlen:C1 (By l)=p+1:=by
        have a1:=K1 hv
        have a2:=Aos (n:=By l) (k:=p) (by
          rcases Nat.lt_or_ge (By l) (2^(32*p)) with h | h
          · exact absurd (Nat.div_eq_of_lt h) hz
          · exact h)
        omega
      exact ⟨_,hlast (p+1) hp hlen (by omega),Yw⟩
theorem Ac.Made.known:Ac.Made.Kn:=Ac.Made.Ad .nil fun n l hp=>by
  obtain ⟨hl,hi⟩:=Iw hp
  obtain ⟨dv,h1,h2⟩:=Ah1 (l.length+1) n hl hi l.length (l.length+1) (Nat.le_refl _) (by omega) (Iq hi)
  exact ⟨l.length+1,dv,[],by rw [Ac.Made.ev]; exact h1,h2⟩
theorem Xj {a b:Int} (ha:0≤a∧a<4294967296) (hb:0≤b∧b<4294967296):Fo [a,b]=true :=
  Iv (show 2<1073741824 by decide) fun x hx=>by
    rcases List.mem_cons.1 hx with rfl | hx
    · exact ha
    · rcases List.mem_cons.1 hx with rfl | hx
      · exact hb
      · cases hx
theorem Ab1:(4294967296:Int)=((4294967296:Nat):Int):=rfl
theorem Ac.Of.known:Ac.Of.Kn:=Ac.Of.Ad (.cons Ac.Made.known .nil) fun n hp=>by
  have hp:=Aq.1 hp
  refine ⟨0,Ac.Of.out [.i n],[],?_,Yw⟩
  rw [Ac.Of.ev,At]
  show _=some (DV.agg [.bool (Ax n),.ints .arg .u32 (Ag n)])
  by_cases h:n<0
  · obtain ⟨k,rfl⟩:∃ k:Nat,n=-(k:Int):=⟨(-n).toNat,by omega⟩
    have e1:A9 (A9 (Ab (0-Ab (-(k:Int)+1)))+1)=(k:Int):=by
      rw [Al (x:=-(k:Int)+1) (by omega) (by omega),Al (by omega) (by omega),Co (x:=0-(-(k:Int)+1)) (by omega) (by omega),Co (by omega) (by omega)]; omega
    rw [Auu h,Aut,e1,Ab1,Hw,Hx,Ht (by omega) (by omega),Co (by omega) (by omega),Ht (by omega) (by omega),
      Xj (by omega) (by omega),Aut]
    have e2:wv true [((k%4294967296:Nat):Int),((k / 4294967296:Nat):Int)]=-(k:Int):=by
      unfold wv Ie By By By
      rw [if_pos rfl,Auv,Auv]
      omega
    rw [e2]
  · obtain ⟨k,rfl⟩:∃ k:Nat,n=(k:Int):=⟨n.toNat,by omega⟩
    rw [Auy h,Aux,Ab1,Hw,Hx,Ht (by omega) (by omega),Al (by omega) (by omega),Ht (by omega) (by omega),
      Xj (by omega) (by omega),Aut]
    have e2:wv false [((k%4294967296:Nat):Int),((k / 4294967296:Nat):Int)]=(k:Int):=by
      unfold wv Ie By By By
      rw [if_neg (by decide),Auv,Auv]
      omega
    rw [e2]
theorem Ac.Neg.known:Ac.Neg.Kn:=Ac.Neg.Ad (.cons Ac.Made.known .nil) fun n a hp=>by
  obtain ⟨v,rfl,rfl,hv⟩:=Hi hp
  refine ⟨0,Ac.Neg.out [.b (Ax v),.l (Ag v)],[],?_,Yw⟩
  rw [Ac.Neg.ev,Mw (by omega),Aut,Aqi]
  rfl
open EqRefA
theorem Ahz (N:Nat) {a b:List Int} (ha:Fo a=true) (hb:Fo b=true):∀ (j F:Nat),j<4000000000→j<F→By a / 2^(32*j)=By b / 2^(32*j) →
    Ac.He.L0 N F a b ((j:Int)-1)=some (.int .i64 (Tt (By a) (By b))):=by
  have ia:=(Iw ha).2
  have ib:=(Iw hb).2
  intro j
  induction j with
  | zero =>
    intro F hj hF h
    obtain ⟨F,rfl⟩:∃ G,F=G+1:=⟨F-1,by omega⟩
    rw [Nat.mul_zero,Nat.pow_zero,Nat.div_one,Nat.div_one] at h
    have e:Tt (By a) (By b)=0:=by unfold Tt; rw [if_neg (by omega),if_neg (by omega)]
    rw [Ac.He.Au,Ej,e]
    rfl
  | succ j ih =>
    intro F hj hF h
    obtain ⟨F,rfl⟩:∃ G,F=G+1:=⟨F-1,by omega⟩
    have e0:((j+1:Nat):Int)-1=(j:Int):=by omega
    have t0:decide ((0:Int)≤(j:Int))=true:=Auu (by omega)
    rw [Kl,Nat.mul_comm,← Nat.div_div_eq_div_mul,← Nat.div_div_eq_div_mul] at h
    have up:By a / 2^(32*j)<By b / 2^(32*j)→By a<By b:=fun k=>by
      rcases Nat.lt_or_ge (By a) (By b) with h1 | h1
      · exact h1
      · have:=Nat.div_le_div_right (c:=2^(32*j)) h1; omega
    have down:By b / 2^(32*j)<By a / 2^(32*j)→By b<By a:=fun k=>by
      rcases Nat.lt_or_ge (By b) (By a) with h1 | h1
      · exact h1
      · have:=Nat.div_le_div_right (c:=2^(32*j)) h1; omega
    rw [Ac.He.Au,e0,Ej,t0,Aut,ha,hb,Aut,Aut,At,At,Gm ia,Gm ib,Al (by omega) (by omega)]
    have ih:=ih F (by omega) (by omega)
    generalize By a / 2^(32*j)=x at *
    generalize By b / 2^(32*j)=y at *
    by_cases h1:x%4294967296<y%4294967296
    · have e:Tt (By a) (By b)=-1:=by unfold Tt; rw [if_pos (up (by omega))]
      rw [Auu (by omega),Aut,e]
    · rw [Auy (by omega),Aux]
      by_cases h2:y%4294967296<x%4294967296
      · have:=down (by omega)
        have e:Tt (By a) (By b)=1:=by unfold Tt; rw [if_neg (by omega),if_pos this]
        rw [Auu (by omega),Aut,e]
        rfl
      · rw [Auy (by omega),Aux]
        exact ih (by omega)
theorem Agk {l:List Int} (h:Se l) {j:Nat} (hj:l.length≤j):By l / 2^(32*j)=0 :=
  Nat.div_eq_of_lt (Nat.lt_of_lt_of_le (Iq h) (Au8 (by decide) (by omega)))
theorem Ac.He.known:Ac.He.Kn:=Ac.He.Ad (.cons Ac.H8.known .nil) fun a b hp=>by
  obtain ⟨ha,hb⟩:=Ae.1 hp
  obtain ⟨la,ia⟩:=Iw ha
  obtain ⟨lb,ib⟩:=Iw hb
  refine ⟨max a.length b.length+2,Ac.He.out [.l a,.l b],[],?_,.int⟩
  rw [Ac.He.ev]
  have e:max (a.length:Int) (b.length:Int)=((max a.length b.length+1:Nat):Int)-1:=by omega
  rw [e]
  exact Ahz _ ha hb _ _ (by omega) (by omega) (by rw [Agk ia (by omega),Agk ib (by omega)])
theorem Xw (N:Nat) {a b:List Int} (ha:Fo a=true) (hb:Fo b=true):∀ (k i c F:Nat),i+k=max a.length b.length+1→k<F→c≤1 →
    By a / 2^(32*i)+By b / 2^(32*i)+c=(By a+By b) / 2^(32*i) →
    Ac.plus.L0 N F a b (c:Int) (i:Int) (digits i (By a+By b))=some (.ints (.own 100005 tW) .u32 (Hn a b)):=by
  obtain ⟨la,ia⟩:=Iw ha
  obtain ⟨lb,ib⟩:=Iw hb
  intro k
  induction k with
  | zero =>
    intro i c F hi hF hc h
    obtain ⟨F,rfl⟩:∃ G,F=G+1:=⟨F-1,by omega⟩
    have t0:decide ((i:Int)≤max (a.length:Int) (b.length:Int))=false:=Auy (by omega)
    rw [Ac.plus.Au,Ej,t0,Aux]
    unfold Hn
    rw [show i=max a.length b.length+1 by omega]
  | succ k ih =>
    intro i c F hi hF hc h
    obtain ⟨F,rfl⟩:∃ G,F=G+1:=⟨F-1,by omega⟩
    have t0:decide ((i:Int)≤max (a.length:Int) (b.length:Int))=true:=Auu (by omega)
    have t1:decide ((digits i (By a+By b)).length+1≤Gd)=true:=Auu (by rw [Du]; unfold Gd; omega)
    rw [Ac.plus.Au,Ej,t0,ha,hb,t1]
    simp only [Aut]
    rw [Gm ia,Gm ib]
    have ih:=ih (i+1)
    rw [Kl,Nat.mul_comm 4294967296,← Nat.div_div_eq_div_mul,← Nat.div_div_eq_div_mul,← Nat.div_div_eq_div_mul,Il] at ih
    generalize By a / 2^(32*i)=x at *
    generalize By b / 2^(32*i)=y at *
    generalize (By a+By b) / 2^(32*i)=z at *
    have e1:A9 (A9 (((x%4294967296:Nat):Int)+((y%4294967296:Nat):Int))+(c:Int))=((x%4294967296+y%4294967296+c:Nat):Int):=by
      rw [Co (x:=((x%4294967296:Nat):Int)+((y%4294967296:Nat):Int)) (by omega) (by omega),Co (by omega) (by omega)]; omega
    rw [e1,Ab1,Hw,Hx,Ht (by omega) (by omega),Co (by omega) (by omega),Al (by omega) (by omega)]
    have e2:(x%4294967296+y%4294967296+c)%4294967296=z%4294967296:=by omega
    rw [e2]
    exact ih ((x%4294967296+y%4294967296+c) / 4294967296) F (by omega) (by omega) (by omega) (by omega)
theorem Zb {i:Nat} {e:TypeId} {k:IntKind} {l:List Int}:Wk [i] (.ints (.own i e) k l) (.ints .arg k l):=.dropA i e k l (List.mem_singleton.2 rfl)
theorem Ac.plus.known:Ac.plus.Kn:=Ac.plus.Ad (.cons Ac.H8.known .nil) fun a b hp=>by
  obtain ⟨ha,hb⟩:=Ae.1 hp
  refine ⟨max a.length b.length+2,.ints (.own 100005 tW) .u32 (Hn a b),[100005],?_,Zb⟩
  rw [Ac.plus.ev]
  exact Xw _ ha hb (max a.length b.length+1) 0 0 _ (by omega) (by omega) (by omega) (by simp)
theorem Aeb (N:Nat) {a b:List Int} (ha:Fo a=true) (hb:Fo b=true):∀ (k i w F:Nat),i+k=a.length→k<F→w≤1 →
    By a / 2^(32*i)=By b / 2^(32*i)+(By a-By b) / 2^(32*i)+w →
    Ac.minus.L0 N F a b (w:Int) (i:Int) (digits i (By a-By b))=some (.ints (.own 100005 tW) .u32 (Gj a b)):=by
  obtain ⟨la,ia⟩:=Iw ha
  obtain ⟨lb,ib⟩:=Iw hb
  intro k
  induction k with
  | zero =>
    intro i c F hi hF hc h
    obtain ⟨F,rfl⟩:∃ G,F=G+1:=⟨F-1,by omega⟩
    have t0:decide ((i:Int)<(a.length:Int))=false:=Auy (by omega)
    rw [Ac.minus.Au,At,t0,Aux]
    unfold Gj
    rw [show i=a.length by omega]
  | succ k ih =>
    intro i w F hi hF hc h
    obtain ⟨F,rfl⟩:∃ G,F=G+1:=⟨F-1,by omega⟩
    have t0:decide ((i:Int)<(a.length:Int))=true:=Auu (by omega)
    have t1:decide ((digits i (By a-By b)).length+1≤Gd)=true:=Auu (by rw [Du]; unfold Gd; omega)
    rw [Ac.minus.Au,At,t0,ha,hb,t1]
    simp only [Aut]
    rw [Gm ia,Gm ib]
    have ih:=ih (i+1)
    rw [Kl,Nat.mul_comm 4294967296,← Nat.div_div_eq_div_mul,← Nat.div_div_eq_div_mul,← Nat.div_div_eq_div_mul,Il] at ih
    generalize By a / 2^(32*i)=x at *
    generalize By b / 2^(32*i)=y at *
    generalize (By a-By b) / 2^(32*i)=z at *
    have e1:A9 (A9 (A9 ((4294967296:Int)+((x%4294967296:Nat):Int))-((y%4294967296:Nat):Int))-(w:Int))=((4294967296+x%4294967296-y%4294967296-w:Nat):Int):=by
      rw [Co (x:=(4294967296:Int)+((x%4294967296:Nat):Int)) (by omega) (by omega),Co (x:=(4294967296:Int)+((x%4294967296:Nat):Int)-((y%4294967296:Nat):Int)) (by omega) (by omega),Co (by omega) (by omega)]; omega
    have e2:(4294967296+x%4294967296-y%4294967296-w)%4294967296=z%4294967296:=by omega
    have e3:A9 ((1:Int)-(((4294967296+x%4294967296-y%4294967296-w) / 4294967296:Nat):Int))=((1-(4294967296+x%4294967296-y%4294967296-w) / 4294967296:Nat):Int):=by
      rw [Co (by omega) (by omega)]; omega
    rw [e1,Ab1,Hw,Hx,Ht (by omega) (by omega),Co (x:=(((4294967296+x%4294967296-y%4294967296-w) / 4294967296:Nat):Int)) (by omega) (by omega),Al (by omega) (by omega),e2,e3]
    exact ih (1-(4294967296+x%4294967296-y%4294967296-w) / 4294967296) F (by omega) (by omega) (by omega) (by omega)
theorem Ac.minus.known:Ac.minus.Kn:=Ac.minus.Ad (.cons Ac.H8.known .nil) fun a b hp=>by
  obtain ⟨h1,hle⟩:=Ae.1 hp
  obtain ⟨ha,hb⟩:=Ae.1 h1
  have hle:=Aq.1 hle
  refine ⟨a.length+1,.ints (.own 100005 tW) .u32 (Gj a b),[100005],?_,Zb⟩
  rw [Ac.minus.ev]
  exact Aeb _ ha hb a.length 0 0 _ (by omega) (by omega) (by omega) (by simp; omega)
theorem Fl (v:Int):Se (Ag v):=Ab2 _
theorem Ai2 {v w:Int} (h:Ax v=Ax w):wv (Ax v) (Hn (Ag v) (Ag w))=v+w:=by
  unfold wv
  rw [Xx (Fl _) (Fl _),Dm,Dm]
  unfold Ax at h ⊢
  unfold Ie
  rw [decide_eq_decide] at h
  by_cases hv:v<0
  · have hw:=h.1 hv
    rw [Auu hv,if_pos rfl]; omega
  · have hw:¬ w<0:=fun k=>hv (h.2 k)
    rw [Auy hv,if_neg (by decide)]; omega
theorem Afi {v w:Int} (h:Ax v≠Ax w) (hl:w.natAbs≤v.natAbs):wv (Ax v) (Gj (Ag v) (Ag w))=v+w:=by
  unfold wv
  rw [Aec _ (Fl _),Dm,Dm]
  unfold Ax at h ⊢
  unfold Ie
  rw [ne_eq,decide_eq_decide] at h
  by_cases hv:v<0
  · have hw:¬ w<0:=fun k=>h ⟨fun _=>k,fun _=>hv⟩
    rw [Auu hv,if_pos rfl]; omega
  · have hw:w<0:=by
      rcases Int.lt_or_le w 0 with k | k
      · exact k
      · exact absurd ⟨fun k'=>absurd k' hv,fun k'=>by omega⟩ h
    rw [Auy hv,if_neg (by decide)]; omega
theorem Ac.Add.known:Ac.Add.Kn:=Ac.Add.Ad (.cons Ac.Made.known (.cons Ac.He.known (.cons Ac.minus.known (.cons Ac.plus.known .nil)))) fun n a m b hp=>by
  obtain ⟨h1,h2⟩:=Ae.1 hp
  obtain ⟨v,rfl,rfl,hv⟩:=Hi h1
  obtain ⟨w,rfl,rfl,hw⟩:=Hi h2
  refine ⟨0,Ac.Add.out [.b (Ax v),.l (Ag v),.b (Ax w),.l (Ag w)],[],?_,Yw⟩
  have o1:Fo (Ag v)=true:=Mw (by omega)
  have o2:Fo (Ag w)=true:=Mw (by omega)
  rw [Ac.Add.ev,o1,o2,Auz,Aut]
  show _=some (DV.agg [.bool (Ax (wv (Ax v) (Ag v)+wv (Ax w) (Ag w))),.ints .arg .u32 (Ag (wv (Ax v) (Ag v)+wv (Ax w) (Ag w)))])
  rw [Fz,Fz]
  by_cases hs:Ax v=Ax w
  · have:(Ax v==Ax w)=true:=by simp [hs]
    have o3:Fo (Hn (Ag v) (Ag w))=true:=Iv (by rw [Ng,B2,B2]; omega) (Vw _ _)
    rw [this,Aut,o3,Aut,Ai2 hs]
  · have:(Ax v==Ax w)=false:=by simp [hs]
    rw [this,Aux,Aut,At,Dm,Dm,Bool.true_and,Bool.true_and]
    by_cases hl:v.natAbs<w.natAbs
    · have e:decide (Tt v.natAbs w.natAbs<0)=true:=Auu (by unfold Tt; rw [if_pos hl]; decide)
      have o3:Fo (Gj (Ag w) (Ag v))=true:=Iv (by rw [Qc,B2]; omega) (X4 _ _)
      have o4:leL (Ag v) (Ag w)=true:=Aq.2 (by rw [Dm,Dm]; omega)
      rw [e,Aut,o4,Aut,o3,Aut,Afi (fun k=>hs k.symm) (by omega),Int.add_comm]
    · have e:decide (Tt v.natAbs w.natAbs<0)=false:=Auy (by unfold Tt; rw [if_neg hl]; split<;>decide)
      have o3:Fo (Gj (Ag v) (Ag w))=true:=Iv (by rw [Qc,B2]; omega) (X4 _ _)
      have o4:leL (Ag w) (Ag v)=true:=Aq.2 (by rw [Dm,Dm]; omega)
      rw [e,Aux,o4,Aut,o3,Aut,Afi hs (by omega)]
namespace EqRefB
def Ac.Fe.Bb:List (Nat × Entry):=[(171,Ac.Made.spec),(174,Ac.plus.spec)]
def Ac.Fe.E:Env:=Bc (Ba Ac.Fe.Bb) (fun _=>false) (fun _=>none) (fun _=>none)
theorem Ac.Fe.ev (N:Nat) (n:Bool) (a:List Int):Bw Ac.Fe.E N Tryz.f222 (Am Tryz.f222) [.agg [.bool n,.ints .arg .u32 a]]=bif (Fo a&&Fo a) then bif (Fo (Hn a a)) then some (.agg [.bool (Ax (wv n (Hn a a))),.ints .arg .u32 (Ag (wv n (Hn a a)))]) else none else none :=
  Eq.trans (by kernel_rfl)
  (Da (De (Fo a&&Fo a)) (Da (De (Fo (Hn a a))) rfl rfl) rfl)
abbrev _root_.Go.Proofs.S1.Ac.Fe.Kn:=A6 Tryz.prog 222 Ac.Fe.spec
theorem Ac.Fe.Ad (hk:A0 Tryz.prog Ac.Fe.Bb) (h:∀ (n:Bool) (a:List Int),Ac.Fe.pre [.b n,.l a]=true→Be Ac.Fe.E Tryz.f222 [.agg [.bool n,.ints .arg .u32 a]] (Ac.Fe.out [.b n,.l a])):Ac.Fe.Kn :=
  Ak (A1 hk _ _ _) Tryz.func222 (by kernel_rfl) (by kernel_rfl) h
def Ac.Gv.hint:Nat→Option A8
  | 0=>some { keep:=[1,2,3,4],objs:=[(0,3,100003,.ints 173 .u32 [])],boxes:=[1,2] }
  | _=>none
def Ac.Gv.Bb:List (Nat × Entry):=[(171,Ac.Made.spec),(221,Ac.H8.spec)]
def Ac.Gv.E:Env:=Bc (Ba Ac.Gv.Bb) (fun _=>false) Ac.Gv.hint (fun _=>none)
def Ac.Gv.L0 (N M:Nat) (n:Bool) (a:List Int) (p4:Int) (p3:List Int):Option DV:=B3 Ac.Gv.E N Tryz.f173 (Am Tryz.f173) [1,1,0,1,0] [] M ⟨Gb 37 [(1,.ptr 1 0 0),(2,.ptr 2 0 0),(3,.oref 100003),(4,.int .i64 p4)],[(1,false,.box [.bool n,.ints .arg .u32 a]),(2,false,.box [.bool false,.nil]),(100003,false,.ints 173 .u32 p3)]⟩
theorem Ac.Gv.Au (N M:Nat) (n:Bool) (a:List Int) (p4:Int) (p3:List Int):Ac.Gv.L0 N (M+1) n a p4 p3=bif (A2 p4 (List.length a:Int)) then bif (Fo a) then bif (Fo a) then bif ((decide (0≤p4))&&(decide (p4<(List.length p3:Int)))) then bif (decide ((Int.toNat p4)<(List.length p3))) then Ac.Gv.L0 N M n a (Ab (p4+1)) (List.set p3 (Int.toNat p4) (Hu (A9 (Int.tdiv (A9 ((A9 ((Int.tmod (F9 a (Ab (p4+1))) 2)*4294967296))+(F9 a p4))) 2)))) else none else none else none else none else bif (Fo p3) then some (.agg [.bool (Ax (wv n p3)),.ints .arg .u32 (Ag (wv n p3))]) else none :=
  Eq.trans (by kernel_rfl)
  (Es (Da (De (Fo a)) (Da (De (Fo a)) (Da (Mq (decide (0≤p4)) (decide (p4<(List.length p3:Int)))) (Da (De (decide ((Int.toNat p4)<(List.length p3)))) rfl rfl) rfl) rfl) rfl) rfl)
theorem Ac.Gv.ev (N:Nat) (n:Bool) (a:List Int):Bw Ac.Gv.E N Tryz.f173 (Am Tryz.f173) [.agg [.bool n,.ints .arg .u32 a]]=bif (((decide ((0:Int)≤(List.length a:Int)))&&(decide ((List.length a:Int)≤(List.length a:Int))))&&(decide ((List.length a:Int)≤Gd))) then Ac.Gv.L0 N N n a 0 (List.replicate (Int.toNat (List.length a:Int)) 0) else none:=by kernel_rfl
abbrev _root_.Go.Proofs.S1.Ac.Gv.Kn:=A6 Tryz.prog 173 Ac.Gv.spec
theorem Ac.Gv.Ad (hk:A0 Tryz.prog Ac.Gv.Bb) (h:∀ (n:Bool) (a:List Int),Ac.Gv.pre [.b n,.l a]=true→Be Ac.Gv.E Tryz.f173 [.agg [.bool n,.ints .arg .u32 a]] (Ac.Gv.out [.b n,.l a])):Ac.Gv.Kn :=
  Ak (A1 hk _ _ _) Tryz.func173 (by kernel_rfl) (by kernel_rfl) h
def Ac.Bx.hint:Nat→Option A8
  | 0=>some { keep:=[1,2,4],objs:=[],boxes:=[2,4] }
  | 2=>some { keep:=[1,2,4],objs:=[],boxes:=[2,4] }
  | 4=>some { keep:=[1,2,4],objs:=[],boxes:=[2,4] }
  | 6=>some { keep:=[1,2,4],objs:=[],boxes:=[2,4] }
  | _=>none
def Ac.Bx.Bb:List (Nat × Entry):=[(222,Ac.Fe.spec),(173,Ac.Gv.spec),(171,Ac.Made.spec)]
def Ac.Bx.E:Env:=Bc (Ba Ac.Bx.Bb) (fun _=>false) Ac.Bx.hint (fun _=>none)
def Ac.Bx.L0 (N M:Nat) (p1:Int) (p2:Bool) (p2_1:List Int):Option DV:=B3 Ac.Bx.E N Tryz.f178 (Am Tryz.f178) [1,0,0] [] M ⟨Gb 63 [(1,.int .i64 p1),(2,.ptr 2 0 0),(4,.ptr 4 0 0)],[(2,false,.box [.bool p2,.ints .arg .u32 p2_1]),(4,false,.box [.bool false,.nil])]⟩
def Ac.Bx.L1 (N M:Nat) (p1_1:Int) (p2_2:Bool) (p2_3:List Int):Option DV:=B3 Ac.Bx.E N Tryz.f178 (Am Tryz.f178) [1,1,0,0] [] M ⟨Gb 63 [(1,.int .i64 p1_1),(2,.ptr 2 0 0),(4,.ptr 4 0 0)],[(2,false,.box [.bool p2_2,.ints .arg .u32 p2_3]),(4,false,.box [.bool false,.nil])]⟩
def Ac.Bx.L2 (N M:Nat) (p1_2:Int) (p2_4:Bool) (p2_5:List Int):Option DV:=B3 Ac.Bx.E N Tryz.f178 (Am Tryz.f178) [1,1,1,0,0] [] M ⟨Gb 63 [(1,.int .i64 p1_2),(2,.ptr 2 0 0),(4,.ptr 4 0 0)],[(2,false,.box [.bool p2_4,.ints .arg .u32 p2_5]),(4,false,.box [.bool false,.nil])]⟩
def Ac.Bx.L3 (N M:Nat) (p1_3:Int) (p2_6:Bool) (p2_7:List Int):Option DV:=B3 Ac.Bx.E N Tryz.f178 (Am Tryz.f178) [1,1,1,1,0,0] [] M ⟨Gb 63 [(1,.int .i64 p1_3),(2,.ptr 2 0 0),(4,.ptr 4 0 0)],[(2,false,.box [.bool p2_6,.ints .arg .u32 p2_7]),(4,false,.box [.bool false,.nil])]⟩
theorem Ac.Bx.Au (N M:Nat) (p1:Int) (p2:Bool) (p2_1:List Int):Ac.Bx.L0 N (M+1) p1 p2 p2_1=bif ((D1 32 p1)&&(A2 0 (List.length p2_1:Int))) then bif (decide (1+(List.length p2_1)≤Gd)) then bif (Fo ([(0:Int)]++p2_1)) then Ac.Bx.L0 N M (Ab (p1-32)) (Ax (wv p2 ([(0:Int)]++p2_1))) (Ag (wv p2 ([(0:Int)]++p2_1))) else none else none else Ac.Bx.L1 N N p1 p2 p2_1 :=
  Eq.trans (by kernel_rfl)
  (Ap (N4 (D1 32 p1)) (Ap (Ki (D1 32 p1)) (Ap (Ki (D1 32 p1)) (Ap (Ki (D1 32 p1)) (Ap (Sr (D1 32 p1)) (Da (tt1 (D1 32 p1) (A2 0 (List.length p2_1:Int))) (Da (De (decide (1+(List.length p2_1)≤Gd))) (Da (De (Fo ([(0:Int)]++p2_1))) rfl rfl) rfl) rfl))))))
theorem Ac.Bx.Cf (N M:Nat) (p1_1:Int) (p2_2:Bool) (p2_3:List Int):Ac.Bx.L1 N (M+1) p1_1 p2_2 p2_3=bif ((A2 0 p1_1)&&(A2 0 (List.length p2_3:Int))) then bif (Jh p2_2 p2_3) then Ac.Bx.L1 N M (Ab (p1_1-1)) (Ax (2*wv p2_2 p2_3)) (Ag (2*wv p2_2 p2_3)) else none else Ac.Bx.L2 N N p1_1 p2_2 p2_3 :=
  Eq.trans (by kernel_rfl)
  (Ap (N4 (A2 0 p1_1)) (Ap (Ki (A2 0 p1_1)) (Ap (Ki (A2 0 p1_1)) (Ap (Ki (A2 0 p1_1)) (Ap (Sr (A2 0 p1_1)) (Da (tt1 (A2 0 p1_1) (A2 0 (List.length p2_3:Int))) rfl rfl))))))
theorem Ac.Bx.Hm (N M:Nat) (p1_2:Int) (p2_4:Bool) (p2_5:List Int):Ac.Bx.L2 N (M+1) p1_2 p2_4 p2_5=bif ((D1 p1_2 (-32:Int))&&(A2 0 (List.length p2_5:Int))) then bif (decide ((1:Int)≤(List.length p2_5:Int))) then bif (Fo (List.drop 1 p2_5)) then Ac.Bx.L2 N M (Ab (p1_2+32)) (Ax (wv p2_4 (List.drop 1 p2_5))) (Ag (wv p2_4 (List.drop 1 p2_5))) else none else none else Ac.Bx.L3 N N p1_2 p2_4 p2_5 :=
  Eq.trans (by kernel_rfl)
  (Ap (N4 (D1 p1_2 (-32:Int))) (Ap (Ki (D1 p1_2 (-32:Int))) (Ap (Ki (D1 p1_2 (-32:Int))) (Ap (Ki (D1 p1_2 (-32:Int))) (Ap (Sr (D1 p1_2 (-32:Int))) (Da (tt1 (D1 p1_2 (-32:Int)) (A2 0 (List.length p2_5:Int))) (Da (As6 (decide ((1:Int)≤(List.length p2_5:Int)))) (Da (De (Fo (List.drop 1 p2_5))) rfl rfl) rfl) rfl))))))
theorem Ac.Bx.Aag (N M:Nat) (p1_3:Int) (p2_6:Bool) (p2_7:List Int):Ac.Bx.L3 N (M+1) p1_3 p2_6 p2_7=bif ((A2 p1_3 0)&&(A2 0 (List.length p2_7:Int))) then bif (Jh p2_6 p2_7) then Ac.Bx.L3 N M (Ab (p1_3+1)) (Ax (Js (wv p2_6 p2_7) 1)) (Ag (Js (wv p2_6 p2_7) 1)) else none else some (.agg [.bool p2_6,.ints .arg .u32 p2_7]) :=
  Eq.trans (by kernel_rfl)
  (Ap (N4 (A2 p1_3 0)) (Ap (Ki (A2 p1_3 0)) (Ap (Ki (A2 p1_3 0)) (Ap (Ki (A2 p1_3 0)) (Ap (Sr (A2 p1_3 0)) (Da (tt1 (A2 p1_3 0) (A2 0 (List.length p2_7:Int))) rfl rfl))))))
theorem Ac.Bx.ev (N:Nat) (n:Bool) (a:List Int) (k:Int):Bw Ac.Bx.E N Tryz.f178 (Am Tryz.f178) [.agg [.bool n,.ints .arg .u32 a],.int .i64 k] =
  Ac.Bx.L0 N N k n a:=by kernel_rfl
abbrev _root_.Go.Proofs.S1.Ac.Bx.Kn:=A6 Tryz.prog 178 Ac.Bx.spec
theorem Ac.Bx.Ad (hk:A0 Tryz.prog Ac.Bx.Bb) (h:∀ (n:Bool) (a:List Int) (k:Int),Ac.Bx.pre [.b n,.l a,.i k]=true→Be Ac.Bx.E Tryz.f178 [.agg [.bool n,.ints .arg .u32 a],.int .i64 k] (Ac.Bx.out [.b n,.l a,.i k])):Ac.Bx.Kn :=
  Ak (A1 hk _ _ _) Tryz.func178 (by kernel_rfl) (by kernel_rfl) h
def Ac.Pd.hint:Nat→Option A8
  | 0=>some { keep:=[3,4],objs:=[],boxes:=[] }
  | _=>none
def Ac.Pd.Bb:List (Nat × Entry):=[]
def Ac.Pd.E:Env:=Bc (Ba Ac.Pd.Bb) (fun _=>false) Ac.Pd.hint (fun _=>none)
def Ac.Pd.L0 (N M:Nat) (p3 p4:Int):Option DV:=B3 Ac.Pd.E N Tryz.f223 (Am Tryz.f223) [1,1,1,0,1,0] [] M ⟨Gb 29 [(3,.int .i64 p3),(4,.int .u32 p4)],[]⟩
theorem Ac.Pd.Au (N M:Nat) (p3 p4:Int):Ac.Pd.L0 N (M+1) p3 p4=bif (A2 0 p4) then Ac.Pd.L0 N M (Ab (p3+1)) (Hu (Int.tdiv p4 2)) else some (.int .i64 p3):=by kernel_rfl
theorem Ac.Pd.ev (N:Nat) (n:Bool) (a:List Int):Bw Ac.Pd.E N Tryz.f223 (Am Tryz.f223) [.agg [.bool n,.ints .arg .u32 a]]=bif ((List.length a:Int)==(0:Int)) then some (.int .i64 0) else bif ((decide (0≤(Ab ((List.length a:Int)-1))))&&(decide ((Ab ((List.length a:Int)-1))<(List.length a:Int)))) then Ac.Pd.L0 N N (Ab ((32:Int)*(Ab ((List.length a:Int)-1)))) (List.getD a (Int.toNat (Ab ((List.length a:Int)-1))) 0) else none:=by kernel_rfl
abbrev _root_.Go.Proofs.S1.Ac.Pd.Kn:=A6 Tryz.prog 223 Ac.Pd.spec
theorem Ac.Pd.Ad (hk:A0 Tryz.prog Ac.Pd.Bb) (h:∀ (n:Bool) (a:List Int),Ac.Pd.pre [.b n,.l a]=true→Be Ac.Pd.E Tryz.f223 [.agg [.bool n,.ints .arg .u32 a]] (Ac.Pd.out [.b n,.l a])):Ac.Pd.Kn :=
  Ak (A1 hk _ _ _) Tryz.func223 (by kernel_rfl) (by kernel_rfl) h
def Ac.Ve.Bb:List (Nat × Entry):=[]
def Ac.Ve.E:Env:=Bc (Ba Ac.Ve.Bb) (fun _=>false) (fun _=>none) (fun _=>none)
theorem Ac.Ve.ev (N:Nat) (n:Bool) (a:List Int):Bw Ac.Ve.E N Tryz.f172 (Am Tryz.f172) [.agg [.bool n,.ints .arg .u32 a]]=bif ((!(A2 0 (List.length a:Int)))||(decide ((0:Int)<(List.length a:Int)))) then some (.bool (bif (A2 0 (List.length a:Int)) then ((Int.tmod (List.getD a 0 0) 2)==(1:Int)) else false)) else none :=
  Eq.trans (by kernel_rfl)
  (Ap (N4 (A2 0 (List.length a:Int))) (Ap (Ki (A2 0 (List.length a:Int))) (Da (Aqq (A2 0 (List.length a:Int)) (decide ((0:Int)<(List.length a:Int)))) (Ap (Ki (A2 0 (List.length a:Int))) (Ap (Ki (A2 0 (List.length a:Int))) (Ap (Ki (A2 0 (List.length a:Int))) (Ap (Sr (A2 0 (List.length a:Int))) rfl)))) rfl)))
abbrev _root_.Go.Proofs.S1.Ac.Ve.Kn:=A6 Tryz.prog 172 Ac.Ve.spec
theorem Ac.Ve.Ad (hk:A0 Tryz.prog Ac.Ve.Bb) (h:∀ (n:Bool) (a:List Int),Ac.Ve.pre [.b n,.l a]=true→Be Ac.Ve.E Tryz.f172 [.agg [.bool n,.ints .arg .u32 a]] (Ac.Ve.out [.b n,.l a])):Ac.Ve.Kn :=
  Ak (A1 hk _ _ _) Tryz.func172 (by kernel_rfl) (by kernel_rfl) h
def Ac.Ed.hint:Nat→Option A8
  | 0=>some { keep:=[2,3,5],objs:=[],boxes:=[2,3] }
  | _=>none
def Ac.Ed.Bb:List (Nat × Entry):=[]
def Ac.Ed.E:Env:=Bc (Ba Ac.Ed.Bb) (fun _=>false) Ac.Ed.hint (fun _=>none)
def Ac.Ed.L0 (N M:Nat) (n:Bool) (a:List Int) (m:Bool) (b:List Int) (p5:Int):Option DV:=B3 Ac.Ed.E N Tryz.f133 (Am Tryz.f133) [1,1,0,1,0] [] M ⟨Gb 38 [(2,.ptr 2 0 0),(3,.ptr 3 0 0),(5,.int .i64 p5)],[(2,false,.box [.bool n,.ints .arg .u32 a]),(3,false,.box [.bool m,.ints .arg .u32 b])]⟩
theorem Ac.Ed.Au (N M:Nat) (n:Bool) (a:List Int) (m:Bool) (b:List Int) (p5:Int):Ac.Ed.L0 N (M+1) n a m b p5=bif (A2 p5 (List.length a:Int)) then bif ((decide (0≤p5))&&(decide (p5<(List.length a:Int)))) then bif ((decide (0≤p5))&&(decide (p5<(List.length b:Int)))) then bif ((List.getD a (Int.toNat p5) 0) !=(List.getD b (Int.toNat p5) 0)) then some (.bool false) else Ac.Ed.L0 N M n a m b (Ab (p5+1)) else none else none else some (.bool true) :=
  Eq.trans (by kernel_rfl)
  (Es (Da (Mq (decide (0≤p5)) (decide (p5<(List.length a:Int)))) (Da (Mq (decide (0≤p5)) (decide (p5<(List.length b:Int)))) rfl rfl) rfl) rfl)
theorem Ac.Ed.ev (N:Nat) (n:Bool) (a:List Int) (m:Bool) (b:List Int):Bw Ac.Ed.E N Tryz.f133 (Am Tryz.f133) [.agg [.bool n,.ints .arg .u32 a],.agg [.bool m,.ints .arg .u32 b]]=bif ((!(n==m))||((List.length a:Int) !=(List.length b:Int))) then some (.bool false) else Ac.Ed.L0 N N n a m b 0 :=
  Eq.trans (by kernel_rfl)
  (Ap (As5 n m) (Ap (Anh n m) (Ap (Anh n m) (Ap (As5 n m) (Ap (Anh n m) (Ap (Anh n m) (Ap (tt84 n m) (Ap (tt83 n m) (Da (tt82 n m ((List.length a:Int) !=(List.length b:Int))) rfl rfl)))))))))
abbrev _root_.Go.Proofs.S1.Ac.Ed.Kn:=A6 Tryz.prog 133 Ac.Ed.spec
theorem Ac.Ed.Ad (hk:A0 Tryz.prog Ac.Ed.Bb) (h:∀ (n:Bool) (a:List Int) (m:Bool) (b:List Int),Ac.Ed.pre [.b n,.l a,.b m,.l b]=true→Be Ac.Ed.E Tryz.f133 [.agg [.bool n,.ints .arg .u32 a],.agg [.bool m,.ints .arg .u32 b]] (Ac.Ed.out [.b n,.l a,.b m,.l b])):Ac.Ed.Kn :=
  Ak (A1 hk _ _ _) Tryz.func133 (by kernel_rfl) (by kernel_rfl) h
end EqRefB
end Go.Proofs.S1
end
