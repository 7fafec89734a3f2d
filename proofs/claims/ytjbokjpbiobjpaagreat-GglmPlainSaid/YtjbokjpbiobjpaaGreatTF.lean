/- A verified evaluator of the program's form and its use for this seat: S1Specs, S1Tt, S1EqSoft, S1PSoft, S1EqRefD, S1PRefD, S1EqRefA, S1PRefA, S1PRefAa, S1EqRefB. -/
import Derived.Test.YtjbokjpbiobjpaaGreatTE
set_option linter.unusedVariables false
set_option linter.unusedSimpArgs false
noncomputable section
namespace Go.Proofs.S1
open Go Go.Den Go.Rnd
def soft.Split.pre:List Atom→Bool
  | [.i x]=>Ai x
  | _=>false
def soft.Split.out:List Atom→DV
  | [.i x]=>.agg [.bool (Dp x),.int .i64 (J2 x),.int .u64 (Ci x)]
  | _=>.undef
def soft.Split.spec:Entry:=entry [.i .u64] soft.Split.pre soft.Split.out
def soft.Kind.pre:List Atom→Bool
  | [.i x]=>Ai x
  | _=>false
def soft.Kind.out:List Atom→DV
  | [.i x]=>.int .i64 (A1 x)
  | _=>.undef
def soft.Kind.spec:Entry:=entry [.i .u64] soft.Kind.pre soft.Kind.out
def soft.Sign.pre:List Atom→Bool
  | [.i x]=>Ai x
  | _=>false
def soft.Sign.out:List Atom→DV
  | [.i x]=>.bool (Dp x)
  | _=>.undef
def soft.Sign.spec:Entry:=entry [.i .u64] soft.Sign.pre soft.Sign.out
def soft.Finite.pre:List Atom→Bool
  | [.i x]=>Ai x
  | _=>false
def soft.Finite.out:List Atom→DV
  | [.i x]=>.bool (Cv x)
  | _=>.undef
def soft.Finite.spec:Entry:=entry [.i .u64] soft.Finite.pre soft.Finite.out
def soft.Fs.pre:List Atom→Bool
  | [.i x]=>Ai x
  | _=>false
def soft.Fs.out:List Atom→DV
  | [.i x]=>.int .u64 (Dm x)
  | _=>.undef
def soft.Fs.spec:Entry:=entry [.i .u64] soft.Fs.pre soft.Fs.out
def soft.Fc.pre:List Atom→Bool
  | [.i x]=>Ai x
  | _=>false
def soft.Fc.out:List Atom→DV
  | [.i x]=>.tup [.int .u64 (Bh x),.int .i64 (Aw x)]
  | _=>.undef
def soft.Fc.spec:Entry:=entry [.i .u64] soft.Fc.pre soft.Fc.out
def soft.Pack.mu:List Atom→Nat
  | [.b _n,.i m,.i e]=>M4 m e
  | _=>0
def soft.Pack.pre:List Atom→Bool
  | [.b _n,.i m,.i e]=>Jj m e
  | _=>false
def soft.Pack.out:List Atom→DV
  | [.b n,.i m,.i e]=>.int .u64 (Rn n m e)
  | _=>.undef
def soft.Pack.spec:Entry:=entry [.b,.i .u64,.i .i64] soft.Pack.pre soft.Pack.out
def soft.Cy.pre:List Atom→Bool
  | [.b _n,.i m,.i e,.b r]=>Ds m e r
  | _=>false
def soft.Cy.out:List Atom→DV
  | [.b n,.i m,.i e,.b r]=>.tup [.int .u64 (Eb n m e r),.int .u8 (Ea n m e r)]
  | _=>.undef
def soft.Cy.spec:Entry:=entry [.b,.i .u64,.i .i64,.b] soft.Cy.pre soft.Cy.out
def sum.right.pre:List Atom→Bool
  | [.i m,.i d]=>Ai m&&Cr (0≤d∧d<1000000)
  | _=>false
def sum.right.out:List Atom→DV
  | [.i m,.i d]=>.int .u64 (Ej m d)
  | _=>.undef
def sum.right.spec:Entry:=entry [.i .u64,.i .i64] sum.right.pre sum.right.out
def sum.D4.pre:List Atom→Bool
  | [.i a,.i b]=>(Ai a&&Ai b)&&(!(Cv a)||!(Cv b))
  | _=>false
def sum.D4.out:List Atom→DV
  | [.i a,.i b]=>.tup [.int .u64 (Kc a b),.int .u8 (T4 a b)]
  | _=>.undef
def sum.D4.spec:Entry:=entry [.i .u64,.i .u64] sum.D4.pre sum.D4.out
def sum.Add.pre:List Atom→Bool
  | [.i a,.i b]=>Ai a&&Ai b
  | _=>false
def sum.Add.out:List Atom→DV
  | [.i a,.i b]=>.tup [.int .u64 (Kc a b),.int .u8 (T4 a b)]
  | _=>.undef
def sum.Add.spec:Entry:=entry [.i .u64,.i .u64] sum.Add.pre sum.Add.out
def sum.Sub.pre:List Atom→Bool
  | [.i a,.i b]=>Ai a&&Ai b
  | _=>false
def sum.Sub.out:List Atom→DV
  | [.i a,.i b]=>.tup [.int .u64 (Dk a b),.int .u8 (Atv a b)]
  | _=>.undef
def sum.Sub.spec:Entry:=entry [.i .u64,.i .u64] sum.Sub.pre sum.Sub.out
def A5.Neg.pre:List Atom→Bool
  | [.i x]=>Ai x
  | _=>false
def A5.Neg.out:List Atom→DV
  | [.i x]=>.bool (Dp x)
  | _=>.undef
def A5.Neg.spec:Entry:=entry [.i .u64] A5.Neg.pre A5.Neg.out
def A5.Power.pre:List Atom→Bool
  | [.i x]=>Nx x
  | _=>false
def A5.Power.out:List Atom→DV
  | [.i x]=>.int .i64 (J2 x)
  | _=>.undef
def A5.Power.spec:Entry:=entry [.i .u64] A5.Power.pre A5.Power.out
def A5.Jz.pre:List Atom→Bool
  | [.i x]=>Nx x
  | _=>false
def A5.Jz.out:List Atom→DV
  | [.i x]=>.int .u64 (Ci x)
  | _=>.undef
def A5.Jz.spec:Entry:=entry [.i .u64] A5.Jz.pre A5.Jz.out
def A5.Kind.pre:List Atom→Bool
  | [.i x]=>Nx x
  | _=>false
def A5.Kind.out:List Atom→DV
  | [.i x]=>.int .i64 (A1 x)
  | _=>.undef
def A5.Kind.spec:Entry:=entry [.i .u64] A5.Kind.pre A5.Kind.out
def A5.Finite.pre:List Atom→Bool
  | [.i x]=>Ai x
  | _=>false
def A5.Finite.out:List Atom→DV
  | [.i x]=>.bool (Cv x)
  | _=>.undef
def A5.Finite.spec:Entry:=entry [.i .u64] A5.Finite.pre A5.Finite.out
def Ch.Bp.pre:List Atom→Bool
  | [.i x]=>Ai x
  | _=>false
def Ch.Bp.out:List Atom→DV
  | [.i x]=>.int .i64 (64-Ec x)
  | _=>.undef
def Ch.Bp.spec:Entry:=entry [.i .u64] Ch.Bp.pre Ch.Bp.out
def Ch.Gy.pre:List Atom→Bool
  | [.i x,.i y]=>Ai x&&Ai y
  | _=>false
def Ch.Gy.out:List Atom→DV
  | [.i x,.i y]=>.tup [.int .u64 (P5 x y),.int .u64 (Lr x y)]
  | _=>.undef
def Ch.Gy.spec:Entry:=entry [.i .u64,.i .u64] Ch.Gy.pre Ch.Gy.out
def times.signed.pre:List Atom→Bool
  | [.i b,.b _n]=>Ai b
  | _=>false
def times.signed.out:List Atom→DV
  | [.i b,.b n]=>.int .u64 (P2 n b)
  | _=>.undef
def times.signed.spec:Entry:=entry [.i .u64,.b] times.signed.pre times.signed.out
def times.nan.pre:List Atom→Bool
  | [.i a,.i b]=>Ai a&&Ai b
  | _=>false
def times.nan.out:List Atom→DV
  | [.i a,.i b]=>.bool (Ajz a b)
  | _=>.undef
def times.nan.spec:Entry:=entry [.i .u64,.i .u64] times.nan.pre times.nan.out
def times.norm.pre:List Atom→Bool
  | [.i b]=>Ai b&&Kk b
  | _=>false
def times.norm.out:List Atom→DV
  | [.i b]=>.tup [.int .u64 (Cj b),.int .i64 (F9 b)]
  | _=>.undef
def times.norm.spec:Entry:=entry [.i .u64] times.norm.pre times.norm.out
def times.wide.pre:List Atom→Bool
  | [.b _n,.i m,.i e,.b _r]=>Mv m e
  | _=>false
def times.wide.out:List Atom→DV
  | [.b n,.i m,.i e,.b r]=>.tup [.int .u64 (Eb n m e r),.int .u8 (Ea n m e r)]
  | _=>.undef
def times.wide.spec:Entry:=entry [.b,.i .u64,.i .i64,.b] times.wide.pre times.wide.out
def times.Mul.pre:List Atom→Bool
  | [.i a,.i b]=>Ai a&&Ai b
  | _=>false
def times.Mul.out:List Atom→DV
  | [.i a,.i b]=>.tup [.int .u64 (Eg a b),.int .u8 (At4 a b)]
  | _=>.undef
def times.Mul.spec:Entry:=entry [.i .u64,.i .u64] times.Mul.pre times.Mul.out
def times.Div.pre:List Atom→Bool
  | [.i a,.i b]=>Ai a&&Ai b
  | _=>false
def times.Div.out:List Atom→DV
  | [.i a,.i b]=>.tup [.int .u64 (Eo a b),.int .u8 (Auc a b)]
  | _=>.undef
def times.Div.spec:Entry:=entry [.i .u64,.i .u64] times.Div.pre times.Div.out
def Af.Add.pre:List Atom→Bool
  | [.i a,.i b]=>Ai a&&Ai b
  | _=>false
def Af.Add.out:List Atom→DV
  | [.i a,.i b]=>.int .u64 (Kc a b)
  | _=>.undef
def Af.Add.spec:Entry:=entry [.i .u64,.i .u64] Af.Add.pre Af.Add.out
def Af.Sub.pre:List Atom→Bool
  | [.i a,.i b]=>Ai a&&Ai b
  | _=>false
def Af.Sub.out:List Atom→DV
  | [.i a,.i b]=>.int .u64 (Dk a b)
  | _=>.undef
def Af.Sub.spec:Entry:=entry [.i .u64,.i .u64] Af.Sub.pre Af.Sub.out
def Af.Mul.pre:List Atom→Bool
  | [.i a,.i b]=>Ai a&&Ai b
  | _=>false
def Af.Mul.out:List Atom→DV
  | [.i a,.i b]=>.int .u64 (Eg a b)
  | _=>.undef
def Af.Mul.spec:Entry:=entry [.i .u64,.i .u64] Af.Mul.pre Af.Mul.out
def Af.fit.pre:List Atom→Bool
  | [.l _x,.l _y]=>true
  | _=>false
def Af.fit.out:List Atom→DV
  | [.l x,.l y]=>.bool (S8 x y)
  | _=>.undef
def Af.fit.spec:Entry:=entry [.s .u64,.s .u64] Af.fit.pre Af.fit.out
def Af.N1.pre:List Atom→Bool
  | [.l x,.l y]=>(S8 x y&&Ah x)&&Ah y
  | _=>false
def Af.N1.out:List Atom→DV
  | [.l x,.l y]=>.tup [.int .u64 (Nf x y),.int .i64 (0:Int)]
  | _=>.undef
def Af.N1.spec:Entry:=entry [.s .u64,.s .u64] Af.N1.pre Af.N1.out
def Aa.size.pre:List Atom→Bool
  | [.i _n]=>true
  | _=>false
def Aa.size.out:List Atom→DV
  | [.i n]=>.bool (Bj n)
  | _=>.undef
def Aa.size.spec:Entry:=entry [.i .i64] Aa.size.pre Aa.size.out
def Aa.Check.pre:List Atom→Bool
  | [.i _r,.i _c,.l _l]=>true
  | _=>false
def Aa.Check.out:List Atom→DV
  | [.i r,.i c,.l l]=>.int .i64 (Je r c l)
  | _=>.undef
def Aa.Check.spec:Entry:=entry [.st [.i .i64,.i .i64,.s .u64]] Aa.Check.pre Aa.Check.out
def Aa.get.pre:List Atom→Bool
  | [.i r,.i c,.l l,.i i,.i k]=>Du r c l i k
  | _=>false
def Aa.get.out:List Atom→DV
  | [.i _r,.i c,.l l,.i i,.i k]=>.int .u64 (Ee c l i k)
  | _=>.undef
def Aa.get.spec:Entry:=entry [.st [.i .i64,.i .i64,.s .u64],.i .i64,.i .i64] Aa.get.pre Aa.get.out
def Aa.two.pre:List Atom→Bool
  | [.i _r,.i _c,.l _l,.i _p,.i _q,.l _m]=>true
  | _=>false
def Aa.two.out:List Atom→DV
  | [.i r,.i c,.l l,.i p,.i q,.l m]=>.int .i64 (U2 r c l p q m)
  | _=>.undef
def Aa.two.spec:Entry:=entry [.st [.i .i64,.i .i64,.s .u64],.st [.i .i64,.i .i64,.s .u64]] Aa.two.pre Aa.two.out
def Aa.Row.pre:List Atom→Bool
  | [.i r,.i c,.l l,.i i,.i f]=>Y5 r c l i&&decide (f=0)
  | _=>false
def Aa.Row.out:List Atom→DV
  | [.i _r,.i c,.l l,.i i,.i _f]=>.ints .fresh .u64 (J0 c l i)
  | _=>.undef
def Aa.Row.spec:Entry:=entry [.st [.i .i64,.i .i64,.s .u64],.i .i64,.i .i64] Aa.Row.pre Aa.Row.out
def Aa.Dg.pre:List Atom→Bool
  | [.i r,.i c,.l l,.i k,.i f]=>Lc r c l k&&Cr (0≤f∧f≤r)
  | _=>false
def Aa.Dg.out:List Atom→DV
  | [.i r,.i c,.l l,.i k,.i f]=>.ints .fresh .u64 (Dr c l k f (Int.toNat (r-f)))
  | _=>.undef
def Aa.Dg.spec:Entry:=entry [.st [.i .i64,.i .i64,.s .u64],.i .i64,.i .i64] Aa.Dg.pre Aa.Dg.out
def Aa.Dy.pre:List Atom→Bool
  | [.i _i,.i _k]=>true
  | _=>false
def Aa.Dy.out:List Atom→DV
  | [.i _i,.i _k]=>.int .u64 (0:Int)
  | _=>.undef
def Aa.Dy.spec:Entry:=entry [.i .i64,.i .i64] Aa.Dy.pre Aa.Dy.out
def Aa.G0.pre:List Atom→Bool
  | [.i _i,.i _k]=>true
  | _=>false
def Aa.G0.out:List Atom→DV
  | [.i i,.i k]=>.int .u64 (Co i k)
  | _=>.undef
def Aa.G0.spec:Entry:=entry [.i .i64,.i .i64] Aa.G0.pre Aa.G0.out
def Aa.E2.pre:List Atom→Bool
  | [.i i,.i k,.i r,.i c,.l l]=>Du r c l k i
  | _=>false
def Aa.E2.out:List Atom→DV
  | [.i i,.i k,.i _r,.i c,.l l]=>.int .u64 (Ee c l k i)
  | _=>.undef
def Aa.E2.spec:Entry:=entry [.i .i64,.i .i64,.cp [.i .i64,.i .i64,.s .u64]] Aa.E2.pre Aa.E2.out
def Aa.E4.pre:List Atom→Bool
  | [.i i,.i k,.i r,.i c,.l l,.i x,.i y]=>Du r c l (x+i) (y+k)&&So x y i k
  | _=>false
def Aa.E4.out:List Atom→DV
  | [.i i,.i k,.i _r,.i c,.l l,.i x,.i y]=>.int .u64 (Ee c l (x+i) (y+k))
  | _=>.undef
def Aa.E4.spec:Entry:=entry [.i .i64,.i .i64,.cp [.i .i64,.i .i64,.s .u64],.cp [.i .i64],.cp [.i .i64]] Aa.E4.pre Aa.E4.out
def Aa.Gv.pre:List Atom→Bool
  | [.i i,.i k,.i r,.i c,.l l,.i p,.i q,.l m]=>((Du r c l i k&&Du p q m i k)&&Ah l)&&Ah m
  | _=>false
def Aa.Gv.out:List Atom→DV
  | [.i i,.i k,.i _r,.i c,.l l,.i _p,.i q,.l m]=>.int .u64 (Dk (Ee c l i k) (Ee q m i k))
  | _=>.undef
def Aa.Gv.spec:Entry:=entry [.i .i64,.i .i64,.cp [.i .i64,.i .i64,.s .u64],.cp [.i .i64,.i .i64,.s .u64]] Aa.Gv.pre Aa.Gv.out
def Aa.Gx.pre:List Atom→Bool
  | [.i i,.i k,.i r,.i c,.l l,.i p,.i q,.l m]=>Qm r c l p q m i k
  | _=>false
def Aa.Gx.out:List Atom→DV
  | [.i i,.i k,.i _r,.i c,.l l,.i p,.i q,.l m]=>.int .u64 (Nf (J0 c l i) (N0 p q m k))
  | _=>.undef
def Aa.Gx.spec:Entry:=entry [.i .i64,.i .i64,.cp [.i .i64,.i .i64,.s .u64],.cp [.i .i64,.i .i64,.s .u64]] Aa.Gx.pre Aa.Gx.out
def Aa.of.En.pre:List Atom→Bool
  | [.i a,.i b]=>(Bj a&&Bj b)
  | _=>false
def Aa.of.En.out:List Atom→DV
  | [.i a,.i b]=>.agg [.int .i64 a,.int .i64 b,.ints .fresh .u64 (Bl (Int.toNat a) (Int.toNat b) (fun j1 j2=>Co j1 j2))]
  | _=>.undef
def Aa.of.En.spec:Entry:=entry [.i .i64,.i .i64,.fn 246 []] Aa.of.En.pre Aa.of.En.out
def Aa.of.Df.pre:List Atom→Bool
  | [.i a,.i b,.i r,.i c,.l l]=>(Bj a&&Bj b)&&Bg r c l&&decide (a=c∧b=r)
  | _=>false
def Aa.of.Df.out:List Atom→DV
  | [.i a,.i b,.i _r,.i c,.l l]=>.agg [.int .i64 a,.int .i64 b,.ints .fresh .u64 (Bl (Int.toNat a) (Int.toNat b) (fun j1 j2=>Ee c l j2 j1))]
  | _=>.undef
def Aa.of.Df.spec:Entry:=entry [.i .i64,.i .i64,.fn 220 [.cp [.i .i64,.i .i64,.s .u64]]] Aa.of.Df.pre Aa.of.Df.out
def Aa.of.Part.pre:List Atom→Bool
  | [.i a,.i b,.i r,.i c,.l l,.i x,.i y]=>(Bj a&&Bj b)&&Bg r c l&&Ns r c x y a b
  | _=>false
def Aa.of.Part.out:List Atom→DV
  | [.i a,.i b,.i _r,.i c,.l l,.i x,.i y]=>.agg [.int .i64 a,.int .i64 b,.ints .fresh .u64 (Bl (Int.toNat a) (Int.toNat b) (fun j1 j2=>Ee c l (x+j1) (y+j2)))]
  | _=>.undef
def Aa.of.Part.spec:Entry:=entry [.i .i64,.i .i64,.fn 192 [.cp [.i .i64,.i .i64,.s .u64],.cp [.i .i64],.cp [.i .i64]]] Aa.of.Part.pre Aa.of.Part.out
def Aa.of.Sub.pre:List Atom→Bool
  | [.i a,.i b,.i r,.i c,.l l,.i p,.i q,.l m]=>(Bj a&&Bj b)&&((Bg r c l&&Bg p q m)&&(Ah l&&Ah m))&&decide (a=r∧b=c∧p=r∧q=c)
  | _=>false
def Aa.of.Sub.out:List Atom→DV
  | [.i a,.i b,.i _r,.i c,.l l,.i _p,.i q,.l m]=>.agg [.int .i64 a,.int .i64 b,.ints .fresh .u64 (Bl (Int.toNat a) (Int.toNat b) (fun j1 j2=>Dk (Ee c l j1 j2) (Ee q m j1 j2)))]
  | _=>.undef
def Aa.of.Sub.spec:Entry:=entry [.i .i64,.i .i64,.fn 194 [.cp [.i .i64,.i .i64,.s .u64],.cp [.i .i64,.i .i64,.s .u64]]] Aa.of.Sub.pre Aa.of.Sub.out
def Aa.of.Mul.pre:List Atom→Bool
  | [.i a,.i b,.i r,.i c,.l l,.i p,.i q,.l m]=>(Bj a&&Bj b)&&((Bg r c l&&Bg p q m)&&(Ah l&&Ah m))&&decide (a=r∧b=q∧c=p)
  | _=>false
def Aa.of.Mul.out:List Atom→DV
  | [.i a,.i b,.i _r,.i c,.l l,.i p,.i q,.l m]=>.agg [.int .i64 a,.int .i64 b,.ints .fresh .u64 (Bl (Int.toNat a) (Int.toNat b) (fun j1 j2=>Nf (J0 c l j1) (N0 p q m j2)))]
  | _=>.undef
def Aa.of.Mul.spec:Entry:=entry [.i .i64,.i .i64,.fn 188 [.cp [.i .i64,.i .i64,.s .u64],.cp [.i .i64,.i .i64,.s .u64]]] Aa.of.Mul.pre Aa.of.Mul.out
def Aa.En.pre:List Atom→Bool
  | [.i _n]=>true
  | _=>false
def Aa.En.out:List Atom→DV
  | [.i n]=>.tup [.agg [.int .i64 ((La n).1),.int .i64 ((La n).2.1),.ints .fresh .u64 ((La n).2.2.1)],.int .i64 ((La n).2.2.2)]
  | _=>.undef
def Aa.En.spec:Entry:=entry [.i .i64] Aa.En.pre Aa.En.out
def Aa.Df.pre:List Atom→Bool
  | [.i _r,.i _c,.l _l]=>true
  | _=>false
def Aa.Df.out:List Atom→DV
  | [.i r,.i c,.l l]=>.tup [.agg [.int .i64 ((Bc r c l).1),.int .i64 ((Bc r c l).2.1),.ints .fresh .u64 ((Bc r c l).2.2.1)],.int .i64 ((Bc r c l).2.2.2)]
  | _=>.undef
def Aa.Df.spec:Entry:=entry [.st [.i .i64,.i .i64,.s .u64]] Aa.Df.pre Aa.Df.out
def Aa.Part.pre:List Atom→Bool
  | [.i _r,.i _c,.l _l,.i _x,.i _y,.i _a,.i _b]=>true
  | _=>false
def Aa.Part.out:List Atom→DV
  | [.i r,.i c,.l l,.i x,.i y,.i a,.i b]=>.tup [.agg [.int .i64 ((Dz r c l x y a b).1),.int .i64 ((Dz r c l x y a b).2.1),.ints .fresh .u64 ((Dz r c l x y a b).2.2.1)],.int .i64 ((Dz r c l x y a b).2.2.2)]
  | _=>.undef
def Aa.Part.spec:Entry:=entry [.st [.i .i64,.i .i64,.s .u64],.i .i64,.i .i64,.i .i64,.i .i64] Aa.Part.pre Aa.Part.out
def Aa.Sub.pre:List Atom→Bool
  | [.i _r,.i _c,.l l,.i _p,.i _q,.l m]=>Ah l&&Ah m
  | _=>false
def Aa.Sub.out:List Atom→DV
  | [.i r,.i c,.l l,.i p,.i q,.l m]=>.tup [.agg [.int .i64 ((T8 r c l p q m).1),.int .i64 ((T8 r c l p q m).2.1),.ints .fresh .u64 ((T8 r c l p q m).2.2.1)],.int .i64 ((T8 r c l p q m).2.2.2)]
  | _=>.undef
def Aa.Sub.spec:Entry:=entry [.st [.i .i64,.i .i64,.s .u64],.st [.i .i64,.i .i64,.s .u64]] Aa.Sub.pre Aa.Sub.out
def Aa.Mul.pre:List Atom→Bool
  | [.i _r,.i _c,.l l,.i _p,.i _q,.l m]=>Ah l&&Ah m
  | _=>false
def Aa.Mul.out:List Atom→DV
  | [.i r,.i c,.l l,.i p,.i q,.l m]=>.tup [.agg [.int .i64 ((Ml r c l p q m).1),.int .i64 ((Ml r c l p q m).2.1),.ints .fresh .u64 ((Ml r c l p q m).2.2.1)],.int .i64 ((Ml r c l p q m).2.2.2)]
  | _=>.undef
def Aa.Mul.spec:Entry:=entry [.st [.i .i64,.i .i64,.s .u64],.st [.i .i64,.i .i64,.s .u64]] Aa.Mul.pre Aa.Mul.out
def Bo.Gw.pre:List Atom→Bool
  | [.i _r,.i _c,.l _l]=>true
  | _=>false
def Bo.Gw.out:List Atom→DV
  | [.i r,.i c,.l l]=>.bool (Bg r c l)
  | _=>.undef
def Bo.Gw.spec:Entry:=entry [.st [.i .i64,.i .i64,.s .u64]] Bo.Gw.pre Bo.Gw.out
def Bo.Br.pre:List Atom→Bool
  | [.i a,.i b]=>Bj a&&Bj b
  | _=>false
def Bo.Br.out:List Atom→DV
  | [.i a,.i b]=>.agg [.int .i64 a,.int .i64 b,.ints .fresh .u64 (Bl (Int.toNat a) (Int.toNat b) (fun _ _=>0))]
  | _=>.undef
def Bo.Br.spec:Entry:=entry [.i .i64,.i .i64] Bo.Br.pre Bo.Br.out
def Bo.Lg.pre:List Atom→Bool
  | [.i r,.i c,.l l,.i i,.i k,.i _b]=>Du r c l i k
  | _=>false
def Bo.Lg.out:List Atom→DV
  | [.i r,.i c,.l l,.i i,.i k,.i b]=>.agg [.int .i64 r,.int .i64 c,.ints .fresh .u64 (List.set l (Int.toNat (i*c+k)) b)]
  | _=>.undef
def Bo.Lg.spec:Entry:=entry [.st [.i .i64,.i .i64,.s .u64],.i .i64,.i .i64,.i .u64] Bo.Lg.pre Bo.Lg.out
def Bo.En.pre:List Atom→Bool
  | [.i n]=>Bj n
  | _=>false
def Bo.En.out:List Atom→DV
  | [.i n]=>.agg [.int .i64 n,.int .i64 n,.ints .fresh .u64 (Bl (Int.toNat n) (Int.toNat n) (fun j1 j2=>Co j1 j2))]
  | _=>.undef
def Bo.En.spec:Entry:=entry [.i .i64] Bo.En.pre Bo.En.out
def Ac.Hu.pre:List Atom→Bool
  | [.l l,.i _i]=>Fh l
  | _=>false
def Ac.Hu.out:List Atom→DV
  | [.l l,.i i]=>.int .u64 (F3 l i)
  | _=>.undef
def Ac.Hu.spec:Entry:=entry [.s .u32,.i .i64] Ac.Hu.pre Ac.Hu.out
def Ac.Made.pre:List Atom→Bool
  | [.b _n,.l l]=>Fh l
  | _=>false
def Ac.Made.out:List Atom→DV
  | [.b n,.l l]=>.agg [.bool (Av (wv n l)),.ints .arg .u32 (Ae (wv n l))]
  | _=>.undef
def Ac.Made.spec:Entry:=entry [.b,.s .u32] Ac.Made.pre Ac.Made.out
def Ac.Of.pre:List Atom→Bool
  | [.i n]=>Afz n
  | _=>false
def Ac.Of.out:List Atom→DV
  | [.i n]=>.agg [.bool (Av (n)),.ints .arg .u32 (Ae (n))]
  | _=>.undef
def Ac.Of.spec:Entry:=entry [.i .i64] Ac.Of.pre Ac.Of.out
def Ac.G8.pre:List Atom→Bool
  | [.l a,.l b]=>Fh a&&Fh b
  | _=>false
def Ac.G8.out:List Atom→DV
  | [.l a,.l b]=>.int .i64 (Tc (By a) (By b))
  | _=>.undef
def Ac.G8.spec:Entry:=entry [.s .u32,.s .u32] Ac.G8.pre Ac.G8.out
def Ac.plus.pre:List Atom→Bool
  | [.l a,.l b]=>Fh a&&Fh b
  | _=>false
def Ac.plus.out:List Atom→DV
  | [.l a,.l b]=>.ints .arg .u32 (He a b)
  | _=>.undef
def Ac.plus.spec:Entry:=entry [.s .u32,.s .u32] Ac.plus.pre Ac.plus.out
def Ac.minus.pre:List Atom→Bool
  | [.l a,.l b]=>(Fh a&&Fh b)&&leL b a
  | _=>false
def Ac.minus.out:List Atom→DV
  | [.l a,.l b]=>.ints .arg .u32 (Ga a b)
  | _=>.undef
def Ac.minus.spec:Entry:=entry [.s .u32,.s .u32] Ac.minus.pre Ac.minus.out
def Ac.Add.pre:List Atom→Bool
  | [.b n,.l a,.b m,.l b]=>Ib n a&&Ib m b
  | _=>false
def Ac.Add.out:List Atom→DV
  | [.b n,.l a,.b m,.l b]=>.agg [.bool (Av (wv n a+wv m b)),.ints .arg .u32 (Ae (wv n a+wv m b))]
  | _=>.undef
def Ac.Add.spec:Entry:=entry [.st [.b,.s .u32],.st [.b,.s .u32]] Ac.Add.pre Ac.Add.out
def Ac.Neg.pre:List Atom→Bool
  | [.b n,.l a]=>Ib n a
  | _=>false
def Ac.Neg.out:List Atom→DV
  | [.b n,.l a]=>.agg [.bool (Av (- wv n a)),.ints .arg .u32 (Ae (- wv n a))]
  | _=>.undef
def Ac.Neg.spec:Entry:=entry [.st [.b,.s .u32]] Ac.Neg.pre Ac.Neg.out
def Ac.E7.pre:List Atom→Bool
  | [.b n,.l a]=>Ib n a
  | _=>false
def Ac.E7.out:List Atom→DV
  | [.b n,.l a]=>.agg [.bool (Av (2*wv n a)),.ints .arg .u32 (Ae (2*wv n a))]
  | _=>.undef
def Ac.E7.spec:Entry:=entry [.st [.b,.s .u32]] Ac.E7.pre Ac.E7.out
def Ac.Gn.pre:List Atom→Bool
  | [.b n,.l a]=>Ib n a
  | _=>false
def Ac.Gn.out:List Atom→DV
  | [.b n,.l a]=>.agg [.bool (Av (Ji (wv n a) 1)),.ints .arg .u32 (Ae (Ji (wv n a) 1))]
  | _=>.undef
def Ac.Gn.spec:Entry:=entry [.st [.b,.s .u32]] Ac.Gn.pre Ac.Gn.out
def Ac.Bx.pre:List Atom→Bool
  | [.b n,.l a,.i k]=>Wy n a&&Aqz k
  | _=>false
def Ac.Bx.out:List Atom→DV
  | [.b n,.l a,.i k]=>.agg [.bool (Av (G2 (wv n a) k)),.ints .arg .u32 (Ae (G2 (wv n a) k))]
  | _=>.undef
def Ac.Bx.spec:Entry:=entry [.st [.b,.s .u32],.i .i64] Ac.Bx.pre Ac.Bx.out
def Ac.O5.pre:List Atom→Bool
  | [.b n,.l a]=>Ib n a
  | _=>false
def Ac.O5.out:List Atom→DV
  | [.b n,.l a]=>.int .i64 (Zt (wv n a))
  | _=>.undef
def Ac.O5.spec:Entry:=entry [.st [.b,.s .u32]] Ac.O5.pre Ac.O5.out
def Ac.Ux.pre:List Atom→Bool
  | [.b n,.l a]=>Ib n a
  | _=>false
def Ac.Ux.out:List Atom→DV
  | [.b n,.l a]=>.bool (Ag1 (wv n a))
  | _=>.undef
def Ac.Ux.spec:Entry:=entry [.st [.b,.s .u32]] Ac.Ux.pre Ac.Ux.out
def Ac.D2.pre:List Atom→Bool
  | [.b n,.l a,.b m,.l b]=>Ib n a&&Ib m b
  | _=>false
def Ac.D2.out:List Atom→DV
  | [.b n,.l a,.b m,.l b]=>.bool (Rh (wv n a) (wv m b))
  | _=>.undef
def Ac.D2.spec:Entry:=entry [.st [.b,.s .u32],.st [.b,.s .u32]] Ac.D2.pre Ac.D2.out
def Ay.Of.pre:List Atom→Bool
  | [.b n,.l a,.i e]=>Ib n a&&S2 e
  | _=>false
def Ay.Of.out:List Atom→DV
  | [.b n,.l a,.i e]=>.agg [.bool (Av (mD (wv n a))),.ints .arg .u32 (Ae (mD (wv n a))),.int .i64 (eD (wv n a) e)]
  | _=>.undef
def Ay.Of.spec:Entry:=entry [.st [.b,.s .u32],.i .i64] Ay.Of.pre Ay.Of.out
def Ay.Uy.pre:List Atom→Bool
  | [.b n,.l a,.i _e,.b m,.l b,.i _f]=>Ib n a&&Ib m b
  | _=>false
def Ay.Uy.out:List Atom→DV
  | [.b n,.l a,.i e,.b m,.l b,.i f]=>.int .i64 (De (wv n a) e (wv m b) f)
  | _=>.undef
def Ay.Uy.spec:Entry:=entry [.st [.b,.s .u32,.i .i64],.st [.b,.s .u32,.i .i64]] Ay.Uy.pre Ay.Uy.out
def Ay.Level.pre:List Atom→Bool
  | [.b n,.l a,.i e,.i f]=>Wy n a&&Abk (wv n a) e f
  | _=>false
def Ay.Level.out:List Atom→DV
  | [.b n,.l a,.i e,.i f]=>.agg [.bool (Av (G2 (wv n a) (e-f))),.ints .arg .u32 (Ae (G2 (wv n a) (e-f)))]
  | _=>.undef
def Ay.Level.spec:Entry:=entry [.st [.b,.s .u32,.i .i64],.i .i64] Ay.Level.pre Ay.Level.out
def Ay.Add.pre:List Atom→Bool
  | [.b n,.l a,.i e,.b m,.l b,.i f]=>((Wy n a&&Wy m b)&&S3 e)&&S3 f
  | _=>false
def Ay.Add.out:List Atom→DV
  | [.b n,.l a,.i e,.b m,.l b,.i f]=>.agg [.bool (Av (Acz (wv n a) e (wv m b) f)),.ints .arg .u32 (Ae (Acz (wv n a) e (wv m b) f)),.int .i64 (Amd (wv n a) e (wv m b) f)]
  | _=>.undef
def Ay.Add.spec:Entry:=entry [.st [.b,.s .u32,.i .i64],.st [.b,.s .u32,.i .i64]] Ay.Add.pre Ay.Add.out
def Ay.Uw.pre:List Atom→Bool
  | [.b n,.l a,.i e]=>Ib n a&&S3 e
  | _=>false
def Ay.Uw.out:List Atom→DV
  | [.b n,.l a,.i e]=>.int .i64 (Agf (wv n a) e)
  | _=>.undef
def Ay.Uw.spec:Entry:=entry [.st [.b,.s .u32,.i .i64]] Ay.Uw.pre Ay.Uw.out
def Ay.D2.pre:List Atom→Bool
  | [.b n,.l a,.i _e,.b m,.l b,.i _f]=>Ib n a&&Ib m b
  | _=>false
def Ay.D2.out:List Atom→DV
  | [.b n,.l a,.i e,.b m,.l b,.i f]=>.bool (((decide (e=f))&&Rh (wv n a) (wv m b)))
  | _=>.undef
def Ay.D2.spec:Entry:=entry [.st [.b,.s .u32,.i .i64],.st [.b,.s .u32,.i .i64]] Ay.D2.pre Ay.D2.out
def A5.Value.pre:List Atom→Bool
  | [.i x]=>Ai x
  | _=>false
def A5.Value.out:List Atom→DV
  | [.i x]=>.agg [.bool (Av (mD (A2 x))),.ints .arg .u32 (Ae (mD (A2 x))),.int .i64 (eD (A2 x) (Aw x))]
  | _=>.undef
def A5.Value.spec:Entry:=entry [.i .u64] A5.Value.pre A5.Value.out
def Ac.single.pre:List Atom→Bool
  | [.l a,.i x]=>Fh a&&Afy x
  | _=>false
def Ac.single.out:List Atom→DV
  | [.l a,.i x]=>.ints .arg .u32 (singleL a x)
  | _=>.undef
def Ac.single.spec:Entry:=entry [.s .u32,.i .u32] Ac.single.pre Ac.single.out
def Ac.Mul.pre:List Atom→Bool
  | [.b n,.l a,.b m,.l b]=>Zb n a&&Zb m b
  | _=>false
def Ac.Mul.out:List Atom→DV
  | [.b n,.l a,.b m,.l b]=>.agg [.bool (Av (wv n a*wv m b)),.ints .arg .u32 (Ae (wv n a*wv m b))]
  | _=>.undef
def Ac.Mul.spec:Entry:=entry [.st [.b,.s .u32],.st [.b,.s .u32]] Ac.Mul.pre Ac.Mul.out
def Ay.Mul.pre:List Atom→Bool
  | [.b n,.l a,.i e,.b m,.l b,.i f]=>(Zb n a&&Zb m b)&&(S3 e&&S3 f)
  | _=>false
def Ay.Mul.out:List Atom→DV
  | [.b n,.l a,.i e,.b m,.l b,.i f]=>.agg [.bool (Av (mD (wv n a*wv m b))),.ints .arg .u32 (Ae (mD (wv n a*wv m b))),.int .i64 (eD (wv n a*wv m b) (e+f))]
  | _=>.undef
def Ay.Mul.spec:Entry:=entry [.st [.b,.s .u32,.i .i64],.st [.b,.s .u32,.i .i64]] Ay.Mul.pre Ay.Mul.out
def compare.Ki.pre:List Atom→Bool
  | [.i b]=>Ai b
  | _=>false
def compare.Ki.out:List Atom→DV
  | [.i b]=>.int .i64 (Xn b)
  | _=>.undef
def compare.Ki.spec:Entry:=entry [.i .u64] compare.Ki.pre compare.Ki.out
def compare.Order.pre:List Atom→Bool
  | [.i a,.i b]=>Ai a&&Ai b
  | _=>false
def compare.Order.out:List Atom→DV
  | [.i a,.i b]=>.tup [.int .i64 (Adz a b),.bool (At0 a b)]
  | _=>.undef
def compare.Order.spec:Entry:=entry [.i .u64,.i .u64] compare.Order.pre compare.Order.out
def compare.Kq.pre:List Atom→Bool
  | [.i a,.i b]=>Ai a&&Ai b
  | _=>false
def compare.Kq.out:List Atom→DV
  | [.i a,.i b]=>.bool (decide (Adz a b<0))
  | _=>.undef
def compare.Kq.spec:Entry:=entry [.i .u64,.i .u64] compare.Kq.pre compare.Kq.out
def compare.T6.pre:List Atom→Bool
  | [.i a]=>Ai a
  | _=>false
def compare.T6.out:List Atom→DV
  | [.i a]=>.int .u64 (Abu a)
  | _=>.undef
def compare.T6.spec:Entry:=entry [.i .u64] compare.T6.pre compare.T6.out
def compare.Eh.pre:List Atom→Bool
  | [.i a,.i n]=>Ew a n
  | _=>false
def compare.Eh.out:List Atom→DV
  | [.i a,.i n]=>.tup [.int .u64 (Cg a n),.int .u8 (Ana a n)]
  | _=>.undef
def compare.Eh.spec:Entry:=entry [.i .u64,.i .i64] compare.Eh.pre compare.Eh.out
def Af.Bx.pre:List Atom→Bool
  | [.i a,.i n]=>Ew a n
  | _=>false
def Af.Bx.out:List Atom→DV
  | [.i a,.i n]=>.int .u64 (Cg a n)
  | _=>.undef
def Af.Bx.spec:Entry:=entry [.i .u64,.i .i64] Af.Bx.pre Af.Bx.out
def Af.Div.pre:List Atom→Bool
  | [.i a,.i b]=>Ai a&&Ai b
  | _=>false
def Af.Div.out:List Atom→DV
  | [.i a,.i b]=>.int .u64 (Eo a b)
  | _=>.undef
def Af.Div.spec:Entry:=entry [.i .u64,.i .u64] Af.Div.pre Af.Div.out
def Af.Cm.pre:List Atom→Bool
  | [.l x]=>Cw x
  | _=>false
def Af.Cm.out:List Atom→DV
  | [.l x]=>.int .u64 (Bq x)
  | _=>.undef
def Af.Cm.spec:Entry:=entry [.s .u64] Af.Cm.pre Af.Cm.out
def Af.Finite.pre:List Atom→Bool
  | [.l x]=>Cw x
  | _=>false
def Af.Finite.out:List Atom→DV
  | [.l x]=>.bool (Dw x)
  | _=>.undef
def Af.Finite.spec:Entry:=entry [.s .u64] Af.Finite.pre Af.Finite.out
def Cb.Check.pre:List Atom→Bool
  | [.i _r,.i _c,.l l]=>Ah l
  | _=>false
def Cb.Check.out:List Atom→DV
  | [.i r,.i c,.l l]=>.int .i64 (B6 r c l)
  | _=>.undef
def Cb.Check.spec:Entry:=entry [.st [.i .i64,.i .i64,.s .u64]] Cb.Check.pre Cb.Check.out
def solve.check.pre:List Atom→Bool
  | [.i _r,.i _c,.l l,.i _p,.i _q,.l m]=>Ah l&&Ah m
  | _=>false
def solve.check.out:List Atom→DV
  | [.i r,.i c,.l l,.i p,.i q,.l m]=>.int .i64 (Mr r c l p q m)
  | _=>.undef
def solve.check.spec:Entry:=entry [.st [.i .i64,.i .i64,.s .u64],.st [.i .i64,.i .i64,.s .u64]] solve.check.pre solve.check.out
def Cu.Ct.up.pre:List Atom→Bool
  | [.i n,.i k]=>Cr (0≤k∧k<n∧n≤10)
  | _=>false
def Cu.Ct.up.out:List Atom→DV
  | [.i n,.i k]=>.int .i64 (n-1-k)
  | _=>.undef
def Cu.Ct.up.spec:Entry:=entry [.i .i64,.i .i64] Cu.Ct.up.pre Cu.Ct.up.out
def solve.D5.pre:List Atom→Bool
  | [.i _i,.i _k]=>true
  | _=>false
def solve.D5.out:List Atom→DV
  | [.i i,.i k]=>.bool (decide (i<k))
  | _=>.undef
def solve.D5.spec:Entry:=entry [.i .i64,.i .i64] solve.D5.pre solve.D5.out
def Aa.of.Br.own.pre:List Atom→Bool
  | [.i a,.i b]=>Bj a&&Bj b
  | _=>false
def Aa.of.Br.own.out:List Atom→DV
  | [.i a,.i b]=>.agg [.int .i64 a,.int .i64 b,.ints (.own 108002 37) .u64 (Bl (Int.toNat a) (Int.toNat b) (fun _ _=>0))]
  | _=>.undef
def Aa.of.Br.own.spec:Entry:=entry [.i .i64,.i .i64,.fn 205 []] Aa.of.Br.own.pre Aa.of.Br.own.out
def Aa.Br.own.pre:List Atom→Bool
  | [.i a,.i b]=>Bj a&&Bj b
  | _=>false
def Aa.Br.own.out:List Atom→DV
  | [.i a,.i b]=>.tup [.agg [.int .i64 a,.int .i64 b,.ints (.own 1136 37) .u64 (Bl (Int.toNat a) (Int.toNat b) (fun _ _=>0))],.int .i64 (0:Int)]
  | _=>.undef
def Aa.Br.own.spec:Entry:=entry [.i .i64,.i .i64] Aa.Br.own.pre Aa.Br.own.out
def solve.As.Up.pre:List Atom→Bool
  | [.i r,.i c,.l l,.i p,.i q,.l m,.i n]=>N6 r c l p q m&&decide (n=r)
  | _=>false
def solve.As.Up.out:List Atom→DV
  | [.i r,.i c,.l l,.i _p,.i q,.l m,.i _n]=>.tup [.agg [.int .i64 ((Iw r q (upG c l q m (Int.toNat r) (Int.toNat q))).1),.int .i64 ((Iw r q (upG c l q m (Int.toNat r) (Int.toNat q))).2.1),.ints .fresh .u64 ((Iw r q (upG c l q m (Int.toNat r) (Int.toNat q))).2.2.1)],.int .i64 ((Iw r q (upG c l q m (Int.toNat r) (Int.toNat q))).2.2.2)]
  | _=>.undef
def solve.As.Up.spec:Entry:=entry [.st [.i .i64,.i .i64,.s .u64],.st [.i .i64,.i .i64,.s .u64],.fm 103 [.i .i64],.fn 104 []] solve.As.Up.pre solve.As.Up.out
def solve.Gu.pre:List Atom→Bool
  | [.i _r,.i _c,.l l,.i _p,.i _q,.l m]=>Ah l&&Ah m
  | _=>false
def solve.Gu.out:List Atom→DV
  | [.i r,.i c,.l l,.i p,.i q,.l m]=>.tup [.agg [.int .i64 ((Xc r c l p q m).1),.int .i64 ((Xc r c l p q m).2.1),.ints .fresh .u64 ((Xc r c l p q m).2.2.1)],.int .i64 ((Xc r c l p q m).2.2.2)]
  | _=>.undef
def solve.Gu.spec:Entry:=entry [.st [.i .i64,.i .i64,.s .u64],.st [.i .i64,.i .i64,.s .u64]] solve.Gu.pre solve.Gu.out
def solve.Flat.pre:List Atom→Bool
  | [.i _r,.i _c,.l l]=>Ah l
  | _=>false
def solve.Flat.out:List Atom→DV
  | [.i r,.i c,.l l]=>.tup [.bool ((Nv r c l).1),.int .i64 ((Nv r c l).2)]
  | _=>.undef
def solve.Flat.spec:Entry:=entry [.st [.i .i64,.i .i64,.s .u64]] solve.Flat.pre solve.Flat.out
def qr.Es.pre:List Atom→Bool
  | [.i _r,.i _c,.l l,.i _p,.i _q,.l m]=>Ah l&&Ah m
  | _=>false
def qr.Es.out:List Atom→DV
  | [.i r,.i c,.l l,.i p,.i q,.l m]=>.tup [.agg [.int .i64 ((El r c l p q m).1),.int .i64 ((El r c l p q m).2.1),.ints .fresh .u64 ((El r c l p q m).2.2.1)],.int .i64 ((El r c l p q m).2.2.2)]
  | _=>.undef
def qr.Es.spec:Entry:=entry [.st [.i .i64,.i .i64,.s .u64],.st [.i .i64,.i .i64,.s .u64]] qr.Es.pre qr.Es.out
def Bm.Finite.pre:List Atom→Bool
  | [.l x]=>Cw x
  | _=>false
def Bm.Finite.out:List Atom→DV
  | [.l x]=>.bool (Dw x)
  | _=>.undef
def Bm.Finite.spec:Entry:=entry [.s .u64] Bm.Finite.pre Bm.Finite.out
def Gq.Check.pre:List Atom→Bool
  | [.i _r,.i _c,.l l]=>Ah l
  | _=>false
def Gq.Check.out:List Atom→DV
  | [.i r,.i c,.l l]=>.int .i64 (B6 r c l)
  | _=>.undef
def Gq.Check.spec:Entry:=entry [.st [.i .i64,.i .i64,.s .u64]] Gq.Check.pre Gq.Check.out
def Cu.Ct.down.pre:List Atom→Bool
  | [.i _n,.i _k]=>true
  | _=>false
def Cu.Ct.down.out:List Atom→DV
  | [.i _n,.i k]=>.int .i64 k
  | _=>.undef
def Cu.Ct.down.spec:Entry:=entry [.i .i64,.i .i64] Cu.Ct.down.pre Cu.Ct.down.out
def solve.D6.pre:List Atom→Bool
  | [.i _i,.i _k]=>true
  | _=>false
def solve.D6.out:List Atom→DV
  | [.i i,.i k]=>.bool (decide (k<i))
  | _=>.undef
def solve.D6.spec:Entry:=entry [.i .i64,.i .i64] solve.D6.pre solve.D6.out
def solve.As.Lo.pre:List Atom→Bool
  | [.i r,.i c,.l l,.i p,.i q,.l m,.i n]=>N6 r c l p q m&&decide (n=r)
  | _=>false
def solve.As.Lo.out:List Atom→DV
  | [.i r,.i c,.l l,.i _p,.i q,.l m,.i _n]=>.tup [.agg [.int .i64 ((Iw r q (W3 c l q m (Int.toNat r) (Int.toNat q))).1),.int .i64 ((Iw r q (W3 c l q m (Int.toNat r) (Int.toNat q))).2.1),.ints .fresh .u64 ((Iw r q (W3 c l q m (Int.toNat r) (Int.toNat q))).2.2.1)],.int .i64 ((Iw r q (W3 c l q m (Int.toNat r) (Int.toNat q))).2.2.2)]
  | _=>.undef
def solve.As.Lo.spec:Entry:=entry [.st [.i .i64,.i .i64,.s .u64],.st [.i .i64,.i .i64,.s .u64],.fm 77 [.i .i64],.fn 78 []] solve.As.Lo.pre solve.As.Lo.out
def solve.Gz.pre:List Atom→Bool
  | [.i _r,.i _c,.l l,.i _p,.i _q,.l m]=>Ah l&&Ah m
  | _=>false
def solve.Gz.out:List Atom→DV
  | [.i r,.i c,.l l,.i p,.i q,.l m]=>.tup [.agg [.int .i64 ((Zp r c l p q m).1),.int .i64 ((Zp r c l p q m).2.1),.ints .fresh .u64 ((Zp r c l p q m).2.2.1)],.int .i64 ((Zp r c l p q m).2.2.2)]
  | _=>.undef
def solve.Gz.spec:Entry:=entry [.st [.i .i64,.i .i64,.s .u64],.st [.i .i64,.i .i64,.s .u64]] solve.Gz.pre solve.Gz.out
def root.Fz.pre:List Atom→Bool
  | [.i m]=>Cr (0≤m∧m<9223372036854775808)
  | _=>false
def root.Fz.out:List Atom→DV
  | [.i m]=>.tup [.int .u64 (Rx m),.bool (Ry m)]
  | _=>.undef
def root.Fz.spec:Entry:=entry [.i .u64] root.Fz.pre root.Fz.out
def root.Sqrt.pre:List Atom→Bool
  | [.i a]=>Ai a
  | _=>false
def root.Sqrt.out:List Atom→DV
  | [.i a]=>.tup [.int .u64 (Hg a),.int .u8 (N8 a)]
  | _=>.undef
def root.Sqrt.spec:Entry:=entry [.i .u64] root.Sqrt.pre root.Sqrt.out
def Af.Sqrt.pre:List Atom→Bool
  | [.i a]=>Ai a
  | _=>false
def Af.Sqrt.out:List Atom→DV
  | [.i a]=>.int .u64 (Hg a)
  | _=>.undef
def Af.Sqrt.spec:Entry:=entry [.i .u64] Af.Sqrt.pre Af.Sqrt.out
def compare.Kd.pre:List Atom→Bool
  | [.i a]=>Ai a
  | _=>false
def compare.Kd.out:List Atom→DV
  | [.i a]=>.int .i64 (Bt a)
  | _=>.undef
def compare.Kd.spec:Entry:=entry [.i .u64] compare.Kd.pre compare.Kd.out
def Af.Norm.pre:List Atom→Bool
  | [.l x]=>Cw x&&Cr (List.length x≤64)
  | _=>false
def Af.Norm.out:List Atom→DV
  | [.l x]=>.tup [.int .u64 (Ek x),.int .i64 (0:Int)]
  | _=>.undef
def Af.Norm.spec:Entry:=entry [.s .u64] Af.Norm.pre Af.Norm.out
def Am.Cx.pre:List Atom→Bool
  | [.l x]=>Cw x
  | _=>false
def Am.Cx.out:List Atom→DV
  | [.l x]=>.bool (Jp x)
  | _=>.undef
def Am.Cx.spec:Entry:=entry [.s .u64] Am.Cx.pre Am.Cx.out
def Am.lead.pre:List Atom→Bool
  | [.l x]=>Cw x
  | _=>false
def Am.lead.out:List Atom→DV
  | [.l x]=>.int .u64 (P7 x)
  | _=>.undef
def Am.lead.spec:Entry:=entry [.s .u64] Am.lead.pre Am.lead.out
def Am.Cz.pre:List Atom→Bool
  | [.l x,.i k]=>Cw x&&Cr (List.length x≤1000∧-2300≤k∧k≤2300)
  | _=>false
def Am.Cz.out:List Atom→DV
  | [.l x,.i k]=>.ints .fresh .u64 (Bk x k)
  | _=>.undef
def Am.Cz.spec:Entry:=entry [.s .u64,.i .i64] Am.Cz.pre Am.Cz.out
def Am.E6.pre:List Atom→Bool
  | [.i _i]=>true
  | _=>false
def Am.E6.out:List Atom→DV
  | [.i _i]=>.int .u64 (0:Int)
  | _=>.undef
def Am.E6.spec:Entry:=entry [.i .i64] Am.E6.pre Am.E6.out
def Am.E5.pre:List Atom→Bool
  | [.i i,.l y,.i d]=>(Cr (0≤i∧i<List.length y)&&Ah y)&&Ai d
  | _=>false
def Am.E5.out:List Atom→DV
  | [.i i,.l y,.i d]=>.int .u64 (Eo (List.getD y (Int.toNat i) 0) d)
  | _=>.undef
def Am.E5.spec:Entry:=entry [.i .i64,.cp [.s .u64],.cp [.i .u64]] Am.E5.pre Am.E5.out
def Am.row.Zero.pre:List Atom→Bool
  | [.i n]=>Cr (1≤n∧n≤64)
  | _=>false
def Am.row.Zero.out:List Atom→DV
  | [.i n]=>.ints .fresh .u64 (I3 (Int.toNat n) (fun _=>0))
  | _=>.undef
def Am.row.Zero.spec:Entry:=entry [.i .i64,.fn 254 []] Am.row.Zero.pre Am.row.Zero.out
def Am.row.Div.pre:List Atom→Bool
  | [.i n,.l y,.i d]=>(Cr (1≤n∧n≤64∧n=List.length y)&&Ah y)&&Ai d
  | _=>false
def Am.row.Div.out:List Atom→DV
  | [.i n,.l y,.i d]=>.ints .fresh .u64 (I3 (Int.toNat n) (fun j=>Eo (List.getD y j 0) d))
  | _=>.undef
def Am.row.Div.spec:Entry:=entry [.i .i64,.fn 259 [.cp [.s .u64],.cp [.i .u64]]] Am.row.Div.pre Am.row.Div.out
def Am.Jg.pre:List Atom→Bool
  | [.l x]=>Cw x
  | _=>false
def Am.Jg.out:List Atom→DV
  | [.l x]=>.tup [.ints .fresh .u64 ((Cf x).1),.int .u64 ((Cf x).2.1),.int .u64 ((Cf x).2.2.1),.int .i64 ((Cf x).2.2.2)]
  | _=>.undef
def Am.Jg.spec:Entry:=entry [.s .u64] Am.Jg.pre Am.Jg.out
def Am.Apply.pre:List Atom→Bool
  | [.i r,.i c,.l l,.i i,.i k,.l v,.i t]=>((Bg r c l&&Md r c i k v)&&(Ah l&&Ah v))&&Ai t
  | _=>false
def Am.Apply.out:List Atom→DV
  | [.i r,.i c,.l l,.i i,.i k,.l v,.i t]=>.tup [.agg [.int .i64 r,.int .i64 c,.ints (.own 114002 37) .u64 (F4 (Int.toNat r) (Int.toNat c) l i k v t)],.int .i64 (0:Int)]
  | _=>.undef
def Am.Apply.spec:Entry:=entry [.st [.i .i64,.i .i64,.s .u64],.i .i64,.i .i64,.s .u64,.i .u64] Am.Apply.pre Am.Apply.out
def qr.down.pre:List Atom→Bool
  | [.i r,.i c,.l l]=>(Bg r c l&&Dw l)&&Ah l
  | _=>false
def qr.down.out:List Atom→DV
  | [.i r,.i c,.l l]=>.tup [.agg [.int .i64 ((Fb r c l).1),.int .i64 ((Fb r c l).2.1),.ints .arg .u64 ((Fb r c l).2.2.1)],.recs .fresh 2 (Jb r c l),.int .i64 ((Fb r c l).2.2.2)]
  | _=>.undef
def qr.down.spec:Entry:=entry [.st [.i .i64,.i .i64,.s .u64]] qr.down.pre qr.down.out
def qr.Dc.pre:List Atom→Bool
  | [.i _r,.i _c,.l l]=>Ah l
  | _=>false
def qr.Dc.out:List Atom→DV
  | [.i r,.i c,.l l]=>.tup [.agg [.int .i64 ((qX r c l).1),.int .i64 ((qX r c l).2.1),.ints .arg .u64 ((qX r c l).2.2.1)],.agg [.int .i64 ((rX r c l).1),.int .i64 ((rX r c l).2.1),.ints .arg .u64 ((rX r c l).2.2.1)],.int .i64 (Gh r c l)]
  | _=>.undef
def qr.Dc.spec:Entry:=entry [.st [.i .i64,.i .i64,.s .u64]] qr.Dc.pre qr.Dc.out
def G4.Kd.pre:List Atom→Bool
  | [.i a]=>Ai a
  | _=>false
def G4.Kd.out:List Atom→DV
  | [.i a]=>.int .i64 (Bt a)
  | _=>.undef
def G4.Kd.spec:Entry:=entry [.i .u64] G4.Kd.pre G4.Kd.out
def law20.Gj.pre:List Atom→Bool
  | []=>true
  | _=>false
def rq.both.pre:List Atom→Bool
  | [.i _r,.i _c,.l _l,.i _p,.i _q,.l _m]=>true
  | _=>false
def rq.both.out:List Atom→DV
  | [.i r,.i c,.l l,.i p,.i q,.l m]=>.tup [.agg [.int .i64 ((Bc p q m).1),.int .i64 ((Bc p q m).2.1),.ints .fresh .u64 ((Bc p q m).2.2.1)],.agg [.int .i64 ((Bc r c l).1),.int .i64 ((Bc r c l).2.1),.ints .fresh .u64 ((Bc r c l).2.2.1)]]
  | _=>.undef
def rq.both.spec:Entry:=entry [.st [.i .i64,.i .i64,.s .u64],.st [.i .i64,.i .i64,.s .u64]] rq.both.pre rq.both.out
def rq.Lq.pre:List Atom→Bool
  | [.i _r,.i _c,.l l]=>Ah l
  | _=>false
def rq.Lq.out:List Atom→DV
  | [.i r,.i c,.l l]=>.tup [.agg [.int .i64 ((lqL r c l).1),.int .i64 ((lqL r c l).2.1),.ints .fresh .u64 ((lqL r c l).2.2.1)],.agg [.int .i64 ((lqQ r c l).1),.int .i64 ((lqQ r c l).2.1),.ints .fresh .u64 ((lqQ r c l).2.2.1)],.int .i64 (Tt r c l)]
  | _=>.undef
def rq.Lq.spec:Entry:=entry [.st [.i .i64,.i .i64,.s .u64]] rq.Lq.pre rq.Lq.out
def A6.Check.pre:List Atom→Bool
  | [.i _r,.i _c,.l l,.i _p,.i _q,.l m,.i _u,.i _v,.l h]=>Th l m h
  | _=>false
def A6.Check.out:List Atom→DV
  | [.i r,.i c,.l l,.i p,.i q,.l m,.i u,.i v,.l h]=>.int .i64 (Ig r c l p q m u v h)
  | _=>.undef
def A6.Check.spec:Entry:=entry [.st [.i .i64,.i .i64,.s .u64,.i .i64,.i .i64,.s .u64,.i .i64,.i .i64,.s .u64]] A6.Check.pre A6.Check.out
def A6.Ef.pre:List Atom→Bool
  | [.i _r,.i _c,.l _l,.i x,.i y]=>Cr (-100≤x∧x≤100∧-100≤y∧y≤100)
  | _=>false
def A6.Ef.out:List Atom→DV
  | [.i r,.i c,.l l,.i x,.i y]=>.agg [.int .i64 ((Dz r c l x 0 (y-x) c).1),.int .i64 ((Dz r c l x 0 (y-x) c).2.1),.ints .fresh .u64 ((Dz r c l x 0 (y-x) c).2.2.1)]
  | _=>.undef
def A6.Ef.spec:Entry:=entry [.st [.i .i64,.i .i64,.s .u64],.i .i64,.i .i64] A6.Ef.pre A6.Ef.out
def A6.apart.pre:List Atom→Bool
  | [.i r,.i c,.l l,.i p,.i q,.l m,.i u,.i v,.l h]=>Th l m h&&decide (Ig r c l p q m u v h=0)
  | _=>false
def A6.apart.out:List Atom→DV
  | [.i r,.i c,.l l,.i p,.i q,.l m,.i u,.i v,.l h]=>.tup [.agg [.int .i64 ((Na (gE r c l p q m u v h) (gT r c l)).1),.int .i64 ((Na (gE r c l p q m u v h) (gT r c l)).2.1),.ints .fresh .u64 ((Na (gE r c l p q m u v h) (gT r c l)).2.2.1),.int .i64 ((Na (gE r c l p q m u v h) (G1 c (gC r c l u v h))).1),.int .i64 ((Na (gE r c l p q m u v h) (G1 c (gC r c l u v h))).2.1),.ints .fresh .u64 ((Na (gE r c l p q m u v h) (G1 c (gC r c l u v h))).2.2.1),.int .i64 ((Na (gE r c l p q m u v h) (Ft r c (gC r c l u v h))).1),.int .i64 ((Na (gE r c l p q m u v h) (Ft r c (gC r c l u v h))).2.1),.ints .fresh .u64 ((Na (gE r c l p q m u v h) (Ft r c (gC r c l u v h))).2.2.1),.int .i64 ((Na (gE r c l p q m u v h) (G1 c (gC r c l p q m))).1),.int .i64 ((Na (gE r c l p q m u v h) (G1 c (gC r c l p q m))).2.1),.ints .fresh .u64 ((Na (gE r c l p q m u v h) (G1 c (gC r c l p q m))).2.2.1),.int .i64 ((Na (gE r c l p q m u v h) (Ft r c (gC r c l p q m))).1),.int .i64 ((Na (gE r c l p q m u v h) (Ft r c (gC r c l p q m))).2.1),.ints .fresh .u64 ((Na (gE r c l p q m u v h) (Ft r c (gC r c l p q m))).2.2.1)],.int .i64 (gE r c l p q m u v h)]
  | _=>.undef
def A6.apart.spec:Entry:=entry [.st [.i .i64,.i .i64,.s .u64,.i .i64,.i .i64,.s .u64,.i .i64,.i .i64,.s .u64]] A6.apart.pre A6.apart.out
def A6.errors.pre:List Atom→Bool
  | [.i _r,.i _c,.l l,.i _p,.i _q,.l m]=>Ah l&&Ah m
  | _=>false
def A6.errors.out:List Atom→DV
  | [.i r,.i c,.l l,.i p,.i q,.l m]=>.tup [.agg [.int .i64 ((erZ (r,c,l,0) (p,q,m,0)).1),.int .i64 ((erZ (r,c,l,0) (p,q,m,0)).2.1),.ints .fresh .u64 ((erZ (r,c,l,0) (p,q,m,0)).2.2.1)],.int .i64 ((erZ (r,c,l,0) (p,q,m,0)).2.2.2)]
  | _=>.undef
def A6.errors.spec:Entry:=entry [.st [.i .i64,.i .i64,.s .u64],.st [.i .i64,.i .i64,.s .u64]] A6.errors.pre A6.errors.out
def A6.Solve.pre:List Atom→Bool
  | [.i _r,.i _c,.l l,.i _p,.i _q,.l m,.i _u,.i _v,.l h]=>Th l m h
  | _=>false
def A6.Solve.out:List Atom→DV
  | [.i r,.i c,.l l,.i p,.i q,.l m,.i u,.i v,.l h]=>.tup [.agg [.int .i64 ((gX r c l p q m u v h).1),.int .i64 ((gX r c l p q m u v h).2.1),.ints .fresh .u64 ((gX r c l p q m u v h).2.2.1)],.agg [.int .i64 ((gY r c l p q m u v h).1),.int .i64 ((gY r c l p q m u v h).2.1),.ints .fresh .u64 ((gY r c l p q m u v h).2.2.1)],.int .i64 ((gX r c l p q m u v h).2.2.2)]
  | _=>.undef
def A6.Solve.spec:Entry:=entry [.st [.i .i64,.i .i64,.s .u64,.i .i64,.i .i64,.s .u64,.i .i64,.i .i64,.s .u64]] A6.Solve.pre A6.Solve.out
def Bm.Cl.pre:List Atom→Bool
  | [.l x]=>Cw x&&Cr (List.length x=1)
  | _=>false
def Bm.Cl.out:List Atom→DV
  | [.l x]=>.agg [.bool (Av (sqM (List.getD x 0 0))),.ints .arg .u32 (Ae (sqM (List.getD x 0 0))),.int .i64 (sqE (List.getD x 0 0))]
  | _=>.undef
def Bm.Cl.spec:Entry:=entry [.s .u64] Bm.Cl.pre Bm.Cl.out
def Ca.one.pre:List Atom→Bool
  | [.i _b]=>true
  | _=>false
def Ca.one.out:List Atom→DV
  | [.i b]=>.agg [.int .i64 (1:Int),.int .i64 (1:Int),.ints .fresh .u64 ([b])]
  | _=>.undef
def Ca.one.spec:Entry:=entry [.i .u64] Ca.one.pre Ca.one.out
def Ca.Gj.pre:List Atom→Bool
  | []=>true
  | _=>false
def Ca.Gj.out:List Atom→DV
  | []=>.bool true
  | _=>.undef
def Ca.Gj.spec:Entry:=entry [] Ca.Gj.pre Ca.Gj.out
def Bm.Hc.pre:List Atom→Bool
  | [.l x,.i k]=>Cw x&&Cr (0≤k∧k≤1000)
  | _=>false
def Bm.Hc.out:List Atom→DV
  | [.l x,.i k]=>.bool (U6 x k)
  | _=>.undef
def Bm.Hc.spec:Entry:=entry [.s .u64,.i .i64] Bm.Hc.pre Bm.Hc.out
def Ca.Cd.pre:List Atom→Bool
  | [.l d]=>Cw d
  | _=>false
def Ca.Cd.out:List Atom→DV
  | [.l _d]=>.bool true
  | _=>.undef
def Ca.Cd.spec:Entry:=entry [.s .u64] Ca.Cd.pre Ca.Cd.out
def Ch.Jx.pre:List Atom→Bool
  | [.i x]=>Ai x
  | _=>false
def Ch.Jx.out:List Atom→DV
  | [.i x]=>.int .i64 (Ec x)
  | _=>.undef
def Ch.Jx.spec:Entry:=entry [.i .u64] Ch.Jx.pre Ch.Jx.out
def Ac.plus.own.pre:List Atom→Bool
  | [.l a,.l b]=>Fh a&&Fh b
  | _=>false
def Ac.plus.own.out:List Atom→DV
  | [.l a,.l b]=>.ints (.own 100005 173) .u32 (He a b)
  | _=>.undef
def Ac.plus.own.spec:Entry:=entry [.s .u32,.s .u32] Ac.plus.own.pre Ac.plus.own.out
theorem tt0:∀ a b c:Bool,((a==a)&&(b&&(c&&true)))=(b&&c):=by decide
theorem tt1:∀ a b:Bool,(bif a then b else false)=(a&&b):=by decide
theorem Sj:∀ a:Bool,(((!a)||(a==true))&&true)=true:=by decide
theorem Ke:∀ a:Bool,((!(a==true))||((((!(a==true))||(a==true))&&true)&&true))=true:=by decide
theorem N2:∀ a:Bool,((!(a==true))||true)=true:=by decide
theorem tt5:∀ a b:Bool,(bif a then true else b)=(a||b):=by decide
theorem tt6:∀ a:Bool,((!(!a))||(a==false))=true:=by decide
theorem Tk:∀ a:Bool,((!(a==false))||((((!(a==false))||(a==false))&&true)&&true))=true:=by decide
theorem tt8:∀ a:Bool,((!(a==false))||((((!(a==false))||(a==false))&&(((!(a==false))||(a==false))&&true))&&true))=true:=by decide
theorem U4:∀ a:Bool,((!(a==false))||true)=true:=by decide
theorem C4:∀ a:Bool,(a&&true)=a:=by decide
theorem tt11:∀ a b c d e:Bool,(bif a then (bif b then true else (bif c then (bif d then true else e) else false)) else false)=(a&&(b||(c&&(d||e)))):=by decide
theorem Ato:∀ a b:Bool,((!(a==true))||(((!(a==true))||(a==true))&&((!(!b))||((a==true)&&(b==false)))))=true:=by decide
theorem tt13:∀ a b c:Bool,((!((a==true)&&(b==false)))||(((!((a==true)&&(b==false)))||((a==true)&&(b==false)))&&(((!c)||(((a==true)&&(b==false))&&(c==true)))&&true)))=true:=by decide
theorem tt14:∀ a b c d:Bool,((!(((a==true)&&(b==false))&&(c==true)))||(((!(((a==true)&&(b==false))&&(c==true)))||(((a==true)&&(b==false))&&(c==true)))&&((!(!d))||((((a==true)&&(b==false))&&(c==true))&&(d==false)))))=true:=by decide
theorem Atj:∀ a b c d:Bool,((!((((a==true)&&(b==false))&&(c==true))&&(d==false)))||((((!((((a==true)&&(b==false))&&(c==true))&&(d==false)))||((((a==true)&&(b==false))&&(c==true))&&(d==false)))&&true)&&true))=true:=by decide
theorem tt16:∀ a b c d:Bool,((!((((a==true)&&(b==false))&&(c==true))&&(d==false)))||true)=true:=by decide
theorem tt17:∀ a b c:Bool,((!(((a==true)&&(b==false))&&(c==true)))||((((!(((a==true)&&(b==false))&&(c==true)))||(((a==true)&&(b==false))&&(c==true)))&&true)&&true))=true:=by decide
theorem tt18:∀ a b c:Bool,((!(((a==true)&&(b==false))&&(c==true)))||true)=true:=by decide
theorem Ati:∀ a b:Bool,((!((a==true)&&(b==false)))||((((!((a==true)&&(b==false)))||((a==true)&&(b==false)))&&true)&&true))=true:=by decide
theorem Ath:∀ a b:Bool,((!((a==true)&&(b==false)))||((((!((a==true)&&(b==false)))||((a==true)&&(b==false)))&&(((!((a==true)&&(b==false)))||((a==true)&&(b==false)))&&true))&&true))=true:=by decide
theorem Aix:∀ a b:Bool,((!((a==true)&&(b==false)))||true)=true:=by decide
theorem Agd:∀ a:Bool,((!(a==true))||((((!(a==true))||(a==true))&&(((!(a==true))||(a==true))&&true))&&true))=true:=by decide
theorem Aqg:∀ a b:Bool,(bif (!a) then true else b)=((!a)||b):=by decide
theorem Adb:∀ a:Bool,((!(!(!a)))||((!a)==false))=true:=by decide
theorem T7:∀ a:Bool,((!((!a)==false))||((((!((!a)==false))||((!a)==false))&&true)&&true))=true:=by decide
theorem Ada:∀ a:Bool,((!((!a)==false))||true)=true:=by decide
theorem tt27:∀ a b:Bool,(bif a then (!b) else false)=(a&&(!b)):=by decide
theorem Aqf:∀ a b:Bool,(bif (!a) then true else (!b))=((!a)||(!b)):=by decide
theorem Am3:∀ a b:Bool,((!((!a)==false))||((((!((!a)==false))||((!a)==false))&&true)&&b))=((!a)||b):=by decide
theorem Atg:∀ a b c d:Bool,(bif (bif a then b else false) then true else (bif c then d else false))=((a&&b)||(c&&d)):=by decide
theorem Atf:∀ a b:Bool,((!(!(bif a then b else false)))||((bif a then b else false)==false))=true:=by decide
theorem Ate:∀ a b c:Bool,((!((bif a then b else false)==false))||(((!((bif a then b else false)==false))||((bif a then b else false)==false))&&(((!c)||(((bif a then b else false)==false)&&(c==true)))&&true)))=true:=by decide
theorem Atd:∀ a b c:Bool,((!(((bif a then b else false)==false)&&(c==true)))||((((!(((bif a then b else false)==false)&&(c==true)))||(((bif a then b else false)==false)&&(c==true)))&&true)&&true))=true:=by decide
theorem Atc:∀ a b c:Bool,((!(((bif a then b else false)==false)&&(c==true)))||true)=true:=by decide
theorem Am2:∀ a b:Bool,((!((bif a then b else false)==false))||((((!((bif a then b else false)==false))||((bif a then b else false)==false))&&true)&&true))=true:=by decide
theorem Atb:∀ a b:Bool,((!((bif a then b else false)==false))||true)=true:=by decide
theorem Li:∀ a b:Bool,((a&&b)&&true)=(a&&b):=by decide
theorem tt38:∀ a b c:Bool,(bif (bif (!a) then true else (!b)) then true else c)=(((!a)||(!b))||c):=by decide
theorem tt39:∀ a b:Bool,((!(!(bif (!a) then true else (!b))))||((bif (!a) then true else (!b))==false))=true:=by decide
theorem Ata:∀ a b:Bool,((!((bif (!a) then true else (!b))==false))||((((!((bif (!a) then true else (!b))==false))||((bif (!a) then true else (!b))==false))&&(((!((bif (!a) then true else (!b))==false))||((bif (!a) then true else (!b))==false))&&true))&&true))=true:=by decide
theorem Am1:∀ a b:Bool,((!((bif (!a) then true else (!b))==false))||((((!((bif (!a) then true else (!b))==false))||((bif (!a) then true else (!b))==false))&&true)&&true))=true:=by decide
theorem Aqe:∀ a b:Bool,((!((bif (!a) then true else (!b))==false))||true)=true:=by decide
theorem tt43:∀ a b c d:Bool,(((a&&b)&&(c&&d))&&true)=((a&&b)&&(c&&d)):=by decide
theorem tt44:∀ a b c d e f g h:Bool,(bif (bif (bif (bif (bif (bif (bif a then true else b) then true else c) then true else d) then true else e) then true else f) then true else g) then true else h)=(((((((a||b)||c)||d)||e)||f)||g)||h):=by decide
theorem tt45:∀ a b c d e f g:Bool,((!(!(bif (bif (bif (bif (bif (bif a then true else b) then true else c) then true else d) then true else e) then true else f) then true else g)))||((bif (bif (bif (bif (bif (bif a then true else b) then true else c) then true else d) then true else e) then true else f) then true else g)==false))=true:=by decide
theorem As9:∀ a b c d e f g:Bool,((!((bif (bif (bif (bif (bif (bif a then true else b) then true else c) then true else d) then true else e) then true else f) then true else g)==false))||((((!((bif (bif (bif (bif (bif (bif a then true else b) then true else c) then true else d) then true else e) then true else f) then true else g)==false))||((bif (bif (bif (bif (bif (bif a then true else b) then true else c) then true else d) then true else e) then true else f) then true else g)==false))&&(((!((bif (bif (bif (bif (bif (bif a then true else b) then true else c) then true else d) then true else e) then true else f) then true else g)==false))||((bif (bif (bif (bif (bif (bif a then true else b) then true else c) then true else d) then true else e) then true else f) then true else g)==false))&&true))&&true))=true:=by decide
theorem Aqd:∀ a b c d e f g:Bool,((!((bif (bif (bif (bif (bif (bif a then true else b) then true else c) then true else d) then true else e) then true else f) then true else g)==false))||true)=true:=by decide
theorem tt48:∀ a b c d e f g:Bool,((!((bif (bif (bif (bif (bif (bif a then true else b) then true else c) then true else d) then true else e) then true else f) then true else g)==false))||((((!((bif (bif (bif (bif (bif (bif a then true else b) then true else c) then true else d) then true else e) then true else f) then true else g)==false))||((bif (bif (bif (bif (bif (bif a then true else b) then true else c) then true else d) then true else e) then true else f) then true else g)==false))&&true)&&true))=true:=by decide
theorem tt49:∀ a b c d e f:Bool,((!(!(bif (bif (bif (bif (bif a then true else b) then true else c) then true else d) then true else e) then true else f)))||((bif (bif (bif (bif (bif a then true else b) then true else c) then true else d) then true else e) then true else f)==false))=true:=by decide
theorem As8:∀ a b c d e f:Bool,((!((bif (bif (bif (bif (bif a then true else b) then true else c) then true else d) then true else e) then true else f)==false))||((((!((bif (bif (bif (bif (bif a then true else b) then true else c) then true else d) then true else e) then true else f)==false))||((bif (bif (bif (bif (bif a then true else b) then true else c) then true else d) then true else e) then true else f)==false))&&(((!((bif (bif (bif (bif (bif a then true else b) then true else c) then true else d) then true else e) then true else f)==false))||((bif (bif (bif (bif (bif a then true else b) then true else c) then true else d) then true else e) then true else f)==false))&&true))&&true))=true:=by decide
theorem Aqc:∀ a b c d e f:Bool,((!((bif (bif (bif (bif (bif a then true else b) then true else c) then true else d) then true else e) then true else f)==false))||true)=true:=by decide
theorem tt52:∀ a b c d e f:Bool,((!((bif (bif (bif (bif (bif a then true else b) then true else c) then true else d) then true else e) then true else f)==false))||((((!((bif (bif (bif (bif (bif a then true else b) then true else c) then true else d) then true else e) then true else f)==false))||((bif (bif (bif (bif (bif a then true else b) then true else c) then true else d) then true else e) then true else f)==false))&&true)&&true))=true:=by decide
theorem tt53:∀ a b c d e:Bool,((!(!(bif (bif (bif (bif a then true else b) then true else c) then true else d) then true else e)))||((bif (bif (bif (bif a then true else b) then true else c) then true else d) then true else e)==false))=true:=by decide
theorem tt54:∀ a b c d e:Bool,((!((bif (bif (bif (bif a then true else b) then true else c) then true else d) then true else e)==false))||((((!((bif (bif (bif (bif a then true else b) then true else c) then true else d) then true else e)==false))||((bif (bif (bif (bif a then true else b) then true else c) then true else d) then true else e)==false))&&(((!((bif (bif (bif (bif a then true else b) then true else c) then true else d) then true else e)==false))||((bif (bif (bif (bif a then true else b) then true else c) then true else d) then true else e)==false))&&true))&&true))=true:=by decide
theorem tt55:∀ a b c d e:Bool,((!((bif (bif (bif (bif a then true else b) then true else c) then true else d) then true else e)==false))||((((!((bif (bif (bif (bif a then true else b) then true else c) then true else d) then true else e)==false))||((bif (bif (bif (bif a then true else b) then true else c) then true else d) then true else e)==false))&&true)&&true))=true:=by decide
theorem As7:∀ a b c d e:Bool,((!((bif (bif (bif (bif a then true else b) then true else c) then true else d) then true else e)==false))||true)=true:=by decide
theorem Aqb:∀ a b c d:Bool,((!(!(bif (bif (bif a then true else b) then true else c) then true else d)))||((bif (bif (bif a then true else b) then true else c) then true else d)==false))=true:=by decide
theorem Amz:∀ a b c d:Bool,((!((bif (bif (bif a then true else b) then true else c) then true else d)==false))||((((!((bif (bif (bif a then true else b) then true else c) then true else d)==false))||((bif (bif (bif a then true else b) then true else c) then true else d)==false))&&(((!((bif (bif (bif a then true else b) then true else c) then true else d)==false))||((bif (bif (bif a then true else b) then true else c) then true else d)==false))&&true))&&true))=true:=by decide
theorem Amy:∀ a b c d:Bool,((!((bif (bif (bif a then true else b) then true else c) then true else d)==false))||((((!((bif (bif (bif a then true else b) then true else c) then true else d)==false))||((bif (bif (bif a then true else b) then true else c) then true else d)==false))&&true)&&true))=true:=by decide
theorem Ac9:∀ a b c d:Bool,((!((bif (bif (bif a then true else b) then true else c) then true else d)==false))||true)=true:=by decide
theorem Amx:∀ a b c:Bool,((!(!(bif (bif a then true else b) then true else c)))||((bif (bif a then true else b) then true else c)==false))=true:=by decide
theorem Aqa:∀ a b c:Bool,((!((bif (bif a then true else b) then true else c)==false))||((((!((bif (bif a then true else b) then true else c)==false))||((bif (bif a then true else b) then true else c)==false))&&true)&&true))=true:=by decide
theorem Aiw:∀ a b c:Bool,((!((bif (bif a then true else b) then true else c)==false))||true)=true:=by decide
theorem Amw:∀ a b:Bool,((!(!(bif a then true else b)))||((bif a then true else b)==false))=true:=by decide
theorem Aau:∀ a b:Bool,((!((bif a then true else b)==false))||((((!((bif a then true else b)==false))||((bif a then true else b)==false))&&true)&&true))=true:=by decide
theorem Ac8:∀ a b:Bool,((!((bif a then true else b)==false))||true)=true:=by decide
theorem tt67:∀ a b:Bool,(!(a&&(b&&true)))=(!(a&&b)):=by decide
theorem tt68:∀ a b c d:Bool,(((!(bif (bif (bif a then b else false) then c else false) then d else false))||((bif (bif (bif a then b else false) then c else false) then d else false)==true))&&true)=true:=by decide
theorem As6:∀ a b c d:Bool,((!((bif (bif (bif a then b else false) then c else false) then d else false)==true))||((((!((bif (bif (bif a then b else false) then c else false) then d else false)==true))||((bif (bif (bif a then b else false) then c else false) then d else false)==true))&&(((!((bif (bif (bif a then b else false) then c else false) then d else false)==true))||((bif (bif (bif a then b else false) then c else false) then d else false)==true))&&true))&&true))=true:=by decide
theorem Amv:∀ a b c d:Bool,((!((bif (bif (bif a then b else false) then c else false) then d else false)==true))||((((!((bif (bif (bif a then b else false) then c else false) then d else false)==true))||((bif (bif (bif a then b else false) then c else false) then d else false)==true))&&true)&&true))=true:=by decide
theorem Ap9:∀ a b c d:Bool,((!((bif (bif (bif a then b else false) then c else false) then d else false)==true))||true)=true:=by decide
theorem tt72:∀ a b c:Bool,(((!(bif (bif a then b else false) then c else false))||((bif (bif a then b else false) then c else false)==true))&&true)=true:=by decide
theorem As5:∀ a b c:Bool,((!((bif (bif a then b else false) then c else false)==true))||((((!((bif (bif a then b else false) then c else false)==true))||((bif (bif a then b else false) then c else false)==true))&&true)&&true))=true:=by decide
theorem tt74:∀ a b c:Bool,((!((bif (bif a then b else false) then c else false)==true))||true)=true:=by decide
theorem As4:∀ a b:Bool,(((!(bif a then b else false))||((bif a then b else false)==true))&&true)=true:=by decide
theorem Ap8:∀ a b:Bool,((!((bif a then b else false)==true))||((((!((bif a then b else false)==true))||((bif a then b else false)==true))&&true)&&true))=true:=by decide
theorem As3:∀ a b:Bool,((!((bif a then b else false)==true))||true)=true:=by decide
theorem tt78:∀ a b c:Bool,((!((bif a then b else false)==true))||((((!((bif a then b else false)==true))||((bif a then b else false)==true))&&(((!((bif a then b else false)==true))||((bif a then b else false)==true))&&true))&&c))=((!(a&&b))||c):=by decide
theorem As2:∀ a b c:Bool,((!(a==true))||((((!(a==true))||(a==true))&&(((!(a==true))||(a==true))&&true))&&(b&&c)))=((!a)||(b&&c)):=by decide
theorem As0:∀ a:Bool,(((a&&true)&&true)&&true)=a:=by decide
theorem Ap7:∀ a b:Bool,((!(a==true))||((((!(a==true))||(a==true))&&true)&&b))=((!a)||b):=by decide
theorem tt82:∀ a b c:Bool,(bif (!(a==b)) then true else c)=((!(a==b))||c):=by decide
theorem tt83:∀ a b:Bool,((!(!(!(a==b))))||((!(a==b))==false))=true:=by decide
theorem tt84:∀ a b:Bool,((!((!(a==b))==false))||((((!((!(a==b))==false))||((!(a==b))==false))&&(((!((!(a==b))==false))||((!(a==b))==false))&&true))&&true))=true:=by decide
theorem Amu:∀ a b:Bool,((!((!(a==b))==false))||((((!((!(a==b))==false))||((!(a==b))==false))&&true)&&true))=true:=by decide
theorem Asz:∀ a b:Bool,((!((!(a==b))==false))||true)=true:=by decide
theorem tt87:∀ a b:Bool,((!(a==true))||((((!(a==true))||(a==true))&&(((!(a==true))||(a==true))&&true))&&b))=((!a)||b):=by decide
theorem Ap6:∀ a b:Bool,((!(a==false))||((((!(a==false))||(a==false))&&true)&&b))=(a||b):=by decide
theorem Asy:∀ a b:Bool,(bif a then true else (!b))=(a||(!b)):=by decide
theorem Ap5:∀ a b c:Bool,((a&&b)&&((a&&c)&&true))=((a&&b)&&(a&&c)):=by decide
theorem tt91:∀ a:Bool,((a&&true)&&true)=a:=by decide
theorem Asx:∀ a b c d e:Bool,(bif (bif (bif (bif a then true else b) then true else c) then true else d) then true else e)=((((a||b)||c)||d)||e):=by decide
theorem Ap4:∀ a b:Bool,((!((bif a then true else b)==false))||((((!((bif a then true else b)==false))||((bif a then true else b)==false))&&(((!((bif a then true else b)==false))||((bif a then true else b)==false))&&true))&&true))=true:=by decide
theorem tt95:∀ a b c:Bool,((!((bif a then b else false)==true))||((((!((bif a then b else false)==true))||((bif a then b else false)==true))&&true)&&c))=((!(a&&b))||c):=by decide
theorem Ats:∀ a b c:Bool,((!((bif (bif a then true else b) then true else c)==false))||((((!((bif (bif a then true else b) then true else c)==false))||((bif (bif a then true else b) then true else c)==false))&&(((!((bif (bif a then true else b) then true else c)==false))||((bif (bif a then true else b) then true else c)==false))&&true))&&true))=true:=by decide
theorem Atr:∀ a b c:Bool,(((bif a then b else false)==true)&&((((!((bif a then b else false)==true))||((bif a then b else false)==true))&&true)&&c))=((a&&b)&&c):=by decide
theorem Atq:∀ a b:Bool,(((bif a then b else false)==true)&&true)=(a&&b):=by decide
theorem Atp:∀ a b c d:Bool,(bif (bif (bif a then true else b) then true else c) then true else d)=(((a||b)||c)||d):=by decide
theorem Atn:∀ a b c:Bool,(bif a then (bif b then true else c) else false)=(a&&(b||c)):=by decide
theorem Atm:∀ a b c:Bool,((!((a==true)&&(b==false)))||((((!((a==true)&&(b==false)))||((a==true)&&(b==false)))&&true)&&c))=((!(a&&(!b)))||c):=by decide
theorem Atl:∀ a b c d:Bool,((!((a==true)&&(b==false)))||((((!((a==true)&&(b==false)))||((a==true)&&(b==false)))&&(((!((a==true)&&(b==false)))||((a==true)&&(b==false)))&&true))&&(c&&d)))=((!(a&&(!b)))||(c&&d)):=by decide
theorem Atk:∀ a b c d:Bool,((!((bif (bif a then true else b) then true else c)==false))||((((!((bif (bif a then true else b) then true else c)==false))||((bif (bif a then true else b) then true else c)==false))&&true)&&d))=(((a||b)||c)||d):=by decide
open Go Go.Den Go.Rnd Go.Proofs
set_option maxRecDepth 100000
namespace EqSoft
def soft.Split.Bb:List (Nat × Entry):=[]
def soft.Split.E:Env:=Be (Ba soft.Split.Bb) (fun _=>false) (fun _=>none) (fun _=>none)
theorem soft.Split.ev (N:Nat) (x:Int):B0 soft.Split.E N Tryz.f206 (Al Tryz.f206) [.int .u64 x]=some (.agg [.bool ((Da .u64 x 63)==(1:Int)),.int .i64 (Ab (Fj .u64 (Da .u64 x 52) 2047)),.int .u64 (Fj .u64 x 4503599627370495)]):=by kernel_rfl
abbrev _root_.Go.Proofs.S1.soft.Split.Kn:=A8 Tryz.prog 206 soft.Split.spec
theorem soft.Split.Ad (hk:Az Tryz.prog soft.Split.Bb) (h:∀ (x:Int),soft.Split.pre [.i x]=true→Bf soft.Split.E Tryz.f206 [.int .u64 x] (soft.Split.out [.i x])):soft.Split.Kn :=
  Ak (A0 hk _ _ _) Tryz.func206 (by kernel_rfl) (by kernel_rfl) h
def soft.Kind.Bb:List (Nat × Entry):=[(206,soft.Split.spec)]
def soft.Kind.E:Env:=Be (Ba soft.Kind.Bb) (fun _=>false) (fun _=>none) (fun _=>none)
theorem soft.Kind.ev (N:Nat) (x:Int):B0 soft.Kind.E N Tryz.f155 (Al Tryz.f155) [.int .u64 x]=bif (Ai x) then bif (((J2 x)==(2047:Int))&&((Ci x)==(0:Int))) then some (.int .i64 3) else bif ((J2 x)==(2047:Int)) then some (.int .i64 4) else bif (A4 0 (J2 x)) then some (.int .i64 2) else bif (A4 0 (Ci x)) then some (.int .i64 1) else some (.int .i64 0) else none :=
  Eq.trans (by kernel_rfl)
  (Ev (C3 (tt0 (Dp x) ((J2 x)==(2047:Int)) ((Ci x)==(0:Int))) rfl rfl) rfl)
abbrev _root_.Go.Proofs.S1.soft.Kind.Kn:=A8 Tryz.prog 155 soft.Kind.spec
theorem soft.Kind.Ad (hk:Az Tryz.prog soft.Kind.Bb) (h:∀ (x:Int),soft.Kind.pre [.i x]=true→Bf soft.Kind.E Tryz.f155 [.int .u64 x] (soft.Kind.out [.i x])):soft.Kind.Kn :=
  Ak (A0 hk _ _ _) Tryz.func155 (by kernel_rfl) (by kernel_rfl) h
def soft.Sign.Bb:List (Nat × Entry):=[]
def soft.Sign.E:Env:=Be (Ba soft.Sign.Bb) (fun _=>false) (fun _=>none) (fun _=>none)
theorem soft.Sign.ev (N:Nat) (x:Int):B0 soft.Sign.E N Tryz.f213 (Al Tryz.f213) [.int .u64 x]=some (.bool ((Da .u64 x 63)==(1:Int))):=by kernel_rfl
abbrev _root_.Go.Proofs.S1.soft.Sign.Kn:=A8 Tryz.prog 213 soft.Sign.spec
theorem soft.Sign.Ad (hk:Az Tryz.prog soft.Sign.Bb) (h:∀ (x:Int),soft.Sign.pre [.i x]=true→Bf soft.Sign.E Tryz.f213 [.int .u64 x] (soft.Sign.out [.i x])):soft.Sign.Kn :=
  Ak (A0 hk _ _ _) Tryz.func213 (by kernel_rfl) (by kernel_rfl) h
def soft.Finite.Bb:List (Nat × Entry):=[(155,soft.Kind.spec)]
def soft.Finite.E:Env:=Be (Ba soft.Finite.Bb) (fun _=>false) (fun _=>none) (fun _=>none)
theorem soft.Finite.ev (N:Nat) (x:Int):B0 soft.Finite.E N Tryz.f148 (Al Tryz.f148) [.int .u64 x]=bif (Ai x) then bif ((A1 x)==(3:Int)) then some (.bool false) else bif ((A1 x)==(4:Int)) then some (.bool false) else some (.bool true) else none:=by kernel_rfl
abbrev _root_.Go.Proofs.S1.soft.Finite.Kn:=A8 Tryz.prog 148 soft.Finite.spec
theorem soft.Finite.Ad (hk:Az Tryz.prog soft.Finite.Bb) (h:∀ (x:Int),soft.Finite.pre [.i x]=true→Bf soft.Finite.E Tryz.f148 [.int .u64 x] (soft.Finite.out [.i x])):soft.Finite.Kn :=
  Ak (A0 hk _ _ _) Tryz.func148 (by kernel_rfl) (by kernel_rfl) h
def soft.Fs.Bb:List (Nat × Entry):=[]
def soft.Fs.E:Env:=Be (Ba soft.Fs.Bb) (fun _=>false) (fun _=>none) (fun _=>none)
theorem soft.Fs.ev (N:Nat) (x:Int):B0 soft.Fs.E N Tryz.f233 (Al Tryz.f233) [.int .u64 x]=some (.int .u64 (Ao4 .u64 x 9223372036854775808)):=by kernel_rfl
abbrev _root_.Go.Proofs.S1.soft.Fs.Kn:=A8 Tryz.prog 233 soft.Fs.spec
theorem soft.Fs.Ad (hk:Az Tryz.prog soft.Fs.Bb) (h:∀ (x:Int),soft.Fs.pre [.i x]=true→Bf soft.Fs.E Tryz.f233 [.int .u64 x] (soft.Fs.out [.i x])):soft.Fs.Kn :=
  Ak (A0 hk _ _ _) Tryz.func233 (by kernel_rfl) (by kernel_rfl) h
def soft.Fc.Bb:List (Nat × Entry):=[(206,soft.Split.spec)]
def soft.Fc.E:Env:=Be (Ba soft.Fc.Bb) (fun _=>false) (fun _=>none) (fun _=>none)
theorem soft.Fc.ev (N:Nat) (x:Int):B0 soft.Fc.E N Tryz.f211 (Al Tryz.f211) [.int .u64 x]=bif (Ai x) then bif ((J2 x)==(0:Int)) then some (.tup [.int .u64 (Ci x),.int .i64 (-1074:Int)]) else some (.tup [.int .u64 (Hh .u64 (Ci x) 4503599627370496),.int .i64 (Ab ((J2 x)-1075))]) else none:=by kernel_rfl
abbrev _root_.Go.Proofs.S1.soft.Fc.Kn:=A8 Tryz.prog 211 soft.Fc.spec
theorem soft.Fc.Ad (hk:Az Tryz.prog soft.Fc.Bb) (h:∀ (x:Int),soft.Fc.pre [.i x]=true→Bf soft.Fc.E Tryz.f211 [.int .u64 x] (soft.Fc.out [.i x])):soft.Fc.Kn :=
  Ak (A0 hk _ _ _) Tryz.func211 (by kernel_rfl) (by kernel_rfl) h
def soft.Pack.Bb:List (Nat × Entry):=[(233,soft.Fs.spec)]
def soft.Pack.E (rk:Nat):Env:=Be (Ba ((239,Agw [.b,.i .u64,.i .i64] soft.Pack.pre soft.Pack.out soft.Pack.mu rk)::soft.Pack.Bb)) (fun _=>false) (fun _=>none) (fun _=>none)
theorem soft.Pack.ev (N rk:Nat) (n:Bool) (m e:Int):B0 (soft.Pack.E rk) N Tryz.f239 (Al Tryz.f239) [.bool n,.int .u64 m,.int .i64 e]=bif (m==(0:Int)) then bif n then bif (Ai 0) then some (.int .u64 (Dm 0)) else none else some (.int .u64 0) else bif (Dv 9007199254740992 m) then bif ((Jj (Da .u64 m 1) (Ab (e+1)))&&(Cr ((M4 (Da .u64 m 1) (Ab (e+1)))<rk))) then some (.int .u64 (Rn n (Da .u64 m 1) (Ab (e+1)))) else none else bif ((A4 m 4503599627370496)&&(A4 (-1074:Int) e)) then bif ((Jj (Bs .u64 m 1) (Ab (e-1)))&&(Cr ((M4 (Bs .u64 m 1) (Ab (e-1)))<rk))) then some (.int .u64 (Rn n (Bs .u64 m 1) (Ab (e-1)))) else none else bif (A4 m 4503599627370496) then bif n then bif (Ai m) then some (.int .u64 (Dm m)) else none else some (.int .u64 m) else bif (Dv 2047 (Ab (e+1075))) then bif n then bif (Ai 9218868437227405312) then some (.int .u64 (Dm 9218868437227405312)) else none else some (.int .u64 9218868437227405312) else bif n then bif (Ai (Hh .u64 (Bs .u64 (A7 (Ab (e+1075))) 52) (Fj .u64 m 4503599627370495))) then some (.int .u64 (Dm (Hh .u64 (Bs .u64 (A7 (Ab (e+1075))) 52) (Fj .u64 m 4503599627370495)))) else none else some (.int .u64 (Hh .u64 (Bs .u64 (A7 (Ab (e+1075))) 52) (Fj .u64 m 4503599627370495))) :=
  Eq.trans (by kernel_rfl)
  (Ev rfl (Ev rfl (Ar (N2 (A4 m 4503599627370496)) (Ar (Ke (A4 m 4503599627370496)) (Ar (Sj (A4 m 4503599627370496)) (C3 (tt1 (A4 m 4503599627370496) (A4 (-1074:Int) e)) rfl rfl))))))
theorem soft.Pack.Ad (hk:Az Tryz.prog soft.Pack.Bb) (h:∀ (rk:Nat) (n:Bool) (m e:Int),soft.Pack.pre [.b n,.i m,.i e]=true→soft.Pack.mu [.b n,.i m,.i e]<rk+1→∃ N dv drops,B0 (soft.Pack.E rk) N Tryz.f239 (Al Tryz.f239) [.bool n,.int .u64 m,.int .i64 e]=some dv∧Wk drops dv (soft.Pack.out [.b n,.i m,.i e])):A8 Tryz.prog 239 soft.Pack.spec:=by
  have call:=Ni (f:=239) Tryz.func239 (by kernel_rfl) (show Tryz.f239.body=some (Al Tryz.f239) by kernel_rfl)
  refine ⟨Ad8 (E:=soft.Pack.E) Tryz.func239 (show Tryz.f239.body=some (Al Tryz.f239) by kernel_rfl) soft.Pack.mu (fun rk hm=>A0 (.cons ⟨hm,call⟩ hk) _ _ _) fun rk ats dvs he hp hr=>?_,call⟩
  obtain ⟨n,_,_,rfl,rfl,he0⟩:=he.Aue
  obtain ⟨m,_,_,rfl,rfl,he1⟩:=he0.Aky
  obtain ⟨e,_,_,rfl,rfl,he2⟩:=he1.Aky
  obtain ⟨rfl,rfl⟩:=he2.Zi
  exact h rk n m e hp hr
abbrev _root_.Go.Proofs.S1.soft.Pack.Kn:Prop:=A8 Tryz.prog 239 soft.Pack.spec
def soft.Cy.hint:Nat→Option A9
  | 0=>some { keep:=[0,1,2,3,10],objs:=[],boxes:=[] }
  | _=>none
def soft.Cy.Bb:List (Nat × Entry):=[(155,soft.Kind.spec),(239,soft.Pack.spec)]
def soft.Cy.live:Nat→Option (List Nat)
  | 7=>some [0,1,2,3,10]
  | 12=>some [0,2,3,10,11,12,13,14]
  | 14=>some [0,2,10,11,14]
  | 16=>some [0,2,10,11,14]
  | 18=>some [14,15,16]
  | _=>none
def soft.Cy.E:Env:=Be (Ba soft.Cy.Bb) (fun _=>false) soft.Cy.hint soft.Cy.live
def soft.Cy.L0 (N M:Nat) (n:Bool) (m e:Int) (r:Bool) (p10:Int):Option DV:=B7 soft.Cy.E N Tryz.f212 (Al Tryz.f212) [1,1,1,0,0] [] M ⟨Fy 111 [(0,.bool n),(1,.int .u64 m),(2,.int .i64 e),(3,.bool r),(10,.int .i64 p10)],[]⟩
def soft.Cy.C7 (N:Nat) (n:Bool) (m e:Int) (r:Bool) (p10_1:Int):Option DV:=cutAt soft.Cy.E N Tryz.f212 (Al Tryz.f212) [1,1,1,1] [] ⟨Fy 111 [(0,.bool n),(1,.int .u64 m),(2,.int .i64 e),(3,.bool r),(10,.int .i64 p10_1)],[]⟩
def soft.Cy.C12 (N:Nat) (n:Bool) (e:Int) (r:Bool) (p10_2 p11_1:Int) (p12 p13:Int) (p14:Bool):Option DV:=cutAt soft.Cy.E N Tryz.f212 (Al Tryz.f212) [1,1,1,1,1,1,1,1,0] [] ⟨Fy 111 [(0,.bool n),(2,.int .i64 e),(3,.bool r),(10,.int .i64 p10_2),(11,.int .u64 p11_1),(12,.int .u64 p12),(13,.int .u64 p13),(14,.bool p14)],[]⟩
def soft.Cy.C14 (N:Nat) (n:Bool) (e p10_3 p11_2:Int) (p14_1:Bool):Option DV:=cutAt soft.Cy.E N Tryz.f212 (Al Tryz.f212) [1,1,1,1,1,1,1,1,1,0] [] ⟨Fy 111 [(0,.bool n),(2,.int .i64 e),(10,.int .i64 p10_3),(11,.int .u64 p11_2),(14,.bool p14_1)],[]⟩
def soft.Cy.C16 (N:Nat) (n:Bool) (e p11 p10_4:Int) (p14_2:Bool):Option DV:=cutAt soft.Cy.E N Tryz.f212 (Al Tryz.f212) [1,1,1,1,1,1,1,1,1,1] [] ⟨Fy 111 [(0,.bool n),(2,.int .i64 e),(10,.int .i64 p10_4),(11,.int .u64 p11),(14,.bool p14_2)],[]⟩
def soft.Cy.C18 (N:Nat) (p14_3:Bool) (p15:Int):Option DV:=cutAt soft.Cy.E N Tryz.f212 (Al Tryz.f212) [1,1,1,1,1,1,1,1,1,1,1,1,0] [] ⟨Fy 111 [(14,.bool p14_3),(15,.int .u64 p15),(16,.int .u8 0)],[]⟩
theorem soft.Cy.At (N M:Nat) (n:Bool) (m e:Int) (r:Bool) (p10:Int):soft.Cy.L0 N (M+1) n m e r p10=bif (decide (0≤p10)) then bif ((Dv 9007199254740992 (Da .u64 m p10))||(A4 (Ab (e+p10)) (-1074:Int))) then bif ((Ab (p10+1))==(63:Int)) then soft.Cy.C7 N n m e r (Ab (p10+1)) else soft.Cy.L0 N M n m e r (Ab (p10+1)) else soft.Cy.C7 N n m e r p10 else none :=
  Eq.trans (by kernel_rfl)
  (Ev (Ar (U4 (Dv 9007199254740992 (Da .u64 m p10))) (Ar (U4 (Dv 9007199254740992 (Da .u64 m p10))) (Ar (tt8 (Dv 9007199254740992 (Da .u64 m p10))) (Ar (Tk (Dv 9007199254740992 (Da .u64 m p10))) (Ar (tt6 (Dv 9007199254740992 (Da .u64 m p10))) (C3 (tt5 (Dv 9007199254740992 (Da .u64 m p10)) (A4 (Ab (e+p10)) (-1074:Int))) rfl rfl)))))) rfl)
theorem soft.Cy.Amh (N:Nat) (n:Bool) (m e:Int) (r:Bool) (p10_1:Int):soft.Cy.C7 N n m e r p10_1=bif (decide (0≤p10_1)) then bif (decide (0≤p10_1)) then bif (A4 0 p10_1) then bif (decide (0≤(Ab (p10_1-1)))) then soft.Cy.C12 N n e r p10_1 (Da .u64 m p10_1) (Fj .u64 m (A7 ((Bs .u64 1 p10_1)-1))) (Bs .u64 1 (Ab (p10_1-1))) (bif ((Fj .u64 m (A7 ((Bs .u64 1 p10_1)-1)))==(0:Int)) then (!r) else false) else none else soft.Cy.C12 N n e r p10_1 (Da .u64 m p10_1) (Fj .u64 m (A7 ((Bs .u64 1 p10_1)-1))) 0 (bif ((Fj .u64 m (A7 ((Bs .u64 1 p10_1)-1)))==(0:Int)) then (!r) else false) else none else none :=
  Eq.trans ((D1 _ _ _ _ _ _ _).trans (by kernel_rfl))
  (C3 (C4 (decide (0≤p10_1))) (C3 (C4 (decide (0≤p10_1))) (Ev (Ev (Ar (N2 ((Fj .u64 m (A7 ((Bs .u64 1 p10_1)-1)))==(0:Int))) (Ar (Ke ((Fj .u64 m (A7 ((Bs .u64 1 p10_1)-1)))==(0:Int))) (Ar (Sj ((Fj .u64 m (A7 ((Bs .u64 1 p10_1)-1)))==(0:Int))) rfl))) rfl) (Ar (N2 ((Fj .u64 m (A7 ((Bs .u64 1 p10_1)-1)))==(0:Int))) (Ar (Ke ((Fj .u64 m (A7 ((Bs .u64 1 p10_1)-1)))==(0:Int))) (Ar (Sj ((Fj .u64 m (A7 ((Bs .u64 1 p10_1)-1)))==(0:Int))) rfl)))) rfl) rfl)
theorem soft.Cy.Wx (N:Nat) (n:Bool) (e:Int) (r:Bool) (p10_2 p11_1:Int) (p12 p13:Int) (p14:Bool):soft.Cy.C12 N n e r p10_2 p11_1 p12 p13 p14=bif ((A4 0 p10_2)&&((A4 p13 p12)||((p12==p13)&&(r||((Fj .u64 p11_1 1)==(1:Int)))))) then soft.Cy.C14 N n e p10_2 (A7 (p11_1+1)) p14 else soft.Cy.C14 N n e p10_2 p11_1 p14 :=
  Eq.trans ((D1 _ _ _ _ _ _ _).trans (by kernel_rfl))
  (Ar (N2 (A4 0 p10_2)) (Ar (N2 (A4 0 p10_2)) (Ar (Agd (A4 0 p10_2)) (Ar (Ke (A4 0 p10_2)) (Ar (Aix (A4 0 p10_2) (A4 p13 p12)) (Ar (Aix (A4 0 p10_2) (A4 p13 p12)) (Ar (Ath (A4 0 p10_2) (A4 p13 p12)) (Ar (Ati (A4 0 p10_2) (A4 p13 p12)) (Ar (tt18 (A4 0 p10_2) (A4 p13 p12) (p12==p13)) (Ar (tt17 (A4 0 p10_2) (A4 p13 p12) (p12==p13)) (Ar (tt16 (A4 0 p10_2) (A4 p13 p12) (p12==p13) r) (Ar (Atj (A4 0 p10_2) (A4 p13 p12) (p12==p13) r) (Ar (Atj (A4 0 p10_2) (A4 p13 p12) (p12==p13) r) (Ar (tt14 (A4 0 p10_2) (A4 p13 p12) (p12==p13) r) (Ar (tt13 (A4 0 p10_2) (A4 p13 p12) (p12==p13)) (Ar (Ato (A4 0 p10_2) (A4 p13 p12)) (Ar (Sj (A4 0 p10_2)) (C3 (tt11 (A4 0 p10_2) (A4 p13 p12) (p12==p13) r ((Fj .u64 p11_1 1)==(1:Int))) rfl rfl))))))))))))))))))
theorem soft.Cy.Ww (N:Nat) (n:Bool) (e p10_3 p11_2:Int) (p14_1:Bool):soft.Cy.C14 N n e p10_3 p11_2 p14_1=bif (A4 (Ab (e+p10_3)) (-1074:Int)) then soft.Cy.C16 N n e 0 p10_3 p14_1 else soft.Cy.C16 N n e p11_2 p10_3 p14_1:=(D1 _ _ _ _ _ _ _).trans (by kernel_rfl)
theorem soft.Cy.Arz (N:Nat) (n:Bool) (e p11 p10_4:Int) (p14_2:Bool):soft.Cy.C16 N n e p11 p10_4 p14_2=bif (Jj p11 (max (Ab (e+p10_4)) (-1074:Int))) then soft.Cy.C18 N p14_2 (Rn n p11 (max (Ab (e+p10_4)) (-1074:Int))) else none:=(D1 _ _ _ _ _ _ _).trans (by kernel_rfl)
theorem soft.Cy.Arx (N:Nat) (p14_3:Bool) (p15:Int):soft.Cy.C18 N p14_3 p15=bif ((!p14_3)||((Nk .u64 p15 9223372036854775808)==(9218868437227405312:Int))) then bif (Ai p15) then bif ((A1 p15)==(3:Int)) then some (.tup [.int .u64 p15,.int .u8 5]) else bif ((A1 p15)==(0:Int)) then bif ((A1 p15)==(0:Int)) then some (.tup [.int .u64 p15,.int .u8 3]) else some (.tup [.int .u64 p15,.int .u8 1]) else bif ((A1 p15)==(1:Int)) then some (.tup [.int .u64 p15,.int .u8 3]) else some (.tup [.int .u64 p15,.int .u8 1]) else none else some (.tup [.int .u64 p15,.int .u8 0]) :=
  Eq.trans ((D1 _ _ _ _ _ _ _).trans (by kernel_rfl))
  (Ar (Ada p14_3) (Ar (T7 p14_3) (Ar (T7 p14_3) (Ar (Adb p14_3) (C3 (Aqg p14_3 ((Nk .u64 p15 9223372036854775808)==(9218868437227405312:Int))) rfl rfl)))))
theorem soft.Cy.ev (N:Nat) (n:Bool) (m e:Int) (r:Bool):B0 soft.Cy.E N Tryz.f212 (Al Tryz.f212) [.bool n,.int .u64 m,.int .i64 e,.bool r]=bif ((m==(0:Int))&&(!r)) then bif (Jj 0 (-1074:Int)) then some (.tup [.int .u64 (Rn n 0 (-1074:Int)),.int .u8 0]) else none else soft.Cy.L0 N N n m e r 0 :=
  Eq.trans (by kernel_rfl)
  (Ar (N2 (m==(0:Int))) (Ar (Ke (m==(0:Int))) (Ar (Sj (m==(0:Int))) (C3 (tt27 (m==(0:Int)) r) rfl rfl))))
abbrev _root_.Go.Proofs.S1.soft.Cy.Kn:=A8 Tryz.prog 212 soft.Cy.spec
theorem soft.Cy.Ad (hk:Az Tryz.prog soft.Cy.Bb) (h:∀ (n:Bool) (m e:Int) (r:Bool),soft.Cy.pre [.b n,.i m,.i e,.b r]=true→Bf soft.Cy.E Tryz.f212 [.bool n,.int .u64 m,.int .i64 e,.bool r] (soft.Cy.out [.b n,.i m,.i e,.b r])):soft.Cy.Kn :=
  Ak (A0 hk _ _ _) Tryz.func212 (by kernel_rfl) (by kernel_rfl) h
end EqSoft
theorem Ag {a b:Bool}:(a&&b)=true↔a=true∧b=true:=by simp
theorem Afq {n:Nat} (hn:n<2^64):((Da .u64 (n:Int) (63:Int))==(1:Int))=Dp n:=by
  rw [show (63:Int)=((63:Nat):Int) from rfl,Gi .u64 n 63 (by decide)]
  unfold Dp Cs
  rw [Aum,Au0]
  simp only [beq_iff_eq,Aur]
  omega
theorem Anh {n:Nat} (hn:n<2^64):Ab (Fj .u64 (Da .u64 (n:Int) (52:Int)) (2047:Int))=J2 n:=by
  rw [show (52:Int)=((52:Nat):Int) from rfl,Gi .u64 n 52 (by decide),show (2047:Int)=((2^11-1:Nat):Int) from rfl,Hb 11 (by omega) (by decide)]
  unfold J2 Em
  rw [Aum,An (by omega) (by omega)]
theorem Ak4 {n:Nat} (hn:n<2^64):Fj .u64 (n:Int) (4503599627370495:Int)=Ci n:=by
  rw [show (4503599627370495:Int)=((2^52-1:Nat):Int) from rfl,Hb 52 hn (by decide)]
  unfold Ci Dt
  rw [Aum]
theorem soft.Split.known:soft.Split.Kn:=EqSoft.soft.Split.Ad .nil fun x hp=>by
  obtain ⟨n,rfl,hn⟩:=Bv (x:=x) hp
  refine ⟨0,soft.Split.out [.i n],[],?_,Wk.Ix (.cons .bool (.cons .int (.cons .int .nil)))⟩
  rw [EqSoft.soft.Split.ev,Afq hn,Anh hn,Ak4 hn]
  rfl
theorem soft.Kind.known:soft.Kind.Kn:=EqSoft.soft.Kind.Ad (.cons soft.Split.known .nil) fun x hp=>by
  obtain ⟨n,rfl,hn⟩:=Bv (x:=x) hp
  refine ⟨0,soft.Kind.out [.i n],[],?_,.int⟩
  rw [EqSoft.soft.Kind.ev,B5 hn]
  show _=some (DV.int .i64 (A1 n))
  unfold A1 Ao J2 Ci
  simp only [Aum,Auk,Au]
  have:=Ij n
  by_cases h1:Em n=2047
  · by_cases h2:Dt n=0
    · simp [h1,h2]
    · have:((Dt n:Int)==0)=false:=by simp; exact h2
      simp [h1,this,h2]
  · have h1':((Em n:Int)==2047)=false:=by simp; omega
    rw [h1']
    by_cases h3:0<Em n
    · simp [h1,h3]
    · by_cases h4:0<Dt n
      · simp [h1,h3,h4]
      · simp [h1,h3,h4]
theorem soft.Sign.known:soft.Sign.Kn:=EqSoft.soft.Sign.Ad .nil fun x hp=>by
  obtain ⟨n,rfl,hn⟩:=Bv (x:=x) hp
  refine ⟨0,soft.Sign.out [.i n],[],?_,.bool⟩
  rw [EqSoft.soft.Sign.ev,Afq hn]
  rfl
theorem V6 (n:Nat):Ir n=!(decide (Ao n=3)||decide (Ao n=4)):=by
  have:=Ij n
  unfold Ir Ao
  by_cases h1:Em n=2047
  · by_cases h2:Dt n=0<;>simp [h1,h2]
  · have:Em n<2047:=by omega
    by_cases h3:0<Em n
    · simp [h1,h3,this]
    · by_cases h4:0<Dt n<;>simp [h1,h3,h4,this]
theorem soft.Finite.known:soft.Finite.Kn:=EqSoft.soft.Finite.Ad (.cons soft.Kind.known .nil) fun x hp=>by
  obtain ⟨n,rfl,hn⟩:=Bv (x:=x) hp
  refine ⟨0,soft.Finite.out [.i n],[],?_,.bool⟩
  rw [EqSoft.soft.Finite.ev,B5 hn]
  show _=some (DV.bool (Cv n))
  unfold Cv A1
  rw [Aum,V6]
  by_cases h3:Ao n=3
  · simp [h3]
  · by_cases h4:Ao n=4
    · simp [h4]
    · have e3:((Ao n:Int)==3)=false:=by simp; omega
      have e4:((Ao n:Int)==4)=false:=by simp; omega
      simp [h3,h4,e3,e4]
theorem Ahe {n:Nat} (hn:n<2^64):Ao4 .u64 (n:Int) (9223372036854775808:Int)=Dm n:=by
  rw [show (9223372036854775808:Int)=((2^63:Nat):Int) from rfl,Al4 hn (by decide),Amk hn]
  unfold Dm Qn
  rw [Aum]
theorem soft.Fs.known:soft.Fs.Kn:=EqSoft.soft.Fs.Ad .nil fun x hp=>by
  obtain ⟨n,rfl,hn⟩:=Bv (x:=x) hp
  refine ⟨0,soft.Fs.out [.i n],[],?_,.int⟩
  rw [EqSoft.soft.Fs.ev,Ahe hn]
  rfl
theorem soft.Fc.known:soft.Fc.Kn:=EqSoft.soft.Fc.Ad (.cons soft.Split.known .nil) fun x hp=>by
  obtain ⟨n,rfl,hn⟩:=Bv (x:=x) hp
  refine ⟨0,soft.Fc.out [.i n],[],?_,Wk.Gm (.cons .int (.cons .int .nil))⟩
  rw [EqSoft.soft.Fc.ev,B5 hn]
  show _=some (DV.tup [.int .u64 (Bh n),.int .i64 (Aw n)])
  have hf:=Mp n
  have hp:=Ij n
  unfold Bh Aw J2 Ci Aq Ax
  rw [Aum]
  by_cases h:Em n=0
  · simp [h]
  · have e:((Em n:Int)==0)=false:=by simp; omega
    have e2:Hh .u64 ((Dt n:Nat):Int) (4503599627370496:Int)=((Dt n+2^52:Nat):Int):=by
      rw [show (4503599627370496:Int)=((1*2^52:Nat):Int) from rfl,Ah6 (by omega) (by omega)]
      congr 1; omega
    rw [e,e2,An (by omega) (by omega)]
    simp [h]
namespace EqRefD
def A5.Neg.Bb:List (Nat × Entry):=[]
def A5.Neg.E:Env:=Be (Ba A5.Neg.Bb) (fun _=>false) (fun _=>none) (fun _=>none)
theorem A5.Neg.ev (N:Nat) (x:Int):B0 A5.Neg.E N Tryz.f142 (Al Tryz.f142) [.int .u64 x]=some (.bool ((A7 (Int.tdiv x 9223372036854775808))==(1:Int))):=by kernel_rfl
abbrev _root_.Go.Proofs.S1.A5.Neg.Kn:=A8 Tryz.prog 142 A5.Neg.spec
theorem A5.Neg.Ad (hk:Az Tryz.prog A5.Neg.Bb) (h:∀ (x:Int),A5.Neg.pre [.i x]=true→Bf A5.Neg.E Tryz.f142 [.int .u64 x] (A5.Neg.out [.i x])):A5.Neg.Kn :=
  Ak (A0 hk _ _ _) Tryz.func142 (by kernel_rfl) (by kernel_rfl) h
def A5.Power.Bb:List (Nat × Entry):=[]
def A5.Power.E:Env:=Be (Ba A5.Power.Bb) (fun _=>false) (fun _=>none) (fun _=>none)
theorem A5.Power.ev (N:Nat) (x:Int):B0 A5.Power.E N Tryz.f140 (Al Tryz.f140) [.int .u64 x]=some (.int .i64 (Ab (A7 (Int.tdiv (Int.tmod x 9223372036854775808) 4503599627370496)))):=by kernel_rfl
abbrev _root_.Go.Proofs.S1.A5.Power.Kn:=A8 Tryz.prog 140 A5.Power.spec
theorem A5.Power.Ad (hk:Az Tryz.prog A5.Power.Bb) (h:∀ (x:Int),A5.Power.pre [.i x]=true→Bf A5.Power.E Tryz.f140 [.int .u64 x] (A5.Power.out [.i x])):A5.Power.Kn :=
  Ak (A0 hk _ _ _) Tryz.func140 (by kernel_rfl) (by kernel_rfl) h
def A5.Jz.Bb:List (Nat × Entry):=[]
def A5.Jz.E:Env:=Be (Ba A5.Jz.Bb) (fun _=>false) (fun _=>none) (fun _=>none)
theorem A5.Jz.ev (N:Nat) (x:Int):B0 A5.Jz.E N Tryz.f141 (Al Tryz.f141) [.int .u64 x]=some (.int .u64 (Int.tmod x 4503599627370496)):=by kernel_rfl
abbrev _root_.Go.Proofs.S1.A5.Jz.Kn:=A8 Tryz.prog 141 A5.Jz.spec
theorem A5.Jz.Ad (hk:Az Tryz.prog A5.Jz.Bb) (h:∀ (x:Int),A5.Jz.pre [.i x]=true→Bf A5.Jz.E Tryz.f141 [.int .u64 x] (A5.Jz.out [.i x])):A5.Jz.Kn :=
  Ak (A0 hk _ _ _) Tryz.func141 (by kernel_rfl) (by kernel_rfl) h
def A5.Kind.Bb:List (Nat × Entry):=[(141,A5.Jz.spec),(140,A5.Power.spec)]
def A5.Kind.E:Env:=Be (Ba A5.Kind.Bb) (fun _=>false) (fun _=>none) (fun _=>none)
theorem A5.Kind.ev (N:Nat) (x:Int):B0 A5.Kind.E N Tryz.f62 (Al Tryz.f62) [.int .u64 x]=bif (Nx x) then bif ((J2 x)==(2047:Int)) then bif (Nx x) then bif ((Ci x)==(0:Int)) then some (.int .i64 3) else some (.int .i64 4) else none else bif (Nx x) then bif (A4 0 (J2 x)) then some (.int .i64 2) else bif (Nx x) then bif (A4 0 (Ci x)) then some (.int .i64 1) else some (.int .i64 0) else none else none else none:=by kernel_rfl
abbrev _root_.Go.Proofs.S1.A5.Kind.Kn:=A8 Tryz.prog 62 A5.Kind.spec
theorem A5.Kind.Ad (hk:Az Tryz.prog A5.Kind.Bb) (h:∀ (x:Int),A5.Kind.pre [.i x]=true→Bf A5.Kind.E Tryz.f62 [.int .u64 x] (A5.Kind.out [.i x])):A5.Kind.Kn :=
  Ak (A0 hk _ _ _) Tryz.func62 (by kernel_rfl) (by kernel_rfl) h
def A5.Finite.Bb:List (Nat × Entry):=[(140,A5.Power.spec)]
def A5.Finite.E:Env:=Be (Ba A5.Finite.Bb) (fun _=>false) (fun _=>none) (fun _=>none)
theorem A5.Finite.ev (N:Nat) (x:Int):B0 A5.Finite.E N Tryz.f131 (Al Tryz.f131) [.int .u64 x]=bif (Nx x) then some (.bool (A4 (J2 x) 2047)) else none:=by kernel_rfl
abbrev _root_.Go.Proofs.S1.A5.Finite.Kn:=A8 Tryz.prog 131 A5.Finite.spec
theorem A5.Finite.Ad (hk:Az Tryz.prog A5.Finite.Bb) (h:∀ (x:Int),A5.Finite.pre [.i x]=true→Bf A5.Finite.E Tryz.f131 [.int .u64 x] (A5.Finite.out [.i x])):A5.Finite.Kn :=
  Ak (A0 hk _ _ _) Tryz.func131 (by kernel_rfl) (by kernel_rfl) h
end EqRefD
open EqRefD
theorem Hl (n m:Nat):Int.tdiv (n:Int) (m:Int)=((n / m:Nat):Int):=rfl
theorem Hk (n m:Nat):Int.tmod (n:Int) (m:Int)=((n%m:Nat):Int):=rfl
theorem Apl:(9223372036854775808:Int)=((2^63:Nat):Int):=rfl
theorem Apm:(4503599627370496:Int)=((2^52:Nat):Int):=rfl
theorem A5.Neg.known:A5.Neg.Kn:=A5.Neg.Ad .nil fun x hp=>by
  obtain ⟨n,rfl,hn⟩:=Bv (x:=x) hp
  refine ⟨0,A5.Neg.out [.i n],[],?_,.bool⟩
  rw [A5.Neg.ev,Apl,Hl,Cn (by omega) (by omega)]
  show _=some (DV.bool (Dp n))
  unfold Dp Cs
  rw [Aum]
  congr 2
  rw [Au0]
  simp only [beq_iff_eq,Aur]
  omega
theorem A5.Power.known:A5.Power.Kn:=A5.Power.Ad .nil fun x hp=>by
  obtain ⟨n,rfl⟩:=Vt (x:=x) hp
  refine ⟨0,A5.Power.out [.i n],[],?_,.int⟩
  rw [A5.Power.ev,Apl,Apm,Hk,Hl,Cn (by omega) (by omega),An (by omega) (by omega)]
  show _=some (DV.int .i64 (J2 n))
  unfold J2 Em
  rw [Aum]
  congr 2
  have:n%2^63 / 2^52=n / 2^52%2048:=by omega
  rw [this]
theorem A5.Jz.known:A5.Jz.Kn:=A5.Jz.Ad .nil fun x hp=>by
  obtain ⟨n,rfl⟩:=Vt (x:=x) hp
  refine ⟨0,A5.Jz.out [.i n],[],?_,.int⟩
  rw [A5.Jz.ev,Apm,Hk]
  rfl
theorem A5.Kind.known:A5.Kind.Kn:=A5.Kind.Ad (.cons A5.Jz.known (.cons A5.Power.known .nil)) fun x hp=>by
  obtain ⟨n,rfl⟩:=Vt (x:=x) hp
  refine ⟨0,A5.Kind.out [.i n],[],?_,.int⟩
  rw [A5.Kind.ev,Oh]
  show _=some (DV.int .i64 (A1 n))
  unfold A1 Ao J2 Ci
  simp only [Aum,Auk,Au]
  have:=Ij n
  by_cases h1:Em n=2047
  · by_cases h2:Dt n=0
    · simp [h1,h2]
    · have:((Dt n:Int)==0)=false:=by simp; exact h2
      simp [h1,this,h2]
  · have h1':((Em n:Int)==2047)=false:=by simp; omega
    rw [h1']
    by_cases h3:0<Em n
    · simp [h1,h3]
    · by_cases h4:0<Dt n
      · simp [h1,h3,h4]
      · simp [h1,h3,h4]
theorem A5.Finite.known:A5.Finite.Kn:=A5.Finite.Ad (.cons A5.Power.known .nil) fun x hp=>by
  obtain ⟨n,rfl,hn⟩:=Bv (x:=x) hp
  refine ⟨0,A5.Finite.out [.i n],[],?_,.bool⟩
  rw [A5.Finite.ev,Oh,Auk,Au]
  show _=some (DV.bool (Cv n))
  unfold Cv Ir J2
  rw [Aum]
  have:decide ((Em n:Int)<2047)=decide (Em n<2047):=decide_eq_decide.2 (by omega)
  rw [this]
namespace EqRefA
def Ac.Hu.Bb:List (Nat × Entry):=[]
def Ac.Hu.E:Env:=Be (Ba Ac.Hu.Bb) (fun _=>false) (fun _=>none) (fun _=>none)
theorem Ac.Hu.ev (N:Nat) (l:List Int) (i:Int):B0 Ac.Hu.E N Tryz.f221 (Al Tryz.f221) [.ints .arg .u32 l,.int .i64 i]=bif ((Dv 0 i)&&(A4 i (List.length l:Int))) then bif ((decide (0≤i))&&(decide (i<(List.length l:Int)))) then some (.int .u64 (A7 (List.getD l (Int.toNat i) 0))) else none else some (.int .u64 0) :=
  Eq.trans (by kernel_rfl)
  (Ar (N2 (Dv 0 i)) (Ar (N2 (Dv 0 i)) (Ar (Ke (Dv 0 i)) (Ar (Agd (Dv 0 i)) (Ar (Sj (Dv 0 i)) (C3 (tt1 (Dv 0 i) (A4 i (List.length l:Int))) rfl rfl))))))
abbrev _root_.Go.Proofs.S1.Ac.Hu.Kn:=A8 Tryz.prog 221 Ac.Hu.spec
theorem Ac.Hu.Ad (hk:Az Tryz.prog Ac.Hu.Bb) (h:∀ (l:List Int) (i:Int),Ac.Hu.pre [.l l,.i i]=true→Bf Ac.Hu.E Tryz.f221 [.ints .arg .u32 l,.int .i64 i] (Ac.Hu.out [.l l,.i i])):Ac.Hu.Kn :=
  Ak (A0 hk _ _ _) Tryz.func221 (by kernel_rfl) (by kernel_rfl) h
def Ac.Made.hint:Nat→Option A9
  | 0=>some { keep:=[0,1,4,5],objs:=[],boxes:=[4] }
  | _=>none
def Ac.Made.Bb:List (Nat × Entry):=[]
def Ac.Made.E:Env:=Be (Ba Ac.Made.Bb) (fun _=>false) Ac.Made.hint (fun _=>none)
def Ac.Made.L0 (N M:Nat) (n:Bool) (l:List Int) (p5:Int):Option DV:=B7 Ac.Made.E N Tryz.f171 (Al Tryz.f171) [1,1,0,0] [] M ⟨Fy 28 [(0,.bool n),(1,.ints .arg .u32 l),(4,.ptr 4 0 0),(5,.int .i64 p5)],[(4,false,.box [.bool false,.nil])]⟩
theorem Ac.Made.At (N M:Nat) (n:Bool) (l:List Int) (p5:Int):Ac.Made.L0 N (M+1) n l p5=bif ((!(A4 0 p5))||((decide (0≤(Ab (p5-1))))&&(decide ((Ab (p5-1))<(List.length l:Int))))) then bif ((A4 0 p5)&&((List.getD l (Int.toNat (Ab (p5-1))) 0)==(0:Int))) then Ac.Made.L0 N M n l (Ab (p5-1)) else bif (p5==(0:Int)) then some (.agg [.bool false,.nil]) else bif ((decide ((0:Int)≤p5))&&(decide (p5≤(List.length l:Int)))) then some (.agg [.bool n,.ints .arg .u32 (List.take (Int.toNat p5) l)]) else none else none :=
  Eq.trans (by kernel_rfl)
  (Ar (N2 (A4 0 p5)) (Ar (N2 (A4 0 p5)) (Ar (Ke (A4 0 p5)) (C3 (As2 (A4 0 p5) (decide (0≤(Ab (p5-1)))) (decide ((Ab (p5-1))<(List.length l:Int)))) (Ar (Ke (A4 0 p5)) (Ar (Ke (A4 0 p5)) (Ar (Sj (A4 0 p5)) (C3 (tt1 (A4 0 p5) ((List.getD l (Int.toNat (Ab (p5-1))) 0)==(0:Int))) rfl (Ev rfl (C3 (Li (decide ((0:Int)≤p5)) (decide (p5≤(List.length l:Int)))) rfl rfl)))))) rfl))))
theorem Ac.Made.ev (N:Nat) (n:Bool) (l:List Int):B0 Ac.Made.E N Tryz.f171 (Al Tryz.f171) [.bool n,.ints .arg .u32 l] =
  Ac.Made.L0 N N n l (List.length l:Int):=by kernel_rfl
abbrev _root_.Go.Proofs.S1.Ac.Made.Kn:=A8 Tryz.prog 171 Ac.Made.spec
theorem Ac.Made.Ad (hk:Az Tryz.prog Ac.Made.Bb) (h:∀ (n:Bool) (l:List Int),Ac.Made.pre [.b n,.l l]=true→Bf Ac.Made.E Tryz.f171 [.bool n,.ints .arg .u32 l] (Ac.Made.out [.b n,.l l])):Ac.Made.Kn :=
  Ak (A0 hk _ _ _) Tryz.func171 (by kernel_rfl) (by kernel_rfl) h
def Ac.Of.Bb:List (Nat × Entry):=[(171,Ac.Made.spec)]
def Ac.Of.E:Env:=Be (Ba Ac.Of.Bb) (fun _=>false) (fun _=>none) (fun _=>none)
theorem Ac.Of.ev (N:Nat) (n:Int):B0 Ac.Of.E N Tryz.f115 (Al Tryz.f115) [.int .i64 n]=bif (A4 n 0) then bif (Fh [(Hj (Int.tmod (A7 ((A7 (Ab (0-(Ab (n+1)))))+1)) 4294967296)),(Hj (A7 (Int.tdiv (A7 ((A7 (Ab (0-(Ab (n+1)))))+1)) 4294967296)))]) then some (.agg [.bool (Av (wv true [(Hj (Int.tmod (A7 ((A7 (Ab (0-(Ab (n+1)))))+1)) 4294967296)),(Hj (A7 (Int.tdiv (A7 ((A7 (Ab (0-(Ab (n+1)))))+1)) 4294967296)))])),.ints .arg .u32 (Ae (wv true [(Hj (Int.tmod (A7 ((A7 (Ab (0-(Ab (n+1)))))+1)) 4294967296)),(Hj (A7 (Int.tdiv (A7 ((A7 (Ab (0-(Ab (n+1)))))+1)) 4294967296)))]))]) else none else bif (Fh [(Hj (Int.tmod n 4294967296)),(Hj (Ab (Int.tdiv n 4294967296)))]) then some (.agg [.bool (Av (wv false [(Hj (Int.tmod n 4294967296)),(Hj (Ab (Int.tdiv n 4294967296)))])),.ints .arg .u32 (Ae (wv false [(Hj (Int.tmod n 4294967296)),(Hj (Ab (Int.tdiv n 4294967296)))]))]) else none:=by kernel_rfl
abbrev _root_.Go.Proofs.S1.Ac.Of.Kn:=A8 Tryz.prog 115 Ac.Of.spec
theorem Ac.Of.Ad (hk:Az Tryz.prog Ac.Of.Bb) (h:∀ (n:Int),Ac.Of.pre [.i n]=true→Bf Ac.Of.E Tryz.f115 [.int .i64 n] (Ac.Of.out [.i n])):Ac.Of.Kn :=
  Ak (A0 hk _ _ _) Tryz.func115 (by kernel_rfl) (by kernel_rfl) h
def Ac.G8.hint:Nat→Option A9
  | 0=>some { keep:=[0,1,5],objs:=[],boxes:=[] }
  | _=>none
def Ac.G8.Bb:List (Nat × Entry):=[(221,Ac.Hu.spec)]
def Ac.G8.E:Env:=Be (Ba Ac.G8.Bb) (fun _=>false) Ac.G8.hint (fun _=>none)
def Ac.G8.L0 (N M:Nat) (a b:List Int) (p5:Int):Option DV:=B7 Ac.G8.E N Tryz.f176 (Al Tryz.f176) [1,0,1,0] [] M ⟨Fy 29 [(0,.ints .arg .u32 a),(1,.ints .arg .u32 b),(5,.int .i64 p5)],[]⟩
theorem Ac.G8.At (N M:Nat) (a b:List Int) (p5:Int):Ac.G8.L0 N (M+1) a b p5=bif (Dv 0 p5) then bif (Fh a) then bif (Fh b) then bif (A4 (F3 a p5) (F3 b p5)) then some (.int .i64 (-1:Int)) else bif (Fh a) then bif (Fh b) then bif (A4 (F3 b p5) (F3 a p5)) then some (.int .i64 1) else Ac.G8.L0 N M a b (Ab (p5-1)) else none else none else none else none else some (.int .i64 0):=by kernel_rfl
theorem Ac.G8.ev (N:Nat) (a b:List Int):B0 Ac.G8.E N Tryz.f176 (Al Tryz.f176) [.ints .arg .u32 a,.ints .arg .u32 b] =
  Ac.G8.L0 N N a b (max (List.length a:Int) (List.length b:Int)):=by kernel_rfl
abbrev _root_.Go.Proofs.S1.Ac.G8.Kn:=A8 Tryz.prog 176 Ac.G8.spec
theorem Ac.G8.Ad (hk:Az Tryz.prog Ac.G8.Bb) (h:∀ (a b:List Int),Ac.G8.pre [.l a,.l b]=true→Bf Ac.G8.E Tryz.f176 [.ints .arg .u32 a,.ints .arg .u32 b] (Ac.G8.out [.l a,.l b])):Ac.G8.Kn :=
  Ak (A0 hk _ _ _) Tryz.func176 (by kernel_rfl) (by kernel_rfl) h
def Ac.plus.hint:Nat→Option A9
  | 0=>some { keep:=[0,1,5,6,7],objs:=[(0,5,100005,.ints 173 .u32 [])],boxes:=[] }
  | _=>none
def Ac.plus.Bb:List (Nat × Entry):=[(221,Ac.Hu.spec)]
def Ac.plus.E:Env:=Be (Ba Ac.plus.Bb) (fun _=>false) Ac.plus.hint (fun _=>none)
def Ac.plus.L0 (N M:Nat) (a b:List Int) (p6 p7:Int) (p5:List Int):Option DV:=B7 Ac.plus.E N Tryz.f174 (Al Tryz.f174) [1,1,1,0,1,0] [] M ⟨Fy 37 [(0,.ints .arg .u32 a),(1,.ints .arg .u32 b),(5,.oref 100005),(6,.int .u64 p6),(7,.int .i64 p7)],[(100005,false,.ints 173 .u32 p5)]⟩
theorem Ac.plus.At (N M:Nat) (a b:List Int) (p6 p7:Int) (p5:List Int):Ac.plus.L0 N (M+1) a b p6 p7 p5=bif (Dv p7 (max (List.length a:Int) (List.length b:Int))) then bif (Fh a) then bif (Fh b) then bif (decide ((List.length p5)+1≤Gf)) then Ac.plus.L0 N M a b (A7 (Int.tdiv (A7 ((A7 ((F3 a p7)+(F3 b p7)))+p6)) 4294967296)) (Ab (p7+1)) (p5++[(Hj (Int.tmod (A7 ((A7 ((F3 a p7)+(F3 b p7)))+p6)) 4294967296))]) else none else none else none else some (.ints (.own 100005 173) .u32 p5):=by kernel_rfl
theorem Ac.plus.ev (N:Nat) (a b:List Int):B0 Ac.plus.E N Tryz.f174 (Al Tryz.f174) [.ints .arg .u32 a,.ints .arg .u32 b] =
  Ac.plus.L0 N N a b 0 0 []:=by kernel_rfl
abbrev _root_.Go.Proofs.S1.Ac.plus.Kn:=A8 Tryz.prog 174 Ac.plus.spec
theorem Ac.plus.Ad (hk:Az Tryz.prog Ac.plus.Bb) (h:∀ (a b:List Int),Ac.plus.pre [.l a,.l b]=true→Bf Ac.plus.E Tryz.f174 [.ints .arg .u32 a,.ints .arg .u32 b] (Ac.plus.out [.l a,.l b])):Ac.plus.Kn :=
  Ak (A0 hk _ _ _) Tryz.func174 (by kernel_rfl) (by kernel_rfl) h
def Ac.minus.hint:Nat→Option A9
  | 0=>some { keep:=[0,1,5,6,7],objs:=[(0,5,100005,.ints 173 .u32 [])],boxes:=[] }
  | _=>none
def Ac.minus.Bb:List (Nat × Entry):=[(221,Ac.Hu.spec)]
def Ac.minus.E:Env:=Be (Ba Ac.minus.Bb) (fun _=>false) Ac.minus.hint (fun _=>none)
def Ac.minus.L0 (N M:Nat) (a b:List Int) (p6 p7:Int) (p5:List Int):Option DV:=B7 Ac.minus.E N Tryz.f177 (Al Tryz.f177) [1,1,1,0,1,0] [] M ⟨Fy 36 [(0,.ints .arg .u32 a),(1,.ints .arg .u32 b),(5,.oref 100005),(6,.int .u64 p6),(7,.int .i64 p7)],[(100005,false,.ints 173 .u32 p5)]⟩
theorem Ac.minus.At (N M:Nat) (a b:List Int) (p6 p7:Int) (p5:List Int):Ac.minus.L0 N (M+1) a b p6 p7 p5=bif (A4 p7 (List.length a:Int)) then bif (Fh a) then bif (Fh b) then bif (decide ((List.length p5)+1≤Gf)) then Ac.minus.L0 N M a b (A7 ((1:Int)-(A7 (Int.tdiv (A7 ((A7 ((A7 ((4294967296:Int)+(F3 a p7)))-(F3 b p7)))-p6)) 4294967296)))) (Ab (p7+1)) (p5++[(Hj (Int.tmod (A7 ((A7 ((A7 ((4294967296:Int)+(F3 a p7)))-(F3 b p7)))-p6)) 4294967296))]) else none else none else none else some (.ints (.own 100005 173) .u32 p5):=by kernel_rfl
theorem Ac.minus.ev (N:Nat) (a b:List Int):B0 Ac.minus.E N Tryz.f177 (Al Tryz.f177) [.ints .arg .u32 a,.ints .arg .u32 b] =
  Ac.minus.L0 N N a b 0 0 []:=by kernel_rfl
abbrev _root_.Go.Proofs.S1.Ac.minus.Kn:=A8 Tryz.prog 177 Ac.minus.spec
theorem Ac.minus.Ad (hk:Az Tryz.prog Ac.minus.Bb) (h:∀ (a b:List Int),Ac.minus.pre [.l a,.l b]=true→Bf Ac.minus.E Tryz.f177 [.ints .arg .u32 a,.ints .arg .u32 b] (Ac.minus.out [.l a,.l b])):Ac.minus.Kn :=
  Ak (A0 hk _ _ _) Tryz.func177 (by kernel_rfl) (by kernel_rfl) h
def Ac.Add.Bb:List (Nat × Entry):=[(171,Ac.Made.spec),(176,Ac.G8.spec),(177,Ac.minus.spec),(174,Ac.plus.spec)]
def Ac.Add.E:Env:=Be (Ba Ac.Add.Bb) (fun _=>false) (fun _=>none) (fun _=>none)
theorem Ac.Add.ev (N:Nat) (n:Bool) (a:List Int) (m:Bool) (b:List Int):B0 Ac.Add.E N Tryz.f112 (Al Tryz.f112) [.agg [.bool n,.ints .arg .u32 a],.agg [.bool m,.ints .arg .u32 b]]=bif (n==m) then bif (Fh a&&Fh b) then bif (Fh (He a b)) then some (.agg [.bool (Av (wv n (He a b))),.ints .arg .u32 (Ae (wv n (He a b)))]) else none else none else bif (Fh a&&Fh b) then bif (A4 (Tc (By a) (By b)) 0) then bif ((Fh b&&Fh a)&&leL a b) then bif (Fh (Ga b a)) then some (.agg [.bool (Av (wv m (Ga b a))),.ints .arg .u32 (Ae (wv m (Ga b a)))]) else none else none else bif ((Fh a&&Fh b)&&leL b a) then bif (Fh (Ga a b)) then some (.agg [.bool (Av (wv n (Ga a b))),.ints .arg .u32 (Ae (wv n (Ga a b)))]) else none else none else none :=
  Eq.trans (by kernel_rfl)
  (Ev (C3 (C4 (Fh a&&Fh b)) (C3 (C4 (Fh (He a b))) rfl rfl) rfl) (Ev (Ev (C3 (C4 ((Fh b&&Fh a)&&leL a b)) (C3 (C4 (Fh (Ga b a))) rfl rfl) rfl) (C3 (C4 ((Fh a&&Fh b)&&leL b a)) (C3 (C4 (Fh (Ga a b))) rfl rfl) rfl)) rfl))
abbrev _root_.Go.Proofs.S1.Ac.Add.Kn:=A8 Tryz.prog 112 Ac.Add.spec
theorem Ac.Add.Ad (hk:Az Tryz.prog Ac.Add.Bb) (h:∀ (n:Bool) (a:List Int) (m:Bool) (b:List Int),Ac.Add.pre [.b n,.l a,.b m,.l b]=true→Bf Ac.Add.E Tryz.f112 [.agg [.bool n,.ints .arg .u32 a],.agg [.bool m,.ints .arg .u32 b]] (Ac.Add.out [.b n,.l a,.b m,.l b])):Ac.Add.Kn :=
  Ak (A0 hk _ _ _) Tryz.func112 (by kernel_rfl) (by kernel_rfl) h
def Ac.Neg.Bb:List (Nat × Entry):=[(171,Ac.Made.spec)]
def Ac.Neg.E:Env:=Be (Ba Ac.Neg.Bb) (fun _=>false) (fun _=>none) (fun _=>none)
theorem Ac.Neg.ev (N:Nat) (n:Bool) (a:List Int):B0 Ac.Neg.E N Tryz.f143 (Al Tryz.f143) [.agg [.bool n,.ints .arg .u32 a]]=bif (Fh a) then some (.agg [.bool (Av (wv (!n) a)),.ints .arg .u32 (Ae (wv (!n) a))]) else none:=by kernel_rfl
abbrev _root_.Go.Proofs.S1.Ac.Neg.Kn:=A8 Tryz.prog 143 Ac.Neg.spec
theorem Ac.Neg.Ad (hk:Az Tryz.prog Ac.Neg.Bb) (h:∀ (n:Bool) (a:List Int),Ac.Neg.pre [.b n,.l a]=true→Bf Ac.Neg.E Tryz.f143 [.agg [.bool n,.ints .arg .u32 a]] (Ac.Neg.out [.b n,.l a])):Ac.Neg.Kn :=
  Ak (A0 hk _ _ _) Tryz.func143 (by kernel_rfl) (by kernel_rfl) h
end EqRefA
open EqRefA
theorem Ac.Hu.known:Ac.Hu.Kn:=Ac.Hu.Ad .nil fun l i hp=>by
  obtain ⟨hl,hi⟩:=Il hp
  refine ⟨0,Ac.Hu.out [.l l,.i i],[],?_,.int⟩
  rw [Ac.Hu.ev,Ed,Au]
  show _=some (DV.int .u64 (F3 l i))
  by_cases h0:0≤i
  · obtain ⟨k,rfl⟩:∃ k:Nat,i=k:=⟨i.toNat,by omega⟩
    have hv:=Gd hi k
    have hg:=Lt hi k
    rw [hv,Aum,hg,Aul h0,Bool.true_and]
    by_cases h1:(k:Int)<(l.length:Int)
    · rw [Aul h1,Auk,Auk,Cn (by omega) (by omega)]
    · have h2:l.getD k 0=0:=by
        rw [Auu,List.getElem?_eq_none (by omega)]; rfl
      rw [h2] at hg
      rw [Aup h1,Auo,← hg]
  · have:F3 l i=0:=by unfold F3; rw [if_neg h0]
    rw [Aup h0,Bool.false_and,Auo,this]
theorem Yq {drops:List Nat} {b:Bool} {l:List Int}:Wk drops (.agg [.bool b,.ints .arg .u32 l]) (.agg [.bool b,.ints .arg .u32 l]):=Wk.Ix (.cons .bool (.cons .Al6 .nil))
theorem Ag5:Av 0=false:=rfl
theorem Ab4:Ae 0=[]:=rfl
theorem Ahf (N:Nat) (n:Bool) {l:List Int} (hl:l.length<1073741824) (hi:R4 l):∀ (p F:Nat),p≤l.length→p<F→By l<2^(32*p) →
    ∃ dv,Ac.Made.L0 N F n l (p:Int)=some dv∧Wk [] dv (.agg [.bool (Av (wv n l)),.ints .arg .u32 (Ae (wv n l))]):=by
  have hlast:∀ p,p≤l.length→C0 (By l)=p→p≠0→some (DV.agg [.bool n,.ints .arg .u32 (l.take p)])=some (DV.agg [.bool (Av (wv n l)),.ints .arg .u32 (Ae (wv n l))]):=by
    intro p hp hq h0
    have h1:=Aee hi
    rw [hq] at h1
    have h2:By l≠0:=fun h=>by rw [h] at hq; exact h0 hq.symm
    have e:(wv n l).natAbs=By l:=by unfold wv H8; split<;>omega
    have e1:Ae (wv n l)=Nt (By l):=by unfold Ae; rw [e]
    have e2:Av (wv n l)=n:=by unfold Av wv H8; cases n<;>simp<;>omega
    rw [h1,e1,e2]
  intro p
  induction p with
  | zero =>
    intro F hp hF hv
    obtain ⟨F,rfl⟩:∃ G,F=G+1:=⟨F-1,by omega⟩
    have hz:wv n l=0:=by
      have:By l=0:=by rw [Nat.mul_zero,Nat.pow_zero] at hv; omega
      unfold wv H8; rw [this]; cases n<;>rfl
    refine ⟨.agg [.bool false,.nil],?_,?_⟩
    · rw [Ac.Made.At,Au]; rfl
    · rw [hz,Ag5,Ab4]
      exact Wk.Ix (.cons .bool (.cons (.nil _ _) .nil))
  | succ p ih =>
    intro F hp hF hv
    obtain ⟨F,rfl⟩:∃ G,F=G+1:=⟨F-1,by omega⟩
    rw [Ac.Made.At,Au,An (by omega) (by omega)]
    have e0:((p+1:Nat):Int)-1=(p:Int):=by omega
    have t0:decide ((0:Int)<((p+1:Nat):Int))=true:=Aul (by omega)
    have t1:decide ((0:Int)≤(p:Int))=true:=by simp
    have t2:decide ((p:Int)<(l.length:Int))=true:=by simp; omega
    have hg:=Lt hi p
    have hq:By l / 2^(32*p)<4294967296:=by
      rw [Nat.div_lt_iff_lt_mul (B9 _),← J9]; exact hv
    rw [Aux hq] at hg
    rw [e0,t0,t1,t2,Aum,hg]
    simp only [Bool.not_true,Auq,Bool.false_or,Auk,Bool.true_and]
    by_cases hz:By l / 2^(32*p)=0
    · have:(((By l / 2^(32*p):Nat):Int)==0)=true:=by rw [hz]; rfl
      rw [this,Auk]
      refine ih F (by omega) (by omega) ?_
      rcases Nat.lt_or_ge (By l) (2^(32*p)) with h | h
      · exact h
      · have:=Nat.div_pos h (B9 _); omega
    · have:(((By l / 2^(32*p):Nat):Int)==0)=false:=by simp only [beq_eq_false_iff_ne,ne_eq]; omega
      have t3:(((p+1:Nat):Int)==0)=false:=by simp only [beq_eq_false_iff_ne,ne_eq]; omega
      have t4:decide (((p+1:Nat):Int)≤(l.length:Int))=true:=by simp; omega
      have t5:decide ((0:Int)≤((p+1:Nat):Int))=true:=Aul (by omega)
      rw [this,Auo,t3,Auo,t4,t5,Auq,Auk,Aum]
      have hlen:C0 (By l)=p+1:=by
        have a1:=Ko hv
        have a2:=An5 (n:=By l) (k:=p) (by
          rcases Nat.lt_or_ge (By l) (2^(32*p)) with h | h
          · exact absurd (Nat.div_eq_of_lt h) hz
          · exact h)
        omega
      exact ⟨_,hlast (p+1) hp hlen (by omega),Yq⟩
theorem Ac.Made.known:Ac.Made.Kn:=Ac.Made.Ad .nil fun n l hp=>by
  obtain ⟨hl,hi⟩:=Il hp
  obtain ⟨dv,h1,h2⟩:=Ahf (l.length+1) n hl hi l.length (l.length+1) (Nat.le_refl _) (by omega) (Ie hi)
  exact ⟨l.length+1,dv,[],by rw [Ac.Made.ev]; exact h1,h2⟩
theorem Xd {a b:Int} (ha:0≤a∧a<4294967296) (hb:0≤b∧b<4294967296):Fh [a,b]=true :=
  Ik (show 2<1073741824 by decide) fun x hx=>by
    rcases List.mem_cons.1 hx with rfl | hx
    · exact ha
    · rcases List.mem_cons.1 hx with rfl | hx
      · exact hb
      · cases hx
theorem Ab2:(4294967296:Int)=((4294967296:Nat):Int):=rfl
theorem Ac.Of.known:Ac.Of.Kn:=Ac.Of.Ad (.cons Ac.Made.known .nil) fun n hp=>by
  have hp:=Ap.1 hp
  refine ⟨0,Ac.Of.out [.i n],[],?_,Yq⟩
  rw [Ac.Of.ev,Au]
  show _=some (DV.agg [.bool (Av n),.ints .arg .u32 (Ae n)])
  by_cases h:n<0
  · obtain ⟨k,rfl⟩:∃ k:Nat,n=-(k:Int):=⟨(-n).toNat,by omega⟩
    have e1:A7 (A7 (Ab (0-Ab (-(k:Int)+1)))+1)=(k:Int):=by
      rw [An (x:=-(k:Int)+1) (by omega) (by omega),An (by omega) (by omega),Cn (x:=0-(-(k:Int)+1)) (by omega) (by omega),Cn (by omega) (by omega)]; omega
    rw [Aul h,Auk,e1,Ab2,Hk,Hl,Hi (by omega) (by omega),Cn (by omega) (by omega),Hi (by omega) (by omega),
      Xd (by omega) (by omega),Auk]
    have e2:wv true [((k%4294967296:Nat):Int),((k / 4294967296:Nat):Int)]=-(k:Int):=by
      unfold wv H8 By By By
      rw [if_pos rfl,Aum,Aum]
      omega
    rw [e2]
  · obtain ⟨k,rfl⟩:∃ k:Nat,n=(k:Int):=⟨n.toNat,by omega⟩
    rw [Aup h,Auo,Ab2,Hk,Hl,Hi (by omega) (by omega),An (by omega) (by omega),Hi (by omega) (by omega),
      Xd (by omega) (by omega),Auk]
    have e2:wv false [((k%4294967296:Nat):Int),((k / 4294967296:Nat):Int)]=(k:Int):=by
      unfold wv H8 By By By
      rw [if_neg (by decide),Aum,Aum]
      omega
    rw [e2]
theorem Ac.Neg.known:Ac.Neg.Kn:=Ac.Neg.Ad (.cons Ac.Made.known .nil) fun n a hp=>by
  obtain ⟨v,rfl,rfl,hv⟩:=Ha hp
  refine ⟨0,Ac.Neg.out [.b (Av v),.l (Ae v)],[],?_,Yq⟩
  rw [Ac.Neg.ev,Mj (by omega),Auk,Apw]
  rfl
open EqRefA
theorem Ahd (N:Nat) {a b:List Int} (ha:Fh a=true) (hb:Fh b=true):∀ (j F:Nat),j<4000000000→j<F→By a / 2^(32*j)=By b / 2^(32*j) →
    Ac.G8.L0 N F a b ((j:Int)-1)=some (.int .i64 (Tc (By a) (By b))):=by
  have ia:=(Il ha).2
  have ib:=(Il hb).2
  intro j
  induction j with
  | zero =>
    intro F hj hF h
    obtain ⟨F,rfl⟩:∃ G,F=G+1:=⟨F-1,by omega⟩
    rw [Nat.mul_zero,Nat.pow_zero,Nat.div_one,Nat.div_one] at h
    have e:Tc (By a) (By b)=0:=by unfold Tc; rw [if_neg (by omega),if_neg (by omega)]
    rw [Ac.G8.At,Ed,e]
    rfl
  | succ j ih =>
    intro F hj hF h
    obtain ⟨F,rfl⟩:∃ G,F=G+1:=⟨F-1,by omega⟩
    have e0:((j+1:Nat):Int)-1=(j:Int):=by omega
    have t0:decide ((0:Int)≤(j:Int))=true:=Aul (by omega)
    rw [J9,Nat.mul_comm,← Nat.div_div_eq_div_mul,← Nat.div_div_eq_div_mul] at h
    have up:By a / 2^(32*j)<By b / 2^(32*j)→By a<By b:=fun k=>by
      rcases Nat.lt_or_ge (By a) (By b) with h1 | h1
      · exact h1
      · have:=Nat.div_le_div_right (c:=2^(32*j)) h1; omega
    have down:By b / 2^(32*j)<By a / 2^(32*j)→By b<By a:=fun k=>by
      rcases Nat.lt_or_ge (By b) (By a) with h1 | h1
      · exact h1
      · have:=Nat.div_le_div_right (c:=2^(32*j)) h1; omega
    rw [Ac.G8.At,e0,Ed,t0,Auk,ha,hb,Auk,Auk,Au,Au,Gd ia,Gd ib,An (by omega) (by omega)]
    have ih:=ih F (by omega) (by omega)
    generalize By a / 2^(32*j)=x at *
    generalize By b / 2^(32*j)=y at *
    by_cases h1:x%4294967296<y%4294967296
    · have e:Tc (By a) (By b)=-1:=by unfold Tc; rw [if_pos (up (by omega))]
      rw [Aul (by omega),Auk,e]
    · rw [Aup (by omega),Auo]
      by_cases h2:y%4294967296<x%4294967296
      · have:=down (by omega)
        have e:Tc (By a) (By b)=1:=by unfold Tc; rw [if_neg (by omega),if_pos this]
        rw [Aul (by omega),Auk,e]
        rfl
      · rw [Aup (by omega),Auo]
        exact ih (by omega)
theorem Af2 {l:List Int} (h:R4 l) {j:Nat} (hj:l.length≤j):By l / 2^(32*j)=0 :=
  Nat.div_eq_of_lt (Nat.lt_of_lt_of_le (Ie h) (Auz (by decide) (by omega)))
theorem Ac.G8.known:Ac.G8.Kn:=Ac.G8.Ad (.cons Ac.Hu.known .nil) fun a b hp=>by
  obtain ⟨ha,hb⟩:=Ag.1 hp
  obtain ⟨la,ia⟩:=Il ha
  obtain ⟨lb,ib⟩:=Il hb
  refine ⟨max a.length b.length+2,Ac.G8.out [.l a,.l b],[],?_,.int⟩
  rw [Ac.G8.ev]
  have e:max (a.length:Int) (b.length:Int)=((max a.length b.length+1:Nat):Int)-1:=by omega
  rw [e]
  exact Ahd _ ha hb _ _ (by omega) (by omega) (by rw [Af2 ia (by omega),Af2 ib (by omega)])
theorem Xo (N:Nat) {a b:List Int} (ha:Fh a=true) (hb:Fh b=true):∀ (k i c F:Nat),i+k=max a.length b.length+1→k<F→c≤1 →
    By a / 2^(32*i)+By b / 2^(32*i)+c=(By a+By b) / 2^(32*i) →
    Ac.plus.L0 N F a b (c:Int) (i:Int) (digits i (By a+By b))=some (.ints (.own 100005 tW) .u32 (He a b)):=by
  obtain ⟨la,ia⟩:=Il ha
  obtain ⟨lb,ib⟩:=Il hb
  intro k
  induction k with
  | zero =>
    intro i c F hi hF hc h
    obtain ⟨F,rfl⟩:∃ G,F=G+1:=⟨F-1,by omega⟩
    have t0:decide ((i:Int)≤max (a.length:Int) (b.length:Int))=false:=Aup (by omega)
    rw [Ac.plus.At,Ed,t0,Auo]
    unfold He
    rw [show i=max a.length b.length+1 by omega]
  | succ k ih =>
    intro i c F hi hF hc h
    obtain ⟨F,rfl⟩:∃ G,F=G+1:=⟨F-1,by omega⟩
    have t0:decide ((i:Int)≤max (a.length:Int) (b.length:Int))=true:=Aul (by omega)
    have t1:decide ((digits i (By a+By b)).length+1≤Gf)=true:=Aul (by rw [Dn]; unfold Gf; omega)
    rw [Ac.plus.At,Ed,t0,ha,hb,t1]
    simp only [Auk]
    rw [Gd ia,Gd ib]
    have ih:=ih (i+1)
    rw [J9,Nat.mul_comm 4294967296,← Nat.div_div_eq_div_mul,← Nat.div_div_eq_div_mul,← Nat.div_div_eq_div_mul,H6] at ih
    generalize By a / 2^(32*i)=x at *
    generalize By b / 2^(32*i)=y at *
    generalize (By a+By b) / 2^(32*i)=z at *
    have e1:A7 (A7 (((x%4294967296:Nat):Int)+((y%4294967296:Nat):Int))+(c:Int))=((x%4294967296+y%4294967296+c:Nat):Int):=by
      rw [Cn (x:=((x%4294967296:Nat):Int)+((y%4294967296:Nat):Int)) (by omega) (by omega),Cn (by omega) (by omega)]; omega
    rw [e1,Ab2,Hk,Hl,Hi (by omega) (by omega),Cn (by omega) (by omega),An (by omega) (by omega)]
    have e2:(x%4294967296+y%4294967296+c)%4294967296=z%4294967296:=by omega
    rw [e2]
    exact ih ((x%4294967296+y%4294967296+c) / 4294967296) F (by omega) (by omega) (by omega) (by omega)
theorem Y7 {i:Nat} {e:TypeId} {k:IntKind} {l:List Int}:Wk [i] (.ints (.own i e) k l) (.ints .arg k l):=.dropA i e k l (List.mem_singleton.2 rfl)
theorem Ac.plus.known:Ac.plus.Kn:=Ac.plus.Ad (.cons Ac.Hu.known .nil) fun a b hp=>by
  obtain ⟨ha,hb⟩:=Ag.1 hp
  refine ⟨max a.length b.length+2,.ints (.own 100005 tW) .u32 (He a b),[100005],?_,Y7⟩
  rw [Ac.plus.ev]
  exact Xo _ ha hb (max a.length b.length+1) 0 0 _ (by omega) (by omega) (by omega) (by simp)
theorem Ad6 (N:Nat) {a b:List Int} (ha:Fh a=true) (hb:Fh b=true):∀ (k i w F:Nat),i+k=a.length→k<F→w≤1 →
    By a / 2^(32*i)=By b / 2^(32*i)+(By a-By b) / 2^(32*i)+w →
    Ac.minus.L0 N F a b (w:Int) (i:Int) (digits i (By a-By b))=some (.ints (.own 100005 tW) .u32 (Ga a b)):=by
  obtain ⟨la,ia⟩:=Il ha
  obtain ⟨lb,ib⟩:=Il hb
  intro k
  induction k with
  | zero =>
    intro i c F hi hF hc h
    obtain ⟨F,rfl⟩:∃ G,F=G+1:=⟨F-1,by omega⟩
    have t0:decide ((i:Int)<(a.length:Int))=false:=Aup (by omega)
    rw [Ac.minus.At,Au,t0,Auo]
    unfold Ga
    rw [show i=a.length by omega]
  | succ k ih =>
    intro i w F hi hF hc h
    obtain ⟨F,rfl⟩:∃ G,F=G+1:=⟨F-1,by omega⟩
    have t0:decide ((i:Int)<(a.length:Int))=true:=Aul (by omega)
    have t1:decide ((digits i (By a-By b)).length+1≤Gf)=true:=Aul (by rw [Dn]; unfold Gf; omega)
    rw [Ac.minus.At,Au,t0,ha,hb,t1]
    simp only [Auk]
    rw [Gd ia,Gd ib]
    have ih:=ih (i+1)
    rw [J9,Nat.mul_comm 4294967296,← Nat.div_div_eq_div_mul,← Nat.div_div_eq_div_mul,← Nat.div_div_eq_div_mul,H6] at ih
    generalize By a / 2^(32*i)=x at *
    generalize By b / 2^(32*i)=y at *
    generalize (By a-By b) / 2^(32*i)=z at *
    have e1:A7 (A7 (A7 ((4294967296:Int)+((x%4294967296:Nat):Int))-((y%4294967296:Nat):Int))-(w:Int))=((4294967296+x%4294967296-y%4294967296-w:Nat):Int):=by
      rw [Cn (x:=(4294967296:Int)+((x%4294967296:Nat):Int)) (by omega) (by omega),Cn (x:=(4294967296:Int)+((x%4294967296:Nat):Int)-((y%4294967296:Nat):Int)) (by omega) (by omega),Cn (by omega) (by omega)]; omega
    have e2:(4294967296+x%4294967296-y%4294967296-w)%4294967296=z%4294967296:=by omega
    have e3:A7 ((1:Int)-(((4294967296+x%4294967296-y%4294967296-w) / 4294967296:Nat):Int))=((1-(4294967296+x%4294967296-y%4294967296-w) / 4294967296:Nat):Int):=by
      rw [Cn (by omega) (by omega)]; omega
    rw [e1,Ab2,Hk,Hl,Hi (by omega) (by omega),Cn (x:=(((4294967296+x%4294967296-y%4294967296-w) / 4294967296:Nat):Int)) (by omega) (by omega),An (by omega) (by omega),e2,e3]
    exact ih (1-(4294967296+x%4294967296-y%4294967296-w) / 4294967296) F (by omega) (by omega) (by omega) (by omega)
theorem Ac.minus.known:Ac.minus.Kn:=Ac.minus.Ad (.cons Ac.Hu.known .nil) fun a b hp=>by
  obtain ⟨h1,hle⟩:=Ag.1 hp
  obtain ⟨ha,hb⟩:=Ag.1 h1
  have hle:=Ap.1 hle
  refine ⟨a.length+1,.ints (.own 100005 tW) .u32 (Ga a b),[100005],?_,Y7⟩
  rw [Ac.minus.ev]
  exact Ad6 _ ha hb a.length 0 0 _ (by omega) (by omega) (by omega) (by simp; omega)
theorem Fe (v:Int):R4 (Ae v):=Ab3 _
theorem Aig {v w:Int} (h:Av v=Av w):wv (Av v) (He (Ae v) (Ae w))=v+w:=by
  unfold wv
  rw [Xp (Fe _) (Fe _),Dh,Dh]
  unfold Av at h ⊢
  unfold H8
  rw [decide_eq_decide] at h
  by_cases hv:v<0
  · have hw:=h.1 hv
    rw [Aul hv,if_pos rfl]; omega
  · have hw:¬ w<0:=fun k=>hv (h.2 k)
    rw [Aup hv,if_neg (by decide)]; omega
theorem Ae5 {v w:Int} (h:Av v≠Av w) (hl:w.natAbs≤v.natAbs):wv (Av v) (Ga (Ae v) (Ae w))=v+w:=by
  unfold wv
  rw [Ad7 _ (Fe _),Dh,Dh]
  unfold Av at h ⊢
  unfold H8
  rw [ne_eq,decide_eq_decide] at h
  by_cases hv:v<0
  · have hw:¬ w<0:=fun k=>h ⟨fun _=>k,fun _=>hv⟩
    rw [Aul hv,if_pos rfl]; omega
  · have hw:w<0:=by
      rcases Int.lt_or_le w 0 with k | k
      · exact k
      · exact absurd ⟨fun k'=>absurd k' hv,fun k'=>by omega⟩ h
    rw [Aup hv,if_neg (by decide)]; omega
theorem Ac.Add.known:Ac.Add.Kn:=Ac.Add.Ad (.cons Ac.Made.known (.cons Ac.G8.known (.cons Ac.minus.known (.cons Ac.plus.known .nil)))) fun n a m b hp=>by
  obtain ⟨h1,h2⟩:=Ag.1 hp
  obtain ⟨v,rfl,rfl,hv⟩:=Ha h1
  obtain ⟨w,rfl,rfl,hw⟩:=Ha h2
  refine ⟨0,Ac.Add.out [.b (Av v),.l (Ae v),.b (Av w),.l (Ae w)],[],?_,Yq⟩
  have o1:Fh (Ae v)=true:=Mj (by omega)
  have o2:Fh (Ae w)=true:=Mj (by omega)
  rw [Ac.Add.ev,o1,o2,Auq,Auk]
  show _=some (DV.agg [.bool (Av (wv (Av v) (Ae v)+wv (Av w) (Ae w))),.ints .arg .u32 (Ae (wv (Av v) (Ae v)+wv (Av w) (Ae w)))])
  rw [Fo,Fo]
  by_cases hs:Av v=Av w
  · have:(Av v==Av w)=true:=by simp [hs]
    have o3:Fh (He (Ae v) (Ae w))=true:=Ik (by rw [M3,B3,B3]; omega) (Vm _ _)
    rw [this,Auk,o3,Auk,Aig hs]
  · have:(Av v==Av w)=false:=by simp [hs]
    rw [this,Auo,Auk,Au,Dh,Dh,Bool.true_and,Bool.true_and]
    by_cases hl:v.natAbs<w.natAbs
    · have e:decide (Tc v.natAbs w.natAbs<0)=true:=Aul (by unfold Tc; rw [if_pos hl]; decide)
      have o3:Fh (Ga (Ae w) (Ae v))=true:=Ik (by rw [P6,B3]; omega) (Xw _ _)
      have o4:leL (Ae v) (Ae w)=true:=Ap.2 (by rw [Dh,Dh]; omega)
      rw [e,Auk,o4,Auk,o3,Auk,Ae5 (fun k=>hs k.symm) (by omega),Int.add_comm]
    · have e:decide (Tc v.natAbs w.natAbs<0)=false:=Aup (by unfold Tc; rw [if_neg hl]; split<;>decide)
      have o3:Fh (Ga (Ae v) (Ae w))=true:=Ik (by rw [P6,B3]; omega) (Xw _ _)
      have o4:leL (Ae w) (Ae v)=true:=Ap.2 (by rw [Dh,Dh]; omega)
      rw [e,Auo,o4,Auk,o3,Auk,Ae5 hs (by omega)]
namespace EqRefB
def Ac.E7.Bb:List (Nat × Entry):=[(171,Ac.Made.spec),(174,Ac.plus.spec)]
def Ac.E7.E:Env:=Be (Ba Ac.E7.Bb) (fun _=>false) (fun _=>none) (fun _=>none)
theorem Ac.E7.ev (N:Nat) (n:Bool) (a:List Int):B0 Ac.E7.E N Tryz.f222 (Al Tryz.f222) [.agg [.bool n,.ints .arg .u32 a]]=bif (Fh a&&Fh a) then bif (Fh (He a a)) then some (.agg [.bool (Av (wv n (He a a))),.ints .arg .u32 (Ae (wv n (He a a)))]) else none else none :=
  Eq.trans (by kernel_rfl)
  (C3 (C4 (Fh a&&Fh a)) (C3 (C4 (Fh (He a a))) rfl rfl) rfl)
abbrev _root_.Go.Proofs.S1.Ac.E7.Kn:=A8 Tryz.prog 222 Ac.E7.spec
theorem Ac.E7.Ad (hk:Az Tryz.prog Ac.E7.Bb) (h:∀ (n:Bool) (a:List Int),Ac.E7.pre [.b n,.l a]=true→Bf Ac.E7.E Tryz.f222 [.agg [.bool n,.ints .arg .u32 a]] (Ac.E7.out [.b n,.l a])):Ac.E7.Kn :=
  Ak (A0 hk _ _ _) Tryz.func222 (by kernel_rfl) (by kernel_rfl) h
def Ac.Gn.hint:Nat→Option A9
  | 0=>some { keep:=[1,2,3,4],objs:=[(0,3,100003,.ints 173 .u32 [])],boxes:=[1,2] }
  | _=>none
def Ac.Gn.Bb:List (Nat × Entry):=[(171,Ac.Made.spec),(221,Ac.Hu.spec)]
def Ac.Gn.E:Env:=Be (Ba Ac.Gn.Bb) (fun _=>false) Ac.Gn.hint (fun _=>none)
def Ac.Gn.L0 (N M:Nat) (n:Bool) (a:List Int) (p4:Int) (p3:List Int):Option DV:=B7 Ac.Gn.E N Tryz.f173 (Al Tryz.f173) [1,1,0,1,0] [] M ⟨Fy 37 [(1,.ptr 1 0 0),(2,.ptr 2 0 0),(3,.oref 100003),(4,.int .i64 p4)],[(1,false,.box [.bool n,.ints .arg .u32 a]),(2,false,.box [.bool false,.nil]),(100003,false,.ints 173 .u32 p3)]⟩
theorem Ac.Gn.At (N M:Nat) (n:Bool) (a:List Int) (p4:Int) (p3:List Int):Ac.Gn.L0 N (M+1) n a p4 p3=bif (A4 p4 (List.length a:Int)) then bif (Fh a) then bif (Fh a) then bif ((decide (0≤p4))&&(decide (p4<(List.length p3:Int)))) then bif (decide ((Int.toNat p4)<(List.length p3))) then Ac.Gn.L0 N M n a (Ab (p4+1)) (List.set p3 (Int.toNat p4) (Hj (A7 (Int.tdiv (A7 ((A7 ((Int.tmod (F3 a (Ab (p4+1))) 2)*4294967296))+(F3 a p4))) 2)))) else none else none else none else none else bif (Fh p3) then some (.agg [.bool (Av (wv n p3)),.ints .arg .u32 (Ae (wv n p3))]) else none :=
  Eq.trans (by kernel_rfl)
  (Ev (C3 (C4 (Fh a)) (C3 (C4 (Fh a)) (C3 (Li (decide (0≤p4)) (decide (p4<(List.length p3:Int)))) (C3 (C4 (decide ((Int.toNat p4)<(List.length p3)))) rfl rfl) rfl) rfl) rfl) rfl)
theorem Ac.Gn.ev (N:Nat) (n:Bool) (a:List Int):B0 Ac.Gn.E N Tryz.f173 (Al Tryz.f173) [.agg [.bool n,.ints .arg .u32 a]]=bif (((decide ((0:Int)≤(List.length a:Int)))&&(decide ((List.length a:Int)≤(List.length a:Int))))&&(decide ((List.length a:Int)≤Gf))) then Ac.Gn.L0 N N n a 0 (List.replicate (Int.toNat (List.length a:Int)) 0) else none:=by kernel_rfl
abbrev _root_.Go.Proofs.S1.Ac.Gn.Kn:=A8 Tryz.prog 173 Ac.Gn.spec
theorem Ac.Gn.Ad (hk:Az Tryz.prog Ac.Gn.Bb) (h:∀ (n:Bool) (a:List Int),Ac.Gn.pre [.b n,.l a]=true→Bf Ac.Gn.E Tryz.f173 [.agg [.bool n,.ints .arg .u32 a]] (Ac.Gn.out [.b n,.l a])):Ac.Gn.Kn :=
  Ak (A0 hk _ _ _) Tryz.func173 (by kernel_rfl) (by kernel_rfl) h
def Ac.Bx.hint:Nat→Option A9
  | 0=>some { keep:=[1,2,4],objs:=[],boxes:=[2,4] }
  | 2=>some { keep:=[1,2,4],objs:=[],boxes:=[2,4] }
  | 4=>some { keep:=[1,2,4],objs:=[],boxes:=[2,4] }
  | 6=>some { keep:=[1,2,4],objs:=[],boxes:=[2,4] }
  | _=>none
def Ac.Bx.Bb:List (Nat × Entry):=[(222,Ac.E7.spec),(173,Ac.Gn.spec),(171,Ac.Made.spec)]
def Ac.Bx.E:Env:=Be (Ba Ac.Bx.Bb) (fun _=>false) Ac.Bx.hint (fun _=>none)
def Ac.Bx.L0 (N M:Nat) (p1:Int) (p2:Bool) (p2_1:List Int):Option DV:=B7 Ac.Bx.E N Tryz.f178 (Al Tryz.f178) [1,0,0] [] M ⟨Fy 63 [(1,.int .i64 p1),(2,.ptr 2 0 0),(4,.ptr 4 0 0)],[(2,false,.box [.bool p2,.ints .arg .u32 p2_1]),(4,false,.box [.bool false,.nil])]⟩
def Ac.Bx.L1 (N M:Nat) (p1_1:Int) (p2_2:Bool) (p2_3:List Int):Option DV:=B7 Ac.Bx.E N Tryz.f178 (Al Tryz.f178) [1,1,0,0] [] M ⟨Fy 63 [(1,.int .i64 p1_1),(2,.ptr 2 0 0),(4,.ptr 4 0 0)],[(2,false,.box [.bool p2_2,.ints .arg .u32 p2_3]),(4,false,.box [.bool false,.nil])]⟩
def Ac.Bx.L2 (N M:Nat) (p1_2:Int) (p2_4:Bool) (p2_5:List Int):Option DV:=B7 Ac.Bx.E N Tryz.f178 (Al Tryz.f178) [1,1,1,0,0] [] M ⟨Fy 63 [(1,.int .i64 p1_2),(2,.ptr 2 0 0),(4,.ptr 4 0 0)],[(2,false,.box [.bool p2_4,.ints .arg .u32 p2_5]),(4,false,.box [.bool false,.nil])]⟩
def Ac.Bx.L3 (N M:Nat) (p1_3:Int) (p2_6:Bool) (p2_7:List Int):Option DV:=B7 Ac.Bx.E N Tryz.f178 (Al Tryz.f178) [1,1,1,1,0,0] [] M ⟨Fy 63 [(1,.int .i64 p1_3),(2,.ptr 2 0 0),(4,.ptr 4 0 0)],[(2,false,.box [.bool p2_6,.ints .arg .u32 p2_7]),(4,false,.box [.bool false,.nil])]⟩
theorem Ac.Bx.At (N M:Nat) (p1:Int) (p2:Bool) (p2_1:List Int):Ac.Bx.L0 N (M+1) p1 p2 p2_1=bif ((Dv 32 p1)&&(A4 0 (List.length p2_1:Int))) then bif (decide (1+(List.length p2_1)≤Gf)) then bif (Fh ([(0:Int)]++p2_1)) then Ac.Bx.L0 N M (Ab (p1-32)) (Av (wv p2 ([(0:Int)]++p2_1))) (Ae (wv p2 ([(0:Int)]++p2_1))) else none else none else Ac.Bx.L1 N N p1 p2 p2_1 :=
  Eq.trans (by kernel_rfl)
  (Ar (N2 (Dv 32 p1)) (Ar (Ke (Dv 32 p1)) (Ar (Ke (Dv 32 p1)) (Ar (Ke (Dv 32 p1)) (Ar (Sj (Dv 32 p1)) (C3 (tt1 (Dv 32 p1) (A4 0 (List.length p2_1:Int))) (C3 (C4 (decide (1+(List.length p2_1)≤Gf))) (C3 (C4 (Fh ([(0:Int)]++p2_1))) rfl rfl) rfl) rfl))))))
theorem Ac.Bx.Ck (N M:Nat) (p1_1:Int) (p2_2:Bool) (p2_3:List Int):Ac.Bx.L1 N (M+1) p1_1 p2_2 p2_3=bif ((A4 0 p1_1)&&(A4 0 (List.length p2_3:Int))) then bif (Ib p2_2 p2_3) then Ac.Bx.L1 N M (Ab (p1_1-1)) (Av (2*wv p2_2 p2_3)) (Ae (2*wv p2_2 p2_3)) else none else Ac.Bx.L2 N N p1_1 p2_2 p2_3 :=
  Eq.trans (by kernel_rfl)
  (Ar (N2 (A4 0 p1_1)) (Ar (Ke (A4 0 p1_1)) (Ar (Ke (A4 0 p1_1)) (Ar (Ke (A4 0 p1_1)) (Ar (Sj (A4 0 p1_1)) (C3 (tt1 (A4 0 p1_1) (A4 0 (List.length p2_3:Int))) rfl rfl))))))
theorem Ac.Bx.Hd (N M:Nat) (p1_2:Int) (p2_4:Bool) (p2_5:List Int):Ac.Bx.L2 N (M+1) p1_2 p2_4 p2_5=bif ((Dv p1_2 (-32:Int))&&(A4 0 (List.length p2_5:Int))) then bif (decide ((1:Int)≤(List.length p2_5:Int))) then bif (Fh (List.drop 1 p2_5)) then Ac.Bx.L2 N M (Ab (p1_2+32)) (Av (wv p2_4 (List.drop 1 p2_5))) (Ae (wv p2_4 (List.drop 1 p2_5))) else none else none else Ac.Bx.L3 N N p1_2 p2_4 p2_5 :=
  Eq.trans (by kernel_rfl)
  (Ar (N2 (Dv p1_2 (-32:Int))) (Ar (Ke (Dv p1_2 (-32:Int))) (Ar (Ke (Dv p1_2 (-32:Int))) (Ar (Ke (Dv p1_2 (-32:Int))) (Ar (Sj (Dv p1_2 (-32:Int))) (C3 (tt1 (Dv p1_2 (-32:Int)) (A4 0 (List.length p2_5:Int))) (C3 (As0 (decide ((1:Int)≤(List.length p2_5:Int)))) (C3 (C4 (Fh (List.drop 1 p2_5))) rfl rfl) rfl) rfl))))))
theorem Ac.Bx.Aaj (N M:Nat) (p1_3:Int) (p2_6:Bool) (p2_7:List Int):Ac.Bx.L3 N (M+1) p1_3 p2_6 p2_7=bif ((A4 p1_3 0)&&(A4 0 (List.length p2_7:Int))) then bif (Ib p2_6 p2_7) then Ac.Bx.L3 N M (Ab (p1_3+1)) (Av (Ji (wv p2_6 p2_7) 1)) (Ae (Ji (wv p2_6 p2_7) 1)) else none else some (.agg [.bool p2_6,.ints .arg .u32 p2_7]) :=
  Eq.trans (by kernel_rfl)
  (Ar (N2 (A4 p1_3 0)) (Ar (Ke (A4 p1_3 0)) (Ar (Ke (A4 p1_3 0)) (Ar (Ke (A4 p1_3 0)) (Ar (Sj (A4 p1_3 0)) (C3 (tt1 (A4 p1_3 0) (A4 0 (List.length p2_7:Int))) rfl rfl))))))
theorem Ac.Bx.ev (N:Nat) (n:Bool) (a:List Int) (k:Int):B0 Ac.Bx.E N Tryz.f178 (Al Tryz.f178) [.agg [.bool n,.ints .arg .u32 a],.int .i64 k] =
  Ac.Bx.L0 N N k n a:=by kernel_rfl
abbrev _root_.Go.Proofs.S1.Ac.Bx.Kn:=A8 Tryz.prog 178 Ac.Bx.spec
theorem Ac.Bx.Ad (hk:Az Tryz.prog Ac.Bx.Bb) (h:∀ (n:Bool) (a:List Int) (k:Int),Ac.Bx.pre [.b n,.l a,.i k]=true→Bf Ac.Bx.E Tryz.f178 [.agg [.bool n,.ints .arg .u32 a],.int .i64 k] (Ac.Bx.out [.b n,.l a,.i k])):Ac.Bx.Kn :=
  Ak (A0 hk _ _ _) Tryz.func178 (by kernel_rfl) (by kernel_rfl) h
def Ac.O5.hint:Nat→Option A9
  | 0=>some { keep:=[3,4],objs:=[],boxes:=[] }
  | _=>none
def Ac.O5.Bb:List (Nat × Entry):=[]
def Ac.O5.E:Env:=Be (Ba Ac.O5.Bb) (fun _=>false) Ac.O5.hint (fun _=>none)
def Ac.O5.L0 (N M:Nat) (p3 p4:Int):Option DV:=B7 Ac.O5.E N Tryz.f223 (Al Tryz.f223) [1,1,1,0,1,0] [] M ⟨Fy 29 [(3,.int .i64 p3),(4,.int .u32 p4)],[]⟩
theorem Ac.O5.At (N M:Nat) (p3 p4:Int):Ac.O5.L0 N (M+1) p3 p4=bif (A4 0 p4) then Ac.O5.L0 N M (Ab (p3+1)) (Hj (Int.tdiv p4 2)) else some (.int .i64 p3):=by kernel_rfl
theorem Ac.O5.ev (N:Nat) (n:Bool) (a:List Int):B0 Ac.O5.E N Tryz.f223 (Al Tryz.f223) [.agg [.bool n,.ints .arg .u32 a]]=bif ((List.length a:Int)==(0:Int)) then some (.int .i64 0) else bif ((decide (0≤(Ab ((List.length a:Int)-1))))&&(decide ((Ab ((List.length a:Int)-1))<(List.length a:Int)))) then Ac.O5.L0 N N (Ab ((32:Int)*(Ab ((List.length a:Int)-1)))) (List.getD a (Int.toNat (Ab ((List.length a:Int)-1))) 0) else none:=by kernel_rfl
abbrev _root_.Go.Proofs.S1.Ac.O5.Kn:=A8 Tryz.prog 223 Ac.O5.spec
theorem Ac.O5.Ad (hk:Az Tryz.prog Ac.O5.Bb) (h:∀ (n:Bool) (a:List Int),Ac.O5.pre [.b n,.l a]=true→Bf Ac.O5.E Tryz.f223 [.agg [.bool n,.ints .arg .u32 a]] (Ac.O5.out [.b n,.l a])):Ac.O5.Kn :=
  Ak (A0 hk _ _ _) Tryz.func223 (by kernel_rfl) (by kernel_rfl) h
def Ac.Ux.Bb:List (Nat × Entry):=[]
def Ac.Ux.E:Env:=Be (Ba Ac.Ux.Bb) (fun _=>false) (fun _=>none) (fun _=>none)
theorem Ac.Ux.ev (N:Nat) (n:Bool) (a:List Int):B0 Ac.Ux.E N Tryz.f172 (Al Tryz.f172) [.agg [.bool n,.ints .arg .u32 a]]=bif ((!(A4 0 (List.length a:Int)))||(decide ((0:Int)<(List.length a:Int)))) then some (.bool (bif (A4 0 (List.length a:Int)) then ((Int.tmod (List.getD a 0 0) 2)==(1:Int)) else false)) else none :=
  Eq.trans (by kernel_rfl)
  (Ar (N2 (A4 0 (List.length a:Int))) (Ar (Ke (A4 0 (List.length a:Int))) (C3 (Ap7 (A4 0 (List.length a:Int)) (decide ((0:Int)<(List.length a:Int)))) (Ar (Ke (A4 0 (List.length a:Int))) (Ar (Ke (A4 0 (List.length a:Int))) (Ar (Ke (A4 0 (List.length a:Int))) (Ar (Sj (A4 0 (List.length a:Int))) rfl)))) rfl)))
abbrev _root_.Go.Proofs.S1.Ac.Ux.Kn:=A8 Tryz.prog 172 Ac.Ux.spec
theorem Ac.Ux.Ad (hk:Az Tryz.prog Ac.Ux.Bb) (h:∀ (n:Bool) (a:List Int),Ac.Ux.pre [.b n,.l a]=true→Bf Ac.Ux.E Tryz.f172 [.agg [.bool n,.ints .arg .u32 a]] (Ac.Ux.out [.b n,.l a])):Ac.Ux.Kn :=
  Ak (A0 hk _ _ _) Tryz.func172 (by kernel_rfl) (by kernel_rfl) h
def Ac.D2.hint:Nat→Option A9
  | 0=>some { keep:=[2,3,5],objs:=[],boxes:=[2,3] }
  | _=>none
def Ac.D2.Bb:List (Nat × Entry):=[]
def Ac.D2.E:Env:=Be (Ba Ac.D2.Bb) (fun _=>false) Ac.D2.hint (fun _=>none)
def Ac.D2.L0 (N M:Nat) (n:Bool) (a:List Int) (m:Bool) (b:List Int) (p5:Int):Option DV:=B7 Ac.D2.E N Tryz.f133 (Al Tryz.f133) [1,1,0,1,0] [] M ⟨Fy 38 [(2,.ptr 2 0 0),(3,.ptr 3 0 0),(5,.int .i64 p5)],[(2,false,.box [.bool n,.ints .arg .u32 a]),(3,false,.box [.bool m,.ints .arg .u32 b])]⟩
theorem Ac.D2.At (N M:Nat) (n:Bool) (a:List Int) (m:Bool) (b:List Int) (p5:Int):Ac.D2.L0 N (M+1) n a m b p5=bif (A4 p5 (List.length a:Int)) then bif ((decide (0≤p5))&&(decide (p5<(List.length a:Int)))) then bif ((decide (0≤p5))&&(decide (p5<(List.length b:Int)))) then bif ((List.getD a (Int.toNat p5) 0) !=(List.getD b (Int.toNat p5) 0)) then some (.bool false) else Ac.D2.L0 N M n a m b (Ab (p5+1)) else none else none else some (.bool true) :=
  Eq.trans (by kernel_rfl)
  (Ev (C3 (Li (decide (0≤p5)) (decide (p5<(List.length a:Int)))) (C3 (Li (decide (0≤p5)) (decide (p5<(List.length b:Int)))) rfl rfl) rfl) rfl)
theorem Ac.D2.ev (N:Nat) (n:Bool) (a:List Int) (m:Bool) (b:List Int):B0 Ac.D2.E N Tryz.f133 (Al Tryz.f133) [.agg [.bool n,.ints .arg .u32 a],.agg [.bool m,.ints .arg .u32 b]]=bif ((!(n==m))||((List.length a:Int) !=(List.length b:Int))) then some (.bool false) else Ac.D2.L0 N N n a m b 0 :=
  Eq.trans (by kernel_rfl)
  (Ar (Asz n m) (Ar (Amu n m) (Ar (Amu n m) (Ar (Asz n m) (Ar (Amu n m) (Ar (Amu n m) (Ar (tt84 n m) (Ar (tt83 n m) (C3 (tt82 n m ((List.length a:Int) !=(List.length b:Int))) rfl rfl)))))))))
abbrev _root_.Go.Proofs.S1.Ac.D2.Kn:=A8 Tryz.prog 133 Ac.D2.spec
theorem Ac.D2.Ad (hk:Az Tryz.prog Ac.D2.Bb) (h:∀ (n:Bool) (a:List Int) (m:Bool) (b:List Int),Ac.D2.pre [.b n,.l a,.b m,.l b]=true→Bf Ac.D2.E Tryz.f133 [.agg [.bool n,.ints .arg .u32 a],.agg [.bool m,.ints .arg .u32 b]] (Ac.D2.out [.b n,.l a,.b m,.l b])):Ac.D2.Kn :=
  Ak (A0 hk _ _ _) Tryz.func133 (by kernel_rfl) (by kernel_rfl) h
end EqRefB
end Go.Proofs.S1
end
