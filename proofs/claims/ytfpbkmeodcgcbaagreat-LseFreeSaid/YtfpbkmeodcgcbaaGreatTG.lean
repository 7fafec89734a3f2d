/- A verified evaluator of the program's form and its use for this seat: S1Tt, S1EqSoft, S1PSoft, S1EqRefD, S1PRefD, S1EqRefA, S1PRefA, S1PRefAa, S1EqRefB, S1PRefB, S1PRefBa, S1EqRefC, S1PRefC, S1PRefCa, S1EqRefE, S1PRefV, S1PPack, S1PNear. -/
import Derived.Test.YtfpbkmeodcgcbaaGreatTE
import Derived.Test.YtfpbkmeodcgcbaaGreatTF
set_option linter.unusedVariables false
set_option linter.unusedSimpArgs false
open Option renaming some->xM,none->xN
open Bool renaming true->wg,false->wy
open Int renaming toNat->wz
open List renaming length->vA,getD->vB
open Int renaming tdiv->zB,tmod->zH,lt_or_le->y6,zero_mul->yx,mul_assoc->wc,natAbs_mul->yw,natAbs_natCast->zX,natAbs_neg->y7,lt_trichotomy->wj,neg_mul->xK
open Bool renaming false_and->z6,and_eq_false_iff->yP,or_eq_true->zN,or_eq_false_iff->yD
open Nat renaming mul_zero->yj,div_lt_iff_lt_mul->yM,div_eq_of_lt->z8,div_one->yO,div_le_div_right->wN,div_le_self->yE,pow_succ->zG,log2_self_le->zS,lt_trans->y9,one_mul->zA
open List renaming mem_cons->zL,replicate->zq,drop->zM,length_cons->zt,length_drop->zW
noncomputable section
open Go.Proofs.Tryz
namespace Go.Proofs.S1
theorem tt0:∀a b c:Bool,((a==a)&&(b&&(c&&wg)))=(b&&c):=by decide
theorem tt1:∀a b:Bool,(cond a b wy)=(a&&b):=by decide
theorem Pp:∀a:Bool,(((!a)||(a==wg))&&wg)=wg:=by decide
theorem Ka:∀a:Bool,((!(a==wg))||((((!(a==wg))||(a==wg))&&wg)&&wg))=wg:=by decide
theorem L8:∀a:Bool,((!(a==wg))||wg)=wg:=by decide
theorem tt5:∀a b:Bool,(cond a wg b)=(a||b):=by decide
theorem SM:∀a:Bool,((!(!a))||(a==wy))=wg:=by decide
theorem Nx:∀a:Bool,((!(a==wy))||((((!(a==wy))||(a==wy))&&wg)&&wg))=wg:=by decide
theorem tt8:∀a:Bool,((!(a==wy))||((((!(a==wy))||(a==wy))&&(((!(a==wy))||(a==wy))&&wg))&&wg))=wg:=by decide
theorem O1:∀a:Bool,((!(a==wy))||wg)=wg:=by decide
theorem Cp:∀a:Bool,(a&&wg)=a:=by decide
theorem AoB:∀a b c d e:Bool,(cond a (bif b then wg else (cond c (bif d then wg else e) wy)) wy)=(a&&(b||(c&&(d||e)))):=by decide
theorem Anh:∀a b:Bool,((!(a==wg))||(((!(a==wg))||(a==wg))&&((!(!b))||((a==wg)&&(b==wy)))))=wg:=by decide
theorem AoA:∀a b c:Bool,((!((a==wg)&&(b==wy)))||(((!((a==wg)&&(b==wy)))||((a==wg)&&(b==wy)))&&(((!c)||(((a==wg)&&(b==wy))&&(c==wg)))&&wg)))=wg:=by decide
theorem Ao9:∀a b c d:Bool,((!(((a==wg)&&(b==wy))&&(c==wg)))||(((!(((a==wg)&&(b==wy))&&(c==wg)))||(((a==wg)&&(b==wy))&&(c==wg)))&&((!(!d))||((((a==wg)&&(b==wy))&&(c==wg))&&(d==wy)))))=wg:=by decide
theorem Ang:∀a b c d:Bool,((!((((a==wg)&&(b==wy))&&(c==wg))&&(d==wy)))||((((!((((a==wg)&&(b==wy))&&(c==wg))&&(d==wy)))||((((a==wg)&&(b==wy))&&(c==wg))&&(d==wy)))&&wg)&&wg))=wg:=by decide
theorem Ao8:∀a b c d:Bool,((!((((a==wg)&&(b==wy))&&(c==wg))&&(d==wy)))||wg)=wg:=by decide
theorem Ao7:∀a b c:Bool,((!(((a==wg)&&(b==wy))&&(c==wg)))||((((!(((a==wg)&&(b==wy))&&(c==wg)))||(((a==wg)&&(b==wy))&&(c==wg)))&&wg)&&wg))=wg:=by decide
theorem Ao6:∀a b c:Bool,((!(((a==wg)&&(b==wy))&&(c==wg)))||wg)=wg:=by decide
theorem Anf:∀a b:Bool,((!((a==wg)&&(b==wy)))||((((!((a==wg)&&(b==wy)))||((a==wg)&&(b==wy)))&&wg)&&wg))=wg:=by decide
theorem Ane:∀a b:Bool,((!((a==wg)&&(b==wy)))||((((!((a==wg)&&(b==wy)))||((a==wg)&&(b==wy)))&&(((!((a==wg)&&(b==wy)))||((a==wg)&&(b==wy)))&&wg))&&wg))=wg:=by decide
theorem AfO:∀a b:Bool,((!((a==wg)&&(b==wy)))||wg)=wg:=by decide
theorem WQ:∀a:Bool,((!(a==wg))||((((!(a==wg))||(a==wg))&&(((!(a==wg))||(a==wg))&&wg))&&wg))=wg:=by decide
theorem Alv:∀a b:Bool,(cond (!a) wg b)=((!a)||b):=by decide
theorem WO:∀a:Bool,((!(!(!a)))||((!a)==wy))=wg:=by decide
theorem PA:∀a:Bool,((!((!a)==wy))||((((!((!a)==wy))||((!a)==wy))&&wg)&&wg))=wg:=by decide
theorem WN:∀a:Bool,((!((!a)==wy))||wg)=wg:=by decide
theorem Ao5:∀a b:Bool,(cond a (!b) wy)=(a&&(!b)):=by decide
theorem AfN:∀a b:Bool,(cond (!a) wg (!b))=((!a)||(!b)):=by decide
theorem Ad9:∀a b:Bool,((!((!a)==wy))||((((!((!a)==wy))||((!a)==wy))&&wg)&&b))=((!a)||b):=by decide
theorem Anc:∀a b c d:Bool,(cond (bif a then b else wy) wg (bif c then d else wy))=((a&&b)||(c&&d)):=by decide
theorem Anb:∀a b:Bool,((!(!(cond a b wy)))||((cond a b wy)==wy))=wg:=by decide
theorem Ana:∀a b c:Bool,((!((cond a b wy)==wy))||(((!((cond a b wy)==wy))||((cond a b wy)==wy))&&(((!c)||(((cond a b wy)==wy)&&(c==wg)))&&wg)))=wg:=by decide
theorem AmZ:∀a b c:Bool,((!(((cond a b wy)==wy)&&(c==wg)))||((((!(((cond a b wy)==wy)&&(c==wg)))||(((cond a b wy)==wy)&&(c==wg)))&&wg)&&wg))=wg:=by decide
theorem AmY:∀a b c:Bool,((!(((cond a b wy)==wy)&&(c==wg)))||wg)=wg:=by decide
theorem AiS:∀a b:Bool,((!((cond a b wy)==wy))||((((!((cond a b wy)==wy))||((cond a b wy)==wy))&&wg)&&wg))=wg:=by decide
theorem AmX:∀a b:Bool,((!((cond a b wy)==wy))||wg)=wg:=by decide
theorem I1:∀a b:Bool,((a&&b)&&wg)=(a&&b):=by decide
theorem Ao4:∀a b c:Bool,(cond (bif (!a) then wg else (!b)) wg c)=(((!a)||(!b))||c):=by decide
theorem Ao3:∀a b:Bool,((!(!(cond (!a) wg (!b))))||((cond (!a) wg (!b))==wy))=wg:=by decide
theorem AmW:∀a b:Bool,((!((cond (!a) wg (!b))==wy))||((((!((cond (!a) wg (!b))==wy))||((cond (!a) wg (!b))==wy))&&(((!((cond (!a) wg (!b))==wy))||((cond (!a) wg (!b))==wy))&&wg))&&wg))=wg:=by decide
theorem AiR:∀a b:Bool,((!((cond (!a) wg (!b))==wy))||((((!((cond (!a) wg (!b))==wy))||((cond (!a) wg (!b))==wy))&&wg)&&wg))=wg:=by decide
theorem Alu:∀a b:Bool,((!((cond (!a) wg (!b))==wy))||wg)=wg:=by decide
theorem AmV:∀a b c d:Bool,(((a&&b)&&(c&&d))&&wg)=((a&&b)&&(c&&d)):=by decide
theorem Ao2:∀a b c d e f g h:Bool,(cond (bif (cond (bif (cond (bif (cond a wg b) then wg else c) wg d) then wg else e) wg f) then wg else g) wg h)=(((((((a||b)||c)||d)||e)||f)||g)||h):=by decide
theorem Ao1:∀a b c d e f g:Bool,((!(!(cond (bif (cond (bif (cond (bif a then wg else b) wg c) then wg else d) wg e) then wg else f) wg g)))||((cond (bif (cond (bif (cond (bif a then wg else b) wg c) then wg else d) wg e) then wg else f) wg g)==wy))=wg:=by decide
theorem AmU:∀a b c d e f g:Bool,((!((cond (bif (cond (bif (cond (bif a then wg else b) wg c) then wg else d) wg e) then wg else f) wg g)==wy))||((((!((cond (bif (cond (bif (cond (bif a then wg else b) wg c) then wg else d) wg e) then wg else f) wg g)==wy))||((cond (bif (cond (bif (cond (bif a then wg else b) wg c) then wg else d) wg e) then wg else f) wg g)==wy))&&(((!((cond (bif (cond (bif (cond (bif a then wg else b) wg c) then wg else d) wg e) then wg else f) wg g)==wy))||((cond (bif (cond (bif (cond (bif a then wg else b) wg c) then wg else d) wg e) then wg else f) wg g)==wy))&&wg))&&wg))=wg:=by decide
theorem Als:∀a b c d e f g:Bool,((!((cond (bif (cond (bif (cond (bif a then wg else b) wg c) then wg else d) wg e) then wg else f) wg g)==wy))||wg)=wg:=by decide
theorem Ao0:∀a b c d e f g:Bool,((!((cond (bif (cond (bif (cond (bif a then wg else b) wg c) then wg else d) wg e) then wg else f) wg g)==wy))||((((!((cond (bif (cond (bif (cond (bif a then wg else b) wg c) then wg else d) wg e) then wg else f) wg g)==wy))||((cond (bif (cond (bif (cond (bif a then wg else b) wg c) then wg else d) wg e) then wg else f) wg g)==wy))&&wg)&&wg))=wg:=by decide
theorem AmT:∀a b c d e f:Bool,((!(!(cond (bif (cond (bif (cond a wg b) then wg else c) wg d) then wg else e) wg f)))||((cond (bif (cond (bif (cond a wg b) then wg else c) wg d) then wg else e) wg f)==wy))=wg:=by decide
theorem AiQ:∀a b c d e f:Bool,((!((cond (bif (cond (bif (cond a wg b) then wg else c) wg d) then wg else e) wg f)==wy))||((((!((cond (bif (cond (bif (cond a wg b) then wg else c) wg d) then wg else e) wg f)==wy))||((cond (bif (cond (bif (cond a wg b) then wg else c) wg d) then wg else e) wg f)==wy))&&(((!((cond (bif (cond (bif (cond a wg b) then wg else c) wg d) then wg else e) wg f)==wy))||((cond (bif (cond (bif (cond a wg b) then wg else c) wg d) then wg else e) wg f)==wy))&&wg))&&wg))=wg:=by decide
theorem Ad8:∀a b c d e f:Bool,((!((cond (bif (cond (bif (cond a wg b) then wg else c) wg d) then wg else e) wg f)==wy))||wg)=wg:=by decide
theorem Alr:∀a b c d e f:Bool,((!((cond (bif (cond (bif (cond a wg b) then wg else c) wg d) then wg else e) wg f)==wy))||((((!((cond (bif (cond (bif (cond a wg b) then wg else c) wg d) then wg else e) wg f)==wy))||((cond (bif (cond (bif (cond a wg b) then wg else c) wg d) then wg else e) wg f)==wy))&&wg)&&wg))=wg:=by decide
theorem AmS:∀a b c d e:Bool,((!(!(cond (bif (cond (bif a then wg else b) wg c) then wg else d) wg e)))||((cond (bif (cond (bif a then wg else b) wg c) then wg else d) wg e)==wy))=wg:=by decide
theorem AmR:∀a b c d e:Bool,((!((cond (bif (cond (bif a then wg else b) wg c) then wg else d) wg e)==wy))||((((!((cond (bif (cond (bif a then wg else b) wg c) then wg else d) wg e)==wy))||((cond (bif (cond (bif a then wg else b) wg c) then wg else d) wg e)==wy))&&(((!((cond (bif (cond (bif a then wg else b) wg c) then wg else d) wg e)==wy))||((cond (bif (cond (bif a then wg else b) wg c) then wg else d) wg e)==wy))&&wg))&&wg))=wg:=by decide
theorem Aoz:∀a b c d e:Bool,((!((cond (bif (cond (bif a then wg else b) wg c) then wg else d) wg e)==wy))||((((!((cond (bif (cond (bif a then wg else b) wg c) then wg else d) wg e)==wy))||((cond (bif (cond (bif a then wg else b) wg c) then wg else d) wg e)==wy))&&wg)&&wg))=wg:=by decide
theorem AiP:∀a b c d e:Bool,((!((cond (bif (cond (bif a then wg else b) wg c) then wg else d) wg e)==wy))||wg)=wg:=by decide
theorem Alq:∀a b c d:Bool,((!(!(cond (bif (cond a wg b) then wg else c) wg d)))||((cond (bif (cond a wg b) then wg else c) wg d)==wy))=wg:=by decide
theorem AmQ:∀a b c d:Bool,((!((cond (bif (cond a wg b) then wg else c) wg d)==wy))||((((!((cond (bif (cond a wg b) then wg else c) wg d)==wy))||((cond (bif (cond a wg b) then wg else c) wg d)==wy))&&(((!((cond (bif (cond a wg b) then wg else c) wg d)==wy))||((cond (bif (cond a wg b) then wg else c) wg d)==wy))&&wg))&&wg))=wg:=by decide
theorem AfM:∀a b c d:Bool,((!((cond (bif (cond a wg b) then wg else c) wg d)==wy))||((((!((cond (bif (cond a wg b) then wg else c) wg d)==wy))||((cond (bif (cond a wg b) then wg else c) wg d)==wy))&&wg)&&wg))=wg:=by decide
theorem AfL:∀a b c d:Bool,((!((cond (bif (cond a wg b) then wg else c) wg d)==wy))||wg)=wg:=by decide
theorem Alp:∀a b c:Bool,((!(!(cond (bif a then wg else b) wg c)))||((cond (bif a then wg else b) wg c)==wy))=wg:=by decide
theorem AfK:∀a b c:Bool,((!((cond (bif a then wg else b) wg c)==wy))||((((!((cond (bif a then wg else b) wg c)==wy))||((cond (bif a then wg else b) wg c)==wy))&&wg)&&wg))=wg:=by decide
theorem Alo:∀a b c:Bool,((!((cond (bif a then wg else b) wg c)==wy))||wg)=wg:=by decide
theorem Aln:∀a b:Bool,((!(!(cond a wg b)))||((cond a wg b)==wy))=wg:=by decide
theorem AfJ:∀a b:Bool,((!((cond a wg b)==wy))||((((!((cond a wg b)==wy))||((cond a wg b)==wy))&&wg)&&wg))=wg:=by decide
theorem Ad7:∀a b:Bool,((!((cond a wg b)==wy))||wg)=wg:=by decide
theorem Aoy:∀a b:Bool,(!(a&&(b&&wg)))=(!(a&&b)):=by decide
theorem Aox:∀a b c d:Bool,(((!(cond (bif (cond a b wy) then c else wy) d wy))||((cond (bif (cond a b wy) then c else wy) d wy)==wg))&&wg)=wg:=by decide
theorem AmP:∀a b c d:Bool,((!((cond (bif (cond a b wy) then c else wy) d wy)==wg))||((((!((cond (bif (cond a b wy) then c else wy) d wy)==wg))||((cond (bif (cond a b wy) then c else wy) d wy)==wg))&&(((!((cond (bif (cond a b wy) then c else wy) d wy)==wg))||((cond (bif (cond a b wy) then c else wy) d wy)==wg))&&wg))&&wg))=wg:=by decide
theorem AiO:∀a b c d:Bool,((!((cond (bif (cond a b wy) then c else wy) d wy)==wg))||((((!((cond (bif (cond a b wy) then c else wy) d wy)==wg))||((cond (bif (cond a b wy) then c else wy) d wy)==wg))&&wg)&&wg))=wg:=by decide
theorem Alm:∀a b c d:Bool,((!((cond (bif (cond a b wy) then c else wy) d wy)==wg))||wg)=wg:=by decide
theorem Aow:∀a b c:Bool,(((!(cond (bif a then b else wy) c wy))||((cond (bif a then b else wy) c wy)==wg))&&wg)=wg:=by decide
theorem AmO:∀a b c:Bool,((!((cond (bif a then b else wy) c wy)==wg))||((((!((cond (bif a then b else wy) c wy)==wg))||((cond (bif a then b else wy) c wy)==wg))&&wg)&&wg))=wg:=by decide
theorem Aov:∀a b c:Bool,((!((cond (bif a then b else wy) c wy)==wg))||wg)=wg:=by decide
theorem AmN:∀a b:Bool,(((!(cond a b wy))||((cond a b wy)==wg))&&wg)=wg:=by decide
theorem AfI:∀a b:Bool,((!((cond a b wy)==wg))||((((!((cond a b wy)==wg))||((cond a b wy)==wg))&&wg)&&wg))=wg:=by decide
theorem AmM:∀a b:Bool,((!((cond a b wy)==wg))||wg)=wg:=by decide
theorem AmL:∀a b c:Bool,((!(a==wg))||((((!(a==wg))||(a==wg))&&(((!(a==wg))||(a==wg))&&wg))&&(b&&c)))=((!a)||(b&&c)):=by decide
theorem AmK:∀a:Bool,(((a&&wg)&&wg)&&wg)=a:=by decide
theorem All:∀a b:Bool,((!(a==wg))||((((!(a==wg))||(a==wg))&&wg)&&b))=((!a)||b):=by decide
theorem AiN:∀a b:Bool,((!(a==wy))||((((!(a==wy))||(a==wy))&&wg)&&b))=(a||b):=by decide
theorem AmJ:∀a b:Bool,(cond a wg (!b))=(a||(!b)):=by decide
theorem Alk:∀a b c:Bool,((a&&b)&&((a&&c)&&wg))=((a&&b)&&(a&&c)):=by decide
theorem Aou:∀a:Bool,((a&&wg)&&wg)=a:=by decide
theorem Aot:∀a b c d e:Bool,(cond (bif (cond (bif a then wg else b) wg c) then wg else d) wg e)=((((a||b)||c)||d)||e):=by decide
theorem Alj:∀a b:Bool,((!((cond a wg b)==wy))||((((!((cond a wg b)==wy))||((cond a wg b)==wy))&&(((!((cond a wg b)==wy))||((cond a wg b)==wy))&&wg))&&wg))=wg:=by decide
theorem Aos:∀a b c d e f g:Bool,(cond (bif (cond (bif (cond (bif a then wg else b) wg c) then wg else d) wg e) then wg else f) wg g)=((((((a||b)||c)||d)||e)||f)||g):=by decide
theorem Aor:∀a b c:Bool,((!((cond a b wy)==wg))||((((!((cond a b wy)==wg))||((cond a b wy)==wg))&&wg)&&c))=((!(a&&b))||c):=by decide
theorem Aoq:∀a b c:Bool,(cond a (bif b then wg else c) wy)=(a&&(b||c)):=by decide
theorem Aop:∀a b c:Bool,((!((a==wg)&&(b==wy)))||((((!((a==wg)&&(b==wy)))||((a==wg)&&(b==wy)))&&wg)&&c))=((!(a&&(!b)))||c):=by decide
theorem Aoo:∀a b c d:Bool,((!((a==wg)&&(b==wy)))||((((!((a==wg)&&(b==wy)))||((a==wg)&&(b==wy)))&&(((!((a==wg)&&(b==wy)))||((a==wg)&&(b==wy)))&&wg))&&(c&&d)))=((!(a&&(!b)))||(c&&d)):=by decide
theorem Aon:∀a b:Bool,((!(a==wg))||((((!(a==wg))||(a==wg))&&(((!(a==wg))||(a==wg))&&wg))&&b))=((!a)||b):=by decide
theorem AmI:∀a b c:Bool,((a&&(b&&(c&&wg)))&&wg)=(a&&(b&&c)):=by decide
theorem Aom:∀a b c:Bool,((((!(cond (bif a then b else wy) c wy))||((cond (bif a then b else wy) c wy)==wg))&&wg)&&wg)=wg:=by decide
theorem Aol:∀a b c:Bool,(((!((cond (bif a then b else wy) c wy)==wg))||wg)&&wg)=wg:=by decide
theorem Aok:∀a b:Bool,((((!(cond a b wy))||((cond a b wy)==wg))&&wg)&&wg)=wg:=by decide
theorem Aoj:∀a b c:Bool,(((!((cond a b wy)==wg))||((((!((cond a b wy)==wg))||((cond a b wy)==wg))&&(((!((cond a b wy)==wg))||((cond a b wy)==wg))&&wg))&&c))&&wg)=((!(a&&b))||c):=by decide
theorem AiM:∀a b:Bool,(((!((cond a b wy)==wg))||wg)&&wg)=wg:=by decide
theorem Aoi:∀a b c:Bool,(((!((cond a b wy)==wg))||((((!((cond a b wy)==wg))||((cond a b wy)==wg))&&(((!((cond a b wy)==wg))||((cond a b wy)==wg))&&(((!((cond a b wy)==wg))||((cond a b wy)==wg))&&wg)))&&c))&&wg)=((!(a&&b))||c):=by decide
theorem Anj:∀a:Bool,((((!a)||(a==wg))&&wg)&&wg)=wg:=by decide
theorem AkE:∀a:Bool,(((!(a==wg))||((((!(a==wg))||(a==wg))&&wg)&&wg))&&wg)=wg:=by decide
theorem Ani:∀a:Bool,(((!(a==wg))||wg)&&wg)=wg:=by decide
open Go Go.Den Go.CI Go.Proofs
set_option maxRecDepth 100000
def soft.Split.Il:List (Nat × EC):=[]
def soft.Split.E:Env:=CP (CC soft.Split.Il) (fun _=>wy) (fun _=>xN) (fun _=>xN)
theorem soft.Split.ev(N:Nat)(x:Int):BX soft.Split.E N f152 (Br f152) [.int .u64 x]=xM (.agg [.bool ((D7 .u64 x 63)==(1:Int)),.int .i64 (Be (ED .u64 (D7 .u64 x 52) 2047)),.int .u64 (ED .u64 x 4503599627370495)]):=by kernel_rfl
abbrev soft.Split.Kn:=DR prog 152 soft.Split.Bk
theorem soft.Split.DF(hk:FD prog soft.Split.Il)(h:Hyp soft.Split.E f152 soft.Split.ts soft.Split.pre soft.Split.out):soft.Split.Kn :=Fk (Lj hk _ _ _) func152 (by kernel_rfl) (by kernel_rfl) h
def soft.Kind.Il:List (Nat × EC):=[(152,soft.Split.Bk)]
def soft.Kind.E:Env:=CP (CC soft.Kind.Il) (fun _=>wy) (fun _=>xN) (fun _=>xN)
theorem soft.Kind.ev(N:Nat)(x:Int):BX soft.Kind.E N f133 (Br f133) [.int .u64 x]=cond (Bo x) (bif (((K1 x)==(2047:Int))&&((Df x)==(0:Int))) then xM (.int .i64 3) else bif ((K1 x)==(2047:Int)) then xM (.int .i64 4) else bif (BI 0 (K1 x)) then xM (.int .i64 2) else bif (BI 0 (Df x)) then xM (.int .i64 1) else xM (.int .i64 0)) xN :=Et (DJ (C0 (tt0 (DI x) _ _) rfl rfl) rfl)
abbrev soft.Kind.Kn:=DR prog 133 soft.Kind.Bk
theorem soft.Kind.DF(hk:FD prog soft.Kind.Il)(h:Hyp soft.Kind.E f133 soft.Kind.ts soft.Kind.pre soft.Kind.out):soft.Kind.Kn :=Fk (Lj hk _ _ _) func133 (by kernel_rfl) (by kernel_rfl) h
def soft.Sign.Il:List (Nat × EC):=[]
def soft.Sign.E:Env:=CP (CC soft.Sign.Il) (fun _=>wy) (fun _=>xN) (fun _=>xN)
theorem soft.Sign.ev(N:Nat)(x:Int):BX soft.Sign.E N f159 (Br f159) [.int .u64 x]=xM (.bool ((D7 .u64 x 63)==(1:Int))):=by kernel_rfl
abbrev soft.Sign.Kn:=DR prog 159 soft.Sign.Bk
theorem soft.Sign.DF(hk:FD prog soft.Sign.Il)(h:Hyp soft.Sign.E f159 soft.Sign.ts soft.Sign.pre soft.Sign.out):soft.Sign.Kn :=Fk (Lj hk _ _ _) func159 (by kernel_rfl) (by kernel_rfl) h
def soft.Finite.Il:List (Nat × EC):=[(133,soft.Kind.Bk)]
def soft.Finite.E:Env:=CP (CC soft.Finite.Il) (fun _=>wy) (fun _=>xN) (fun _=>xN)
theorem soft.Finite.ev(N:Nat)(x:Int):BX soft.Finite.E N f99 (Br f99) [.int .u64 x]=cond (Bo x) (bif ((B8 x)==(3:Int)) then xM (.bool wy) else bif ((B8 x)==(4:Int)) then xM (.bool wy) else xM (.bool wg)) xN:=by kernel_rfl
abbrev soft.Finite.Kn:=DR prog 99 soft.Finite.Bk
theorem soft.Finite.DF(hk:FD prog soft.Finite.Il)(h:Hyp soft.Finite.E f99 soft.Finite.ts soft.Finite.pre soft.Finite.out):soft.Finite.Kn :=Fk (Lj hk _ _ _) func99 (by kernel_rfl) (by kernel_rfl) h
def soft.DO.Il:List (Nat × EC):=[]
def soft.DO.E:Env:=CP (CC soft.DO.Il) (fun _=>wy) (fun _=>xN) (fun _=>xN)
theorem soft.DO.ev(N:Nat)(x:Int):BX soft.DO.E N f142 (Br f142) [.int .u64 x]=xM (.int .u64 (Ak5 .u64 x 9223372036854775808)):=by kernel_rfl
abbrev soft.DO.Kn:=DR prog 142 soft.DO.Bk
theorem soft.DO.DF(hk:FD prog soft.DO.Il)(h:Hyp soft.DO.E f142 soft.DO.ts soft.DO.pre soft.DO.out):soft.DO.Kn :=Fk (Lj hk _ _ _) func142 (by kernel_rfl) (by kernel_rfl) h
def soft.Fh.Il:List (Nat × EC):=[(152,soft.Split.Bk)]
def soft.Fh.E:Env:=CP (CC soft.Fh.Il) (fun _=>wy) (fun _=>xN) (fun _=>xN)
theorem soft.Fh.ev(N:Nat)(x:Int):BX soft.Fh.E N f162 (Br f162) [.int .u64 x]=cond (Bo x) (bif ((K1 x)==(0:Int)) then xM (.Cw [.int .u64 (Df x),.int .i64 (-1074:Int)]) else xM (.Cw [.int .u64 (Ht .u64 (Df x) 4503599627370496),.int .i64 (Be ((K1 x)-1075))])) xN:=by kernel_rfl
abbrev soft.Fh.Kn:=DR prog 162 soft.Fh.Bk
theorem soft.Fh.DF(hk:FD prog soft.Fh.Il)(h:Hyp soft.Fh.E f162 soft.Fh.ts soft.Fh.pre soft.Fh.out):soft.Fh.Kn :=Fk (Lj hk _ _ _) func162 (by kernel_rfl) (by kernel_rfl) h
def soft.Pack.Il:List (Nat × EC):=[(142,soft.DO.Bk)]
def soft.Pack.E(rk:Nat):Env:=CP (CC ((182,AdZ [.b,.i .u64,.i .i64] soft.Pack.pre soft.Pack.out soft.Pack.mu rk)::soft.Pack.Il)) (fun _=>wy) (fun _=>xN) (fun _=>xN)
theorem soft.Pack.ev(N rk:Nat)(n:Bool)(m e:Int):BX (soft.Pack.E rk) N f182 (Br f182) [.bool n,.int .u64 m,.int .i64 e]=cond (m==(0:Int)) (bif n then cond (Bo 0) (xM (.int .u64 (CM 0))) xN else xM (.int .u64 0)) (bif (Eu 9007199254740992 m) then cond ((J9 (D7 .u64 m 1) (Be (e+1)))&&(CE ((MM (D7 .u64 m 1) (Be (e+1)))<rk))) (xM (.int .u64 (Q0 n (D7 .u64 m 1) (Be (e+1))))) xN else bif ((BI m 4503599627370496)&&(BI (-1074:Int) e)) then cond ((J9 (Cr .u64 m 1) (Be (e-1)))&&(CE ((MM (Cr .u64 m 1) (Be (e-1)))<rk))) (xM (.int .u64 (Q0 n (Cr .u64 m 1) (Be (e-1))))) xN else bif (BI m 4503599627370496) then cond n (bif (Bo m) then xM (.int .u64 (CM m)) else xN) (xM (.int .u64 m)) else bif (Eu 2047 (Be (e+1075))) then cond n (bif (Bo 9218868437227405312) then xM (.int .u64 (CM 9218868437227405312)) else xN) (xM (.int .u64 9218868437227405312)) else bif n then cond (Bo (Ht .u64 (Cr .u64 (BQ (Be (e+1075))) 52) (ED .u64 m 4503599627370495))) (xM (.int .u64 (CM (Ht .u64 (Cr .u64 (BQ (Be (e+1075))) 52) (ED .u64 m 4503599627370495))))) xN else xM (.int .u64 (Ht .u64 (Cr .u64 (BQ (Be (e+1075))) 52) (ED .u64 m 4503599627370495)))) :=Et (DJ rfl (DJ rfl (B4 (L8 (BI m 4503599627370496)) (B4 (Ka (BI m 4503599627370496)) (B4 (Pp (BI m 4503599627370496)) (C0 (tt1 _ _) rfl rfl))))))
theorem soft.Pack.DF(hk:FD prog soft.Pack.Il)(h:∀(rk:Nat) (n:Bool) (m e:Int),soft.Pack.pre [.b n,.i m,.i e]=wg->soft.Pack.mu [.b n,.i m,.i e]<rk+1->∃N dv drops,BX (soft.Pack.E rk) N f182 (Br f182) [.bool n,.int .u64 m,.int .i64 e]=xM dv/\Wk drops dv (soft.Pack.out [.b n,.i m,.i e])):DR prog 182 soft.Pack.Bk:=by have call:=Nm (f:=182) func182 (by kernel_rfl) (show f182.body=xM (Br f182) by kernel_rfl);refine⟨Abd (E:=soft.Pack.E) func182 (show f182.body=xM (Br f182) by kernel_rfl) soft.Pack.mu (fun rk hm=>Lj (.cons ⟨hm,call⟩ hk) _ _ _) fun rk ats dvs he hp hr=>?_,call⟩;obtain⟨n,_,_,rfl,rfl,he0⟩:=he.AnF;obtain⟨m,_,_,rfl,rfl,he1⟩:=he0.Ah7;obtain⟨e,_,_,rfl,rfl,he2⟩:=he1.Ah7;obtain⟨rfl,rfl⟩:=he2.Ta;exact h rk n m e hp hr
abbrev soft.Pack.Kn:Prop:=DR prog 182 soft.Pack.Bk
def soft.DG.hint:Nat->Option BH
 | 0=>xM { CH:=[0,1,2,3,10],BW:=[],Cf:=[] }
 | _=>xN
def soft.DG.Il:List (Nat × EC):=[(133,soft.Kind.Bk),(182,soft.Pack.Bk)]
def soft.DG.live:Nat->Option (List Nat)
 | 7=>xM [0,1,2,3,10]
 | 12=>xM [0,2,3,10,11,12,13,14]
 | 14=>xM [0,2,10,11,14]
 | 16=>xM [0,2,10,11,14]
 | 18=>xM [14,15,16]
 | _=>xN
def soft.DG.E:Env:=CP (CC soft.DG.Il) (fun _=>wy) soft.DG.hint soft.DG.live
section
variable(N:Nat)(p14_3:Bool)(p15:Int)(M:Nat)(n:Bool)(m e p11 p10_4:Int)(p14_2:Bool)(p10_3 p11_2:Int)(p14_1 r:Bool)(p10_2 p11_1 p12 p13:Int)(p14:Bool)(p10_1 p10:Int)
def soft.DG.L0:Option DV:=BU soft.DG.E N f163 (Br f163) [1,1,1,0,0] [] M ⟨EP 111 [(0,.bool n),(1,.int .u64 m),(2,.int .i64 e),(3,.bool r),(10,.int .i64 p10)],[]⟩
def soft.DG.C7:Option DV:=cutAt soft.DG.E N f163 (Br f163) [1,1,1,1] [] ⟨EP 111 [(0,.bool n),(1,.int .u64 m),(2,.int .i64 e),(3,.bool r),(10,.int .i64 p10_1)],[]⟩
def soft.DG.C12:Option DV:=cutAt soft.DG.E N f163 (Br f163) [1,1,1,1,1,1,1,1,0] [] ⟨EP 111 [(0,.bool n),(2,.int .i64 e),(3,.bool r),(10,.int .i64 p10_2),(11,.int .u64 p11_1),(12,.int .u64 p12),(13,.int .u64 p13),(14,.bool p14)],[]⟩
def soft.DG.C14:Option DV:=cutAt soft.DG.E N f163 (Br f163) [1,1,1,1,1,1,1,1,1,0] [] ⟨EP 111 [(0,.bool n),(2,.int .i64 e),(10,.int .i64 p10_3),(11,.int .u64 p11_2),(14,.bool p14_1)],[]⟩
def soft.DG.C16:Option DV:=cutAt soft.DG.E N f163 (Br f163) [1,1,1,1,1,1,1,1,1,1] [] ⟨EP 111 [(0,.bool n),(2,.int .i64 e),(10,.int .i64 p10_4),(11,.int .u64 p11),(14,.bool p14_2)],[]⟩
def soft.DG.C18:Option DV:=cutAt soft.DG.E N f163 (Br f163) [1,1,1,1,1,1,1,1,1,1,1,1,0] [] ⟨EP 111 [(14,.bool p14_3),(15,.int .u64 p15),(16,.int .u8 0)],[]⟩
theorem soft.DG.B1:soft.DG.L0 N (M+1) n m e r p10=cond (decide (0<=p10)) (bif ((Eu 9007199254740992 (D7 .u64 m p10))||(BI (Be (e+p10)) (-1074:Int))) then cond ((Be (p10+1))==(63:Int)) (soft.DG.C7 N n m e r (Be (p10+1))) (soft.DG.L0 N M n m e r (Be (p10+1))) else soft.DG.C7 N n m e r p10) xN :=Et (DJ (B4 (O1 (Eu 9007199254740992 (D7 .u64 m p10))) (B4 (O1 (Eu 9007199254740992 (D7 .u64 m p10))) (B4 (tt8 (Eu 9007199254740992 (D7 .u64 m p10))) (B4 (Nx (Eu 9007199254740992 (D7 .u64 m p10))) (B4 (SM (Eu 9007199254740992 (D7 .u64 m p10))) (C0 (tt5 _ _) rfl rfl)))))) rfl)
theorem soft.DG.AnJ:soft.DG.C7 N n m e r p10_1=cond (decide (0<=p10_1)) (bif (decide (0<=p10_1)) then cond (BI 0 p10_1) (bif (decide (0<=(Be (p10_1-1)))) then soft.DG.C12 N n e r p10_1 (D7 .u64 m p10_1) (ED .u64 m (BQ ((Cr .u64 1 p10_1)-1))) (Cr .u64 1 (Be (p10_1-1))) (cond ((ED .u64 m (BQ ((Cr .u64 1 p10_1)-1)))==(0:Int)) (!r) wy) else xN) (soft.DG.C12 N n e r p10_1 (D7 .u64 m p10_1) (ED .u64 m (BQ ((Cr .u64 1 p10_1)-1))) 0 (cond ((ED .u64 m (BQ ((Cr .u64 1 p10_1)-1)))==(0:Int)) (!r) wy)) else xN) xN:=
 Eq.trans ((FR _ _ _ _ _ _ _).trans (by kernel_rfl))
 (C0 (Cp _) (C0 (Cp _) (DJ (DJ (B4 (L8 ((ED .u64 m (BQ ((Cr .u64 1 p10_1)-1)))==(0:Int))) (B4 (Ka ((ED .u64 m (BQ ((Cr .u64 1 p10_1)-1)))==(0:Int))) (B4 (Pp ((ED .u64 m (BQ ((Cr .u64 1 p10_1)-1)))==(0:Int))) rfl))) rfl) (B4 (L8 ((ED .u64 m (BQ ((Cr .u64 1 p10_1)-1)))==(0:Int))) (B4 (Ka ((ED .u64 m (BQ ((Cr .u64 1 p10_1)-1)))==(0:Int))) (B4 (Pp ((ED .u64 m (BQ ((Cr .u64 1 p10_1)-1)))==(0:Int))) rfl)))) rfl) rfl)
theorem soft.DG.AbV:soft.DG.C12 N n e r p10_2 p11_1 p12 p13 p14=cond ((BI 0 p10_2)&&((BI p13 p12)||((p12==p13)&&(r||((ED .u64 p11_1 1)==(1:Int)))))) (soft.DG.C14 N n e p10_2 (BQ (p11_1+1)) p14) (soft.DG.C14 N n e p10_2 p11_1 p14):=
 Eq.trans ((FR _ _ _ _ _ _ _).trans (by kernel_rfl))
 (B4 (L8 (BI 0 p10_2)) (B4 (L8 (BI 0 p10_2)) (B4 (WQ (BI 0 p10_2)) (B4 (Ka (BI 0 p10_2)) (B4 (AfO (BI 0 p10_2) (BI p13 p12)) (B4 (AfO (BI 0 p10_2) (BI p13 p12)) (B4 (Ane (BI 0 p10_2) (BI p13 p12)) (B4 (Anf (BI 0 p10_2) (BI p13 p12)) (B4 (Ao6 (BI 0 p10_2) (BI p13 p12) (p12==p13)) (B4 (Ao7 (BI 0 p10_2) (BI p13 p12) (p12==p13)) (B4 (Ao8 (BI 0 p10_2) (BI p13 p12) (p12==p13) r) (B4 (Ang (BI 0 p10_2) (BI p13 p12) (p12==p13) r) (B4 (Ang (BI 0 p10_2) (BI p13 p12) (p12==p13) r) (B4 (Ao9 (BI 0 p10_2) (BI p13 p12) (p12==p13) r) (B4 (AoA (BI 0 p10_2) (BI p13 p12) (p12==p13)) (B4 (Anh (BI 0 p10_2) (BI p13 p12)) (B4 (Pp (BI 0 p10_2)) (C0 (AoB _ _ _ _ _) rfl rfl))))))))))))))))))
theorem soft.DG.AbU:soft.DG.C14 N n e p10_3 p11_2 p14_1=cond (BI (Be (e+p10_3)) (-1074:Int)) (soft.DG.C16 N n e 0 p10_3 p14_1) (soft.DG.C16 N n e p11_2 p10_3 p14_1):=(FR _ _ _ _ _ _ _).trans (by kernel_rfl)
theorem soft.DG.Amv:soft.DG.C16 N n e p11 p10_4 p14_2=cond (J9 p11 (max (Be (e+p10_4)) (-1074:Int))) (soft.DG.C18 N p14_2 (Q0 n p11 (max (Be (e+p10_4)) (-1074:Int)))) xN:=(FR _ _ _ _ _ _ _).trans (by kernel_rfl)
theorem soft.DG.AbT:soft.DG.C18 N p14_3 p15=cond ((!p14_3)||((G3 .u64 p15 9223372036854775808)==(9218868437227405312:Int))) (bif (Bo p15) then cond ((B8 p15)==(3:Int)) (xM (.Cw [.int .u64 p15,.int .u8 5])) (bif ((B8 p15)==(0:Int)) then cond ((B8 p15)==(0:Int)) (xM (.Cw [.int .u64 p15,.int .u8 3])) (xM (.Cw [.int .u64 p15,.int .u8 1])) else bif ((B8 p15)==(1:Int)) then xM (.Cw [.int .u64 p15,.int .u8 3]) else xM (.Cw [.int .u64 p15,.int .u8 1])) else xN) (xM (.Cw [.int .u64 p15,.int .u8 0])):=
 Eq.trans ((FR _ _ _ _ _ _ _).trans (by kernel_rfl))
 (B4 (WN p14_3) (B4 (PA p14_3) (B4 (PA p14_3) (B4 (WO p14_3) (C0 (Alv _ _) rfl rfl)))))
theorem soft.DG.ev:BX soft.DG.E N f163 (Br f163) [.bool n,.int .u64 m,.int .i64 e,.bool r]=cond ((m==(0:Int))&&(!r)) (bif (J9 0 (-1074:Int)) then xM (.Cw [.int .u64 (Q0 n 0 (-1074:Int)),.int .u8 0]) else xN) (soft.DG.L0 N N n m e r 0) :=Et (B4 (L8 (m==(0:Int))) (B4 (Ka (m==(0:Int))) (B4 (Pp (m==(0:Int))) (C0 (Ao5 _ _) rfl rfl))))
end
theorem Bf{a b:Bool}:(a&&b)=wg↔a=wg/\b=wg:=by simp
theorem Ac7{n:Nat}(hn:n<2^64):((D7 .u64 (n:Int) (63:Int))==(1:Int))=DI n:=by rw[show(63:Int)=((63:Nat):Int) from rfl,Hd .u64 n 63 (by decide)];unfold DI BE;rw[Ad,Ar];simp only[beq_iff_eq,Ai];omega
theorem Ajt{n:Nat}(hn:n<2^64):Be (ED .u64 (D7 .u64 (n:Int) (52:Int)) (2047:Int))=K1 n:=by rw[show(52:Int)=((52:Nat):Int) from rfl,Hd .u64 n 52 (by decide),show(2047:Int)=((2^11-1:Nat):Int) from rfl,HO 11 (by omega) (by decide)];unfold K1 Dn;rw[Ad,Bq (by omega) (by omega)]
theorem AhF{n:Nat}(hn:n<2^64):ED .u64 (n:Int) (4503599627370495:Int)=Df n:=by rw[show(4503599627370495:Int)=((2^52-1:Nat):Int) from rfl,HO 52 hn (by decide)];unfold Df CL;rw[Ad]
theorem soft.Split.Bi:soft.Split.Kn:=soft.Split.DF .nil fun x hp=>by obtain⟨n,rfl,hn⟩:=BR (x:=x) hp;refine⟨0,soft.Split.out [.i n],[],?_,Wk.Gt (.cons .bool (.cons .int (.cons .int .nil)))⟩;rw[soft.Split.ev,Ac7 hn,Ajt hn,AhF hn];rfl
theorem soft.Kind.Bi:soft.Kind.Kn:=soft.Kind.DF (kc soft.Split.Bi .nil) fun x hp=>by
 obtain⟨n,rfl,hn⟩:=BR (x:=x) hp;refine⟨0,soft.Kind.out [.i n],[],?_,.int⟩;rw[soft.Kind.ev,Cq hn];show _=xM (DV.int .i64 (B8 n));unfold B8 Bj K1 Df;simp only[Ad,Aa,Bw];have:=HI n;by_cases h1:Dn n=2047
 ·by_cases h2:CL n=0
  ·simp[h1,h2]
  ·have:((CL n:Int)==0)=wy:=by simp; exact h2
   simp[h1,this,h2]
 ·have h1':((Dn n:Int)==2047)=wy:=by simp; omega
  rw[h1'];by_cases h3:0<Dn n
  ·simp[h1,h3]
  ·by_cases h4:0<CL n
   ·simp[h1,h3,h4]
   ·simp[h1,h3,h4]
theorem soft.Sign.Bi:soft.Sign.Kn:=soft.Sign.DF .nil fun x hp=>by obtain⟨n,rfl,hn⟩:=BR (x:=x) hp;refine⟨0,soft.Sign.out [.i n],[],?_,.bool⟩;rw[soft.Sign.ev,Ac7 hn];rfl
theorem Uy(n:Nat):F9 n=!(decide (Bj n=3)||decide (Bj n=4)):=by
 have:=HI n;unfold F9 Bj;by_cases h1:Dn n=2047
 ·by_cases h2:CL n=0<;>simp[h1,h2]
 ·have:Dn n<2047:=by omega
  by_cases h3:0<Dn n
  ·simp[h1,h3,this]
  ·by_cases h4:0<CL n<;>simp[h1,h3,h4,this]
theorem soft.Finite.Bi:soft.Finite.Kn:=soft.Finite.DF (kc soft.Kind.Bi .nil) fun x hp=>by
 obtain⟨n,rfl,hn⟩:=BR (x:=x) hp;refine⟨0,soft.Finite.out [.i n],[],?_,.bool⟩;rw[soft.Finite.ev,Cq hn];show _=xM (DV.bool (CO n));unfold CO B8;rw[Ad,Uy];by_cases h3:Bj n=3
 ·simp[h3]
 ·by_cases h4:Bj n=4
  ·simp[h4]
  ·have e3:((Bj n:Int)==3)=wy:=by simp; omega
   have e4:((Bj n:Int)==4)=wy:=by simp; omega
   simp[h3,h4,e3,e4]
theorem Ae0{n:Nat}(hn:n<2^64):Ak5 .u64 (n:Int) (9223372036854775808:Int)=CM n:=by rw[show(9223372036854775808:Int)=((2^63:Nat):Int) from rfl,Aiu hn (by decide),AiB hn];unfold CM D5;rw[Ad]
theorem soft.DO.Bi:soft.DO.Kn:=soft.DO.DF .nil fun x hp=>by obtain⟨n,rfl,hn⟩:=BR (x:=x) hp;refine⟨0,soft.DO.out [.i n],[],?_,.int⟩;rw[soft.DO.ev,Ae0 hn];rfl
theorem soft.Fh.Bi:soft.Fh.Kn:=soft.Fh.DF (kc soft.Split.Bi .nil) fun x hp=>by
 obtain⟨n,rfl,hn⟩:=BR (x:=x) hp;refine⟨0,soft.Fh.out [.i n],[],?_,Wk.Gx (.cons .int (.cons .int .nil))⟩;rw[soft.Fh.ev,Cq hn];show _=xM (DV.Cw [.int .u64 (Ci n),.int .i64 (BO n)]);have hf:=Ir n;have hp:=HI n;unfold Ci BO K1 Df Bs By;rw[Ad];by_cases h:Dn n=0
 ·simp[h]
 ·have e:((Dn n:Int)==0)=wy:=by simp; omega
  have e2:Ht .u64 ((CL n:Nat):Int) (4503599627370496:Int)=((CL n+2^52:Nat):Int):=by rw[show(4503599627370496:Int)=((1*2^52:Nat):Int) from rfl,Afk (by omega) (by omega)];congr 1; omega
  rw[e,e2,Bq (by omega) (by omega)];simp[h]
def BJ.Neg.E:=E0 []
theorem BJ.Neg.ev(N:Nat)(x:Int):BX BJ.Neg.E N f97 (Br f97) [.int .u64 x]=xM (.bool ((BQ (zB x 9223372036854775808))==(1:Int))):=by kernel_rfl
def BJ.Power.E:=E0 []
theorem BJ.Power.ev(N:Nat)(x:Int):BX BJ.Power.E N f96 (Br f96) [.int .u64 x]=xM (.int .i64 (Be (BQ (zB (zH x 9223372036854775808) 4503599627370496)))):=by kernel_rfl
def BJ.NB.E:=E0 []
theorem BJ.NB.ev(N:Nat)(x:Int):BX BJ.NB.E N f95 (Br f95) [.int .u64 x]=xM (.int .u64 (zH x 4503599627370496)):=by kernel_rfl
def BJ.Kind.E:=E0 [(95,BJ.NB.Bk),(96,BJ.Power.Bk)]
theorem BJ.Kind.ev(N:Nat)(x:Int):BX BJ.Kind.E N f47 (Br f47) [.int .u64 x]=cond (Jx x) (bif ((K1 x)==(2047:Int)) then cond (Jx x) (bif ((Df x)==(0:Int)) then xM (.int .i64 3) else xM (.int .i64 4)) xN else bif (Jx x) then cond (BI 0 (K1 x)) (xM (.int .i64 2)) (bif (Jx x) then cond (BI 0 (Df x)) (xM (.int .i64 1)) (xM (.int .i64 0)) else xN) else xN) xN:=by kernel_rfl
def BJ.Finite.E:=E0 [(96,BJ.Power.Bk)]
theorem BJ.Finite.ev(N:Nat)(x:Int):BX BJ.Finite.E N f46 (Br f46) [.int .u64 x]=cond (Jx x) (xM (.bool (BI (K1 x) 2047))) xN:=by kernel_rfl
def BJ.DO.E:=E0 [(97,BJ.Neg.Bk)]
theorem BJ.DO.ev(N:Nat)(x:Int):BX BJ.DO.E N f124 (Br f124) [.int .u64 x]=cond (Bo x) (bif (DI x) then xM (.int .u64 (BQ (x-9223372036854775808))) else xM (.int .u64 (BQ (x+9223372036854775808)))) xN:=by kernel_rfl
def Fz.Canon.E:=E0 [(47,BJ.Kind.Bk)]
theorem Fz.Canon.ev(N:Nat)(x:Int):BX Fz.Canon.E N f147 (Br f147) [.int .u64 x]=cond (Jx x) (bif ((B8 x)==(4:Int)) then xM (.int .u64 9221120237041090560) else xM (.int .u64 x)) xN:=by kernel_rfl
abbrev Fz.Canon.nb.Kn:Prop:=DR prog 147 Fz.Canon.nb.Bk
theorem Ik(n m:Nat):zB (n:Int) (m:Int)=((n / m:Nat):Int):=rfl
theorem Ij(n m:Nat):zH (n:Int) (m:Int)=((n%m:Nat):Int):=rfl
theorem AkP:(9223372036854775808:Int)=((2^63:Nat):Int):=rfl
theorem AkQ:(4503599627370496:Int)=((2^52:Nat):Int):=rfl
theorem BJ.Neg.Bi:Kq 97 BJ.Neg.Bk:=D6 BJ.Neg.E Tryz.func97 .nil fun x hp=>by obtain⟨n,rfl,hn⟩:=BR (x:=x) hp;refine⟨0,BJ.Neg.out [.i n],[],?_,.bool⟩;rw[BJ.Neg.ev,AkP,Ik,Di (by omega) (by omega)];show _=xM (DV.bool (DI n));unfold DI BE;rw[Ad];congr 2;rw[Ar];simp only[beq_iff_eq,Ai];omega
theorem BJ.Power.Bi:Kq 96 BJ.Power.Bk:=D6 BJ.Power.E Tryz.func96 .nil fun x hp=>by
 obtain⟨n,rfl⟩:=QA (x:=x) hp;refine⟨0,BJ.Power.out [.i n],[],?_,.int⟩;rw[BJ.Power.ev,AkP,AkQ,Ij,Ik,Di (by omega) (by omega),Bq (by omega) (by omega)];show _=xM (DV.int .i64 (K1 n));unfold K1 Dn;rw[Ad];congr 2;have:n%2^63 / 2^52=n / 2^52%2048:=by omega
 rw[this]
theorem BJ.NB.Bi:Kq 95 BJ.NB.Bk:=D6 BJ.NB.E Tryz.func95 .nil fun x hp=>by obtain⟨n,rfl⟩:=QA (x:=x) hp;refine⟨0,BJ.NB.out [.i n],[],?_,.int⟩;rw[BJ.NB.ev,AkQ,Ij];rfl
theorem BJ.Kind.Bi:Kq 47 BJ.Kind.Bk:=D6 BJ.Kind.E Tryz.func47 (kc BJ.NB.Bi (kc BJ.Power.Bi .nil)) fun x hp=>by
 obtain⟨n,rfl⟩:=QA (x:=x) hp;refine⟨0,BJ.Kind.out [.i n],[],?_,.int⟩;rw[BJ.Kind.ev,Ha];show _=xM (DV.int .i64 (B8 n));unfold B8 Bj K1 Df;simp only[Ad,Aa,Bw];have:=HI n;by_cases h1:Dn n=2047
 ·by_cases h2:CL n=0
  ·simp[h1,h2]
  ·have:((CL n:Int)==0)=wy:=by simp; exact h2
   simp[h1,this,h2]
 ·have h1':((Dn n:Int)==2047)=wy:=by simp; omega
  rw[h1'];by_cases h3:0<Dn n
  ·simp[h1,h3]
  ·by_cases h4:0<CL n
   ·simp[h1,h3,h4]
   ·simp[h1,h3,h4]
theorem BJ.Finite.Bi:Kq 46 BJ.Finite.Bk:=D6 BJ.Finite.E Tryz.func46 (kc BJ.Power.Bi .nil) fun x hp=>by obtain⟨n,rfl,hn⟩:=BR (x:=x) hp;refine⟨0,BJ.Finite.out [.i n],[],?_,.bool⟩;rw[BJ.Finite.ev,Ha,Aa,Bw];show _=xM (DV.bool (CO n));unfold CO F9 K1;rw[Ad];have:decide ((Dn n:Int)<2047)=decide (Dn n<2047):=decide_eq_decide.2 (by omega);rw[this]
theorem BJ.DO.Bi:Kq 124 BJ.DO.Bk:=D6 BJ.DO.E Tryz.func124 (kc BJ.Neg.Bi .nil) fun x hp=>by
 obtain⟨n,rfl,hn⟩:=BR (x:=x) hp;refine⟨0,BJ.DO.out [.i n],[],?_,.int⟩;rw[BJ.DO.ev,Cq hn,Aa];show _=xM (DV.int .u64 (CM n));unfold CM D5 DI BE;rw[Ad,Mk,Mk];by_cases h:2^63<=n
 ·have e:((n:Int)-9223372036854775808)%18446744073709551616=((n-2^63:Nat):Int):=by omega
  rw[Az h,Ac h,Aa,e]
 ·have e:((n:Int)+9223372036854775808)%18446744073709551616=((n+2^63:Nat):Int):=by omega
  rw[Ay h,Ag h,Af,e]
theorem Fz.Canon.Bi:Kq 147 Fz.Canon.Bk:=D6 Fz.Canon.E Tryz.func147 (kc BJ.Kind.Bi .nil) fun x hp=>by
 obtain⟨n,rfl⟩:=QA (x:=x) hp;refine⟨0,Fz.Canon.out [.i n],[],?_,.int⟩;rw[Fz.Canon.ev,Ha,Aa];show _=xM (DV.int .u64 (US n));unfold US DM B8;rw[Ad];by_cases h:Bj n=4
 ·have:((Bj n:Int)==4)=wg:=by simp; omega
  rw[this,Az h]; rfl
 ·have:((Bj n:Int)==4)=wy:=by simp; omega
  rw[this,Ay h]; rfl
theorem AeP{n m:Nat}(h:NC n m):DM n=DM m:=by
 rcases h with rfl | ⟨h1,h2⟩
 ·rfl
 ·unfold Fl at h1 h2;rw[TZ n] at h1;rw[TZ m] at h2;unfold DM;rw[Az (A3 h1),Az (A3 h2)]
theorem Aj0{c:Ctx}{w:World}{d:DV}{vs:List Value}(h:BN c w [d] vs):∃v,vs=[v]/\Bz c w d v:=by simp only[BN] at h;obtain⟨u,us,rfl,hv,rfl⟩:=h;exact⟨u,rfl,hv⟩
theorem Fz.Canon.AgQ:Fz.Canon.nb.Kn:=by
 refine⟨fun args ha=>?_,Fz.Canon.Bi.call⟩;unfold Fz.Canon.nb.Bk B9 at ha ⊢;simp only at ha ⊢;cases hd:KB [.nb] args with
 | none=>rw[hd] at ha; cases ha
 | some bs =>
   rw[hd] at ha;obtain⟨ds,h1,h2⟩:=KA hd;obtain⟨x,_,_,rfl,rfl,he⟩:=h1.AlO;obtain⟨rfl,rfl⟩:=he.Ta;refine Mh.args (args:=[.nb x]) ?_ h2;intro w vals I hI hl;obtain⟨v,hv,hr⟩:=Aj0 hl;simp only[Bz] at hr;obtain⟨m,rfl,hm⟩:=hr
   have e:Fz.Canon.nb.out [.f x]=Fz.Canon.Bk.out [.int .u64 (m:Int)]:=by show DV.int .u64 (FA x)=DV.int .u64 (US (m:Int));unfold FA US;rw[Ad,AeP hm]
   show Calls _ _ _ _ fun e' w'=>∃v own,e'=.returned v/\Go.RowKit.Below w.heap.size w w'/\Adx own w w'/\Bz (DL I own w w') w' (Fz.Canon.nb.out [.f x]) v
   rw[e];exact Fz.Canon.Bi.meets [.int .u64 (m:Int)] (Ha m) w vals I hI (by rw[hv]; exact⟨_,_,rfl,rfl,rfl⟩)
def Bp.Le.E:=E0 []
theorem Bp.Le.ev(N:Nat)(l:Bb)(i:Int):BX Bp.Le.E N f130 (Br f130) [.Bh .arg .u32 l,.int .i64 i]=cond ((Eu 0 i)&&(BI i (vA l:Int))) (bif ((decide (0<=i))&&(decide (i<(vA l:Int)))) then xM (.int .u64 (BQ (vB l (wz i) 0))) else xN) (xM (.int .u64 0)) :=Et (B4 (L8 (Eu 0 i)) (B4 (L8 (Eu 0 i)) (B4 (Ka (Eu 0 i)) (B4 (WQ (Eu 0 i)) (B4 (Pp (Eu 0 i)) (C0 (tt1 _ _) rfl rfl))))))
def Bp.Made.hint:Nat->Option BH
 | 0=>xM { CH:=[0,1,4,5],BW:=[],Cf:=[4] }
 | _=>xN
def Bp.Made.E:=CP (CC []) (fun _=>wy) Bp.Made.hint (fun _=>xN)
section
variable(N M:Nat)(n:Bool)(l:Bb)(p5:Int)
def Bp.Made.L0:Option DV:=BU Bp.Made.E N f84 (Br f84) [1,1,0,0] [] M ⟨EP 28 [(0,.bool n),(1,.Bh .arg .u32 l),(4,.ptr 4 0 0),(5,.int .i64 p5)],[(4,wy,.box [.bool wy,.nil])]⟩
theorem Bp.Made.B1:Bp.Made.L0 N (M+1) n l p5=cond ((!(BI 0 p5))||((decide (0<=(Be (p5-1))))&&(decide ((Be (p5-1))<(vA l:Int))))) (bif ((BI 0 p5)&&((vB l (wz (Be (p5-1))) 0)==(0:Int))) then Bp.Made.L0 N M n l (Be (p5-1)) else bif (p5==(0:Int)) then xM (.agg [.bool wy,.nil]) else bif ((decide ((0:Int)<=p5))&&(decide (p5<=(vA l:Int)))) then xM (.agg [.bool n,.Bh .arg .u32 (List.take (wz p5) l)]) else xN) xN :=Et (B4 (L8 (BI 0 p5)) (B4 (L8 (BI 0 p5)) (B4 (Ka (BI 0 p5)) (C0 (AmL _ _ _) (B4 (Ka (BI 0 p5)) (B4 (Ka (BI 0 p5)) (B4 (Pp (BI 0 p5)) (C0 (tt1 _ _) rfl (DJ rfl (C0 (I1 _ _) rfl rfl)))))) rfl))))
theorem Bp.Made.ev:BX Bp.Made.E N f84 (Br f84) [.bool n,.Bh .arg .u32 l]=
 Bp.Made.L0 N N n l (vA l:Int):=by kernel_rfl
end
def Bp.Of.E:=E0 [(84,Bp.Made.Bk)]
theorem Bp.Of.ev(N:Nat)(n:Int):BX Bp.Of.E N f37 (Br f37) [.int .i64 n]=cond (BI n 0) (bif (Hk [(Ii (zH (BQ ((BQ (Be (0-(Be (n+1)))))+1)) 4294967296)),(Ii (BQ (zB (BQ ((BQ (Be (0-(Be (n+1)))))+1)) 4294967296)))]) then xM (.agg [.bool (BB (wv wg [(Ii (zH (BQ ((BQ (Be (0-(Be (n+1)))))+1)) 4294967296)),(Ii (BQ (zB (BQ ((BQ (Be (0-(Be (n+1)))))+1)) 4294967296)))])),.Bh .arg .u32 (Bn (wv wg [(Ii (zH (BQ ((BQ (Be (0-(Be (n+1)))))+1)) 4294967296)),(Ii (BQ (zB (BQ ((BQ (Be (0-(Be (n+1)))))+1)) 4294967296)))]))]) else xN) (bif (Hk [(Ii (zH n 4294967296)),(Ii (Be (zB n 4294967296)))]) then xM (.agg [.bool (BB (wv wy [(Ii (zH n 4294967296)),(Ii (Be (zB n 4294967296)))])),.Bh .arg .u32 (Bn (wv wy [(Ii (zH n 4294967296)),(Ii (Be (zB n 4294967296)))]))]) else xN):=by kernel_rfl
def Bp.J6.hint:Nat->Option BH
 | 0=>xM { CH:=[0,1,5],BW:=[],Cf:=[] }
 | _=>xN
def Bp.J6.E:=CP (CC [(130,Bp.Le.Bk)]) (fun _=>wy) Bp.J6.hint (fun _=>xN)
section
variable(N M:Nat)(a b:Bb)(p5:Int)
def Bp.J6.L0:Option DV:=BU Bp.J6.E N f89 (Br f89) [1,0,1,0] [] M ⟨EP 29 [(0,.Bh .arg .u32 a),(1,.Bh .arg .u32 b),(5,.int .i64 p5)],[]⟩
theorem Bp.J6.B1:Bp.J6.L0 N (M+1) a b p5=cond (Eu 0 p5) (bif (Hk a) then cond (Hk b) (bif (BI (GB a p5) (GB b p5)) then xM (.int .i64 (-1:Int)) else bif (Hk a) then cond (Hk b) (bif (BI (GB b p5) (GB a p5)) then xM (.int .i64 1) else Bp.J6.L0 N M a b (Be (p5-1))) xN else xN) xN else xN) (xM (.int .i64 0)):=by kernel_rfl
theorem Bp.J6.ev:BX Bp.J6.E N f89 (Br f89) [.Bh .arg .u32 a,.Bh .arg .u32 b]=
 Bp.J6.L0 N N a b (max (vA a:Int) (vA b:Int)):=by kernel_rfl
end
def Bp.plus.hint:Nat->Option BH
 | 0=>xM { CH:=[0,1,5,6,7],BW:=[(0,5,100005,.Bh 97 .u32 [])],Cf:=[] }
 | _=>xN
def Bp.plus.E:=CP (CC [(130,Bp.Le.Bk)]) (fun _=>wy) Bp.plus.hint (fun _=>xN)
section
variable(N M:Nat)(a b:Bb)(p6 p7:Int)(p5:Bb)
def Bp.plus.L0:Option DV:=BU Bp.plus.E N f87 (Br f87) [1,1,1,0,1,0] [] M ⟨EP 37 [(0,.Bh .arg .u32 a),(1,.Bh .arg .u32 b),(5,.De 100005),(6,.int .u64 p6),(7,.int .i64 p7)],[(100005,wy,.Bh 97 .u32 p5)]⟩
theorem Bp.plus.B1:Bp.plus.L0 N (M+1) a b p6 p7 p5=cond (Eu p7 (max (vA a:Int) (vA b:Int))) (bif (Hk a) then cond (Hk b) (bif (decide ((vA p5)+1<=GL)) then Bp.plus.L0 N M a b (BQ (zB (BQ ((BQ ((GB a p7)+(GB b p7)))+p6)) 4294967296)) (Be (p7+1)) (p5++[(Ii (zH (BQ ((BQ ((GB a p7)+(GB b p7)))+p6)) 4294967296))]) else xN) xN else xN) (xM (.Bh (.own 100005 97) .u32 p5)):=by kernel_rfl
theorem Bp.plus.ev:BX Bp.plus.E N f87 (Br f87) [.Bh .arg .u32 a,.Bh .arg .u32 b]=
 Bp.plus.L0 N N a b 0 0 []:=by kernel_rfl
end
def Bp.minus.hint:Nat->Option BH
 | 0=>xM { CH:=[0,1,5,6,7],BW:=[(0,5,100005,.Bh 97 .u32 [])],Cf:=[] }
 | _=>xN
def Bp.minus.E:=CP (CC [(130,Bp.Le.Bk)]) (fun _=>wy) Bp.minus.hint (fun _=>xN)
section
variable(N M:Nat)(a b:Bb)(p6 p7:Int)(p5:Bb)
def Bp.minus.L0:Option DV:=BU Bp.minus.E N f90 (Br f90) [1,1,1,0,1,0] [] M ⟨EP 36 [(0,.Bh .arg .u32 a),(1,.Bh .arg .u32 b),(5,.De 100005),(6,.int .u64 p6),(7,.int .i64 p7)],[(100005,wy,.Bh 97 .u32 p5)]⟩
theorem Bp.minus.B1:Bp.minus.L0 N (M+1) a b p6 p7 p5=cond (BI p7 (vA a:Int)) (bif (Hk a) then cond (Hk b) (bif (decide ((vA p5)+1<=GL)) then Bp.minus.L0 N M a b (BQ ((1:Int)-(BQ (zB (BQ ((BQ ((BQ ((4294967296:Int)+(GB a p7)))-(GB b p7)))-p6)) 4294967296)))) (Be (p7+1)) (p5++[(Ii (zH (BQ ((BQ ((BQ ((4294967296:Int)+(GB a p7)))-(GB b p7)))-p6)) 4294967296))]) else xN) xN else xN) (xM (.Bh (.own 100005 97) .u32 p5)):=by kernel_rfl
theorem Bp.minus.ev:BX Bp.minus.E N f90 (Br f90) [.Bh .arg .u32 a,.Bh .arg .u32 b]=
 Bp.minus.L0 N N a b 0 0 []:=by kernel_rfl
end
def Bp.Add.E:=E0 [(84,Bp.Made.Bk),(89,Bp.J6.Bk),(90,Bp.minus.Bk),(87,Bp.plus.Bk)]
theorem Bp.Add.ev(N:Nat)(n:Bool)(a:Bb)(m:Bool)(b:Bb):BX Bp.Add.E N f34 (Br f34) [.agg [.bool n,.Bh .arg .u32 a],.agg [.bool m,.Bh .arg .u32 b]]=cond (n==m) (bif (Hk a&&Hk b) then cond (Hk (IH a b)) (xM (.agg [.bool (BB (wv n (IH a b))),.Bh .arg .u32 (Bn (wv n (IH a b)))])) xN else xN) (bif (Hk a&&Hk b) then cond (BI (RW (Cx a) (Cx b)) 0) (bif ((Hk b&&Hk a)&&leL a b) then cond (Hk (H3 b a)) (xM (.agg [.bool (BB (wv m (H3 b a))),.Bh .arg .u32 (Bn (wv m (H3 b a)))])) xN else xN) (bif ((Hk a&&Hk b)&&leL b a) then cond (Hk (H3 a b)) (xM (.agg [.bool (BB (wv n (H3 a b))),.Bh .arg .u32 (Bn (wv n (H3 a b)))])) xN else xN) else xN) :=Et (DJ (C0 (Cp _) (C0 (Cp _) rfl rfl) rfl) (DJ (DJ (C0 (Cp _) (C0 (Cp _) rfl rfl) rfl) (C0 (Cp _) (C0 (Cp _) rfl rfl) rfl)) rfl))
def Bp.Neg.E:=E0 [(84,Bp.Made.Bk)]
theorem Bp.Neg.ev(N:Nat)(n:Bool)(a:Bb):BX Bp.Neg.E N f98 (Br f98) [.agg [.bool n,.Bh .arg .u32 a]]=cond (Hk a) (xM (.agg [.bool (BB (wv (!n) a)),.Bh .arg .u32 (Bn (wv (!n) a))])) xN:=by kernel_rfl
theorem Bp.Le.Bi:Kq 130 Bp.Le.Bk:=D6 Bp.Le.E Tryz.func130 .nil fun l i hp=>by
 obtain⟨hl,hi⟩:=IX hp;refine⟨0,Bp.Le.out [.l l,.i i],[],?_,.int⟩;rw[Bp.Le.ev,DX,Bw];show _=xM (DV.int .u64 (GB l i));by_cases h0:0<=i
 ·obtain⟨k,rfl⟩:∃k:Nat,i=k:=⟨i.toNat,by omega⟩
  have hv:=GQ hi k;have hg:=LO hi k;rw[hv,Ad,hg,Ac h0,AR];by_cases h1:(k:Int)<(l.length:Int)
  ·rw[Ac h1,Aa,Aa,Di (by omega) (by omega)]
  ·have h2:l.getD k 0=0:=by rw[Al,AY (by omega)]; rfl
   rw[h2] at hg;rw[Ag h1,Af,<- hg]
 ·have:GB l i=0:=by unfold GB; rw[Ay h0]
  rw[Ag h0,z6,Af,this]
theorem WD{drops:List Nat}{b:Bool}{l:Bb}:Wk drops (.agg [.bool b,.Bh .arg .u32 l]) (.agg [.bool b,.Bh .arg .u32 l]):=Wk.Gt (.cons .bool (.cons .Sd .nil))
theorem Aeo:BB 0=wy:=rfl
theorem Zs:Bn 0=[]:=rfl
theorem Ae1(N:Nat)(n:Bool){l:Bb}(hl:l.length<1073741824)(hi:QR l):∀(p F:Nat),p<=l.length->p<F->Cx l<2^(32*p) ->
 ∃dv,Bp.Made.L0 N F n l (p:Int)=xM dv/\Wk [] dv (.agg [.bool (BB (wv n l)),.Bh .arg .u32 (Bn (wv n l))]):=by
 have hlast:∀p,p<=l.length->D3 (Cx l)=p->p≠0->xM (DV.agg [.bool n,.Bh .arg .u32 (l.take p)])=xM (DV.agg [.bool (BB (wv n l)),.Bh .arg .u32 (Bn (wv n l))]):=by
  intro p hp hq h0;have h1:=Abl hi;rw[hq] at h1;have h2:Cx l≠0:=fun h=>by rw[h] at hq; exact h0 hq.symm
  have e:(wv n l).natAbs=Cx l:=by unfold wv FX; split<;>omega
  have e1:Bn (wv n l)=N3 (Cx l):=by unfold Bn; rw[e]
  have e2:BB (wv n l)=n:=by unfold BB wv FX; cases n<;>simp<;>omega
  rw[h1,e1,e2]
 intro p
 induction p with
 | zero =>
   intro F hp hF hv;obtain⟨F,rfl⟩:∃G,F=G+1:=⟨F-1,by omega⟩
   have hz:wv n l=0:=by
    have:Cx l=0:=by rw[yj,AB] at hv; omega
    unfold wv FX; rw[this]; cases n<;>rfl
   refine⟨.agg [.bool wy,.nil],?_,?_⟩
   ·rw[Bp.Made.B1,Bw]; rfl
   ·rw[hz,Aeo,Zs];exact Wk.Gt (.cons .bool (.cons (.nil _ _) .nil))
 | succ p ih =>
   intro F hp hF hv;obtain⟨F,rfl⟩:∃G,F=G+1:=⟨F-1,by omega⟩
   rw[Bp.Made.B1,Bw,Bq (by omega) (by omega)];have e0:((p+1:Nat):Int)-1=(p:Int):=by omega
   have t0:decide ((0:Int)<((p+1:Nat):Int))=wg:=Ac (by omega);have t1:decide ((0:Int)<=(p:Int))=wg:=by simp
   have t2:decide ((p:Int)<(l.length:Int))=wg:=by simp; omega
   have hg:=LO hi p
   have hq:Cx l / 2^(32*p)<4294967296:=by rw[yM (Cs _),<- Kj]; exact hv
   rw[Ao hq] at hg;rw[e0,t0,t1,t2,Ad,hg];simp only[AD,Ah,Bool.false_or,Aa,AR];by_cases hz:Cx l / 2^(32*p)=0
   ·have:(((Cx l / 2^(32*p):Nat):Int)==0)=wg:=by rw[hz]; rfl
    rw[this,Aa];refine ih F (by omega) (by omega) ?_;rcases AA (Cx l) (2^(32*p)) with h | h
    ·exact h
    ·have:=Nat.div_pos h (Cs _); omega
   ·have:(((Cx l / 2^(32*p):Nat):Int)==0)=wy:=by simp only[A8,ne_eq]; omega
    have t3:(((p+1:Nat):Int)==0)=wy:=by simp only[A8,ne_eq]; omega
    have t4:decide (((p+1:Nat):Int)<=(l.length:Int))=wg:=by simp; omega
    have t5:decide ((0:Int)<=((p+1:Nat):Int))=wg:=Ac (by omega);rw[this,Af,t3,Af,t4,t5,Ah,Aa,Ad]
    have hlen:D3 (Cx l)=p+1:=by
     have a1:=JB hv
     have a2:=AjU (n:=Cx l) (k:=p) (by
      rcases AA (Cx l) (2^(32*p)) with h | h
      ·exact absurd (z8 h) hz
      ·exact h)
     omega
    exact⟨_,hlast (p+1) hp hlen (by omega),WD⟩
theorem Bp.Made.Bi:Kq 84 Bp.Made.Bk:=D6 Bp.Made.E Tryz.func84 .nil fun n l hp=>by obtain⟨hl,hi⟩:=IX hp;obtain⟨dv,h1,h2⟩:=Ae1 (l.length+1) n hl hi l.length (l.length+1) (A7 _) (by omega) (IT hi);exact⟨l.length+1,dv,[],by rw[Bp.Made.ev]; exact h1,h2⟩
theorem V5{a b:Int}(ha:0<=a/\a<4294967296)(hb:0<=b/\b<4294967296):Hk [a,b]=wg:=
 IW (show 2<1073741824 by decide) fun x hx=>by
  rcases zL.1 hx with rfl | hx
  ·exact ha
  ·rcases zL.1 hx with rfl | hx
   ·exact hb
   ·cases hx
theorem Zp:(4294967296:Int)=((4294967296:Nat):Int):=rfl
theorem Bp.Of.Bi:Kq 37 Bp.Of.Bk:=D6 Bp.Of.E Tryz.func37 (kc Bp.Made.Bi .nil) fun n hp=>by
 have hp:=Bt.1 hp;refine⟨0,Bp.Of.out [.i n],[],?_,WD⟩;rw[Bp.Of.ev,Bw];show _=xM (DV.agg [.bool (BB n),.Bh .arg .u32 (Bn n)]);by_cases h:n<0
 ·obtain⟨k,rfl⟩:∃k:Nat,n=-(k:Int):=⟨(-n).toNat,by omega⟩
  have e1:BQ (BQ (Be (0-Be (-(k:Int)+1)))+1)=(k:Int):=by rw[Bq (x:=-(k:Int)+1) (by omega) (by omega),Bq (by omega) (by omega),Di (x:=0-(-(k:Int)+1)) (by omega) (by omega),Di (by omega) (by omega)]; omega
  rw[Ac h,Aa,e1,Zp,Ij,Ik,Ih (by omega) (by omega),Di (by omega) (by omega),Ih (by omega) (by omega),
   V5 (by omega) (by omega),Aa]
  have e2:wv wg [((k%4294967296:Nat):Int),((k / 4294967296:Nat):Int)]=-(k:Int):=by unfold wv FX Cx Cx Cx;rw[Az rfl,Ad,Ad];omega
  rw[e2]
 ·obtain⟨k,rfl⟩:∃k:Nat,n=(k:Int):=⟨n.toNat,by omega⟩
  rw[Ag h,Af,Zp,Ij,Ik,Ih (by omega) (by omega),Bq (by omega) (by omega),Ih (by omega) (by omega),
   V5 (by omega) (by omega),Aa]
  have e2:wv wy [((k%4294967296:Nat):Int),((k / 4294967296:Nat):Int)]=(k:Int):=by unfold wv FX Cx Cx Cx;rw[Ay (by decide),Ad,Ad];omega
  rw[e2]
theorem Bp.Neg.Bi:Kq 98 Bp.Neg.Bk:=D6 Bp.Neg.E Tryz.func98 (kc Bp.Made.Bi .nil) fun n a hp=>by obtain⟨v,rfl,rfl,hv⟩:=Iy hp;refine⟨0,Bp.Neg.out [.b (BB v),.l (Bn v)],[],?_,WD⟩;rw[Bp.Neg.ev,Mu (by omega),Aa,AkX];rfl
theorem Aew(N:Nat){a b:Bb}(ha:Hk a=wg)(hb:Hk b=wg):∀(j F:Nat),j<4000000000->j<F->Cx a / 2^(32*j)=Cx b / 2^(32*j) ->
 Bp.J6.L0 N F a b ((j:Int)-1)=xM (.int .i64 (RW (Cx a) (Cx b))):=by
 have ia:=(IX ha).2;have ib:=(IX hb).2;intro j
 induction j with
 | zero =>
   intro F hj hF h;obtain⟨F,rfl⟩:∃G,F=G+1:=⟨F-1,by omega⟩
   rw[yj,AB,yO,yO] at h;have e:RW (Cx a) (Cx b)=0:=by unfold RW; rw[Ay (by omega),Ay (by omega)]
   rw[Bp.J6.B1,DX,e];rfl
 | succ j ih =>
   intro F hj hF h;obtain⟨F,rfl⟩:∃G,F=G+1:=⟨F-1,by omega⟩
   have e0:((j+1:Nat):Int)-1=(j:Int):=by omega
   have t0:decide ((0:Int)<=(j:Int))=wg:=Ac (by omega);rw[Kj,A1,<- A6,<- A6] at h
   have up:Cx a / 2^(32*j)<Cx b / 2^(32*j)->Cx a<Cx b:=fun k=>by
    rcases AA (Cx a) (Cx b) with h1 | h1
    ·exact h1
    ·have:=wN (c:=2^(32*j)) h1; omega
   have down:Cx b / 2^(32*j)<Cx a / 2^(32*j)->Cx b<Cx a:=fun k=>by
    rcases AA (Cx b) (Cx a) with h1 | h1
    ·exact h1
    ·have:=wN (c:=2^(32*j)) h1; omega
   rw[Bp.J6.B1,e0,DX,t0,Aa,ha,hb,Aa,Aa,Bw,Bw,GQ ia,GQ ib,Bq (by omega) (by omega)];have ih:=ih F (by omega) (by omega);generalize Cx a / 2^(32*j)=x at *
   generalize Cx b / 2^(32*j)=y at *
   by_cases h1:x%4294967296<y%4294967296
   ·have e:RW (Cx a) (Cx b)=-1:=by unfold RW; rw[Az (up (by omega))]
    rw[Ac (by omega),Aa,e]
   ·rw[Ag (by omega),Af];by_cases h2:y%4294967296<x%4294967296
    ·have:=down (by omega);have e:RW (Cx a) (Cx b)=1:=by unfold RW; rw[Ay (by omega),Az this]
     rw[Ac (by omega),Aa,e];rfl
    ·rw[Ag (by omega),Af];exact ih (by omega)
theorem Adf{l:Bb}(h:QR l){j:Nat}(hj:l.length<=j):Cx l / 2^(32*j)=0 :=z8 (AP (IT h) (Aq (by decide) (by omega)))
theorem Bp.J6.Bi:Kq 89 Bp.J6.Bk:=D6 Bp.J6.E Tryz.func89 (kc Bp.Le.Bi .nil) fun a b hp=>by
 obtain⟨ha,hb⟩:=Bf.1 hp;obtain⟨la,ia⟩:=IX ha;obtain⟨lb,ib⟩:=IX hb;refine⟨max a.length b.length+2,Bp.J6.out [.l a,.l b],[],?_,.int⟩;rw[Bp.J6.ev];have e:max (a.length:Int) (b.length:Int)=((max a.length b.length+1:Nat):Int)-1:=by omega
 rw[e];exact Aew _ ha hb _ _ (by omega) (by omega) (by rw[Adf ia (by omega),Adf ib (by omega)])
theorem VO(N:Nat){a b:Bb}(ha:Hk a=wg)(hb:Hk b=wg):∀(k i c F:Nat),i+k=max a.length b.length+1->k<F->c<=1 ->
 Cx a / 2^(32*i)+Cx b / 2^(32*i)+c=(Cx a+Cx b) / 2^(32*i) ->
 Bp.plus.L0 N F a b (c:Int) (i:Int) (digits i (Cx a+Cx b))=xM (.Bh (.own 100005 tW) .u32 (IH a b)):=by
 obtain⟨la,ia⟩:=IX ha;obtain⟨lb,ib⟩:=IX hb;intro k
 induction k with
 | zero =>
   intro i c F hi hF hc h;obtain⟨F,rfl⟩:∃G,F=G+1:=⟨F-1,by omega⟩
   have t0:decide ((i:Int)<=max (a.length:Int) (b.length:Int))=wy:=Ag (by omega);rw[Bp.plus.B1,DX,t0,Af];unfold IH;rw[show i=max a.length b.length+1 by omega]
 | succ k ih =>
   intro i c F hi hF hc h;obtain⟨F,rfl⟩:∃G,F=G+1:=⟨F-1,by omega⟩
   have t0:decide ((i:Int)<=max (a.length:Int) (b.length:Int))=wg:=Ac (by omega);have t1:decide ((digits i (Cx a+Cx b)).length+1<=GL)=wg:=Ac (by rw[Ed]; unfold GL; omega);rw[Bp.plus.B1,DX,t0,ha,hb,t1];simp only[Aa];rw[GQ ia,GQ ib];have ih:=ih (i+1);rw[Kj,A1 4294967296,<- A6,<- A6,<- A6,IN] at ih;generalize Cx a / 2^(32*i)=x at *
   generalize Cx b / 2^(32*i)=y at *
   generalize (Cx a+Cx b) / 2^(32*i)=z at *
   have e1:BQ (BQ (((x%4294967296:Nat):Int)+((y%4294967296:Nat):Int))+(c:Int))=((x%4294967296+y%4294967296+c:Nat):Int):=by rw[Di (x:=((x%4294967296:Nat):Int)+((y%4294967296:Nat):Int)) (by omega) (by omega),Di (by omega) (by omega)]; omega
   rw[e1,Zp,Ij,Ik,Ih (by omega) (by omega),Di (by omega) (by omega),Bq (by omega) (by omega)];have e2:(x%4294967296+y%4294967296+c)%4294967296=z%4294967296:=by omega
   rw[e2];exact ih ((x%4294967296+y%4294967296+c) / 4294967296) F (by omega) (by omega) (by omega) (by omega)
theorem Xv{i:Nat}{e:TypeId}{k:IntKind}{l:Bb}:Wk [i] (.Bh (.own i e) k l) (.Bh .arg k l):=.AhX i e k l (List.mem_singleton.2 rfl)
theorem Bp.plus.Bi:Kq 87 Bp.plus.Bk:=D6 Bp.plus.E Tryz.func87 (kc Bp.Le.Bi .nil) fun a b hp=>by obtain⟨ha,hb⟩:=Bf.1 hp;refine⟨max a.length b.length+2,.Bh (.own 100005 tW) .u32 (IH a b),[100005],?_,Xv⟩;rw[Bp.plus.ev];exact VO _ ha hb (max a.length b.length+1) 0 0 _ (by omega) (by omega) (by omega) (by simp)
theorem Abb(N:Nat){a b:Bb}(ha:Hk a=wg)(hb:Hk b=wg):∀(k i w F:Nat),i+k=a.length->k<F->w<=1 ->
 Cx a / 2^(32*i)=Cx b / 2^(32*i)+(Cx a-Cx b) / 2^(32*i)+w ->
 Bp.minus.L0 N F a b (w:Int) (i:Int) (digits i (Cx a-Cx b))=xM (.Bh (.own 100005 tW) .u32 (H3 a b)):=by
 obtain⟨la,ia⟩:=IX ha;obtain⟨lb,ib⟩:=IX hb;intro k
 induction k with
 | zero =>
   intro i c F hi hF hc h;obtain⟨F,rfl⟩:∃G,F=G+1:=⟨F-1,by omega⟩
   have t0:decide ((i:Int)<(a.length:Int))=wy:=Ag (by omega);rw[Bp.minus.B1,Bw,t0,Af];unfold H3;rw[show i=a.length by omega]
 | succ k ih =>
   intro i w F hi hF hc h;obtain⟨F,rfl⟩:∃G,F=G+1:=⟨F-1,by omega⟩
   have t0:decide ((i:Int)<(a.length:Int))=wg:=Ac (by omega);have t1:decide ((digits i (Cx a-Cx b)).length+1<=GL)=wg:=Ac (by rw[Ed]; unfold GL; omega);rw[Bp.minus.B1,Bw,t0,ha,hb,t1];simp only[Aa];rw[GQ ia,GQ ib];have ih:=ih (i+1);rw[Kj,A1 4294967296,<- A6,<- A6,<- A6,IN] at ih;generalize Cx a / 2^(32*i)=x at *
   generalize Cx b / 2^(32*i)=y at *
   generalize (Cx a-Cx b) / 2^(32*i)=z at *
   have e1:BQ (BQ (BQ ((4294967296:Int)+((x%4294967296:Nat):Int))-((y%4294967296:Nat):Int))-(w:Int))=((4294967296+x%4294967296-y%4294967296-w:Nat):Int):=by rw[Di (x:=(4294967296:Int)+((x%4294967296:Nat):Int)) (by omega) (by omega),Di (x:=(4294967296:Int)+((x%4294967296:Nat):Int)-((y%4294967296:Nat):Int)) (by omega) (by omega),Di (by omega) (by omega)]; omega
   have e2:(4294967296+x%4294967296-y%4294967296-w)%4294967296=z%4294967296:=by omega
   have e3:BQ ((1:Int)-(((4294967296+x%4294967296-y%4294967296-w) / 4294967296:Nat):Int))=((1-(4294967296+x%4294967296-y%4294967296-w) / 4294967296:Nat):Int):=by rw[Di (by omega) (by omega)]; omega
   rw[e1,Zp,Ij,Ik,Ih (by omega) (by omega),Di (x:=(((4294967296+x%4294967296-y%4294967296-w) / 4294967296:Nat):Int)) (by omega) (by omega),Bq (by omega) (by omega),e2,e3];exact ih (1-(4294967296+x%4294967296-y%4294967296-w) / 4294967296) F (by omega) (by omega) (by omega) (by omega)
theorem Bp.minus.Bi:Kq 90 Bp.minus.Bk:=D6 Bp.minus.E Tryz.func90 (kc Bp.Le.Bi .nil) fun a b hp=>by obtain⟨h1,hle⟩:=Bf.1 hp;obtain⟨ha,hb⟩:=Bf.1 h1;have hle:=Bt.1 hle;refine⟨a.length+1,.Bh (.own 100005 tW) .u32 (H3 a b),[100005],?_,Xv⟩;rw[Bp.minus.ev];exact Abb _ ha hb a.length 0 0 _ (by omega) (by omega) (by omega) (by simp; omega)
theorem FI(v:Int):QR (Bn v):=Zq _
theorem Aft{v w:Int}(h:BB v=BB w):wv (BB v) (IH (Bn v) (Bn w))=v+w:=by
 unfold wv;rw[VP (FI _) (FI _),DS,DS];unfold BB at h ⊢;unfold FX;rw[decide_eq_decide] at h;by_cases hv:v<0
 ·have hw:=h.1 hv;rw[Ac hv,Az rfl]; omega
 ·have hw:¬w<0:=fun k=>hv (h.2 k)
  rw[Ag hv,Ay (by decide)]; omega
theorem AbX{v w:Int}(h:BB v≠BB w)(hl:w.natAbs<=v.natAbs):wv (BB v) (H3 (Bn v) (Bn w))=v+w:=by
 unfold wv;rw[Abc _ (FI _),DS,DS];unfold BB at h ⊢;unfold FX;rw[ne_eq,decide_eq_decide] at h;by_cases hv:v<0
 ·have hw:¬w<0:=fun k=>h ⟨fun _=>k,fun _=>hv⟩
  rw[Ac hv,Az rfl]; omega
 ·have hw:w<0:=by
   rcases y6 w 0 with k | k
   ·exact k
   ·exact absurd ⟨fun k'=>absurd k' hv,fun k'=>by omega⟩ h
  rw[Ag hv,Ay (by decide)]; omega
theorem Bp.Add.Bi:Kq 34 Bp.Add.Bk:=D6 Bp.Add.E Tryz.func34 (kc Bp.Made.Bi (kc Bp.J6.Bi (kc Bp.minus.Bi (kc Bp.plus.Bi .nil)))) fun n a m b hp=>by
 obtain⟨h1,h2⟩:=Bf.1 hp;obtain⟨v,rfl,rfl,hv⟩:=Iy h1;obtain⟨w,rfl,rfl,hw⟩:=Iy h2;refine⟨0,Bp.Add.out [.b (BB v),.l (Bn v),.b (BB w),.l (Bn w)],[],?_,WD⟩;have o1:Hk (Bn v)=wg:=Mu (by omega);have o2:Hk (Bn w)=wg:=Mu (by omega);rw[Bp.Add.ev,o1,o2,Ah,Aa];show _=xM (DV.agg [.bool (BB (wv (BB v) (Bn v)+wv (BB w) (Bn w))),.Bh .arg .u32 (Bn (wv (BB v) (Bn v)+wv (BB w) (Bn w)))]);rw[EE,EE];by_cases hs:BB v=BB w
 ·have:(BB v==BB w)=wg:=by simp[hs]
  have o3:Hk (IH (Bn v) (Bn w))=wg:=IW (by rw[ML,CD,CD]; omega) (TO _ _);rw[this,Aa,o3,Aa,Aft hs]
 ·have:(BB v==BB w)=wy:=by simp[hs]
  rw[this,Af,Aa,Bw,DS,DS,AR,AR];by_cases hl:v.natAbs<w.natAbs
  ·have e:decide (RW v.natAbs w.natAbs<0)=wg:=Ac (by unfold RW; rw[Az hl]; decide);have o3:Hk (H3 (Bn w) (Bn v))=wg:=IW (by rw[Pw,CD]; omega) (Wb _ _);have o4:leL (Bn v) (Bn w)=wg:=Bt.2 (by rw[DS,DS]; omega);rw[e,Aa,o4,Aa,o3,Aa,AbX (fun k=>hs k.symm) (by omega),Int.add_comm]
  ·have e:decide (RW v.natAbs w.natAbs<0)=wy:=Ag (by unfold RW; rw[Ay hl]; split<;>decide);have o3:Hk (H3 (Bn v) (Bn w))=wg:=IW (by rw[Pw,CD]; omega) (Wb _ _);have o4:leL (Bn w) (Bn v)=wg:=Bt.2 (by rw[DS,DS]; omega);rw[e,Af,o4,Aa,o3,Aa,AbX hs (by omega)]
def Bp.Ie.E:=E0 [(84,Bp.Made.Bk),(87,Bp.plus.Bk)]
theorem Bp.Ie.ev(N:Nat)(n:Bool)(a:Bb):BX Bp.Ie.E N f131 (Br f131) [.agg [.bool n,.Bh .arg .u32 a]]=cond (Hk a&&Hk a) (bif (Hk (IH a a)) then xM (.agg [.bool (BB (wv n (IH a a))),.Bh .arg .u32 (Bn (wv n (IH a a)))]) else xN) xN :=Et (C0 (Cp _) (C0 (Cp _) rfl rfl) rfl)
def Bp.Jl.hint:Nat->Option BH
 | 0=>xM { CH:=[1,2,3,4],BW:=[(0,3,100003,.Bh 97 .u32 [])],Cf:=[1,2] }
 | _=>xN
def Bp.Jl.E:=CP (CC [(84,Bp.Made.Bk),(130,Bp.Le.Bk)]) (fun _=>wy) Bp.Jl.hint (fun _=>xN)
section
variable(N M:Nat)(n:Bool)(a:Bb)(p4:Int)(p3:Bb)
def Bp.Jl.L0:Option DV:=BU Bp.Jl.E N f86 (Br f86) [1,1,0,1,0] [] M ⟨EP 37 [(1,.ptr 1 0 0),(2,.ptr 2 0 0),(3,.De 100003),(4,.int .i64 p4)],[(1,wy,.box [.bool n,.Bh .arg .u32 a]),(2,wy,.box [.bool wy,.nil]),(100003,wy,.Bh 97 .u32 p3)]⟩
theorem Bp.Jl.B1:Bp.Jl.L0 N (M+1) n a p4 p3=cond (BI p4 (vA a:Int)) (bif (Hk a) then cond (Hk a) (bif ((decide (0<=p4))&&(decide (p4<(vA p3:Int)))) then cond (decide ((wz p4)<(vA p3))) (Bp.Jl.L0 N M n a (Be (p4+1)) (List.set p3 (wz p4) (Ii (BQ (zB (BQ ((BQ ((zH (GB a (Be (p4+1))) 2)*4294967296))+(GB a p4))) 2))))) xN else xN) xN else xN) (bif (Hk p3) then xM (.agg [.bool (BB (wv n p3)),.Bh .arg .u32 (Bn (wv n p3))]) else xN) :=Et (DJ (C0 (Cp _) (C0 (Cp _) (C0 (I1 _ _) (C0 (Cp _) rfl rfl) rfl) rfl) rfl) rfl)
theorem Bp.Jl.ev:BX Bp.Jl.E N f86 (Br f86) [.agg [.bool n,.Bh .arg .u32 a]]=cond (((decide ((0:Int)<=(vA a:Int)))&&(decide ((vA a:Int)<=(vA a:Int))))&&(decide ((vA a:Int)<=GL))) (Bp.Jl.L0 N N n a 0 (zq (wz (vA a:Int)) 0)) xN:=by kernel_rfl
end
def Bp.Ct.hint:Nat->Option BH
 | 0=>xM { CH:=[1,2,4],BW:=[],Cf:=[2,4] }
 | 2=>xM { CH:=[1,2,4],BW:=[],Cf:=[2,4] }
 | 4=>xM { CH:=[1,2,4],BW:=[],Cf:=[2,4] }
 | 6=>xM { CH:=[1,2,4],BW:=[],Cf:=[2,4] }
 | _=>xN
def Bp.Ct.E:=CP (CC [(131,Bp.Ie.Bk),(86,Bp.Jl.Bk),(84,Bp.Made.Bk)]) (fun _=>wy) Bp.Ct.hint (fun _=>xN)
section
variable(N:Nat)(n:Bool)(a:Bb)(k:Int)(M:Nat)(p1_3:Int)(p2_6:Bool)(p2_7:Bb)(p1_2:Int)(p2_4:Bool)(p2_5:Bb)(p1_1:Int)(p2_2:Bool)(p2_3:Bb)(p1:Int)(p2:Bool)(p2_1:Bb)
def Bp.Ct.L0:Option DV:=BU Bp.Ct.E N f91 (Br f91) [1,0,0] [] M ⟨EP 63 [(1,.int .i64 p1),(2,.ptr 2 0 0),(4,.ptr 4 0 0)],[(2,wy,.box [.bool p2,.Bh .arg .u32 p2_1]),(4,wy,.box [.bool wy,.nil])]⟩
def Bp.Ct.L1:Option DV:=BU Bp.Ct.E N f91 (Br f91) [1,1,0,0] [] M ⟨EP 63 [(1,.int .i64 p1_1),(2,.ptr 2 0 0),(4,.ptr 4 0 0)],[(2,wy,.box [.bool p2_2,.Bh .arg .u32 p2_3]),(4,wy,.box [.bool wy,.nil])]⟩
def Bp.Ct.L2:Option DV:=BU Bp.Ct.E N f91 (Br f91) [1,1,1,0,0] [] M ⟨EP 63 [(1,.int .i64 p1_2),(2,.ptr 2 0 0),(4,.ptr 4 0 0)],[(2,wy,.box [.bool p2_4,.Bh .arg .u32 p2_5]),(4,wy,.box [.bool wy,.nil])]⟩
def Bp.Ct.L3:Option DV:=BU Bp.Ct.E N f91 (Br f91) [1,1,1,1,0,0] [] M ⟨EP 63 [(1,.int .i64 p1_3),(2,.ptr 2 0 0),(4,.ptr 4 0 0)],[(2,wy,.box [.bool p2_6,.Bh .arg .u32 p2_7]),(4,wy,.box [.bool wy,.nil])]⟩
theorem Bp.Ct.B1:Bp.Ct.L0 N (M+1) p1 p2 p2_1=cond ((Eu 32 p1)&&(BI 0 (vA p2_1:Int))) (bif (decide (1+(vA p2_1)<=GL)) then cond (Hk ([(0:Int)]++p2_1)) (Bp.Ct.L0 N M (Be (p1-32)) (BB (wv p2 ([(0:Int)]++p2_1))) (Bn (wv p2 ([(0:Int)]++p2_1)))) xN else xN) (Bp.Ct.L1 N N p1 p2 p2_1) :=Et (B4 (L8 (Eu 32 p1)) (B4 (Ka (Eu 32 p1)) (B4 (Ka (Eu 32 p1)) (B4 (Ka (Eu 32 p1)) (B4 (Pp (Eu 32 p1)) (C0 (tt1 _ _) (C0 (Cp _) (C0 (Cp _) rfl rfl) rfl) rfl))))))
theorem Bp.Ct.BZ:Bp.Ct.L1 N (M+1) p1_1 p2_2 p2_3=cond ((BI 0 p1_1)&&(BI 0 (vA p2_3:Int))) (bif (IS p2_2 p2_3) then Bp.Ct.L1 N M (Be (p1_1-1)) (BB (2*wv p2_2 p2_3)) (Bn (2*wv p2_2 p2_3)) else xN) (Bp.Ct.L2 N N p1_1 p2_2 p2_3) :=Et (B4 (L8 (BI 0 p1_1)) (B4 (Ka (BI 0 p1_1)) (B4 (Ka (BI 0 p1_1)) (B4 (Ka (BI 0 p1_1)) (B4 (Pp (BI 0 p1_1)) (C0 (tt1 _ _) rfl rfl))))))
theorem Bp.Ct.EU:Bp.Ct.L2 N (M+1) p1_2 p2_4 p2_5=cond ((Eu p1_2 (-32:Int))&&(BI 0 (vA p2_5:Int))) (bif (decide ((1:Int)<=(vA p2_5:Int))) then cond (Hk (zM 1 p2_5)) (Bp.Ct.L2 N M (Be (p1_2+32)) (BB (wv p2_4 (zM 1 p2_5))) (Bn (wv p2_4 (zM 1 p2_5)))) xN else xN) (Bp.Ct.L3 N N p1_2 p2_4 p2_5) :=Et (B4 (L8 (Eu p1_2 (-32:Int))) (B4 (Ka (Eu p1_2 (-32:Int))) (B4 (Ka (Eu p1_2 (-32:Int))) (B4 (Ka (Eu p1_2 (-32:Int))) (B4 (Pp (Eu p1_2 (-32:Int))) (C0 (tt1 _ _) (C0 (AmK _) (C0 (Cp _) rfl rfl) rfl) rfl))))))
theorem Bp.Ct.Ro:Bp.Ct.L3 N (M+1) p1_3 p2_6 p2_7=cond ((BI p1_3 0)&&(BI 0 (vA p2_7:Int))) (bif (IS p2_6 p2_7) then Bp.Ct.L3 N M (Be (p1_3+1)) (BB (Jq (wv p2_6 p2_7) 1)) (Bn (Jq (wv p2_6 p2_7) 1)) else xN) (xM (.agg [.bool p2_6,.Bh .arg .u32 p2_7])) :=Et (B4 (L8 (BI p1_3 0)) (B4 (Ka (BI p1_3 0)) (B4 (Ka (BI p1_3 0)) (B4 (Ka (BI p1_3 0)) (B4 (Pp (BI p1_3 0)) (C0 (tt1 _ _) rfl rfl))))))
theorem Bp.Ct.ev:BX Bp.Ct.E N f91 (Br f91) [.agg [.bool n,.Bh .arg .u32 a],.int .i64 k]=
 Bp.Ct.L0 N N k n a:=by kernel_rfl
end
def Bp.Sk.hint:Nat->Option BH
 | 0=>xM { CH:=[3,4],BW:=[],Cf:=[] }
 | _=>xN
def Bp.Sk.E:=CP (CC []) (fun _=>wy) Bp.Sk.hint (fun _=>xN)
def Bp.Sk.L0(N M:Nat)(p3 p4:Int):Option DV:=BU Bp.Sk.E N f132 (Br f132) [1,1,1,0,1,0] [] M ⟨EP 29 [(3,.int .i64 p3),(4,.int .u32 p4)],[]⟩
theorem Bp.Sk.B1(N M:Nat)(p3 p4:Int):Bp.Sk.L0 N (M+1) p3 p4=cond (BI 0 p4) (Bp.Sk.L0 N M (Be (p3+1)) (Ii (zB p4 2))) (xM (.int .i64 p3)):=by kernel_rfl
theorem Bp.Sk.ev(N:Nat)(n:Bool)(a:Bb):BX Bp.Sk.E N f132 (Br f132) [.agg [.bool n,.Bh .arg .u32 a]]=cond ((vA a:Int)==(0:Int)) (xM (.int .i64 0)) (bif ((decide (0<=(Be ((vA a:Int)-1))))&&(decide ((Be ((vA a:Int)-1))<(vA a:Int)))) then Bp.Sk.L0 N N (Be ((32:Int)*(Be ((vA a:Int)-1)))) (vB a (wz (Be ((vA a:Int)-1))) 0) else xN):=by kernel_rfl
def Bp.Odd.E:=E0 []
theorem Bp.Odd.ev(N:Nat)(n:Bool)(a:Bb):BX Bp.Odd.E N f85 (Br f85) [.agg [.bool n,.Bh .arg .u32 a]]=cond ((!(BI 0 (vA a:Int)))||(decide ((0:Int)<(vA a:Int)))) (xM (.bool (cond (BI 0 (vA a:Int)) ((zH (vB a 0 0) 2)==(1:Int)) wy))) xN :=Et (B4 (L8 (BI 0 (vA a:Int))) (B4 (Ka (BI 0 (vA a:Int))) (C0 (All _ _) (B4 (Ka (BI 0 (vA a:Int))) (B4 (Ka (BI 0 (vA a:Int))) (B4 (Ka (BI 0 (vA a:Int))) (B4 (Pp (BI 0 (vA a:Int))) rfl)))) rfl)))
theorem Bp.Ie.Bi:Kq 131 Bp.Ie.Bk:=D6 Bp.Ie.E Tryz.func131 (kc Bp.Made.Bi (kc Bp.plus.Bi .nil)) fun n a hp=>by obtain⟨v,rfl,rfl,hv⟩:=Iy hp;refine⟨0,Bp.Ie.out [.b (BB v),.l (Bn v)],[],?_,WD⟩;have o1:Hk (Bn v)=wg:=Mu (by omega);have o3:Hk (IH (Bn v) (Bn v))=wg:=IW (by rw[ML,CD]; omega) (TO _ _);rw[Bp.Ie.ev,o1,o3,Ah,Aa,Aa,Aft rfl];show _=xM (DV.agg [.bool (BB (2*wv (BB v) (Bn v))),.Bh .arg .u32 (Bn (2*wv (BB v) (Bn v)))]);rw[EE,Int.two_mul]
theorem Al9(l:Bb)(y x:Int)(r:Bb):∀i,i=l.length->(l++y::r).set i x=l++x::r:=by
 induction l with
 | nil=>intro i h; subst h; rfl
 | cons z l ih =>
   intro i h;obtain⟨j,rfl⟩:∃j,i=j+1:=⟨i-1,by rw[zt] at h; omega⟩
   show z::(l++y::r).set j x=z::(l++x::r);rw[ih j (by rw[zt] at h; omega)]
theorem AeG(N:Nat){v:Int}(hv:D3 v.natAbs<268435456):∀(k i F:Nat),i+k=D3 v.natAbs->k<F ->
 Bp.Jl.L0 N F (BB v) (Bn v) (i:Int) (digits i (v.natAbs / 2)++zq k 0)=xM (.agg [.bool (BB (Jq v 1)),.Bh .arg .u32 (Bn (Jq v 1))]):=by
 have o1:Hk (Bn v)=wg:=Mu (by omega);have ia:=FI v;intro k
 induction k with
 | zero =>
   intro i F hi hF;obtain⟨F,rfl⟩:∃G,F=G+1:=⟨F-1,by omega⟩
   have t0:decide ((i:Int)<((Bn v).length:Int))=wy:=Ag (by rw[CD]; omega);rw[List.replicate_zero,List.append_nil,Bp.Jl.B1,Bw,t0,Af];have o3:Hk (digits i (v.natAbs / 2))=wg:=IW (by rw[Ed]; omega) (KO _ _)
   have e:wv (BB v) (digits i (v.natAbs / 2))=Jq v 1:=by unfold wv Jq;rw[I9,Ao,Nat.pow_one];have:=Jd v.natAbs;rw[show i=D3 v.natAbs by omega];exact AG (yE _ _) this
   rw[o3,Aa,e]
 | succ k ih =>
   intro i F hi hF;obtain⟨F,rfl⟩:∃G,F=G+1:=⟨F-1,by omega⟩
   have hlen:(digits i (v.natAbs / 2)++zq (k+1) (0:Int)).length=i+(k+1):=by rw[A5,Ed,List.length_replicate]
   have t0:decide ((i:Int)<((Bn v).length:Int))=wg:=Ac (by rw[CD]; omega);have t1:decide ((0:Int)<=(i:Int))=wg:=Ac (by omega);have t2:decide ((i:Int)<((digits i (v.natAbs / 2)++zq (k+1) (0:Int)).length:Int))=wg:=Ac (by rw[hlen]; omega);have t3:decide (i<(digits i (v.natAbs / 2)++zq (k+1) (0:Int)).length)=wg:=Ac (by rw[hlen]; omega);have e0:Be ((i:Int)+1)=((i+1:Nat):Int):=by rw[Bq (by omega) (by omega)]; omega
   rw[Bp.Jl.B1,Bw,t0,o1,Ad,t1,t2,t3,Ah];simp only[Aa];rw[e0,GQ ia,GQ ia,DS];have ih:=ih (i+1) F (by omega) (by omega);rw[IN,A6,A1 2,<- A6] at ih;rw[Kj,A1 4294967296,<- A6,List.replicate_succ,Al9 _ _ _ _ i (Ed _ _).symm];rw[List.append_assoc] at ih;generalize v.natAbs / 2^(32*i)=x at *
   have e1:zH ((x / 4294967296%4294967296:Nat):Int) 2=((x / 4294967296%4294967296%2:Nat):Int):=Ij _ 2
   have e2:BQ (BQ (((x / 4294967296%4294967296%2:Nat):Int)*4294967296)+((x%4294967296:Nat):Int))=((x / 4294967296%4294967296%2*4294967296+x%4294967296:Nat):Int):=by rw[Di (x:=((x / 4294967296%4294967296%2:Nat):Int)*4294967296) (by omega) (by omega),Di (by omega) (by omega)]; omega
   have e3:zB ((x / 4294967296%4294967296%2*4294967296+x%4294967296:Nat):Int) 2=(((x / 4294967296%4294967296%2*4294967296+x%4294967296) / 2:Nat):Int):=Ik _ 2;have e4:(x / 4294967296%4294967296%2*4294967296+x%4294967296) / 2=x / 2%4294967296:=by omega
   rw[e1,e2,e3,e4,Di (by omega) (by omega),Ih (by omega) (by omega)];exact ih
theorem Bp.Jl.Bi:Kq 86 Bp.Jl.Bk:=D6 Bp.Jl.E Tryz.func86 (kc Bp.Made.Bi (kc Bp.Le.Bi .nil)) fun n a hp=>by obtain⟨v,rfl,rfl,hv⟩:=Iy hp;refine⟨D3 v.natAbs+1,Bp.Jl.out [.b (BB v),.l (Bn v)],[],?_,WD⟩;show _=xM (DV.agg [.bool (BB (Jq (wv (BB v) (Bn v)) 1)),.Bh .arg .u32 (Bn (Jq (wv (BB v) (Bn v)) 1))]);rw[Bp.Jl.ev,EE,CD,Ac (by omega),Ac (by omega),Ac (by unfold GL; omega),Ah,Ah,Aa,Ad];have h:=AeG (D3 v.natAbs+1) hv (D3 v.natAbs) 0 (D3 v.natAbs+1) (by omega) (by omega);rw[digits,List.nil_append] at h;exact h
def Aao(v:Int):Option DV:=xM (.agg [.bool (BB v),.Bh .arg .u32 (Bn v)])
theorem QP(v:Int):BI (0:Int) ((Bn v).length:Int)=decide (v≠0):=by
 rw[Bw,CD,decide_eq_decide];constructor
 ·intro h e;rw[e] at h;exact absurd h (by decide)
 ·intro h;have:=Iq (n:=v.natAbs) (by omega);omega
theorem Al3(N:Nat):∀(j F:Nat) (v:Int),j<F->j<2000000->D3 v.natAbs<268435456->Bp.Ct.L3 N F (-(j:Int)) (BB v) (Bn v)=Aao (Jq v j):=by
 intro j
 induction j with
 | zero =>
   intro F v hF _ hv;obtain⟨F,rfl⟩:∃G,F=G+1:=⟨F-1,by omega⟩
   rw[Bp.Ct.Ro,Bw,Ag (by omega),z6,Af,YJ];rfl
 | succ j ih =>
   intro F v hF hj hv;obtain⟨F,rfl⟩:∃G,F=G+1:=⟨F-1,by omega⟩
   rw[Bp.Ct.Ro,Bw,Ac (by omega),AR,QP];by_cases h0:v=0
   ·rw[Ag (by omega),Af,h0,O7];rfl
   ·rw[Ac h0,Aa,Hj hv,Aa,EE,Bq (by omega) (by omega)];have e:-((j+1:Nat):Int)+1=-(j:Int):=by omega
    have hl:D3 (Jq v 1).natAbs<268435456:=by rw[Kz];exact AG (KL (yE _ _)) hv
    rw[e,ih F (Jq v 1) (by omega) (by omega) hl,Xf,Nat.add_comm]
theorem AbW(v:Int):wv (BB v) ((Bn v).drop 1)=Jq v 32:=by unfold wv Jq;rw[Ad3 (FI v),DS,two32]
theorem Al4(N:Nat):∀(F j:Nat) (v:Int),j<F->j<N->j<2000000->D3 v.natAbs<268435456->Bp.Ct.L2 N F (-(j:Int)) (BB v) (Bn v)=Aao (Jq v j):=by
 intro F
 induction F with
 | zero=>intro j v h; omega
 | succ F ih =>
   intro j v hF hN hj hv;rw[Bp.Ct.EU,DX,QP];by_cases hc:32<=j/\v≠0
   ·have o3:Hk ((Bn v).drop 1)=wg:=IW (by rw[zW,CD]; omega) (Z3 (FI v))
    have t1:decide ((1:Int)<=((Bn v).length:Int))=wg:=Ac (by rw[CD];have:=Iq (n:=v.natAbs) (by omega);omega)
    have hl:D3 (Jq v 32).natAbs<268435456:=by rw[Kz];exact AG (KL (yE _ _)) hv
    rw[Ac (by omega),Ac hc.2,Ah,Aa,t1,Aa,o3,Aa,AbW,Bq (by omega) (by omega)];have e:-(j:Int)+32=-((j-32:Nat):Int):=by omega
    rw[e,ih (j-32) (Jq v 32) (by omega) (by omega) (by omega) hl,Xf];congr 2;omega
   ·have:(decide (-(j:Int)<=-32)&&decide (v≠0))=wy:=by rw[yP,Av,Av];omega
    rw[this,Af];exact Al3 N j N v hN hj hv
theorem So(N F:Nat){k:Int}(hk:0<=k)(hN:0<N)(v:Int):Bp.Ct.L2 N (F+1) k (BB v) (Bn v)=Aao v:=by
 obtain⟨M,rfl⟩:∃M,N=M+1:=⟨N-1,by omega⟩
 rw[Bp.Ct.EU,DX,Ag (by omega),z6,Af,Bp.Ct.Ro,Bw,Ag (by omega),z6,Af];rfl
theorem Al5(N:Nat)(hN:0<N):∀(j F:Nat) (v:Int),j<F->j<2000000->D3 v.natAbs+j<268435456->Bp.Ct.L1 N F (j:Int) (BB v) (Bn v)=Aao (v*((2^j:Nat):Int)):=by
 obtain⟨M,rfl⟩:∃M,N=M+1:=⟨N-1,by omega⟩
 intro j
 induction j with
 | zero =>
   intro F v hF _ hv;obtain⟨F,rfl⟩:∃G,F=G+1:=⟨F-1,by omega⟩
   rw[Bp.Ct.BZ,Bw,Ag (by omega),z6,Af,So _ _ (by omega) (by omega),AB];congr 1;omega
 | succ j ih =>
   intro F v hF hj hv;obtain⟨F,rfl⟩:∃G,F=G+1:=⟨F-1,by omega⟩
   rw[Bp.Ct.BZ,Bw,Ac (by omega),AR,QP];by_cases h0:v=0
   ·rw[Ag (by omega),Af,h0,yx,So _ _ (by omega) (by omega)]
   ·have hl:=Ahv v.natAbs;have e2:(2*v).natAbs=2*v.natAbs:=by omega
    have e:((j+1:Nat):Int)-1=(j:Int):=by omega
    rw[Ac h0,Aa,Hj (by omega),Aa,EE,Bq (by omega) (by omega),e,ih F (2*v) (by omega) (by omega) (by rw[e2]; omega)];congr 1;rw[zG,Ax,Int.mul_comm 2 v,wc,Int.mul_comm ((2^j:Nat):Int)];rfl
theorem Am4(v:Int):wv (BB v) ([(0:Int)]++Bn v)=v*((2^32:Nat):Int):=by
 have e:Cx ([(0:Int)]++Bn v)=4294967296*v.natAbs:=by show Cx (0::Bn v)=_;rw[Cx,DS];exact AO _
 unfold wv;rw[e,two32];by_cases h:v<0
 ·rw[O9 h]; omega
 ·rw[O8 h]; omega
theorem Al6(N:Nat):∀(F j:Nat) (v:Int),j<F->j<N->j<2000000->D3 v.natAbs+j<268435456->Bp.Ct.L0 N F (j:Int) (BB v) (Bn v)=Aao (v*((2^j:Nat):Int)):=by
 intro F
 induction F with
 | zero=>intro j v h; omega
 | succ F ih =>
   intro j v hF hN hj hv;rw[Bp.Ct.B1,DX,QP];by_cases hc:32<=j/\v≠0
   ·have o3:Hk ([(0:Int)]++Bn v)=wg:=IW (by rw[A5,CD]; show 1+_<_; omega) (Z0 (FI v));have t1:decide (1+(Bn v).length<=GL)=wg:=Ac (by rw[CD]; unfold GL; omega);have e2:(v*((2^32:Nat):Int)).natAbs=v.natAbs*4294967296:=by rw[yw,zX,two32]
    have hl:=AjT v.natAbs;rw[Ac (by omega),Ac hc.2,Ah,Aa,t1,Aa,o3,Aa,Am4,Bq (by omega) (by omega)];have e:(j:Int)-32=((j-32:Nat):Int):=by omega
    rw[e,ih (j-32) _ (by omega) (by omega) (by omega) (by rw[e2]; omega)];have e3:2^j=2^32*2^(j-32):=by rw[<- A2]; congr 1; omega
    rw[e3,Ax,wc]
   ·have:(decide ((32:Int)<=(j:Int))&&decide (v≠0))=wy:=by rw[yP,Av,Av];omega
    rw[this,Af];exact Al5 N (by omega) j N v hN hj hv
theorem Aa8(N j:Nat)(v:Int)(hj:0<j)(hN:j<N)(hj2:j<2000000)(hv:D3 v.natAbs<268435456):Bp.Ct.L0 N N (-(j:Int)) (BB v) (Bn v)=Aao (Jq v j):=by
 obtain⟨M,rfl⟩:∃M,N=M+1:=⟨N-1,by omega⟩
 rw[Bp.Ct.B1,DX,Ag (by omega),z6,Af,Bp.Ct.BZ,Bw,Ag (by omega),z6,Af];exact Al4 _ _ j v hN hN hj2 hv
theorem Bp.Ct.Bi:Kq 91 Bp.Ct.Bk:=D6 Bp.Ct.E Tryz.func91 (kc Bp.Ie.Bi (kc Bp.Jl.Bi (kc Bp.Made.Bi .nil))) fun n a k hp=>by
 obtain⟨h1,h2⟩:=Bf.1 hp;obtain⟨v,rfl,rfl,hv⟩:=MT h1;have h2:=Bt.1 h2;refine⟨k.natAbs+1,Bp.Ct.out [.b (BB v),.l (Bn v),.i k],[],?_,WD⟩;show _=xM (DV.agg [.bool (BB (Hv (wv (BB v) (Bn v)) k)),.Bh .arg .u32 (Bn (Hv (wv (BB v) (Bn v)) k))]);rw[Bp.Ct.ev,EE];unfold Hv;by_cases h:0<=k
 ·obtain⟨j,rfl⟩:∃j:Nat,k=j:=⟨k.toNat,by omega⟩
  rw[Az h,Ad,zX];exact Al6 _ _ j v (by omega) (by omega) (by omega) (by omega)
 ·obtain⟨j,rfl⟩:∃j:Nat,k=-(j:Int):=⟨(-k).toNat,by omega⟩
  have e:(-(-(j:Int))).toNat=j:=by omega
  rw[Ay h,e,y7,zX];exact Aa8 _ j v (by omega) (by omega) (by omega) (by omega)
theorem Ae7{t:Nat}(h:2<=t):(t / 2).log2+1=t.log2:=by have:=Zl (n:=t) (m:=1) (by omega);rw[Nat.pow_one] at this;exact this
theorem Ahu(N:Nat):∀(F:Nat) (t:Nat) (p:Int),t<2^32->0<t->t.log2+1<F->-1000<=p->p+t.log2<4611686018427387904 ->
 Bp.Sk.L0 N F p (t:Int)=xM (.int .i64 (p+t.log2+1)):=by
 intro F
 induction F with
 | zero=>intro t p _ _ h; omega
 | succ F ih =>
   intro t p ht h0 hF hp1 hp2;have e2:zB (t:Int) 2=((t / 2:Nat):Int):=Ik t 2;rw[two32] at ht;rw[Bp.Sk.B1,Bw,Ac (by omega),Aa,e2,Ih (by omega) (by omega),Bq (by omega) (by omega)];by_cases h1:t=1
   ·subst h1;obtain⟨G,rfl⟩:∃G,F=G+1:=⟨F-1,by omega⟩
    rw[Bp.Sk.B1,Bw,Ag (by decide),Af];have:(1:Nat).log2=0:=by decide
    rw[this];congr 2;omega
   ·have hl:=Ae7 (t:=t) (by omega);rw[ih (t / 2) (p+1) (by rw[two32]; omega) (by omega) (by omega) (by omega) (by omega)];congr 2;omega
theorem Bp.Sk.Bi:Kq 132 Bp.Sk.Bk:=D6 Bp.Sk.E Tryz.func132 .nil fun n a hp=>by
 obtain⟨v,rfl,rfl,hv⟩:=Iy hp;refine⟨40,Bp.Sk.out [.b (BB v),.l (Bn v)],[],?_,.int⟩;show _=xM (DV.int .i64 (Ut (wv (BB v) (Bn v))));rw[Bp.Sk.ev,EE,CD];unfold Ut;by_cases h0:v=0
 ·rw[Az h0,h0]; rfl
 ·have hn:v.natAbs≠0:=by omega
  have hl:=Iq hn;have e0:((D3 v.natAbs:Int)==0)=wy:=by simp only[A8,ne_eq]; omega
  have e1:(D3 v.natAbs:Int)-1=((D3 v.natAbs-1:Nat):Int):=by omega
  have hlen:D3 v.natAbs=v.natAbs.log2 / 32+1:=by unfold D3; rw[Ay hn]
  have hge:2^(32*(D3 v.natAbs-1))<=v.natAbs:=AL (Aq (by decide) (by omega)) (zS hn)
  have hq:v.natAbs / 2^(32*(D3 v.natAbs-1))<2^32:=by
   rw[yM (Cs _),<- A2];have:=Jd v.natAbs;have e:32+32*(D3 v.natAbs-1)=32*D3 v.natAbs:=by omega
   rw[e]; exact this
  have hlog:=Zl hge;have hg:=LO (FI v) (D3 v.natAbs-1);have hq':=hq;rw[two32] at hq';rw[DS,Ao hq'] at hg;have hpos:=Nat.div_pos hge (Cs _);have h32:(v.natAbs / 2^(32*(D3 v.natAbs-1))).log2<32:=(AV (by omega)).2 hq;rw[Ay h0,e0,Af,Bq (by omega) (by omega),e1,Ac (by omega),Ac (by omega),Ah,Aa,Ad,hg,Bq (by omega) (by omega)];rw[Ahu 40 40 _ _ hq hpos (by omega) (by omega) (by omega)];congr 2;omega
theorem Bp.Odd.Bi:Kq 85 Bp.Odd.Bk:=D6 Bp.Odd.E Tryz.func85 .nil fun n a hp=>by
 obtain⟨v,rfl,rfl,hv⟩:=Iy hp;refine⟨0,Bp.Odd.out [.b (BB v),.l (Bn v)],[],?_,.bool⟩;show _=xM (DV.bool (Aei (wv (BB v) (Bn v))));rw[Bp.Odd.ev,EE,QP];have hg:=LO (FI v) 0;rw[DS,yj,AB,yO] at hg;have e2:zH ((v.natAbs%4294967296:Nat):Int) 2=((v.natAbs%4294967296%2:Nat):Int):=Ij _ 2;unfold Aei;by_cases h0:v=0
 ·rw[h0]; rfl
 ·have hl:=Iq (n:=v.natAbs) (by omega);rw[hg,e2,Ac h0,CD,Ac (by omega),AQ,Aa,Aa];congr 2;rw[Ar];simp only[beq_iff_eq,Ai];omega
def Bx.Of.hint:Nat->Option BH
 | 0=>xM { CH:=[1,2,4],BW:=[],Cf:=[2,4] }
 | 2=>xM { CH:=[1,2,4],BW:=[],Cf:=[2,4] }
 | _=>xN
def Bx.Of.E:=CP (CC [(86,Bp.Jl.Bk),(84,Bp.Made.Bk),(85,Bp.Odd.Bk)]) (fun _=>wy) Bx.Of.hint (fun _=>xN)
section
variable(N:Nat)(n:Bool)(a:Bb)(e:Int)(M:Nat)(p1_1:Int)(p2_2:Bool)(p2_3:Bb)(p1:Int)(p2:Bool)(p2_1:Bb)
def Bx.Of.L0:Option DV:=BU Bx.Of.E N f31 (Br f31) [1,1,0,0] [] M ⟨EP 33 [(1,.int .i64 p1),(2,.ptr 2 0 0),(4,.ptr 4 0 0)],[(2,wy,.box [.bool p2,.Bh .arg .u32 p2_1]),(4,wy,.box [.bool wy,.nil,.int .i64 0])]⟩
def Bx.Of.L1:Option DV:=BU Bx.Of.E N f31 (Br f31) [1,1,1,0,0] [] M ⟨EP 33 [(1,.int .i64 p1_1),(2,.ptr 2 0 0),(4,.ptr 4 0 0)],[(2,wy,.box [.bool p2_2,.Bh .arg .u32 p2_3]),(4,wy,.box [.bool wy,.nil,.int .i64 0])]⟩
theorem Bx.Of.B1:Bx.Of.L0 N (M+1) p1 p2 p2_1=cond (decide ((0:Int)<(vA p2_1:Int))) (bif ((vB p2_1 0 0)==(0:Int)) then cond (decide ((1:Int)<=(vA p2_1:Int))) (bif (Hk (zM 1 p2_1)) then Bx.Of.L0 N M (Be (p1+32)) (BB (wv p2 (zM 1 p2_1))) (Bn (wv p2 (zM 1 p2_1))) else xN) xN else Bx.Of.L1 N N p1 p2 p2_1) xN :=Et (DJ (DJ (C0 (AmK _) (C0 (Cp _) rfl rfl) rfl) rfl) rfl)
theorem Bx.Of.BZ:Bx.Of.L1 N (M+1) p1_1 p2_2 p2_3=cond (IS p2_2 p2_3) (bif (!(Aei (wv p2_2 p2_3))) then cond (IS p2_2 p2_3) (Bx.Of.L1 N M (Be (p1_1+1)) (BB (Jq (wv p2_2 p2_3) 1)) (Bn (Jq (wv p2_2 p2_3) 1))) xN else xM (.agg [.bool p2_2,.Bh .arg .u32 p2_3,.int .i64 p1_1])) xN:=by kernel_rfl
theorem Bx.Of.ev:BX Bx.Of.E N f31 (Br f31) [.agg [.bool n,.Bh .arg .u32 a],.int .i64 e]=cond ((vA a:Int)==(0:Int)) (xM (.agg [.bool wy,.nil,.int .i64 0])) (Bx.Of.L0 N N e n a):=by kernel_rfl
end
def Bx.Neg.E:=E0 [(98,Bp.Neg.Bk)]
theorem Bx.Neg.ev(N:Nat)(n:Bool)(a:Bb)(e:Int):BX Bx.Neg.E N f94 (Br f94) [.agg [.bool n,.Bh .arg .u32 a,.int .i64 e]]=cond (IS n a) (xM (.agg [.bool (BB (- wv n a)),.Bh .arg .u32 (Bn (- wv n a)),.int .i64 e])) xN :=Et (C0 (Cp _) rfl rfl)
def Bx.Low.E:=E0 []
theorem Bx.Low.ev(N:Nat)(n:Bool)(a:Bb)(e:Int)(m:Bool)(b:Bb)(f:Int):BX Bx.Low.E N f33 (Br f33) [.agg [.bool n,.Bh .arg .u32 a,.int .i64 e],.agg [.bool m,.Bh .arg .u32 b,.int .i64 f]]=cond ((vA a:Int)==(0:Int)) (xM (.int .i64 f)) (bif ((vA b:Int)==(0:Int)) then xM (.int .i64 e) else xM (.int .i64 (min e f))):=by kernel_rfl
def Bx.Level.E:=E0 [(91,Bp.Ct.Bk)]
theorem Bx.Level.ev(N:Nat)(n:Bool)(a:Bb)(e f:Int):BX Bx.Level.E N f35 (Br f35) [.agg [.bool n,.Bh .arg .u32 a,.int .i64 e],.int .i64 f]=cond ((vA a:Int)==(0:Int)) (xM (.agg [.bool n,.Bh .arg .u32 a])) (bif (Rr n a&&AlK (Be (e-f))) then xM (.agg [.bool (BB (Hv (wv n a) (Be (e-f)))),.Bh .arg .u32 (Bn (Hv (wv n a) (Be (e-f))))]) else xN):=by kernel_rfl
def Bx.Add.E:=E0 [(34,Bp.Add.Bk),(35,Bx.Level.Bk),(33,Bx.Low.Bk),(31,Bx.Of.Bk)]
theorem Bx.Add.ev(N:Nat)(n:Bool)(a:Bb)(e:Int)(m:Bool)(b:Bb)(f:Int):BX Bx.Add.E N f10 (Br f10) [.agg [.bool n,.Bh .arg .u32 a,.int .i64 e],.agg [.bool m,.Bh .arg .u32 b,.int .i64 f]]=cond (IS n a&&IS m b) (bif (Rr n a&&Aeh (wv n a) e (D2 (wv n a) e (wv m b) f)) then cond (Rr m b&&Aeh (wv m b) f (D2 (wv n a) e (wv m b) f)) (bif (IS (BB (Hv (wv n a) (e-(D2 (wv n a) e (wv m b) f)))) (Bn (Hv (wv n a) (e-(D2 (wv n a) e (wv m b) f))))&&IS (BB (Hv (wv m b) (f-(D2 (wv n a) e (wv m b) f)))) (Bn (Hv (wv m b) (f-(D2 (wv n a) e (wv m b) f))))) then cond (IS (BB (wv (BB (Hv (wv n a) (e-(D2 (wv n a) e (wv m b) f)))) (Bn (Hv (wv n a) (e-(D2 (wv n a) e (wv m b) f))))+wv (BB (Hv (wv m b) (f-(D2 (wv n a) e (wv m b) f)))) (Bn (Hv (wv m b) (f-(D2 (wv n a) e (wv m b) f)))))) (Bn (wv (BB (Hv (wv n a) (e-(D2 (wv n a) e (wv m b) f)))) (Bn (Hv (wv n a) (e-(D2 (wv n a) e (wv m b) f))))+wv (BB (Hv (wv m b) (f-(D2 (wv n a) e (wv m b) f)))) (Bn (Hv (wv m b) (f-(D2 (wv n a) e (wv m b) f))))))&&PJ (D2 (wv n a) e (wv m b) f)) (xM (.agg [.bool (BB (mD (wv (BB (wv (BB (Hv (wv n a) (e-(D2 (wv n a) e (wv m b) f)))) (Bn (Hv (wv n a) (e-(D2 (wv n a) e (wv m b) f))))+wv (BB (Hv (wv m b) (f-(D2 (wv n a) e (wv m b) f)))) (Bn (Hv (wv m b) (f-(D2 (wv n a) e (wv m b) f)))))) (Bn (wv (BB (Hv (wv n a) (e-(D2 (wv n a) e (wv m b) f)))) (Bn (Hv (wv n a) (e-(D2 (wv n a) e (wv m b) f))))+wv (BB (Hv (wv m b) (f-(D2 (wv n a) e (wv m b) f)))) (Bn (Hv (wv m b) (f-(D2 (wv n a) e (wv m b) f))))))))),.Bh .arg .u32 (Bn (mD (wv (BB (wv (BB (Hv (wv n a) (e-(D2 (wv n a) e (wv m b) f)))) (Bn (Hv (wv n a) (e-(D2 (wv n a) e (wv m b) f))))+wv (BB (Hv (wv m b) (f-(D2 (wv n a) e (wv m b) f)))) (Bn (Hv (wv m b) (f-(D2 (wv n a) e (wv m b) f)))))) (Bn (wv (BB (Hv (wv n a) (e-(D2 (wv n a) e (wv m b) f)))) (Bn (Hv (wv n a) (e-(D2 (wv n a) e (wv m b) f))))+wv (BB (Hv (wv m b) (f-(D2 (wv n a) e (wv m b) f)))) (Bn (Hv (wv m b) (f-(D2 (wv n a) e (wv m b) f))))))))),.int .i64 (eD (wv (BB (wv (BB (Hv (wv n a) (e-(D2 (wv n a) e (wv m b) f)))) (Bn (Hv (wv n a) (e-(D2 (wv n a) e (wv m b) f))))+wv (BB (Hv (wv m b) (f-(D2 (wv n a) e (wv m b) f)))) (Bn (Hv (wv m b) (f-(D2 (wv n a) e (wv m b) f)))))) (Bn (wv (BB (Hv (wv n a) (e-(D2 (wv n a) e (wv m b) f)))) (Bn (Hv (wv n a) (e-(D2 (wv n a) e (wv m b) f))))+wv (BB (Hv (wv m b) (f-(D2 (wv n a) e (wv m b) f)))) (Bn (Hv (wv m b) (f-(D2 (wv n a) e (wv m b) f))))))) (D2 (wv n a) e (wv m b) f))])) xN else xN) xN else xN) xN :=Et (DJ (C0 (Cp _) (C0 (Cp _) (C0 (Cp _) (C0 (Cp _) rfl rfl) rfl) rfl) rfl) rfl)
def Bx.Sub.E:=E0 [(10,Bx.Add.Bk),(94,Bx.Neg.Bk)]
theorem Bx.Sub.ev(N:Nat)(n:Bool)(a:Bb)(e:Int)(m:Bool)(b:Bb)(f:Int):BX Bx.Sub.E N f39 (Br f39) [.agg [.bool n,.Bh .arg .u32 a,.int .i64 e],.agg [.bool m,.Bh .arg .u32 b,.int .i64 f]]=cond (IS m b) (bif (((Rr n a&&Rr (BB (- wv m b)) (Bn (- wv m b)))&&MU e)&&MU f) then xM (.agg [.bool (BB (Ly (wv n a) e (wv (BB (- wv m b)) (Bn (- wv m b))) f)),.Bh .arg .u32 (Bn (Ly (wv n a) e (wv (BB (- wv m b)) (Bn (- wv m b))) f)),.int .i64 (Aag (wv n a) e (wv (BB (- wv m b)) (Bn (- wv m b))) f)]) else xN) xN :=Et (C0 (Cp _) (C0 (Cp _) rfl rfl) rfl)
def Bx.Dx.E:=E0 [(31,Bx.Of.Bk)]
theorem Bx.Dx.ev(N:Nat)(n:Bool)(a:Bb)(e k:Int):BX Bx.Dx.E N f36 (Br f36) [.agg [.bool n,.Bh .arg .u32 a,.int .i64 e],.int .i64 k]=cond (IS n a&&PJ (Be (e+k))) (xM (.agg [.bool (BB (mD (wv n a))),.Bh .arg .u32 (Bn (mD (wv n a))),.int .i64 (eD (wv n a) (Be (e+k)))])) xN:=by kernel_rfl
def Bx.Yu.E:=E0 [(132,Bp.Sk.Bk)]
theorem Bx.Yu.ev(N:Nat)(n:Bool)(a:Bb)(e:Int):BX Bx.Yu.E N f93 (Br f93) [.agg [.bool n,.Bh .arg .u32 a,.int .i64 e]]=cond ((vA a:Int)==(0:Int)) (xM (.int .i64 0)) (bif (IS n a) then xM (.int .i64 (Be ((Ut (wv n a))+e))) else xN) :=Et (DJ rfl (C0 (Cp _) rfl rfl))
def Bx.Sign.E:=E0 []
theorem Bx.Sign.ev(N:Nat)(n:Bool)(a:Bb)(e:Int):BX Bx.Sign.E N f92 (Br f92) [.agg [.bool n,.Bh .arg .u32 a,.int .i64 e]]=cond n (xM (.int .i64 (-1:Int))) (xM (.int .i64 (min (vA a:Int) 1))):=by kernel_rfl
def Bx.Compare.E:=E0 [(92,Bx.Sign.Bk),(39,Bx.Sub.Bk),(93,Bx.Yu.Bk)]
theorem Bx.Compare.ev(N:Nat)(n:Bool)(a:Bb)(e:Int)(m:Bool)(b:Bb)(f:Int):BX Bx.Compare.E N f38 (Br f38) [.agg [.bool n,.Bh .arg .u32 a,.int .i64 e],.agg [.bool m,.Bh .arg .u32 b,.int .i64 f]]=cond (IS n a) (bif (IS m b) then cond ((Lv (wv n a)) !=(Lv (wv m b))) (bif (IS n a) then cond (IS m b) (xM (.int .i64 (min 1 (max (-1:Int) (Be ((Lv (wv n a))-(Lv (wv m b)))))))) xN else xN) (bif (IS n a&&MU e) then cond (IS m b&&MU f) (bif ((Hy (wv n a) e) !=(Hy (wv m b) f)) then cond (IS n a&&MU e) (bif (IS m b&&MU f) then cond (IS n a) (bif ((BI (Hy (wv m b) f) (Hy (wv n a) e))==(BI 0 (Lv (wv n a)))) then xM (.int .i64 1) else xM (.int .i64 (-1:Int))) xN else xN) xN else bif (((Rr n a&&Rr m b)&&MU e)&&MU f) then cond (IS (BB (Ly (wv n a) e (- wv m b) f)) (Bn (Ly (wv n a) e (- wv m b) f))) (xM (.int .i64 (Lv (wv (BB (Ly (wv n a) e (- wv m b) f)) (Bn (Ly (wv n a) e (- wv m b) f)))))) xN else xN) xN else xN) else xN) xN :=Et (C0 (Cp _) (C0 (Cp _) (DJ (C0 (Cp _) (C0 (Cp _) rfl rfl) rfl) (C0 (Cp _) (C0 (Cp _) (DJ (C0 (Cp _) (C0 (Cp _) (C0 (Cp _) rfl rfl) rfl) rfl) rfl) rfl) rfl)) rfl) rfl)
abbrev Bx.Add.q.Kn:Prop:=DR prog 10 Bx.Add.q.Bk
abbrev Bx.Sub.q.Kn:Prop:=DR prog 39 Bx.Sub.q.Bk
abbrev Bx.Dx.q.Kn:Prop:=DR prog 36 Bx.Dx.q.Bk
abbrev Bx.Compare.q.Kn:Prop:=DR prog 38 Bx.Compare.q.Bk
abbrev Bx.Of.q.Kn:Prop:=DR prog 31 Bx.Of.q.Bk
def AeS(v e:Int):Option DV:=xM (.agg [.bool (BB v),.Bh .arg .u32 (Bn v),.int .i64 e])
theorem wdy{drops:List Nat}{b:Bool}{l:Bb}{e:Int}:Wk drops (.agg [.bool b,.Bh .arg .u32 l,.int .i64 e]) (.agg [.bool b,.Bh .arg .u32 l,.int .i64 e]):=Wk.Gt (.cons .bool (.cons .Sd (.cons .int .nil)))
theorem Ah9(v:Int):(Bn v).getD 0 0=((v.natAbs%4294967296:Nat):Int):=by have hg:=LO (FI v) 0;rw[DS,yj,AB,yO] at hg;exact hg
theorem Acr{v:Int}{k:Nat}(h:D3 v.natAbs<268435456):D3 (Jq v k).natAbs<268435456:=by rw[Kz];exact AG (KL (yE _ _)) h
theorem Agf{v:Int}{k:Nat}(h0:v≠0)(h:v.natAbs%2^k=0):Jq v k≠0/\N9 (Jq v k).natAbs+k=N9 v.natAbs:=by
 have hv:=Nat.div_add_mod v.natAbs (2^k);rw[h,AM,A1] at hv
 have hq:v.natAbs / 2^k≠0:=by intro e; rw[e] at hv; omega
 have ht:=WM hq k;rw[hv] at ht;have ha:=Kz v k;refine⟨by omega,?_⟩;rw[ha];omega
theorem AgE(N:Nat):∀(F:Nat) (v e:Int),v≠0->N9 v.natAbs<F->D3 v.natAbs<268435456->-4000000000000<=e->e+N9 v.natAbs<=400000000000000 ->
 Bx.Of.L1 N F e (BB v) (Bn v)=AeS (mD v) (eD v e):=by
 intro F
 induction F with
 | zero=>intro v e _ h; omega
 | succ F ih =>
   intro v e h0 hF hv h1 h2;rw[Bx.Of.BZ,Hj hv,Aa,EE];by_cases ho:v%2=1
   ·have:Aei v=wg:=Ac ho;rw[this,AD,Af,AlS ho,Amh ho];rfl
   ·have:Aei v=wy:=Ag ho;have hm:v.natAbs%2^1=0:=by rw[Nat.pow_one]; omega
    obtain⟨n1,n2⟩:=Agf h0 hm;rw[this,AZ,Aa,Aa,Bq (by omega) (by omega),ih (Jq v 1) (e+1) n1 (by omega) (Acr hv) (by omega) (by omega),Abf hm];have:=Ab7 (e:=e) hm h0;rw[<- this];rfl
theorem AgF(N:Nat):∀(F:Nat) (v e:Int),v≠0->N9 v.natAbs<F->N9 v.natAbs<N->D3 v.natAbs<268435456->-4000000000000<=e->e+N9 v.natAbs<=400000000000000 ->
 Bx.Of.L0 N F e (BB v) (Bn v)=AeS (mD v) (eD v e):=by
 intro F
 induction F with
 | zero=>intro v e _ h; omega
 | succ F ih =>
   intro v e h0 hF hN hv h1 h2;have hl:=Iq (n:=v.natAbs) (by omega);rw[Bx.Of.B1,CD,Ac (by omega),Aa,Ah9];by_cases hz:v.natAbs%4294967296=0
   ·have e0:(((v.natAbs%4294967296:Nat):Int)==0)=wg:=by rw[hz]; rfl
    have o3:Hk ((Bn v).drop 1)=wg:=IW (by rw[zW,CD]; omega) (Z3 (FI v));have hm:v.natAbs%2^32=0:=by rw[two32]; exact hz
    obtain⟨n1,n2⟩:=Agf h0 hm;rw[e0,Aa,Ac (by omega),Aa,o3,Aa,AbW,Bq (by omega) (by omega),ih (Jq v 32) (e+32) n1 (by omega) (by omega) (Acr hv) (by omega) (by omega),Abf hm];have:=Ab7 (e:=e) hm h0;rw[<- this];rfl
   ·have e0:(((v.natAbs%4294967296:Nat):Int)==0)=wy:=by simp only[A8,ne_eq]; omega
    rw[e0,Af];exact AgE N N v e h0 hN hv h1 h2
theorem AfA{v:Int}(h0:v≠0)(h:D3 v.natAbs<268435456):N9 v.natAbs<8589934592:=by have h1:=AfB (n:=v.natAbs) (by omega);have h2:=We (n:=v.natAbs);omega
theorem Bx.Of.Bi:Kq 31 Bx.Of.Bk:=D6 Bx.Of.E Tryz.func31 (kc Bp.Jl.Bi (kc Bp.Made.Bi (kc Bp.Odd.Bi .nil))) fun n a e hp=>by
 obtain⟨h1,h2⟩:=Bf.1 hp;obtain⟨v,rfl,rfl,hv⟩:=Iy h1;have h2:=Bt.1 h2;by_cases h0:v=0
 ·subst h0;refine⟨0,.agg [.bool wy,.nil,.int .i64 (0:Int)],[],?_,?_⟩
  ·rw[Bx.Of.ev]; rfl
  ·show Wk [] _ (.agg [.bool (BB (mD (wv (BB 0) (Bn 0)))),.Bh .arg .u32 (Bn (mD (wv (BB 0) (Bn 0)))),.int .i64 (eD (wv (BB 0) (Bn 0)) e)]);rw[EE,Jc.2 rfl];exact Wk.Gt (.cons .bool (.cons (.nil _ _) (.cons .int .nil)))
 ·refine⟨N9 v.natAbs+1,Bx.Of.out [.b (BB v),.l (Bn v),.i e],[],?_,wdy⟩;have ht:=AfA h0 hv;have hl:=Iq (n:=v.natAbs) (by omega);have e0:(((Bn v).length:Int)==0)=wy:=by rw[CD]; simp only[A8,ne_eq]; omega
  show _=AeS (mD (wv (BB v) (Bn v))) (eD (wv (BB v) (Bn v)) e);rw[Bx.Of.ev,e0,Af,EE];exact AgF _ _ v e h0 (by omega) (by omega) hv (by omega) (by omega)
theorem Bx.Neg.Bi:Kq 94 Bx.Neg.Bk:=D6 Bx.Neg.E Tryz.func94 (kc Bp.Neg.Bi .nil) fun n a e hp=>by refine⟨0,Bx.Neg.out [.b n,.l a,.i e],[],?_,wdy⟩;have hp:IS n a=wg:=hp;rw[Bx.Neg.ev,hp,Aa];rfl
theorem QO(v:Int):(((Bn v).length:Int)==0)=decide (v=0):=by
 rw[CD,Ar];simp only[beq_iff_eq,Ai];constructor
 ·intro h;rcases wj v 0 with k | k | k
  ·have:=Iq (n:=v.natAbs) (by omega); omega
  ·exact k
  ·have:=Iq (n:=v.natAbs) (by omega); omega
 ·intro h; rw[h]; rfl
theorem Bx.Low.Bi:Kq 33 Bx.Low.Bk:=D6 Bx.Low.E Tryz.func33 .nil fun n a e m b f hp=>by
 obtain⟨h1,h2⟩:=Bf.1 hp;obtain⟨v,rfl,rfl,hv⟩:=Iy h1;obtain⟨w,rfl,rfl,hw⟩:=Iy h2;refine⟨0,Bx.Low.out [.b (BB v),.l (Bn v),.i e,.b (BB w),.l (Bn w),.i f],[],?_,.int⟩;show _=xM (DV.int .i64 (D2 (wv (BB v) (Bn v)) e (wv (BB w) (Bn w)) f));rw[Bx.Low.ev,EE,EE,QO,QO];unfold D2;by_cases h:v=0
 ·rw[Ac h,Aa,Az h]
 ·rw[Ag h,Af,Ay h];by_cases h':w=0
  ·rw[Ac h',Aa,Az h']
  ·rw[Ag h',Af,Ay h']
theorem T2(k:Int):Hv 0 k=0:=by
 unfold Hv;split
 ·exact yx _
 ·exact O7 _
theorem Bx.Level.Bi:Kq 35 Bx.Level.Bk:=D6 Bx.Level.E Tryz.func35 (kc Bp.Ct.Bi .nil) fun n a e f hp=>by
 obtain⟨h1,h2⟩:=Bf.1 hp;obtain⟨v,rfl,rfl,hv⟩:=MT h1;refine⟨0,Bx.Level.out [.b (BB v),.l (Bn v),.i e,.i f],[],?_,WD⟩;show _=Aao (Hv (wv (BB v) (Bn v)) (e-f));unfold Aeh at h2;rw[EE] at h2;obtain⟨h3,h4⟩:=Bf.1 h2;have h3:=Bt.1 h3;have h4:=Bt.1 h4;rw[Bx.Level.ev,EE,QO];by_cases h:v=0
 ·rw[Ac h,Aa,h,T2]; rfl
 ·have o:AlK (Be (e-f))=wg:=by rw[Bq (by omega) (by omega)]; exact Bt.2 (by omega)
  rw[Ag h,Af,h1,o,Ah,Aa,Bq (by omega) (by omega)];rfl
theorem Ahw(n k:Nat):D3 (n*2^k)<=D3 n+k:=by refine JB ?_;have h1:=Jd n;have h2:n*2^k<2^(32*D3 n)*2^k:=(Nat.mul_lt_mul_right (Cs k)).2 h1;rw[<- A2] at h2;exact AP h2 (Aq (by decide) (by omega))
theorem Ahx(v k:Int):D3 (Hv v k).natAbs<=D3 v.natAbs+k.toNat:=by
 unfold Hv;by_cases h:0<=k
 ·rw[Az h,yw,zX];exact Ahw _ _
 ·rw[Ay h,Kz];exact AL (KL (yE _ _)) (Nat.le_add_right _ _)
theorem Zv(v w:Int):D3 (v+w).natAbs<=max (D3 v.natAbs) (D3 w.natAbs)+1:=by refine JB ?_;have h1:=Jd v.natAbs;have h2:=Jd w.natAbs;have h3:2^(32*D3 v.natAbs)<=2^(32*max (D3 v.natAbs) (D3 w.natAbs)):=Aq (by decide) (by omega);have h4:2^(32*D3 w.natAbs)<=2^(32*max (D3 v.natAbs) (D3 w.natAbs)):=Aq (by decide) (by omega);rw[Kj];omega
theorem Ul{v e w f:Int}(he:-400000<=e/\e<=400000)(hf:-400000<=f/\f<=400000):-400000<=D2 v e w f/\D2 v e w f<=400000:=by
 unfold D2;split
 ·exact hf
 ·split
  ·exact he
  ·omega
theorem SR{v e l:Int}(hv:D3 v.natAbs<134217728)(h:e-l<=800000):D3 (Hv v (e-l)).natAbs<140000000:=by have:=Ahx v (e-l);omega
theorem Bx.Add.Bi:Kq 10 Bx.Add.Bk:=D6 Bx.Add.E Tryz.func10 (kc Bp.Add.Bi (kc Bx.Level.Bi (kc Bx.Low.Bi (kc Bx.Of.Bi .nil)))) fun n a e m b f hp=>by obtain⟨h1,hf⟩:=Bf.1 hp;obtain⟨h2,he⟩:=Bf.1 h1;obtain⟨h3,h4⟩:=Bf.1 h2;obtain⟨v,rfl,rfl,hv⟩:=MT h3;obtain⟨w,rfl,rfl,hw⟩:=MT h4;have he:=Bt.1 he;have hf:=Bt.1 hf;refine⟨0,Bx.Add.out [.b (BB v),.l (Bn v),.i e,.b (BB w),.l (Bn w),.i f],[],?_,wdy⟩;show _=AeS (Ly (wv (BB v) (Bn v)) e (wv (BB w) (Bn w)) f) (Aag (wv (BB v) (Bn v)) e (wv (BB w) (Bn w)) f);have hlo:=Ul (v:=v) (w:=w) he hf;have l1:=SR (l:=D2 v e w f) hv (show e-D2 v e w f<=800000 by omega);have l2:=SR (l:=D2 v e w f) hw (show f-D2 v e w f<=800000 by omega);have l3:=Zv (Hv v (e-D2 v e w f)) (Hv w (f-D2 v e w f));have o1:Aeh v e (D2 v e w f)=wg:=Bf.2 ⟨Bt.2 (by omega),Bt.2 (by omega)⟩;have o2:Aeh w f (D2 v e w f)=wg:=Bf.2 ⟨Bt.2 (by omega),Bt.2 (by omega)⟩;have o3:PJ (D2 v e w f)=wg:=Bt.2 (by omega);rw[Bx.Add.ev];simp only[EE];rw[Hj (v:=v) (by omega),Hj (v:=w) (by omega),h3,h4,o1,o2,Hj (v:=Hv v (e-D2 v e w f)) (by omega),Hj (v:=Hv w (f-D2 v e w f)) (by omega),Hj (v:=Hv v (e-D2 v e w f)+Hv w (f-D2 v e w f)) (by omega),o3];simp only[Ah,Aa];rfl
theorem Bx.Sub.Bi:Kq 39 Bx.Sub.Bk:=D6 Bx.Sub.E Tryz.func39 (kc Bx.Add.Bi (kc Bx.Neg.Bi .nil)) fun n a e m b f hp=>by obtain⟨h1,hf⟩:=Bf.1 hp;obtain⟨h2,he⟩:=Bf.1 h1;obtain⟨h3,h4⟩:=Bf.1 h2;obtain⟨w,rfl,rfl,hw⟩:=MT h4;refine⟨0,Bx.Sub.out [.b n,.l a,.i e,.b (BB w),.l (Bn w),.i f],[],?_,wdy⟩;show _=AeS (Ly (wv n a) e (- wv (BB w) (Bn w)) f) (Aag (wv n a) e (- wv (BB w) (Bn w)) f);rw[Bx.Sub.ev];simp only[EE];rw[Hj (v:=w) (by omega),h3,AaQ (v:=-w) (by rw[y7]; exact hw),he,hf];rfl
theorem Bx.Dx.Bi:Kq 36 Bx.Dx.Bk:=D6 Bx.Dx.E Tryz.func36 (kc Bx.Of.Bi .nil) fun n a e k hp=>by obtain⟨h1,hk⟩:=Bf.1 hp;obtain⟨h2,he⟩:=Bf.1 h1;have he:=Bt.1 he;have hk:=Bt.1 hk;refine⟨0,Bx.Dx.out [.b n,.l a,.i e,.i k],[],?_,wdy⟩;have o:PJ (e+k)=wg:=Bt.2 (by omega);rw[Bx.Dx.ev,Bq (by omega) (by omega),h2,o];rfl
theorem Zw{v:Int}(h:D3 v.natAbs<268435456):0<=Ut v/\Ut v<=8589934593:=by
 have h2:=We (n:=v.natAbs);unfold Ut;split
 ·omega
 ·constructor<;>omega
theorem Bx.Yu.Bi:Kq 93 Bx.Yu.Bk:=D6 Bx.Yu.E Tryz.func93 (kc Bp.Sk.Bi .nil) fun n a e hp=>by
 obtain⟨h1,he⟩:=Bf.1 hp;obtain⟨v,rfl,rfl,hv⟩:=Iy h1;have he:=Bt.1 he;refine⟨0,Bx.Yu.out [.b (BB v),.l (Bn v),.i e],[],?_,.int⟩;show _=xM (DV.int .i64 (Hy (wv (BB v) (Bn v)) e));have hb:=Zw hv;rw[Bx.Yu.ev,EE,QO,h1];unfold Hy;by_cases h:v=0
 ·rw[Ac h,Aa,Az h]
 ·rw[Ag h,Af,Aa,Ay h,Bq (by omega) (by omega)]
theorem Bx.Sign.Bi:Kq 92 Bx.Sign.Bk:=D6 Bx.Sign.E Tryz.func92 .nil fun n a e hp=>by
 obtain⟨v,rfl,rfl,hv⟩:=Iy hp;refine⟨0,Bx.Sign.out [.b (BB v),.l (Bn v),.i e],[],?_,.int⟩;show _=xM (DV.int .i64 (Lv (wv (BB v) (Bn v))));rw[Bx.Sign.ev,EE,CD];unfold Lv BB;by_cases h:v<0
 ·rw[Ac h,Aa,Az h]
 ·rw[Ag h,Af,Ay h];by_cases h':v=0
  ·rw[Az h',h']; rfl
  ·have:=Iq (n:=v.natAbs) (by omega);rw[Ay h'];congr 2;omega
theorem Abh{v e w f:Int}:(v≠0->0<=e-D2 v e w f)/\(w≠0->0<=f-D2 v e w f):=by
 unfold D2;constructor
 ·intro h;rw[Ay h];split<;>omega
 ·intro h;split
  ·omega
  ·omega
theorem T3{v k:Int}(h:v≠0->0<=k):∃j:Nat,Hv v k=v*((2^j:Nat):Int)/\(v≠0->(j:Int)=k):=by
 by_cases h0:v=0
 ·exact⟨0,by rw[h0,T2,yx],fun k=>absurd h0 k⟩
 ·have hk:=h h0;refine⟨k.toNat,?_,fun _=>by omega⟩;unfold Hv;rw[Az hk]
theorem Ua(v:Int)(j:Nat):(v*((2^j:Nat):Int)<0↔v<0)/\(v*((2^j:Nat):Int)=0↔v=0):=by
 have hp:=Cs j;constructor
 ·constructor
  ·intro h;rcases y6 v 0 with h1 | h1
   ·exact h1
   ·have:=Int.mul_nonneg h1 (Int.natCast_nonneg (2^j)); omega
  ·intro h;exact Int.mul_neg_of_neg_of_pos h (by omega)
 ·constructor
  ·intro h;rcases Int.mul_eq_zero.1 h with h | h
   ·exact h
   ·omega
  ·intro h; rw[h,yx]
theorem Xi(v:Int)(j:Nat):Lv (v*((2^j:Nat):Int))=Lv v:=by obtain⟨h1,h2⟩:=Ua v j;unfold Lv;simp only[h1,h2]
theorem Al8(v:Int):Lv (mD v)=Lv v:=by have:=Xi (mD v) (N9 v.natAbs);rw[<- QF] at this;exact this.symm
theorem Akw(x y:Int):Lv (x+-y)=RV x y:=by
 unfold Lv RV;by_cases h:x<y
 ·rw[Az (by omega),Az h]
 ·rw[Ay (by omega),Ay h];by_cases h':y<x
  ·rw[Ay (by omega),Az h']
  ·rw[Az (by omega),Ay h']
theorem AjI(v e w f:Int):D2 v e (-w) f=D2 v e w f:=by unfold D2;have:(-w=0)=(w=0):=propext ⟨fun h=>by omega,fun h=>by omega⟩;simp only[this]
theorem Ail{x y:Int}(h:Lv x≠Lv y):RV x y=min 1 (max (-1) (Lv x-Lv y)):=by
 unfold Lv at h ⊢;unfold RV;rcases wj x 0 with h1 | h1 | h1<;>rcases wj y 0 with h2 | h2 | h2
 all_goals
  first
  | (exfalso; apply h; simp[show x<0 by omega,show y<0 by omega]; done)
  | (exfalso; apply h; subst h1; subst h2; rfl)
  | (exfalso; apply h; rw[Ay (by omega),Ay (by omega),Ay (by omega),Ay (by omega)]; done)
  | skip
 ·rw[Az (by omega),Az (by omega),Ay (by omega),Az (by omega)]; decide
 ·rw[Az (by omega),Az (by omega),Ay (by omega),Ay (by omega)]; decide
 ·rw[Ay (by omega),Az (by omega),Ay (by omega),Az (by omega),Az (by omega)]; decide
 ·rw[Az (by omega),Ay (by omega),Az (by omega),Ay (by omega),Ay (by omega)]; decide
 ·rw[Ay (by omega),Az (by omega),Ay (by omega),Ay (by omega),Az (by omega)]; decide
 ·rw[Ay (by omega),Az (by omega),Ay (by omega),Ay (by omega),Ay (by omega),Az (by omega)]; decide
theorem Uo{a b:Nat}(ha:a≠0)(h:a.log2<b.log2):a<b:=by
 rcases AA a b with k | k
 ·exact k
 ·have hb:b≠0:=by intro e; rw[e] at h;exact absurd h (by rw[show(0:Nat).log2=0 by decide]; omega)
  have:=(Nat.le_log2 ha).2 (AL (zS hb) k);omega
theorem Akv{v e w f:Int}(hs:Lv v=Lv w)(ht:Hy v e≠Hy w f):
 Rb v e w f=if (decide (Hy w f<Hy v e)==decide (0<Lv v))=wg then 1 else -1:=by
 obtain⟨u1,u2⟩:=Abh (v:=v) (e:=e) (w:=w) (f:=f);obtain⟨j,hx,hj⟩:=T3 u1;obtain⟨k,hy,hk⟩:=T3 u2;unfold Rb;rw[hx,hy]
 have z:v=0↔w=0:=by
  unfold Lv at hs;constructor
  ·intro h; subst h;revert hs;simp;split<;>simp_all
  ·intro h; subst h;revert hs;simp;split<;>simp_all
 by_cases v0:v=0
 ·exfalso;apply ht;unfold Hy;rw[Az v0,Az (z.1 v0)]
 ·have w0:w≠0:=fun h=>v0 (z.2 h)
  have hj:=hj v0;have hk:=hk w0;have nv:v.natAbs≠0:=by omega
  have nw:w.natAbs≠0:=by omega
  have l1:=JP v.natAbs j nv;have l2:=JP w.natAbs k nw;have ax:(v*((2^j:Nat):Int)).natAbs=v.natAbs*2^j:=by rw[yw,zX]
  have ay:(w*((2^k:Nat):Int)).natAbs=w.natAbs*2^k:=by rw[yw,zX]
  have sx:=(Ua v j).1;have sy:=(Ua w k).1;have zx:=AaZ v0 j;have zy:=AaZ w0 k;have tv:Hy v e=(v.natAbs.log2:Int)+1+e:=by unfold Hy Ut; rw[Ay v0,Ay v0]
  have tw:Hy w f=(w.natAbs.log2:Int)+1+f:=by unfold Hy Ut; rw[Ay w0,Ay w0]
  have big:Hy w f<Hy v e->w.natAbs*2^k<v.natAbs*2^j:=fun h=>Uo (GO nw) (by omega)
  have lit:Hy v e<Hy w f->v.natAbs*2^j<w.natAbs*2^k:=fun h=>Uo (GO nv) (by omega)
  generalize v*((2^j:Nat):Int)=x at *
  generalize w*((2^k:Nat):Int)=y at *
  by_cases hv:v<0
  ·have sv:Lv v=-1:=by unfold Lv; rw[Az hv]
   have hw:w<0:=by
    rw[sv] at hs;unfold Lv at hs;rcases y6 w 0 with q | q
    ·exact q
    ·rw[Ay (by omega),Ay w0] at hs; omega
   rw[sv];unfold RV;by_cases h:Hy w f<Hy v e
   ·have:=big h;rw[Ac h,Az (by omega)]; rfl
   ·have:=lit (by omega);rw[Ag h,Ay (by omega),Az (by omega)]; rfl
  ·have sv:Lv v=1:=by unfold Lv; rw[Ay hv,Ay v0]
   have hw:¬w<0:=by intro q;rw[sv] at hs;unfold Lv at hs;rw[Az q] at hs; omega
   rw[sv];unfold RV;by_cases h:Hy w f<Hy v e
   ·have:=big h;rw[Ac h,Ay (by omega),Az (by omega)]; rfl
   ·have:=lit (by omega);rw[Ag h,Az (by omega)]; rfl
theorem Ajc(v e w f:Int):Lv (Ly v e (-w) f)=Rb v e w f:=by
 obtain⟨u1,u2⟩:=Abh (v:=v) (e:=e) (w:=w) (f:=f);obtain⟨k,hy,hk⟩:=T3 u2
 have hy':Hv (-w) (f-D2 v e w f)=-(Hv w (f-D2 v e w f)):=by
  by_cases w0:w=0
  ·rw[w0]; show Hv 0 _=_; rw[T2]; rfl
  ·unfold Hv;rw[Az (u2 w0),Az (u2 w0),xK]
 unfold Ly AbR Rb;rw[Al8,AjI,hy',Akw]
theorem AeX{v e w f:Int}(h:Lv v≠Lv w):Rb v e w f=min 1 (max (-1) (Lv v-Lv w)):=by obtain⟨u1,u2⟩:=Abh (v:=v) (e:=e) (w:=w) (f:=f);obtain⟨j,hx,hj⟩:=T3 u1;obtain⟨k,hy,hk⟩:=T3 u2;have e1:=Xi v j;have e2:=Xi w k;unfold Rb;rw[hx,hy,<- e1,<- e2];exact Ail (by rw[e1,e2]; exact h)
theorem T4(v:Int):-1<=Lv v/\Lv v<=1:=by unfold Lv; split<;>(try split)<;>omega
theorem Ai1{v e w f:Int}(hv:D3 v.natAbs<134217728)(hw:D3 w.natAbs<134217728)(he:-400000<=e/\e<=400000)(hf:-400000<=f/\f<=400000):D3 (Ly v e w f).natAbs<140000001:=by have hlo:=Ul (v:=v) (w:=w) he hf;have l1:=SR (l:=D2 v e w f) hv (show e-D2 v e w f<=800000 by omega);have l2:=SR (l:=D2 v e w f) hw (show f-D2 v e w f<=800000 by omega);have l3:=Zv (Hv v (e-D2 v e w f)) (Hv w (f-D2 v e w f));have l4:=KL (RL (AbR v e w f));unfold Ly;unfold AbR at l4 ⊢;omega
theorem Bx.Compare.Bi:Kq 38 Bx.Compare.Bk:=D6 Bx.Compare.E Tryz.func38 (kc Bx.Sign.Bi (kc Bx.Sub.Bi (kc Bx.Yu.Bi .nil))) fun n a e m b f hp=>by
 obtain⟨h1,hf⟩:=Bf.1 hp;obtain⟨h2,he⟩:=Bf.1 h1;obtain⟨h3,h4⟩:=Bf.1 h2;obtain⟨v,rfl,rfl,hv⟩:=MT h3;obtain⟨w,rfl,rfl,hw⟩:=MT h4;refine⟨0,Bx.Compare.out [.b (BB v),.l (Bn v),.i e,.b (BB w),.l (Bn w),.i f],[],?_,.int⟩;show _=xM (DV.int .i64 (Rb (wv (BB v) (Bn v)) e (wv (BB w) (Bn w)) f));have bv:=T4 v;have bw:=T4 w;have hm:=Ai1 (v:=v) (w:=-w) hv (by rw[y7]; exact hw) (Bt.1 he) (Bt.1 hf);rw[Bx.Compare.ev];simp only[EE];rw[Hj (v:=v) (by omega),Hj (v:=w) (by omega),Hj (v:=Ly v e (-w) f) (by omega),h3,h4,he,hf,Bw,Bw];simp only[Ah,Aa];by_cases hs:Lv v=Lv w
 ·have e0:(Lv v !=Lv w)=wy:=by simp[hs]
  rw[e0,Af];by_cases ht:Hy v e=Hy w f
  ·have e1:(Hy v e !=Hy w f)=wy:=by simp[ht]
   rw[e1,Af,Ajc]
  ·have e1:(Hy v e !=Hy w f)=wg:=by simp[ht]
   rw[e1,Aa,Akv hs ht];cases (decide (Hy w f<Hy v e)==decide (0<Lv v))<;>rfl
 ·have e0:(Lv v !=Lv w)=wg:=by simp[hs]
  rw[e0,Aa,AeX hs,Bq (by omega) (by omega)]
def BJ.Value.E:=E0 [(98,Bp.Neg.Bk),(37,Bp.Of.Bk),(31,Bx.Of.Bk),(95,BJ.NB.Bk),(97,BJ.Neg.Bk),(96,BJ.Power.Bk)]
theorem BJ.Value.ev(N:Nat)(x:Int):BX BJ.Value.E N f43 (Br f43) [.int .u64 x]=cond (Jx x) (bif (Wm (Be (Df x))) then cond (Jx x) (bif (BI 0 (K1 x)) then cond (Jx x) (bif (Wm (Be (BQ ((Df x)+4503599627370496)))) then cond (Jx x) (bif (Bo x) then cond (DI x) (bif (IS (BB ((Be (BQ ((Df x)+4503599627370496))))) (Bn ((Be (BQ ((Df x)+4503599627370496)))))) then cond (IS (BB (- wv (BB ((Be (BQ ((Df x)+4503599627370496))))) (Bn ((Be (BQ ((Df x)+4503599627370496))))))) (Bn (- wv (BB ((Be (BQ ((Df x)+4503599627370496))))) (Bn ((Be (BQ ((Df x)+4503599627370496)))))))&&PJ (Be ((K1 x)-1075))) (xM (.agg [.bool (BB (mD (wv (BB (- wv (BB ((Be (BQ ((Df x)+4503599627370496))))) (Bn ((Be (BQ ((Df x)+4503599627370496))))))) (Bn (- wv (BB ((Be (BQ ((Df x)+4503599627370496))))) (Bn ((Be (BQ ((Df x)+4503599627370496)))))))))),.Bh .arg .u32 (Bn (mD (wv (BB (- wv (BB ((Be (BQ ((Df x)+4503599627370496))))) (Bn ((Be (BQ ((Df x)+4503599627370496))))))) (Bn (- wv (BB ((Be (BQ ((Df x)+4503599627370496))))) (Bn ((Be (BQ ((Df x)+4503599627370496)))))))))),.int .i64 (eD (wv (BB (- wv (BB ((Be (BQ ((Df x)+4503599627370496))))) (Bn ((Be (BQ ((Df x)+4503599627370496))))))) (Bn (- wv (BB ((Be (BQ ((Df x)+4503599627370496))))) (Bn ((Be (BQ ((Df x)+4503599627370496)))))))) (Be ((K1 x)-1075)))])) xN else xN) (bif (IS (BB ((Be (BQ ((Df x)+4503599627370496))))) (Bn ((Be (BQ ((Df x)+4503599627370496)))))&&PJ (Be ((K1 x)-1075))) then xM (.agg [.bool (BB (mD (wv (BB ((Be (BQ ((Df x)+4503599627370496))))) (Bn ((Be (BQ ((Df x)+4503599627370496)))))))),.Bh .arg .u32 (Bn (mD (wv (BB ((Be (BQ ((Df x)+4503599627370496))))) (Bn ((Be (BQ ((Df x)+4503599627370496)))))))),.int .i64 (eD (wv (BB ((Be (BQ ((Df x)+4503599627370496))))) (Bn ((Be (BQ ((Df x)+4503599627370496)))))) (Be ((K1 x)-1075)))]) else xN) else xN) xN else xN) xN else bif (Bo x) then cond (DI x) (bif (IS (BB ((Be (Df x)))) (Bn ((Be (Df x))))) then cond (IS (BB (- wv (BB ((Be (Df x)))) (Bn ((Be (Df x)))))) (Bn (- wv (BB ((Be (Df x)))) (Bn ((Be (Df x))))))&&PJ (-1074:Int)) (xM (.agg [.bool (BB (mD (wv (BB (- wv (BB ((Be (Df x)))) (Bn ((Be (Df x)))))) (Bn (- wv (BB ((Be (Df x)))) (Bn ((Be (Df x))))))))),.Bh .arg .u32 (Bn (mD (wv (BB (- wv (BB ((Be (Df x)))) (Bn ((Be (Df x)))))) (Bn (- wv (BB ((Be (Df x)))) (Bn ((Be (Df x))))))))),.int .i64 (eD (wv (BB (- wv (BB ((Be (Df x)))) (Bn ((Be (Df x)))))) (Bn (- wv (BB ((Be (Df x)))) (Bn ((Be (Df x))))))) (-1074:Int))])) xN else xN) (bif (IS (BB ((Be (Df x)))) (Bn ((Be (Df x))))&&PJ (-1074:Int)) then xM (.agg [.bool (BB (mD (wv (BB ((Be (Df x)))) (Bn ((Be (Df x))))))),.Bh .arg .u32 (Bn (mD (wv (BB ((Be (Df x)))) (Bn ((Be (Df x))))))),.int .i64 (eD (wv (BB ((Be (Df x)))) (Bn ((Be (Df x))))) (-1074:Int))]) else xN) else xN) xN else xN) xN:=by kernel_rfl
abbrev BJ.Value.q.Kn:Prop:=DR prog 43 BJ.Value.q.Bk
theorem AcH{n k:Nat}(h:n<2^(32*k)){m:Nat}(hk:k<m):D3 n<m:=AG (JB h) hk
theorem Qs(m:Nat):FX wy m=(m:Int):=rfl
theorem YK(m:Nat):FX wg m=-(m:Int):=rfl
theorem BJ.Value.Bi:Kq 43 BJ.Value.Bk:=D6 BJ.Value.E Tryz.func43 (kc Bp.Neg.Bi (kc Bp.Of.Bi (kc Bx.Of.Bi (kc BJ.NB.Bi (kc BJ.Neg.Bi (kc BJ.Power.Bi .nil)))))) fun x hp=>by
 obtain⟨n,rfl,hn⟩:=BR (x:=x) hp;refine⟨0,BJ.Value.out [.i n],[],?_,wdy⟩;show _=AeS (mD (E8 n)) (eD (E8 n) (BO n));have hf:=Ir n;have hw:=HI n;have small:∀k:Nat,k<2^54->D3 k<268435456:=fun k hk=>AcH (k:=2) (y9 hk (by decide)) (by omega)
 have o1:∀k:Nat,k<2^54->IS (BB (k:Int)) (Bn (k:Int))=wg:=fun k hk=>Hj (by rw[zX]; exact small k hk)
 have o2:∀k:Nat,k<2^54->IS (BB (-(k:Int))) (Bn (-(k:Int)))=wg:=fun k hk=>Hj (by rw[y7,zX]; exact small k hk)
 rw[BJ.Value.ev];unfold Df K1 DI E8 BO;simp only[EE,Ad];have e1:Be ((CL n:Nat):Int)=((CL n:Nat):Int):=Bq (by omega) (by omega)
 have e2:Be (BQ (((CL n:Nat):Int)+4503599627370496))=((CL n+2^52:Nat):Int):=by rw[Di (by omega) (by omega),Bq (by omega) (by omega)]; omega
 have i1:∀k:Nat,k<2^54->Wm (k:Int)=wg:=fun k hk=>Bt.2 (by omega)
 rw[Ha,Cq hn,e1,e2,i1 _ (by omega),i1 _ (by omega),Bw,Bq (by omega) (by omega)];simp only[Aa];unfold Bs By;by_cases h:Dn n=0
 ·have o3:PJ (-1074)=wg:=Bt.2 (by omega);rw[Az h,Az h,Ag (by omega),Af,o1 _ (by omega),o2 _ (by omega),o3];cases BE n
  ·rw[Af,Qs]; rfl
  ·rw[Aa,YK]; rfl
 ·have o3:PJ ((Dn n:Int)-1075)=wg:=Bt.2 (by omega);rw[Ay h,Ay h,Ac (by omega),Aa,o1 _ (by omega),o2 _ (by omega),o3];cases BE n
  ·rw[Af,Qs]; rfl
  ·rw[Aa,YK]; rfl
theorem AfC{m t:Nat}(h:m<2^t)(h0:m≠0):N9 m<t:=AG (AfB h0) ((AV h0).2 h)
theorem Afy(b:Nat)(g:Int):DT b g=Tq (E8 (b:Int)) (By b) g:=by
 unfold DT Tq E8;rw[Ad];generalize 2^(By b-g).toNat=p;unfold FX;cases BE b
 ·exact Ax _ _
 ·show -((Bs b*p:Nat):Int)=-(Bs b:Int)*(p:Int)
  rw[Ax,xK]
theorem WH(b:Nat):(E8 (b:Int)).natAbs=Bs b:=by unfold E8 FX;rw[Ad];split<;>omega
theorem AkZ(b:Nat):D3 (E8 (b:Int)).natAbs<3/\-400000<=eD (E8 (b:Int)) (By b)/\eD (E8 (b:Int)) (By b)<=400000:=by
 have hm:=E1 b;have he:=C4 b;have ha:=WH b;refine⟨AcH (k:=2) (by rw[ha]; exact y9 hm (by decide)) (by omega),?_⟩;unfold eD;by_cases h:E8 (b:Int)=0
 ·rw[Az h]; omega
 ·rw[Ay h];have:=AfC (m:=(E8 (b:Int)).natAbs) (t:=53) (by rw[ha]; exact hm) (by omega);omega
theorem XD{r:Nat}(h:r<2^63):CM r=((2^63+r:Nat):Int):=by unfold CM; rw[Ad,PL h]
theorem LB{r:Nat}(h:r<2^63)(n:Bool):(cond n (bif (Bo (r:Int)) then xM (DV.int .u64 (CM r)) else xN) (xM (DV.int .u64 r)))=xM (DV.int .u64 ((BG n r:Nat):Int)):=by
 cases n
 ·rfl
 ·rw[Cq (by omega),XD h]; rfl
theorem Mr(n:Bool)(m:Nat)(e:Int):Q0 n m e=((BG n (Cj m e):Nat):Int):=by unfold Q0; rw[Ad]
theorem AaN{E M:Nat}(h1:1<=E)(h2:E<=2046)(h3:4503599627370496<=M)(h4:M<9007199254740992):E*2^52+M%2^52=min ((E-1)*2^52+M) Dk:=by
 obtain⟨k,rfl⟩:∃k,E=k+1:=⟨E-1,by omega⟩
 obtain⟨r,rfl⟩:∃r,M=2^52+r:=⟨M-2^52,by omega⟩
 have hr:r<2^52:=by omega
 have hm:(2^52+r)%2^52=r:=by rw[Nat.add_mod_left,Ao hr]
 have hk:k*2^52<=2045*2^52:=An _ (by omega);have hi:Dk=2045*2^52+2^52+2^52:=by unfold Dk; rfl
 rw[hm,Nat.add_sub_cancel,Nat.succ_mul,hi];generalize 2^52=c at *
 omega
theorem soft.Pack.Bi:soft.Pack.Kn:=soft.Pack.DF (kc soft.DO.Bi .nil) fun rk n m e hp hr=>by
 have hp:=Bt.1 (show J9 m e=wg from hp);have hr:MM m e<rk+1:=hr;obtain⟨m0,m1,e0,e1⟩:=hp;obtain⟨M,rfl⟩:∃M:Nat,m=M:=⟨m.toNat,by omega⟩
 refine⟨0,soft.Pack.out [.b n,.i M,.i e],[],?_,.int⟩;rw[soft.Pack.ev];show _=xM (DV.int .u64 (Q0 n M e));rw[Mr];unfold MM at hr;by_cases h0:M=0
 ·subst h0;have:=LB (r:=0) (by decide) n;have e0:Cj 0 e=0:=rfl;rw[e0];simpa using this
 ·have b0:((M:Int)==0)=wy:=by simp; omega
  rw[b0,Af];by_cases h1:M=9007199254740992
  ·have b1:Eu (9007199254740992:Int) (M:Int)=wg:=by rw[DX]; simp; omega
   have s1:D7 .u64 (M:Int) (1:Int)=((2^52:Nat):Int):=by rw[show(1:Int)=((1:Nat):Int) from rfl,Hd .u64 M 1 (by decide),h1]
   have w1:Be (e+1)=e+1:=Bq (by omega) (by omega);rw[Az (by omega)] at hr;have p1:J9 ((2^52:Nat):Int) (e+1)=wg:=Bt.2 (by omega)
   have p2:CE (MM ((2^52:Nat):Int) (e+1)<rk)=wg:=Bt.2 (by unfold MM;rw[Ay (by omega),Ay (by omega)]; omega)
   rw[b1,s1,w1,p1,p2,Mr,h1];have:=(CZ (2^52) 1 (e+1)).1;have e2:e+1-((1:Nat):Int)=e:=by omega
   rw[e2] at this;rw[<- this]; rfl
  ·have b1:Eu (9007199254740992:Int) (M:Int)=wy:=by rw[DX]; simp; omega
   rw[b1,Af];rw[Ay (by omega)] at hr;by_cases h2:M<4503599627370496
   ·have b2:BI (M:Int) (4503599627370496:Int)=wg:=by rw[Bw]; simp; omega
    rw[Az (by omega)] at hr;by_cases h3:e=-1074
    ·subst h3;have b3:BI (-1074:Int) (-1074)=wy:=by decide
     rw[b2,b3,AR,Af,Aa,T8 h2];exact LB (by omega) n
    ·have b3:BI (-1074:Int) e=wg:=by rw[Bw]; simp; omega
     have s1:Cr .u64 (M:Int) (1:Int)=((M*2^1:Nat):Int):=by rw[show(1:Int)=((1:Nat):Int) from rfl,Ff M 1 (by decide),Ao (by omega)]
     have w1:Be (e-1)=e-1:=Bq (by omega) (by omega);have p1:J9 ((M*2^1:Nat):Int) (e-1)=wg:=Bt.2 (by omega)
     have p2:CE (MM ((M*2^1:Nat):Int) (e-1)<rk)=wg:=Bt.2 (by unfold MM;rw[Ay (by omega)];split<;>omega)
     rw[b2,b3,s1,w1,p1,p2,Mr];have:=(CZ M 1 e).1;have e2:e-((1:Nat):Int)=e-1:=by omega
     rw[e2] at this;rw[this]; rfl
   ·have b2:BI (M:Int) (4503599627370496:Int)=wy:=by rw[Bw]; simp; omega
    have w1:Be (e+1075)=e+1075:=Bq (by omega) (by omega);rw[b2,w1,z6,Af,Af];have hr:=KH (m:=M) (e:=e) (by omega) (by omega) e0;by_cases h4:2047<=e+1075
    ·have b4:Eu (2047:Int) (e+1075)=wg:=by rw[DX]; simp; omega
     have:Cj M e=9218868437227405312:=by rw[hr,Eg]; omega
     rw[b4,this,Aa];exact LB (r:=9218868437227405312) (by decide) n
    ·have b4:Eu (2047:Int) (e+1075)=wy:=by rw[DX]; simp; omega
     obtain⟨E,hE⟩:∃E:Nat,e+1075=E:=⟨(e+1075).toNat,by omega⟩
     have s1:Ht .u64 (Cr .u64 (BQ (e+1075)) (52:Int)) (ED .u64 (M:Int) (4503599627370495:Int))=((Cj M e:Nat):Int):=by
      rw[hE,Di (by omega) (by omega),show(52:Int)=((52:Nat):Int) from rfl,Ff E 52 (by decide),Ao (by omega),
       show(4503599627370495:Int)=((2^52-1:Nat):Int) from rfl,HO 52 (by omega) (by decide),Lm (by omega) (by omega)]
      have hE2:(e+1074).toNat=E-1:=by omega
      have hE3:1<=E/\E<=2046:=by omega
      have hM:4503599627370496<=M/\M<9007199254740992:=by omega
      rw[hr,hE2];exact congrArg (fun(x:Nat)=>(x:Int)) (AaN hE3.1 hE3.2 hM.1 hM.2)
     rw[b4,s1,Af];exact LB (HD M e) n
theorem AfE{D:Nat}(h:D<=63):2^D<2^64:=Nat.pow_lt_pow_right (by decide) (by omega)
theorem Nu(n:Bool){r:Nat}(h:r<2^63):G3 .u64 ((BG n r:Nat):Int) (9223372036854775808:Int)=(r:Int):=by
 have hs:BG n r<2^64:=by unfold BG; split<;>omega
 unfold G3
 rw[show(9223372036854775808:Int)=((2^63:Nat):Int) from rfl,BitVec.toNat_and,BitVec.toNat_not,HL,HL,show IntKind.u64.bits=64 from rfl,Ao hs,
  show 2^64-1-2^63%2^64=2^63-1 by decide,Nat.and_two_pow_sub_one_eq_mod]
 have:BG n r%2^63=r:=by unfold BG; cases n<;>simp<;>omega
 rw[this];exact Qh (by omega)
theorem AaX(N:Nat)(ex n:Bool){r:Nat}(h:r<=Dk):soft.DG.C18 N ex ((BG n r:Nat):Int)=xM (.Cw [.int .u64 ((BG n r:Nat):Int),.int .u8 ((flags r ex:Nat):Int)]):=by
 have h63:r<2^63:=by rw[Eg] at h; omega
 have hs:BG n r<2^64:=by unfold BG; split<;>omega
 rw[soft.DG.AbT,Nu n h63,Cq hs];unfold B8 flags;rw[Ad,OO n h]
 have hinf:(((r:Nat):Int)==(9218868437227405312:Int))=decide (r=Dk):=by rw[Eg,Ar]; simp; omega
 rw[hinf];by_cases h1:r=Dk
 ·simp[h1]
 ·by_cases h2:2^52<=r
  ·cases ex<;>simp[h1]<;>simp[show 4503599627370496<=r by omega]
  ·by_cases h3:0<r
   ·cases ex<;>simp[h1,h3]<;>simp[show ¬4503599627370496<=r by omega]
   ·cases ex<;>simp[h1,h3]<;>simp[show ¬4503599627370496<=r by omega]
theorem Aer(N:Nat)(n:Bool){m:Nat}{e:Int}(he:-1140<=e/\e<=50000)(r:Bool):∀(k d F:Nat),d+k=62->k<F->(∀d',d'<d->2^53<=m / 2^d'\/e+d' < -1074) ->
 ∃D:Nat,soft.DG.L0 N F n m e r (d:Int)=soft.DG.C7 N n m e r (D:Int)/\Drop m e D:=by
 intro k
 induction k with
 | zero =>
   intro d F hd hF hl;obtain⟨F,rfl⟩:∃G,F=G+1:=⟨F-1,by omega⟩
   obtain rfl:d=62:=by omega
   rw[soft.DG.B1,Hd .u64 m 62 (by decide),Bq (by omega) (by omega),Bq (by omega) (by omega),DX,Bw];have a0:decide ((0:Int)<=((62:Nat):Int))=wg:=by decide
   have a1:((((62:Nat):Int)+1)==63)=wg:=by decide
   rw[a0,Aa,a1,Aa];by_cases h:2^53<=m / 2^62\/e+(62:Nat) < -1074
   ·refine⟨63,?_,by omega,by omega,fun d' hd'=>?_⟩
    ·have:(decide ((9007199254740992:Int)<=((m / 2^62:Nat):Int))||decide (e+((62:Nat):Int) < -1074))=wg:=by simp only[zN,Ai]; omega
     rw[this]; rfl
    ·rcases AA d' 62 with h' | h'
     ·exact hl d' h'
     ·obtain rfl:d'=62:=by omega
      exact h
   ·refine⟨62,?_,by omega,fun _=>by omega,hl⟩
    have:(decide ((9007199254740992:Int)<=((m / 2^62:Nat):Int))||decide (e+((62:Nat):Int) < -1074))=wy:=by simp only[yD,Av]; omega
    rw[this]; rfl
 | succ k ih =>
   intro d F hd hF hl;obtain⟨F,rfl⟩:∃G,F=G+1:=⟨F-1,by omega⟩
   rw[soft.DG.B1,Hd .u64 m d (by show d<=64; omega),Bq (by omega) (by omega),Bq (by omega) (by omega),DX,Bw];have a0:decide ((0:Int)<=(d:Int))=wg:=by simp
   have a1:(((d:Int)+1)==63)=wy:=by simp; omega
   rw[a0,Aa,a1,Af];by_cases h:2^53<=m / 2^d\/e+d < -1074
   ·have:(decide ((9007199254740992:Int)<=((m / 2^d:Nat):Int))||decide (e+(d:Int) < -1074))=wg:=by simp only[zN,Ai]; omega
    rw[this,Aa,show(d:Int)+1=((d+1:Nat):Int) by omega];refine ih (d+1) F (by omega) (by omega) fun d' hd'=>?_
    rcases AA d' d with h' | h'
    ·exact hl d' h'
    ·obtain rfl:d'=d:=by omega
     exact h
   ·refine⟨d,?_,by omega,fun _=>by omega,hl⟩
    have:(decide ((9007199254740992:Int)<=((m / 2^d:Nat):Int))||decide (e+(d:Int) < -1074))=wy:=by simp only[yD,Av]; omega
    rw[this]; rfl
theorem Aeq(N:Nat)(n:Bool){m D:Nat}(hm:m<2^64){e:Int}(he:-1140<=e/\e<=50000)(r:Bool)(hD:D<=63)(hq:(if e+D < -1074 then 0 else YX m D r.toNat)<=2^53):
 soft.DG.C7 N n m e r (D:Int)=soft.DG.C18 N (decide (m%2^D=0/\r.toNat=0)) ((BG n (Cj (if e+D < -1074 then 0 else YX m D r.toNat) (max (e+D) (-1074))):Nat):Int):=by
 have hA:=Cs D;have h2D:=AfE hD;have hr:=Nat.mod_lt m hA;have hqm:m / 2^D<=m:=yE _ _;rw[soft.DG.AnJ];have a0:decide ((0:Int)<=(D:Int))=wg:=by simp
 have e1:D7 .u64 (m:Int) (D:Int)=((m / 2^D:Nat):Int):=Hd .u64 m D (by show D<=64; omega)
 have e2:Cr .u64 (1:Int) (D:Int)=((2^D:Nat):Int):=by rw[show(1:Int)=((1:Nat):Int) from rfl,Ff 1 D (by omega),zA,Ao h2D]
 have e3:ED .u64 (m:Int) (BQ (Cr .u64 (1:Int) (D:Int)-(1:Int)))=((m%2^D:Nat):Int):=by rw[e2,Di (by omega) (by omega),show((2^D:Nat):Int)-1=((2^D-1:Nat):Int) by omega,HO D hm (by omega)]
 have e5:(cond (((m%2^D:Nat):Int)==(0:Int)) (!r) wy)=decide (m%2^D=0/\r.toNat=0):=by
  by_cases h:m%2^D=0
  ·cases r<;>simp[h]
  ·have:(((m%2^D:Nat):Int)==(0:Int))=wy:=by simp only[A8,ne_eq]; omega
   rw[this]; simp[h]
 rw[a0,Aa,Aa,e1,e3,e5,Bw]
 have last:∀(p:Bool) (q:Nat),q<=2^64-1->(if e+D < -1074 then 0 else q)<=2^53->soft.DG.C14 N n e (D:Int) ((q:Nat):Int) p=soft.DG.C18 N p ((BG n (Cj (if e+D < -1074 then 0 else q) (max (e+D) (-1074))):Nat):Int):=by
  intro p q hq hq2;rw[soft.DG.AbU,Bq (by omega) (by omega),Bw]
  have c16:∀q':Nat,q'<=2^53->soft.DG.C16 N n e (q':Int) (D:Int) p=soft.DG.C18 N p ((BG n (Cj q' (max (e+D) (-1074))):Nat):Int):=by intro q' hq';rw[soft.DG.Amv,Bq (by omega) (by omega)];have:J9 (q':Int) (max (e+(D:Int)) (-1074))=wg:=Bt.2 (by omega);rw[this,Mr]; rfl
  by_cases h:e+D < -1074
  ·rw[Az h] at hq2 ⊢;have:decide (e+(D:Int) < -1074)=wg:=by simpa using h
   rw[this];exact c16 0 hq2
  ·rw[Ay h] at hq2 ⊢;have:decide (e+(D:Int) < -1074)=wy:=by simpa using h
   rw[this];exact c16 q hq2
 have up:∀(half:Nat) (hh:0<D->half=2^(D-1)) (p:Bool),soft.DG.C12 N n e r (D:Int) ((m / 2^D:Nat):Int) ((m%2^D:Nat):Int) (half:Int) p=soft.DG.C18 N p ((BG n (Cj (if e+D < -1074 then 0 else YX m D r.toNat) (max (e+D) (-1074))):Nat):Int):=by
  intro half hh p;rw[soft.DG.AbV,Bw,Bw]
  have odd:(ED .u64 ((m / 2^D:Nat):Int) (1:Int)==(1:Int))=decide (m / 2^D%2=1):=by rw[show(1:Int)=((2^1-1:Nat):Int) from rfl,HO 1 (by omega) (by decide),Ar];simp only[beq_iff_eq,Ai];omega
  rw[odd]
  have test:(decide ((0:Int)<(D:Int))&&(decide ((half:Int)<((m%2^D:Nat):Int))||((((m%2^D:Nat):Int)==(half:Int))&&(r||decide (m / 2^D%2=1)))))=
   decide (0<D/\(2^(D-1)<m%2^D\/(m%2^D=2^(D-1)/\(r.toNat=1\/m / 2^D%2=1)))):=by
   rw[Ar];generalize m%2^D=rr;generalize m / 2^D=qq;generalize hg:2^(D-1)=gg at hh;by_cases h0:0<D
   ·have:=hh h0;subst this;cases r<;>simp[h0]<;>omega
   ·simp[h0]
  rw[test];by_cases ht:0<D/\(2^(D-1)<m%2^D\/(m%2^D=2^(D-1)/\(r.toNat=1\/m / 2^D%2=1)))
  ·have hq1:YX m D r.toNat=m / 2^D+1:=by unfold YX; rw[Az ht]
   have hlt:m / 2^D+1<2^64:=by
    obtain⟨d,rfl⟩:∃d,D=d+1:=⟨D-1,by omega⟩
    have h1:m / 2^(d+1)<=m / 2:=Nat.div_le_div_left (by rw[zG]; have:=Cs d; omega) (by decide);omega
   rw[hq1] at hq ⊢;rw[Ac ht,Aa,Di (by omega) (by omega),show((m / 2^D:Nat):Int)+1=((m / 2^D+1:Nat):Int) by omega];exact last p _ (by omega) hq
  ·have hq1:YX m D r.toNat=m / 2^D:=by unfold YX; rw[Ay ht]; rfl
   rw[hq1] at hq ⊢;rw[Ag ht,Af];exact last p _ (by omega) hq
 rcases Nat.eq_zero_or_pos D with rfl | hpos
 ·have:decide ((0:Int)<((0:Nat):Int))=wy:=by decide
  rw[this,Af];exact up 0 (fun h=>absurd h (by omega)) _
 ·have h1:decide ((0:Int)<(D:Int))=wg:=by simpa using hpos
  have h2:Be ((D:Int)-1)=((D-1:Nat):Int):=by rw[Bq (by omega) (by omega)]; omega
  have h3:decide ((0:Int)<=((D-1:Nat):Int))=wg:=by simp
  have h4:Cr .u64 (1:Int) ((D-1:Nat):Int)=((2^(D-1):Nat):Int):=by rw[show(1:Int)=((1:Nat):Int) from rfl,Ff 1 (D-1) (by omega),zA,Ao (AfE (by omega))]
  rw[h1,Aa,h2,h3,Aa,h4];exact up _ (fun _=>rfl) _
theorem soft.DG.Bi:Kq 163 soft.DG.Bk:=D6 soft.DG.E Tryz.func163 (kc soft.Kind.Bi (kc soft.Pack.Bi .nil)) fun n m e r hp=>by
 obtain⟨m0,m1,e1,e2,hr⟩:=Bt.1 (show Ep m e r=wg from hp);obtain⟨M,rfl⟩:∃M:Nat,m=M:=⟨m.toNat,by omega⟩
 refine⟨63,soft.DG.out [.b n,.i M,.i e,.b r],[],?_,Wk.Gx (.cons .int (.cons .int .nil))⟩;show _=xM (DV.Cw [.int .u64 (EJ n M e r),.int .u8 (EI n M e r)]);unfold EJ EI FY;rw[Ad,soft.DG.ev];dsimp only;by_cases h0:M=0/\r=wy
 ·obtain⟨rfl,rfl⟩:=h0;have:J9 (0:Int) (-1074)=wg:=Bt.2 (by omega);have hp0:=Mr n 0 (-1074);rw[this];simp only[AZ,Bool.and_true,Aa,Bool.toNat_false];have hz:(((0:Nat):Int)==0)=wg:=rfl;rw[hz,Aa];have hp0:Q0 n (0:Int) (-1074)=((BG n (Cj 0 (-1074)):Nat):Int):=hp0;have z:∀E,Cj 0 E=0:=fun E=>Az rfl
  have z3:∀E,flagsOf 0 E=0:=fun E=>Az rfl
  rw[hp0,z,show 4*0+0=0 from rfl,z,z3];rfl
 ·have hc:((((M:Nat):Int)==(0:Int))&&!r)=wy:=by
   cases r
   ·have:M≠0:=fun h=>h0 ⟨h,rfl⟩
    simp; omega
   ·simp
  rw[hc,Af];have he:-1140<=e/\e<=50000:=by omega
  obtain⟨D,hl,hD⟩:=Aer 63 n (m:=M) he r 62 0 63 (by omega) (by omega) (fun d' h=>by omega);have hs:r.toNat<=1:=by cases r<;>decide
  have hV:4*M+r.toNat≠0:=by
   intro h;refine h0 ⟨by omega,?_⟩;cases r
   ·rfl
   ·simp at h
  obtain⟨t1,t2,t3⟩:=Aet hD hs hV (by omega) (by omega) (fun h=>by
   have:r=wg:=by cases r<;>simp_all
   have:=hr this;omega)
  have hl:soft.DG.L0 63 63 n (M:Int) e r (0:Int)=soft.DG.C7 63 n (M:Int) e r (D:Int):=hl;rw[hl,Aeq 63 n (by omega) he r hD.le t3,<- t1,AaX 63 _ n (HE _ _),t2]
end Go.Proofs.S1
end
