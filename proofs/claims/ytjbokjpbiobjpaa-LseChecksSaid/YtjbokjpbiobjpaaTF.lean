/- A verified evaluator of the program's form and its use for this seat: S1Tt, S1EqSoft, S1PSoft, S1EqRefD, S1PRefD, S1EqRefA, S1PRefA, S1PRefAa, S1EqRefB, S1PRefB, S1PRefBa, S1EqRefC, S1PRefC, S1PRefCa, S1EqRefE, S1PRefV, S1PPack, S1PNear, S1EqSum, S1PSum. -/
import Derived.Test.YtjbokjpbiobjpaaTE
set_option linter.unusedVariables false
set_option linter.unusedSimpArgs false
noncomputable section
namespace Go.Proofs.S1
theorem tt0:∀ a b c:Bool,((a==a)&&(b&&(c&&true)))=(b&&c):=by decide
theorem tt1:∀ a b:Bool,(bif a then b else false)=(a&&b):=by decide
theorem Vw:∀ a:Bool,(((!a)||(a==true))&&true)=true:=by decide
theorem Qz:∀ a:Bool,((!(a==true))||((((!(a==true))||(a==true))&&true)&&true))=true:=by decide
theorem Su:∀ a:Bool,((!(a==true))||true)=true:=by decide
theorem tt5:∀ a b:Bool,(bif a then true else b)=(a||b):=by decide
theorem Vv:∀ a:Bool,((!(!a))||(a==false))=true:=by decide
theorem Mu:∀ a:Bool,((!(a==false))||((((!(a==false))||(a==false))&&true)&&true))=true:=by decide
theorem tt8:∀ a:Bool,((!(a==false))||((((!(a==false))||(a==false))&&(((!(a==false))||(a==false))&&true))&&true))=true:=by decide
theorem Qb:∀ a:Bool,((!(a==false))||true)=true:=by decide
theorem Eh:∀ a:Bool,(a&&true)=a:=by decide
theorem tt11:∀ a b c d e:Bool,(bif a then (bif b then true else (bif c then (bif d then true else e) else false)) else false)=(a&&(b||(c&&(d||e)))):=by decide
theorem tt12:∀ a b:Bool,((!(a==true))||(((!(a==true))||(a==true))&&((!(!b))||((a==true)&&(b==false)))))=true:=by decide
theorem tt13:∀ a b c:Bool,((!((a==true)&&(b==false)))||(((!((a==true)&&(b==false)))||((a==true)&&(b==false)))&&(((!c)||(((a==true)&&(b==false))&&(c==true)))&&true)))=true:=by decide
theorem tt14:∀ a b c d:Bool,((!(((a==true)&&(b==false))&&(c==true)))||(((!(((a==true)&&(b==false))&&(c==true)))||(((a==true)&&(b==false))&&(c==true)))&&((!(!d))||((((a==true)&&(b==false))&&(c==true))&&(d==false)))))=true:=by decide
theorem tt15:∀ a b c d:Bool,((!((((a==true)&&(b==false))&&(c==true))&&(d==false)))||((((!((((a==true)&&(b==false))&&(c==true))&&(d==false)))||((((a==true)&&(b==false))&&(c==true))&&(d==false)))&&true)&&true))=true:=by decide
theorem tt16:∀ a b c d:Bool,((!((((a==true)&&(b==false))&&(c==true))&&(d==false)))||true)=true:=by decide
theorem tt17:∀ a b c:Bool,((!(((a==true)&&(b==false))&&(c==true)))||((((!(((a==true)&&(b==false))&&(c==true)))||(((a==true)&&(b==false))&&(c==true)))&&true)&&true))=true:=by decide
theorem tt18:∀ a b c:Bool,((!(((a==true)&&(b==false))&&(c==true)))||true)=true:=by decide
theorem tt19:∀ a b:Bool,((!((a==true)&&(b==false)))||((((!((a==true)&&(b==false)))||((a==true)&&(b==false)))&&true)&&true))=true:=by decide
theorem tt20:∀ a b:Bool,((!((a==true)&&(b==false)))||((((!((a==true)&&(b==false)))||((a==true)&&(b==false)))&&(((!((a==true)&&(b==false)))||((a==true)&&(b==false)))&&true))&&true))=true:=by decide
theorem tt21:∀ a b:Bool,((!((a==true)&&(b==false)))||true)=true:=by decide
theorem Aft:∀ a:Bool,((!(a==true))||((((!(a==true))||(a==true))&&(((!(a==true))||(a==true))&&true))&&true))=true:=by decide
theorem tt23:∀ a b:Bool,(bif (!a) then true else b)=((!a)||b):=by decide
theorem Aal:∀ a:Bool,((!(!(!a)))||((!a)==false))=true:=by decide
theorem Rd:∀ a:Bool,((!((!a)==false))||((((!((!a)==false))||((!a)==false))&&true)&&true))=true:=by decide
theorem Aak:∀ a:Bool,((!((!a)==false))||true)=true:=by decide
theorem tt27:∀ a b:Bool,(bif a then (!b) else false)=(a&&(!b)):=by decide
theorem tt28:∀ a b:Bool,(bif (!a) then true else (!b))=((!a)||(!b)):=by decide
theorem tt29:∀ a b:Bool,((!((!a)==false))||((((!((!a)==false))||((!a)==false))&&true)&&b))=((!a)||b):=by decide
theorem tt30:∀ a b c d:Bool,(bif (bif a then b else false) then true else (bif c then d else false))=((a&&b)||(c&&d)):=by decide
theorem tt31:∀ a b:Bool,((!(!(bif a then b else false)))||((bif a then b else false)==false))=true:=by decide
theorem tt32:∀ a b c:Bool,((!((bif a then b else false)==false))||(((!((bif a then b else false)==false))||((bif a then b else false)==false))&&(((!c)||(((bif a then b else false)==false)&&(c==true)))&&true)))=true:=by decide
theorem tt33:∀ a b c:Bool,((!(((bif a then b else false)==false)&&(c==true)))||((((!(((bif a then b else false)==false)&&(c==true)))||(((bif a then b else false)==false)&&(c==true)))&&true)&&true))=true:=by decide
theorem tt34:∀ a b c:Bool,((!(((bif a then b else false)==false)&&(c==true)))||true)=true:=by decide
theorem Afs:∀ a b:Bool,((!((bif a then b else false)==false))||((((!((bif a then b else false)==false))||((bif a then b else false)==false))&&true)&&true))=true:=by decide
theorem tt36:∀ a b:Bool,((!((bif a then b else false)==false))||true)=true:=by decide
theorem Nk:∀ a b:Bool,((a&&b)&&true)=(a&&b):=by decide
theorem tt38:∀ a b c:Bool,(bif (bif (!a) then true else (!b)) then true else c)=(((!a)||(!b))||c):=by decide
theorem tt39:∀ a b:Bool,((!(!(bif (!a) then true else (!b))))||((bif (!a) then true else (!b))==false))=true:=by decide
theorem tt40:∀ a b:Bool,((!((bif (!a) then true else (!b))==false))||((((!((bif (!a) then true else (!b))==false))||((bif (!a) then true else (!b))==false))&&(((!((bif (!a) then true else (!b))==false))||((bif (!a) then true else (!b))==false))&&true))&&true))=true:=by decide
theorem Afr:∀ a b:Bool,((!((bif (!a) then true else (!b))==false))||((((!((bif (!a) then true else (!b))==false))||((bif (!a) then true else (!b))==false))&&true)&&true))=true:=by decide
theorem tt42:∀ a b:Bool,((!((bif (!a) then true else (!b))==false))||true)=true:=by decide
theorem tt43:∀ a b c d:Bool,(((a&&b)&&(c&&d))&&true)=((a&&b)&&(c&&d)):=by decide
theorem tt44:∀ a b c d e f g h:Bool,(bif (bif (bif (bif (bif (bif (bif a then true else b) then true else c) then true else d) then true else e) then true else f) then true else g) then true else h)=(((((((a||b)||c)||d)||e)||f)||g)||h):=by decide
theorem tt45:∀ a b c d e f g:Bool,((!(!(bif (bif (bif (bif (bif (bif a then true else b) then true else c) then true else d) then true else e) then true else f) then true else g)))||((bif (bif (bif (bif (bif (bif a then true else b) then true else c) then true else d) then true else e) then true else f) then true else g)==false))=true:=by decide
theorem tt46:∀ a b c d e f g:Bool,((!((bif (bif (bif (bif (bif (bif a then true else b) then true else c) then true else d) then true else e) then true else f) then true else g)==false))||((((!((bif (bif (bif (bif (bif (bif a then true else b) then true else c) then true else d) then true else e) then true else f) then true else g)==false))||((bif (bif (bif (bif (bif (bif a then true else b) then true else c) then true else d) then true else e) then true else f) then true else g)==false))&&(((!((bif (bif (bif (bif (bif (bif a then true else b) then true else c) then true else d) then true else e) then true else f) then true else g)==false))||((bif (bif (bif (bif (bif (bif a then true else b) then true else c) then true else d) then true else e) then true else f) then true else g)==false))&&true))&&true))=true:=by decide
theorem tt47:∀ a b c d e f g:Bool,((!((bif (bif (bif (bif (bif (bif a then true else b) then true else c) then true else d) then true else e) then true else f) then true else g)==false))||true)=true:=by decide
theorem tt48:∀ a b c d e f g:Bool,((!((bif (bif (bif (bif (bif (bif a then true else b) then true else c) then true else d) then true else e) then true else f) then true else g)==false))||((((!((bif (bif (bif (bif (bif (bif a then true else b) then true else c) then true else d) then true else e) then true else f) then true else g)==false))||((bif (bif (bif (bif (bif (bif a then true else b) then true else c) then true else d) then true else e) then true else f) then true else g)==false))&&true)&&true))=true:=by decide
theorem tt49:∀ a b c d e f:Bool,((!(!(bif (bif (bif (bif (bif a then true else b) then true else c) then true else d) then true else e) then true else f)))||((bif (bif (bif (bif (bif a then true else b) then true else c) then true else d) then true else e) then true else f)==false))=true:=by decide
theorem Aaj:∀ a b c d e f:Bool,((!((bif (bif (bif (bif (bif a then true else b) then true else c) then true else d) then true else e) then true else f)==false))||((((!((bif (bif (bif (bif (bif a then true else b) then true else c) then true else d) then true else e) then true else f)==false))||((bif (bif (bif (bif (bif a then true else b) then true else c) then true else d) then true else e) then true else f)==false))&&(((!((bif (bif (bif (bif (bif a then true else b) then true else c) then true else d) then true else e) then true else f)==false))||((bif (bif (bif (bif (bif a then true else b) then true else c) then true else d) then true else e) then true else f)==false))&&true))&&true))=true:=by decide
theorem Ug:∀ a b c d e f:Bool,((!((bif (bif (bif (bif (bif a then true else b) then true else c) then true else d) then true else e) then true else f)==false))||true)=true:=by decide
theorem Uf:∀ a b c d e f:Bool,((!((bif (bif (bif (bif (bif a then true else b) then true else c) then true else d) then true else e) then true else f)==false))||((((!((bif (bif (bif (bif (bif a then true else b) then true else c) then true else d) then true else e) then true else f)==false))||((bif (bif (bif (bif (bif a then true else b) then true else c) then true else d) then true else e) then true else f)==false))&&true)&&true))=true:=by decide
theorem tt53:∀ a b c d e:Bool,((!(!(bif (bif (bif (bif a then true else b) then true else c) then true else d) then true else e)))||((bif (bif (bif (bif a then true else b) then true else c) then true else d) then true else e)==false))=true:=by decide
theorem tt54:∀ a b c d e:Bool,((!((bif (bif (bif (bif a then true else b) then true else c) then true else d) then true else e)==false))||((((!((bif (bif (bif (bif a then true else b) then true else c) then true else d) then true else e)==false))||((bif (bif (bif (bif a then true else b) then true else c) then true else d) then true else e)==false))&&(((!((bif (bif (bif (bif a then true else b) then true else c) then true else d) then true else e)==false))||((bif (bif (bif (bif a then true else b) then true else c) then true else d) then true else e)==false))&&true))&&true))=true:=by decide
theorem Acp:∀ a b c d e:Bool,((!((bif (bif (bif (bif a then true else b) then true else c) then true else d) then true else e)==false))||((((!((bif (bif (bif (bif a then true else b) then true else c) then true else d) then true else e)==false))||((bif (bif (bif (bif a then true else b) then true else c) then true else d) then true else e)==false))&&true)&&true))=true:=by decide
theorem Aai:∀ a b c d e:Bool,((!((bif (bif (bif (bif a then true else b) then true else c) then true else d) then true else e)==false))||true)=true:=by decide
theorem Afq:∀ a b c d:Bool,((!(!(bif (bif (bif a then true else b) then true else c) then true else d)))||((bif (bif (bif a then true else b) then true else c) then true else d)==false))=true:=by decide
theorem tt58:∀ a b c d:Bool,((!((bif (bif (bif a then true else b) then true else c) then true else d)==false))||((((!((bif (bif (bif a then true else b) then true else c) then true else d)==false))||((bif (bif (bif a then true else b) then true else c) then true else d)==false))&&(((!((bif (bif (bif a then true else b) then true else c) then true else d)==false))||((bif (bif (bif a then true else b) then true else c) then true else d)==false))&&true))&&true))=true:=by decide
theorem V4:∀ a b c d:Bool,((!((bif (bif (bif a then true else b) then true else c) then true else d)==false))||((((!((bif (bif (bif a then true else b) then true else c) then true else d)==false))||((bif (bif (bif a then true else b) then true else c) then true else d)==false))&&true)&&true))=true:=by decide
theorem Aah:∀ a b c d:Bool,((!((bif (bif (bif a then true else b) then true else c) then true else d)==false))||true)=true:=by decide
theorem Afp:∀ a b c:Bool,((!(!(bif (bif a then true else b) then true else c)))||((bif (bif a then true else b) then true else c)==false))=true:=by decide
theorem V3:∀ a b c:Bool,((!((bif (bif a then true else b) then true else c)==false))||((((!((bif (bif a then true else b) then true else c)==false))||((bif (bif a then true else b) then true else c)==false))&&true)&&true))=true:=by decide
theorem Afo:∀ a b c:Bool,((!((bif (bif a then true else b) then true else c)==false))||true)=true:=by decide
theorem Afn:∀ a b:Bool,((!(!(bif a then true else b)))||((bif a then true else b)==false))=true:=by decide
theorem Ue:∀ a b:Bool,((!((bif a then true else b)==false))||((((!((bif a then true else b)==false))||((bif a then true else b)==false))&&true)&&true))=true:=by decide
theorem V2:∀ a b:Bool,((!((bif a then true else b)==false))||true)=true:=by decide
theorem tt67:∀ a b:Bool,(!(a&&(b&&true)))=(!(a&&b)):=by decide
theorem tt68:∀ a b c d:Bool,(((!(bif (bif (bif a then b else false) then c else false) then d else false))||((bif (bif (bif a then b else false) then c else false) then d else false)==true))&&true)=true:=by decide
theorem tt69:∀ a b c d:Bool,((!((bif (bif (bif a then b else false) then c else false) then d else false)==true))||((((!((bif (bif (bif a then b else false) then c else false) then d else false)==true))||((bif (bif (bif a then b else false) then c else false) then d else false)==true))&&(((!((bif (bif (bif a then b else false) then c else false) then d else false)==true))||((bif (bif (bif a then b else false) then c else false) then d else false)==true))&&true))&&true))=true:=by decide
theorem Afm:∀ a b c d:Bool,((!((bif (bif (bif a then b else false) then c else false) then d else false)==true))||((((!((bif (bif (bif a then b else false) then c else false) then d else false)==true))||((bif (bif (bif a then b else false) then c else false) then d else false)==true))&&true)&&true))=true:=by decide
theorem tt71:∀ a b c d:Bool,((!((bif (bif (bif a then b else false) then c else false) then d else false)==true))||true)=true:=by decide
theorem tt72:∀ a b c:Bool,(((!(bif (bif a then b else false) then c else false))||((bif (bif a then b else false) then c else false)==true))&&true)=true:=by decide
theorem tt73:∀ a b c:Bool,((!((bif (bif a then b else false) then c else false)==true))||((((!((bif (bif a then b else false) then c else false)==true))||((bif (bif a then b else false) then c else false)==true))&&true)&&true))=true:=by decide
theorem tt74:∀ a b c:Bool,((!((bif (bif a then b else false) then c else false)==true))||true)=true:=by decide
theorem tt75:∀ a b:Bool,(((!(bif a then b else false))||((bif a then b else false)==true))&&true)=true:=by decide
theorem Aco:∀ a b:Bool,((!((bif a then b else false)==true))||((((!((bif a then b else false)==true))||((bif a then b else false)==true))&&true)&&true))=true:=by decide
theorem tt77:∀ a b:Bool,((!((bif a then b else false)==true))||true)=true:=by decide
theorem tt78:∀ a b:Bool,(bif a then true else (!b))=(a||(!b)):=by decide
theorem tt79:∀ a b:Bool,((!(a==false))||((((!(a==false))||(a==false))&&true)&&b))=(a||b):=by decide
theorem tt80:∀ a b c:Bool,((a&&b)&&((a&&c)&&true))=((a&&b)&&(a&&c)):=by decide
theorem tt81:∀ a:Bool,((a&&true)&&true)=a:=by decide
theorem tt82:∀ a b c d e:Bool,(bif (bif (bif (bif a then true else b) then true else c) then true else d) then true else e)=((((a||b)||c)||d)||e):=by decide
theorem Afl:∀ a b:Bool,((!((bif a then true else b)==false))||((((!((bif a then true else b)==false))||((bif a then true else b)==false))&&(((!((bif a then true else b)==false))||((bif a then true else b)==false))&&true))&&true))=true:=by decide
theorem tt84:∀ a b c d e f g:Bool,(bif (bif (bif (bif (bif (bif a then true else b) then true else c) then true else d) then true else e) then true else f) then true else g)=((((((a||b)||c)||d)||e)||f)||g):=by decide
theorem tt85:∀ a b:Bool,((!(a==true))||((((!(a==true))||(a==true))&&true)&&b))=((!a)||b):=by decide
theorem tt86:∀ a b c:Bool,((!((bif a then b else false)==true))||((((!((bif a then b else false)==true))||((bif a then b else false)==true))&&true)&&c))=((!(a&&b))||c):=by decide
theorem tt87:∀ a:Bool,((((!a)||(a==true))&&true)&&true)=true:=by decide
theorem tt88:∀ a:Bool,(((!(a==true))||true)&&true)=true:=by decide
open Go Go.Den Go.Rnd Go.Proofs
set_option maxRecDepth 100000
namespace EqSoft
def soft.Split.A8:List (Nat × Entry):=[]
def soft.Split.E:Env:=Ba (A6 soft.Split.A8) (fun _=>false) (fun _=>none) (fun _=>none)
theorem soft.Split.ev (N:Nat) (x:Int):Bo soft.Split.E N Try.f44 (An Try.f44) [.int .u64 x]=some (.agg [.bool ((Cf .u64 x 63)==(1:Int)),.int .i64 (Ab (Eo .u64 (Cf .u64 x 52) 2047)),.int .u64 (Eo .u64 x 4503599627370495)]):=by kernel_rfl
abbrev _root_.Go.Proofs.S1.soft.Split.Kn:=A4 Try.prog 44 soft.Split.spec
theorem soft.Split.Ae (hk:Av Try.prog soft.Split.A8) (h:∀ (x:Int),soft.Split.pre [.i x]=true→Bd soft.Split.E Try.f44 [.int .u64 x] (soft.Split.out [.i x])):soft.Split.Kn :=
  Aj (Ax hk _ _ _) Try.func44 (by kernel_rfl) (by kernel_rfl) h
def soft.Kind.A8:List (Nat × Entry):=[(44,soft.Split.spec)]
def soft.Kind.E:Env:=Ba (A6 soft.Kind.A8) (fun _=>false) (fun _=>none) (fun _=>none)
theorem soft.Kind.ev (N:Nat) (x:Int):Bo soft.Kind.E N Try.f24 (An Try.f24) [.int .u64 x]=bif (Ag x) then bif (((Mw x)==(2047:Int))&&((Nd x)==(0:Int))) then some (.int .i64 3) else bif ((Mw x)==(2047:Int)) then some (.int .i64 4) else bif (Au 0 (Mw x)) then some (.int .i64 2) else bif (Au 0 (Nd x)) then some (.int .i64 1) else some (.int .i64 0) else none :=
  Eq.trans (by kernel_rfl)
  (Ew (Dp (tt0 (Cy x) ((Mw x)==(2047:Int)) ((Nd x)==(0:Int))) rfl rfl) rfl)
abbrev _root_.Go.Proofs.S1.soft.Kind.Kn:=A4 Try.prog 24 soft.Kind.spec
theorem soft.Kind.Ae (hk:Av Try.prog soft.Kind.A8) (h:∀ (x:Int),soft.Kind.pre [.i x]=true→Bd soft.Kind.E Try.f24 [.int .u64 x] (soft.Kind.out [.i x])):soft.Kind.Kn :=
  Aj (Ax hk _ _ _) Try.func24 (by kernel_rfl) (by kernel_rfl) h
def soft.Sign.A8:List (Nat × Entry):=[]
def soft.Sign.E:Env:=Ba (A6 soft.Sign.A8) (fun _=>false) (fun _=>none) (fun _=>none)
theorem soft.Sign.ev (N:Nat) (x:Int):Bo soft.Sign.E N Try.f80 (An Try.f80) [.int .u64 x]=some (.bool ((Cf .u64 x 63)==(1:Int))):=by kernel_rfl
abbrev _root_.Go.Proofs.S1.soft.Sign.Kn:=A4 Try.prog 80 soft.Sign.spec
theorem soft.Sign.Ae (hk:Av Try.prog soft.Sign.A8) (h:∀ (x:Int),soft.Sign.pre [.i x]=true→Bd soft.Sign.E Try.f80 [.int .u64 x] (soft.Sign.out [.i x])):soft.Sign.Kn :=
  Aj (Ax hk _ _ _) Try.func80 (by kernel_rfl) (by kernel_rfl) h
def soft.Finite.A8:List (Nat × Entry):=[(24,soft.Kind.spec)]
def soft.Finite.E:Env:=Ba (A6 soft.Finite.A8) (fun _=>false) (fun _=>none) (fun _=>none)
theorem soft.Finite.ev (N:Nat) (x:Int):Bo soft.Finite.E N Try.f13 (An Try.f13) [.int .u64 x]=bif (Ag x) then bif ((Az x)==(3:Int)) then some (.bool false) else bif ((Az x)==(4:Int)) then some (.bool false) else some (.bool true) else none:=by kernel_rfl
abbrev _root_.Go.Proofs.S1.soft.Finite.Kn:=A4 Try.prog 13 soft.Finite.spec
theorem soft.Finite.Ae (hk:Av Try.prog soft.Finite.A8) (h:∀ (x:Int),soft.Finite.pre [.i x]=true→Bd soft.Finite.E Try.f13 [.int .u64 x] (soft.Finite.out [.i x])):soft.Finite.Kn :=
  Aj (Ax hk _ _ _) Try.func13 (by kernel_rfl) (by kernel_rfl) h
def soft.Ev.A8:List (Nat × Entry):=[]
def soft.Ev.E:Env:=Ba (A6 soft.Ev.A8) (fun _=>false) (fun _=>none) (fun _=>none)
theorem soft.Ev.ev (N:Nat) (x:Int):Bo soft.Ev.E N Try.f73 (An Try.f73) [.int .u64 x]=some (.int .u64 (Ahe .u64 x 9223372036854775808)):=by kernel_rfl
abbrev _root_.Go.Proofs.S1.soft.Ev.Kn:=A4 Try.prog 73 soft.Ev.spec
theorem soft.Ev.Ae (hk:Av Try.prog soft.Ev.A8) (h:∀ (x:Int),soft.Ev.pre [.i x]=true→Bd soft.Ev.E Try.f73 [.int .u64 x] (soft.Ev.out [.i x])):soft.Ev.Kn :=
  Aj (Ax hk _ _ _) Try.func73 (by kernel_rfl) (by kernel_rfl) h
def soft.Eg.A8:List (Nat × Entry):=[(44,soft.Split.spec)]
def soft.Eg.E:Env:=Ba (A6 soft.Eg.A8) (fun _=>false) (fun _=>none) (fun _=>none)
theorem soft.Eg.ev (N:Nat) (x:Int):Bo soft.Eg.E N Try.f83 (An Try.f83) [.int .u64 x]=bif (Ag x) then bif ((Mw x)==(0:Int)) then some (.tup [.int .u64 (Nd x),.int .i64 (-1074:Int)]) else some (.tup [.int .u64 (Gd .u64 (Nd x) 4503599627370496),.int .i64 (Ab ((Mw x)-1075))]) else none:=by kernel_rfl
abbrev _root_.Go.Proofs.S1.soft.Eg.Kn:=A4 Try.prog 83 soft.Eg.spec
theorem soft.Eg.Ae (hk:Av Try.prog soft.Eg.A8) (h:∀ (x:Int),soft.Eg.pre [.i x]=true→Bd soft.Eg.E Try.f83 [.int .u64 x] (soft.Eg.out [.i x])):soft.Eg.Kn :=
  Aj (Ax hk _ _ _) Try.func83 (by kernel_rfl) (by kernel_rfl) h
def soft.Pack.A8:List (Nat × Entry):=[(73,soft.Ev.spec)]
def soft.Pack.E (rk:Nat):Env:=Ba (A6 ((97,Aa2 [.b,.i .u64,.i .i64] soft.Pack.pre soft.Pack.out soft.Pack.mu rk)::soft.Pack.A8)) (fun _=>false) (fun _=>none) (fun _=>none)
theorem soft.Pack.ev (N rk:Nat) (n:Bool) (m e:Int):Bo (soft.Pack.E rk) N Try.f97 (An Try.f97) [.bool n,.int .u64 m,.int .i64 e]=bif (m==(0:Int)) then bif n then bif (Ag 0) then some (.int .u64 (Cq 0)) else none else some (.int .u64 0) else bif (Dt 9007199254740992 m) then bif ((Hu (Cf .u64 m 1) (Ab (e+1)))&&(Dd ((Kp (Cf .u64 m 1) (Ab (e+1)))<rk))) then some (.int .u64 (Oq n (Cf .u64 m 1) (Ab (e+1)))) else none else bif ((Au m 4503599627370496)&&(Au (-1074:Int) e)) then bif ((Hu (Be .u64 m 1) (Ab (e-1)))&&(Dd ((Kp (Be .u64 m 1) (Ab (e-1)))<rk))) then some (.int .u64 (Oq n (Be .u64 m 1) (Ab (e-1)))) else none else bif (Au m 4503599627370496) then bif n then bif (Ag m) then some (.int .u64 (Cq m)) else none else some (.int .u64 m) else bif (Dt 2047 (Ab (e+1075))) then bif n then bif (Ag 9218868437227405312) then some (.int .u64 (Cq 9218868437227405312)) else none else some (.int .u64 9218868437227405312) else bif n then bif (Ag (Gd .u64 (Be .u64 (Bx (Ab (e+1075))) 52) (Eo .u64 m 4503599627370495))) then some (.int .u64 (Cq (Gd .u64 (Be .u64 (Bx (Ab (e+1075))) 52) (Eo .u64 m 4503599627370495)))) else none else some (.int .u64 (Gd .u64 (Be .u64 (Bx (Ab (e+1075))) 52) (Eo .u64 m 4503599627370495))) :=
  Eq.trans (by kernel_rfl)
  (Ew rfl (Ew rfl (Am (Su (Au m 4503599627370496)) (Am (Qz (Au m 4503599627370496)) (Am (Vw (Au m 4503599627370496)) (Dp (tt1 (Au m 4503599627370496) (Au (-1074:Int) e)) rfl rfl))))))
theorem soft.Pack.Ae (hk:Av Try.prog soft.Pack.A8) (h:∀ (rk:Nat) (n:Bool) (m e:Int),soft.Pack.pre [.b n,.i m,.i e]=true→soft.Pack.mu [.b n,.i m,.i e]<rk+1→∃ N dv drops,Bo (soft.Pack.E rk) N Try.f97 (An Try.f97) [.bool n,.int .u64 m,.int .i64 e]=some dv∧Wk drops dv (soft.Pack.out [.b n,.i m,.i e])):A4 Try.prog 97 soft.Pack.spec:=by
  have call:=N5 (f:=97) Try.func97 (by kernel_rfl) (show Try.f97.body=some (An Try.f97) by kernel_rfl)
  refine ⟨Ym (E:=soft.Pack.E) Try.func97 (show Try.f97.body=some (An Try.f97) by kernel_rfl) soft.Pack.mu (fun rk hm=>Ax (.cons ⟨hm,call⟩ hk) _ _ _) fun rk ats dvs he hp hr=>?_,call⟩
  obtain ⟨n,_,_,rfl,rfl,he0⟩:=he.b_inv
  obtain ⟨m,_,_,rfl,rfl,he1⟩:=he0.Ad7
  obtain ⟨e,_,_,rfl,rfl,he2⟩:=he1.Ad7
  obtain ⟨rfl,rfl⟩:=he2.Zs
  exact h rk n m e hp hr
abbrev _root_.Go.Proofs.S1.soft.Pack.Kn:Prop:=A4 Try.prog 97 soft.Pack.spec
def soft.B9.hint:Nat→Option A0
  | 0=>some { keep:=[0,1,2,3,10],objs:=[],boxes:=[] }
  | _=>none
def soft.B9.A8:List (Nat × Entry):=[(24,soft.Kind.spec),(97,soft.Pack.spec)]
def soft.B9.live:Nat→Option (List Nat)
  | 7=>some [0,1,2,3,10]
  | 12=>some [0,2,3,10,11,12,13,14]
  | 14=>some [0,2,10,11,14]
  | 16=>some [0,2,10,11,14]
  | 18=>some [14,15,16]
  | _=>none
def soft.B9.E:Env:=Ba (A6 soft.B9.A8) (fun _=>false) soft.B9.hint soft.B9.live
def soft.B9.L0 (N M:Nat) (n:Bool) (m e:Int) (r:Bool) (p10:Int):Option DV:=B3 soft.B9.E N Try.f84 (An Try.f84) [1,1,1,0,0] [] M ⟨Gy 111 [(0,.bool n),(1,.int .u64 m),(2,.int .i64 e),(3,.bool r),(10,.int .i64 p10)],[]⟩
def soft.B9.C7 (N:Nat) (n:Bool) (m e:Int) (r:Bool) (p10_1:Int):Option DV:=cutAt soft.B9.E N Try.f84 (An Try.f84) [1,1,1,1] [] ⟨Gy 111 [(0,.bool n),(1,.int .u64 m),(2,.int .i64 e),(3,.bool r),(10,.int .i64 p10_1)],[]⟩
def soft.B9.C12 (N:Nat) (n:Bool) (e:Int) (r:Bool) (p10_2 p11_1:Int) (p12 p13:Int) (p14:Bool):Option DV:=cutAt soft.B9.E N Try.f84 (An Try.f84) [1,1,1,1,1,1,1,1,0] [] ⟨Gy 111 [(0,.bool n),(2,.int .i64 e),(3,.bool r),(10,.int .i64 p10_2),(11,.int .u64 p11_1),(12,.int .u64 p12),(13,.int .u64 p13),(14,.bool p14)],[]⟩
def soft.B9.C14 (N:Nat) (n:Bool) (e p10_3 p11_2:Int) (p14_1:Bool):Option DV:=cutAt soft.B9.E N Try.f84 (An Try.f84) [1,1,1,1,1,1,1,1,1,0] [] ⟨Gy 111 [(0,.bool n),(2,.int .i64 e),(10,.int .i64 p10_3),(11,.int .u64 p11_2),(14,.bool p14_1)],[]⟩
def soft.B9.C16 (N:Nat) (n:Bool) (e p11 p10_4:Int) (p14_2:Bool):Option DV:=cutAt soft.B9.E N Try.f84 (An Try.f84) [1,1,1,1,1,1,1,1,1,1] [] ⟨Gy 111 [(0,.bool n),(2,.int .i64 e),(10,.int .i64 p10_4),(11,.int .u64 p11),(14,.bool p14_2)],[]⟩
def soft.B9.C18 (N:Nat) (p14_3:Bool) (p15:Int):Option DV:=cutAt soft.B9.E N Try.f84 (An Try.f84) [1,1,1,1,1,1,1,1,1,1,1,1,0] [] ⟨Gy 111 [(14,.bool p14_3),(15,.int .u64 p15),(16,.int .u8 0)],[]⟩
theorem soft.B9.As (N M:Nat) (n:Bool) (m e:Int) (r:Bool) (p10:Int):soft.B9.L0 N (M+1) n m e r p10=bif (decide (0≤p10)) then bif ((Dt 9007199254740992 (Cf .u64 m p10))||(Au (Ab (e+p10)) (-1074:Int))) then bif ((Ab (p10+1))==(63:Int)) then soft.B9.C7 N n m e r (Ab (p10+1)) else soft.B9.L0 N M n m e r (Ab (p10+1)) else soft.B9.C7 N n m e r p10 else none :=
  Eq.trans (by kernel_rfl)
  (Ew (Am (Qb (Dt 9007199254740992 (Cf .u64 m p10))) (Am (Qb (Dt 9007199254740992 (Cf .u64 m p10))) (Am (tt8 (Dt 9007199254740992 (Cf .u64 m p10))) (Am (Mu (Dt 9007199254740992 (Cf .u64 m p10))) (Am (Vv (Dt 9007199254740992 (Cf .u64 m p10))) (Dp (tt5 (Dt 9007199254740992 (Cf .u64 m p10)) (Au (Ab (e+p10)) (-1074:Int))) rfl rfl)))))) rfl)
theorem soft.B9.C7_eq (N:Nat) (n:Bool) (m e:Int) (r:Bool) (p10_1:Int):soft.B9.C7 N n m e r p10_1=bif (decide (0≤p10_1)) then bif (decide (0≤p10_1)) then bif (Au 0 p10_1) then bif (decide (0≤(Ab (p10_1-1)))) then soft.B9.C12 N n e r p10_1 (Cf .u64 m p10_1) (Eo .u64 m (Bx ((Be .u64 1 p10_1)-1))) (Be .u64 1 (Ab (p10_1-1))) (bif ((Eo .u64 m (Bx ((Be .u64 1 p10_1)-1)))==(0:Int)) then (!r) else false) else none else soft.B9.C12 N n e r p10_1 (Cf .u64 m p10_1) (Eo .u64 m (Bx ((Be .u64 1 p10_1)-1))) 0 (bif ((Eo .u64 m (Bx ((Be .u64 1 p10_1)-1)))==(0:Int)) then (!r) else false) else none else none :=
  Eq.trans ((En _ _ _ _ _ _ _).trans (by kernel_rfl))
  (Dp (Eh (decide (0≤p10_1))) (Dp (Eh (decide (0≤p10_1))) (Ew (Ew (Am (Su ((Eo .u64 m (Bx ((Be .u64 1 p10_1)-1)))==(0:Int))) (Am (Qz ((Eo .u64 m (Bx ((Be .u64 1 p10_1)-1)))==(0:Int))) (Am (Vw ((Eo .u64 m (Bx ((Be .u64 1 p10_1)-1)))==(0:Int))) rfl))) rfl) (Am (Su ((Eo .u64 m (Bx ((Be .u64 1 p10_1)-1)))==(0:Int))) (Am (Qz ((Eo .u64 m (Bx ((Be .u64 1 p10_1)-1)))==(0:Int))) (Am (Vw ((Eo .u64 m (Bx ((Be .u64 1 p10_1)-1)))==(0:Int))) rfl)))) rfl) rfl)
theorem soft.B9.Zf (N:Nat) (n:Bool) (e:Int) (r:Bool) (p10_2 p11_1:Int) (p12 p13:Int) (p14:Bool):soft.B9.C12 N n e r p10_2 p11_1 p12 p13 p14=bif ((Au 0 p10_2)&&((Au p13 p12)||((p12==p13)&&(r||((Eo .u64 p11_1 1)==(1:Int)))))) then soft.B9.C14 N n e p10_2 (Bx (p11_1+1)) p14 else soft.B9.C14 N n e p10_2 p11_1 p14 :=
  Eq.trans ((En _ _ _ _ _ _ _).trans (by kernel_rfl))
  (Am (Su (Au 0 p10_2)) (Am (Su (Au 0 p10_2)) (Am (Aft (Au 0 p10_2)) (Am (Qz (Au 0 p10_2)) (Am (tt21 (Au 0 p10_2) (Au p13 p12)) (Am (tt21 (Au 0 p10_2) (Au p13 p12)) (Am (tt20 (Au 0 p10_2) (Au p13 p12)) (Am (tt19 (Au 0 p10_2) (Au p13 p12)) (Am (tt18 (Au 0 p10_2) (Au p13 p12) (p12==p13)) (Am (tt17 (Au 0 p10_2) (Au p13 p12) (p12==p13)) (Am (tt16 (Au 0 p10_2) (Au p13 p12) (p12==p13) r) (Am (tt15 (Au 0 p10_2) (Au p13 p12) (p12==p13) r) (Am (tt15 (Au 0 p10_2) (Au p13 p12) (p12==p13) r) (Am (tt14 (Au 0 p10_2) (Au p13 p12) (p12==p13) r) (Am (tt13 (Au 0 p10_2) (Au p13 p12) (p12==p13)) (Am (tt12 (Au 0 p10_2) (Au p13 p12)) (Am (Vw (Au 0 p10_2)) (Dp (tt11 (Au 0 p10_2) (Au p13 p12) (p12==p13) r ((Eo .u64 p11_1 1)==(1:Int))) rfl rfl))))))))))))))))))
theorem soft.B9.Ze (N:Nat) (n:Bool) (e p10_3 p11_2:Int) (p14_1:Bool):soft.B9.C14 N n e p10_3 p11_2 p14_1=bif (Au (Ab (e+p10_3)) (-1074:Int)) then soft.B9.C16 N n e 0 p10_3 p14_1 else soft.B9.C16 N n e p11_2 p10_3 p14_1:=(En _ _ _ _ _ _ _).trans (by kernel_rfl)
theorem soft.B9.C16_eq (N:Nat) (n:Bool) (e p11 p10_4:Int) (p14_2:Bool):soft.B9.C16 N n e p11 p10_4 p14_2=bif (Hu p11 (max (Ab (e+p10_4)) (-1074:Int))) then soft.B9.C18 N p14_2 (Oq n p11 (max (Ab (e+p10_4)) (-1074:Int))) else none:=(En _ _ _ _ _ _ _).trans (by kernel_rfl)
theorem soft.B9.Zd (N:Nat) (p14_3:Bool) (p15:Int):soft.B9.C18 N p14_3 p15=bif ((!p14_3)||((K4 .u64 p15 9223372036854775808)==(9218868437227405312:Int))) then bif (Ag p15) then bif ((Az p15)==(3:Int)) then some (.tup [.int .u64 p15,.int .u8 5]) else bif ((Az p15)==(0:Int)) then bif ((Az p15)==(0:Int)) then some (.tup [.int .u64 p15,.int .u8 3]) else some (.tup [.int .u64 p15,.int .u8 1]) else bif ((Az p15)==(1:Int)) then some (.tup [.int .u64 p15,.int .u8 3]) else some (.tup [.int .u64 p15,.int .u8 1]) else none else some (.tup [.int .u64 p15,.int .u8 0]) :=
  Eq.trans ((En _ _ _ _ _ _ _).trans (by kernel_rfl))
  (Am (Aak p14_3) (Am (Rd p14_3) (Am (Rd p14_3) (Am (Aal p14_3) (Dp (tt23 p14_3 ((K4 .u64 p15 9223372036854775808)==(9218868437227405312:Int))) rfl rfl)))))
theorem soft.B9.ev (N:Nat) (n:Bool) (m e:Int) (r:Bool):Bo soft.B9.E N Try.f84 (An Try.f84) [.bool n,.int .u64 m,.int .i64 e,.bool r]=bif ((m==(0:Int))&&(!r)) then bif (Hu 0 (-1074:Int)) then some (.tup [.int .u64 (Oq n 0 (-1074:Int)),.int .u8 0]) else none else soft.B9.L0 N N n m e r 0 :=
  Eq.trans (by kernel_rfl)
  (Am (Su (m==(0:Int))) (Am (Qz (m==(0:Int))) (Am (Vw (m==(0:Int))) (Dp (tt27 (m==(0:Int)) r) rfl rfl))))
abbrev _root_.Go.Proofs.S1.soft.B9.Kn:=A4 Try.prog 84 soft.B9.spec
theorem soft.B9.Ae (hk:Av Try.prog soft.B9.A8) (h:∀ (n:Bool) (m e:Int) (r:Bool),soft.B9.pre [.b n,.i m,.i e,.b r]=true→Bd soft.B9.E Try.f84 [.bool n,.int .u64 m,.int .i64 e,.bool r] (soft.B9.out [.b n,.i m,.i e,.b r])):soft.B9.Kn :=
  Aj (Ax hk _ _ _) Try.func84 (by kernel_rfl) (by kernel_rfl) h
end EqSoft
theorem Ad {a b:Bool}:(a&&b)=true↔a=true∧b=true:=by simp
theorem Zt {n:Nat} (hn:n<2^64):((Cf .u64 (n:Int) (63:Int))==(1:Int))=Cy n:=by
  rw [show (63:Int)=((63:Nat):Int) from rfl,Fi .u64 n 63 (by decide)]
  unfold Cy Dn
  rw [Ahp,Ah3]
  simp only [beq_iff_eq,Ahu]
  omega
theorem Af3 {n:Nat} (hn:n<2^64):Ab (Eo .u64 (Cf .u64 (n:Int) (52:Int)) (2047:Int))=Mw n:=by
  rw [show (52:Int)=((52:Nat):Int) from rfl,Fi .u64 n 52 (by decide),show (2047:Int)=((2^11-1:Nat):Int) from rfl,F7 11 (by omega) (by decide)]
  unfold Mw Gp
  rw [Ahp,Ak (by omega) (by omega)]
theorem Aea {n:Nat} (hn:n<2^64):Eo .u64 (n:Int) (4503599627370495:Int)=Nd n:=by
  rw [show (4503599627370495:Int)=((2^52-1:Nat):Int) from rfl,F7 52 hn (by decide)]
  unfold Nd F3
  rw [Ahp]
theorem soft.Split.known:soft.Split.Kn:=EqSoft.soft.Split.Ae .nil fun x hp=>by
  obtain ⟨n,rfl,hn⟩:=Bj (x:=x) hp
  refine ⟨0,soft.Split.out [.i n],[],?_,Wk.Hr (.cons .bool (.cons .int (.cons .int .nil)))⟩
  rw [EqSoft.soft.Split.ev,Zt hn,Af3 hn,Aea hn]
  rfl
theorem soft.Kind.known:soft.Kind.Kn:=EqSoft.soft.Kind.Ae (.cons soft.Split.known .nil) fun x hp=>by
  obtain ⟨n,rfl,hn⟩:=Bj (x:=x) hp
  refine ⟨0,soft.Kind.out [.i n],[],?_,.int⟩
  rw [EqSoft.soft.Kind.ev,Bl hn]
  show _=some (DV.int .i64 (Az n))
  unfold Az Ao Mw Nd
  simp only [Ahp,Ahn,Aq]
  have:=Jj n
  by_cases h1:Gp n=2047
  · by_cases h2:F3 n=0
    · simp [h1,h2]
    · have:((F3 n:Int)==0)=false:=by simp; exact h2
      simp [h1,this,h2]
  · have h1':((Gp n:Int)==2047)=false:=by simp; omega
    rw [h1']
    by_cases h3:0<Gp n
    · simp [h1,h3]
    · by_cases h4:0<F3 n
      · simp [h1,h3,h4]
      · simp [h1,h3,h4]
theorem soft.Sign.known:soft.Sign.Kn:=EqSoft.soft.Sign.Ae .nil fun x hp=>by
  obtain ⟨n,rfl,hn⟩:=Bj (x:=x) hp
  refine ⟨0,soft.Sign.out [.i n],[],?_,.bool⟩
  rw [EqSoft.soft.Sign.ev,Zt hn]
  rfl
theorem R8 (n:Nat):J0 n=!(decide (Ao n=3)||decide (Ao n=4)):=by
  have:=Jj n
  unfold J0 Ao
  by_cases h1:Gp n=2047
  · by_cases h2:F3 n=0<;>simp [h1,h2]
  · have:Gp n<2047:=by omega
    by_cases h3:0<Gp n
    · simp [h1,h3,this]
    · by_cases h4:0<F3 n<;>simp [h1,h3,h4,this]
theorem soft.Finite.known:soft.Finite.Kn:=EqSoft.soft.Finite.Ae (.cons soft.Kind.known .nil) fun x hp=>by
  obtain ⟨n,rfl,hn⟩:=Bj (x:=x) hp
  refine ⟨0,soft.Finite.out [.i n],[],?_,.bool⟩
  rw [EqSoft.soft.Finite.ev,Bl hn]
  show _=some (DV.bool (Cp n))
  unfold Cp Az
  rw [Ahp,R8]
  by_cases h3:Ao n=3
  · simp [h3]
  · by_cases h4:Ao n=4
    · simp [h4]
    · have e3:((Ao n:Int)==3)=false:=by simp; omega
      have e4:((Ao n:Int)==4)=false:=by simp; omega
      simp [h3,h4,e3,e4]
theorem Abg {n:Nat} (hn:n<2^64):Ahe .u64 (n:Int) (9223372036854775808:Int)=Cq n:=by
  rw [show (9223372036854775808:Int)=((2^63:Nat):Int) from rfl,Aew hn (by decide),Afc hn]
  unfold Cq Nu
  rw [Ahp]
theorem soft.Ev.known:soft.Ev.Kn:=EqSoft.soft.Ev.Ae .nil fun x hp=>by
  obtain ⟨n,rfl,hn⟩:=Bj (x:=x) hp
  refine ⟨0,soft.Ev.out [.i n],[],?_,.int⟩
  rw [EqSoft.soft.Ev.ev,Abg hn]
  rfl
theorem soft.Eg.known:soft.Eg.Kn:=EqSoft.soft.Eg.Ae (.cons soft.Split.known .nil) fun x hp=>by
  obtain ⟨n,rfl,hn⟩:=Bj (x:=x) hp
  refine ⟨0,soft.Eg.out [.i n],[],?_,Wk.Fl (.cons .int (.cons .int .nil))⟩
  rw [EqSoft.soft.Eg.ev,Bl hn]
  show _=some (DV.tup [.int .u64 (A1 n),.int .i64 (Ay n)])
  have hf:=Se n
  have hp:=Jj n
  unfold A1 Ay Mw Nd Ap A2
  rw [Ahp]
  by_cases h:Gp n=0
  · simp [h]
  · have e:((Gp n:Int)==0)=false:=by simp; omega
    have e2:Gd .u64 ((F3 n:Nat):Int) (4503599627370496:Int)=((F3 n+2^52:Nat):Int):=by
      rw [show (4503599627370496:Int)=((1*2^52:Nat):Int) from rfl,Ab4 (by omega) (by omega)]
      congr 1; omega
    rw [e,e2,Ak (by omega) (by omega)]
    simp [h]
namespace EqRefD
def Cn.Power.A8:List (Nat × Entry):=[]
def Cn.Power.E:Env:=Ba (A6 Cn.Power.A8) (fun _=>false) (fun _=>none) (fun _=>none)
theorem Cn.Power.ev (N:Nat) (x:Int):Bo Cn.Power.E N Try.f45 (An Try.f45) [.int .u64 x]=some (.int .i64 (Ab (Bx (Int.tdiv (Int.tmod x 9223372036854775808) 4503599627370496)))):=by kernel_rfl
abbrev _root_.Go.Proofs.S1.Cn.Power.Kn:=A4 Try.prog 45 Cn.Power.spec
theorem Cn.Power.Ae (hk:Av Try.prog Cn.Power.A8) (h:∀ (x:Int),Cn.Power.pre [.i x]=true→Bd Cn.Power.E Try.f45 [.int .u64 x] (Cn.Power.out [.i x])):Cn.Power.Kn :=
  Aj (Ax hk _ _ _) Try.func45 (by kernel_rfl) (by kernel_rfl) h
def Cn.Finite.A8:List (Nat × Entry):=[(45,Cn.Power.spec)]
def Cn.Finite.E:Env:=Ba (A6 Cn.Finite.A8) (fun _=>false) (fun _=>none) (fun _=>none)
theorem Cn.Finite.ev (N:Nat) (x:Int):Bo Cn.Finite.E N Try.f25 (An Try.f25) [.int .u64 x]=bif (Agb x) then some (.bool (Au (Mw x) 2047)) else none:=by kernel_rfl
abbrev _root_.Go.Proofs.S1.Cn.Finite.Kn:=A4 Try.prog 25 Cn.Finite.spec
theorem Cn.Finite.Ae (hk:Av Try.prog Cn.Finite.A8) (h:∀ (x:Int),Cn.Finite.pre [.i x]=true→Bd Cn.Finite.E Try.f25 [.int .u64 x] (Cn.Finite.out [.i x])):Cn.Finite.Kn :=
  Aj (Ax hk _ _ _) Try.func25 (by kernel_rfl) (by kernel_rfl) h
end EqRefD
open EqRefD
theorem V6 (n m:Nat):Int.tdiv (n:Int) (m:Int)=((n / m:Nat):Int):=rfl
theorem V5 (n m:Nat):Int.tmod (n:Int) (m:Int)=((n%m:Nat):Int):=rfl
theorem lit63:(9223372036854775808:Int)=((2^63:Nat):Int):=rfl
theorem lit52:(4503599627370496:Int)=((2^52:Nat):Int):=rfl
theorem Cn.Power.known:Cn.Power.Kn:=Cn.Power.Ae .nil fun x hp=>by
  obtain ⟨n,rfl⟩:=Adi (x:=x) hp
  refine ⟨0,Cn.Power.out [.i n],[],?_,.int⟩
  rw [Cn.Power.ev,lit63,lit52,V5,V6,Gf (by omega) (by omega),Ak (by omega) (by omega)]
  show _=some (DV.int .i64 (Mw n))
  unfold Mw Gp
  rw [Ahp]
  congr 2
  have:n%2^63 / 2^52=n / 2^52%2048:=by omega
  rw [this]
theorem Cn.Finite.known:Cn.Finite.Kn:=Cn.Finite.Ae (.cons Cn.Power.known .nil) fun x hp=>by
  obtain ⟨n,rfl,hn⟩:=Bj (x:=x) hp
  refine ⟨0,Cn.Finite.out [.i n],[],?_,.bool⟩
  rw [Cn.Finite.ev,Adh,Ahn,Aq]
  show _=some (DV.bool (Cp n))
  unfold Cp J0 Mw
  rw [Ahp]
  have:decide ((Gp n:Int)<2047)=decide (Gp n<2047):=decide_eq_decide.2 (by omega)
  rw [this]
namespace EqRefA
end EqRefA
open EqRefA
open EqRefA
namespace EqRefB
end EqRefB
open EqRefB
open EqRefB
namespace EqRefC
end EqRefC
open EqRefC
open EqRefC
namespace EqRefE
end EqRefE
open EqRefE
theorem Uz {r:Nat} (h:r<2^63):Cq r=((2^63+r:Nat):Int):=by
  unfold Cq; rw [Ahp,Rx h]
theorem Ji {r:Nat} (h:r<2^63) (n:Bool):(bif n then (bif (Ag (r:Int)) then some (DV.int .u64 (Cq r)) else none) else some (DV.int .u64 r))=some (DV.int .u64 ((B7 n r:Nat):Int)):=by
  cases n
  · rfl
  · rw [Bl (by omega),Uz h]; rfl
theorem Kc (n:Bool) (m:Nat) (e:Int):Oq n m e=((B7 n (B0 m e):Nat):Int):=by
  unfold Oq; rw [Ahp]
theorem Yd {E M:Nat} (h1:1≤E) (h2:E≤2046) (h3:4503599627370496≤M) (h4:M<9007199254740992):E*2^52+M%2^52=min ((E-1)*2^52+M) Gc:=by
  obtain ⟨k,rfl⟩:∃ k,E=k+1:=⟨E-1,by omega⟩
  obtain ⟨r,rfl⟩:∃ r,M=2^52+r:=⟨M-2^52,by omega⟩
  have hr:r<2^52:=by omega
  have hm:(2^52+r)%2^52=r:=by rw [Nat.add_mod_left,Ah0 hr]
  have hk:k*2^52≤2045*2^52:=Ahz _ (by omega)
  have hi:Gc=2045*2^52+2^52+2^52:=by unfold Gc; rfl
  rw [hm,Nat.add_sub_cancel,Nat.succ_mul,hi]
  generalize 2^52=c at *
  omega
theorem soft.Pack.known:soft.Pack.Kn:=EqSoft.soft.Pack.Ae (.cons soft.Ev.known .nil) fun rk n m e hp hr=>by
  have hp:=Ar.1 (show Hu m e=true from hp)
  have hr:Kp m e<rk+1:=hr
  obtain ⟨m0,m1,e0,e1⟩:=hp
  obtain ⟨M,rfl⟩:∃ M:Nat,m=M:=⟨m.toNat,by omega⟩
  refine ⟨0,soft.Pack.out [.b n,.i M,.i e],[],?_,.int⟩
  rw [EqSoft.soft.Pack.ev]
  show _=some (DV.int .u64 (Oq n M e))
  rw [Kc]
  unfold Kp at hr
  by_cases h0:M=0
  · subst h0
    have:=Ji (r:=0) (by decide) n
    have e0:B0 0 e=0:=rfl
    rw [e0]
    simpa using this
  · have b0:((M:Int)==0)=false:=by simp; omega
    rw [b0,Ahr]
    by_cases h1:M=9007199254740992
    · have b1:Dt (9007199254740992:Int) (M:Int)=true:=by rw [F2]; simp; omega
      have s1:Cf .u64 (M:Int) (1:Int)=((2^52:Nat):Int):=by
        rw [show (1:Int)=((1:Nat):Int) from rfl,Fi .u64 M 1 (by decide),h1]
      have w1:Ab (e+1)=e+1:=Ak (by omega) (by omega)
      rw [if_pos (by omega)] at hr
      have p1:Hu ((2^52:Nat):Int) (e+1)=true:=Ar.2 (by omega)
      have p2:Dd (Kp ((2^52:Nat):Int) (e+1)<rk)=true:=Ar.2 (by
        unfold Kp
        rw [if_neg (by omega),if_neg (by omega)]; omega)
      rw [b1,s1,w1,p1,p2,Kc,h1]
      have:=(Dw (2^52) 1 (e+1)).1
      have e2:e+1-((1:Nat):Int)=e:=by omega
      rw [e2] at this
      rw [← this]; rfl
    · have b1:Dt (9007199254740992:Int) (M:Int)=false:=by rw [F2]; simp; omega
      rw [b1,Ahr]
      rw [if_neg (by omega)] at hr
      by_cases h2:M<4503599627370496
      · have b2:Au (M:Int) (4503599627370496:Int)=true:=by rw [Aq]; simp; omega
        rw [if_pos (by omega)] at hr
        by_cases h3:e=-1074
        · subst h3
          have b3:Au (-1074:Int) (-1074)=false:=by decide
          rw [b2,b3,Bool.true_and,Ahr,Ahn,Wi h2]
          exact Ji (by omega) n
        · have b3:Au (-1074:Int) e=true:=by rw [Aq]; simp; omega
          have s1:Be .u64 (M:Int) (1:Int)=((M*2^1:Nat):Int):=by
            rw [show (1:Int)=((1:Nat):Int) from rfl,D0 M 1 (by decide),Ah0 (by omega)]
          have w1:Ab (e-1)=e-1:=Ak (by omega) (by omega)
          have p1:Hu ((M*2^1:Nat):Int) (e-1)=true:=Ar.2 (by omega)
          have p2:Dd (Kp ((M*2^1:Nat):Int) (e-1)<rk)=true:=Ar.2 (by
            unfold Kp
            rw [if_neg (by omega)]
            split<;>omega)
          rw [b2,b3,s1,w1,p1,p2,Kc]
          have:=(Dw M 1 e).1
          have e2:e-((1:Nat):Int)=e-1:=by omega
          rw [e2] at this
          rw [this]; rfl
      · have b2:Au (M:Int) (4503599627370496:Int)=false:=by rw [Aq]; simp; omega
        have w1:Ab (e+1075)=e+1075:=Ak (by omega) (by omega)
        rw [b2,w1,Bool.false_and,Ahr,Ahr]
        have hr:=Po (m:=M) (e:=e) (by omega) (by omega) e0
        by_cases h4:2047≤e+1075
        · have b4:Dt (2047:Int) (e+1075)=true:=by rw [F2]; simp; omega
          have:B0 M e=9218868437227405312:=by rw [hr,O3]; omega
          rw [b4,this,Ahn]
          exact Ji (r:=9218868437227405312) (by decide) n
        · have b4:Dt (2047:Int) (e+1075)=false:=by rw [F2]; simp; omega
          obtain ⟨E,hE⟩:∃ E:Nat,e+1075=E:=⟨(e+1075).toNat,by omega⟩
          have s1:Gd .u64 (Be .u64 (Bx (e+1075)) (52:Int)) (Eo .u64 (M:Int) (4503599627370495:Int))=((B0 M e:Nat):Int):=by
            rw [hE,Gf (by omega) (by omega),show (52:Int)=((52:Nat):Int) from rfl,D0 E 52 (by decide),Ah0 (by omega),
              show (4503599627370495:Int)=((2^52-1:Nat):Int) from rfl,F7 52 (by omega) (by decide),Jd (by omega) (by omega)]
            have hE2:(e+1074).toNat=E-1:=by omega
            have hE3:1≤E∧E≤2046:=by omega
            have hM:4503599627370496≤M∧M<9007199254740992:=by omega
            rw [hr,hE2]
            exact congrArg (fun (x:Nat)=>(x:Int)) (Yd hE3.1 hE3.2 hM.1 hM.2)
          rw [b4,s1,Ahr]
          exact Ji (Q2 M e) n
open EqSoft
theorem Acm {D:Nat} (h:D≤63):2^D<2^64:=Nat.pow_lt_pow_right (by decide) (by omega)
theorem K7 (n:Bool) {r:Nat} (h:r<2^63):K4 .u64 ((B7 n r:Nat):Int) (9223372036854775808:Int)=(r:Int):=by
  have hs:B7 n r<2^64:=by unfold B7; split<;>omega
  unfold K4
  rw [show (9223372036854775808:Int)=((2^63:Nat):Int) from rfl,BitVec.toNat_and,BitVec.toNat_not,Gv,Gv,show IntKind.u64.bits=64 from rfl,Ah0 hs,
    show 2^64-1-2^63%2^64=2^63-1 by decide,Nat.and_two_pow_sub_one_eq_mod]
  have:B7 n r%2^63=r:=by unfold B7; cases n<;>simp<;>omega
  rw [this]
  exact Qy (by omega)
theorem Yj (N:Nat) (ex n:Bool) {r:Nat} (h:r≤Gc):soft.B9.C18 N ex ((B7 n r:Nat):Int)=some (.tup [.int .u64 ((B7 n r:Nat):Int),.int .u8 ((flags r ex:Nat):Int)]):=by
  have h63:r<2^63:=by rw [O3] at h; omega
  have hs:B7 n r<2^64:=by unfold B7; split<;>omega
  rw [soft.B9.Zd,K7 n h63,Bl hs]
  unfold Az flags
  rw [Ahp,Abo n h]
  have hinf:(((r:Nat):Int)==(9218868437227405312:Int))=decide (r=Gc):=by
    rw [O3,Ah3]; simp; omega
  rw [hinf]
  by_cases h1:r=Gc
  · simp [h1]
  · by_cases h2:2^52≤r
    · cases ex<;>simp [h1]<;>simp [show 4503599627370496≤r by omega]
    · by_cases h3:0<r
      · cases ex<;>simp [h1,h3]<;>simp [show ¬ 4503599627370496≤r by omega]
      · cases ex<;>simp [h1,h3]<;>simp [show ¬ 4503599627370496≤r by omega]
theorem Abc (N:Nat) (n:Bool) {m:Nat} {e:Int} (he:-1140≤e∧e≤50000) (r:Bool):∀ (k d F:Nat),d+k=62→k<F→(∀ d',d'<d→2^53≤m / 2^d'∨e+d' < -1074) →
    ∃ D:Nat,soft.B9.L0 N F n m e r (d:Int)=soft.B9.C7 N n m e r (D:Int)∧Drop m e D:=by
  intro k
  induction k with
  | zero =>
    intro d F hd hF hl
    obtain ⟨F,rfl⟩:∃ G,F=G+1:=⟨F-1,by omega⟩
    obtain rfl:d=62:=by omega
    rw [soft.B9.As,Fi .u64 m 62 (by decide),Ak (by omega) (by omega),Ak (by omega) (by omega),F2,Aq]
    have a0:decide ((0:Int)≤((62:Nat):Int))=true:=by decide
    have a1:((((62:Nat):Int)+1)==63)=true:=by decide
    rw [a0,Ahn,a1,Ahn]
    by_cases h:2^53≤m / 2^62∨e+(62:Nat) < -1074
    · refine ⟨63,?_,by omega,by omega,fun d' hd'=>?_⟩
      · have:(decide ((9007199254740992:Int)≤((m / 2^62:Nat):Int))||decide (e+((62:Nat):Int) < -1074))=true:=by
          simp only [Bool.or_eq_true,Ahu]; omega
        rw [this]; rfl
      · rcases Nat.lt_or_ge d' 62 with h' | h'
        · exact hl d' h'
        · obtain rfl:d'=62:=by omega
          exact h
    · refine ⟨62,?_,by omega,fun _=>by omega,hl⟩
      have:(decide ((9007199254740992:Int)≤((m / 2^62:Nat):Int))||decide (e+((62:Nat):Int) < -1074))=false:=by
        simp only [Bool.or_eq_false_iff,Ah6]; omega
      rw [this]; rfl
  | succ k ih =>
    intro d F hd hF hl
    obtain ⟨F,rfl⟩:∃ G,F=G+1:=⟨F-1,by omega⟩
    rw [soft.B9.As,Fi .u64 m d (by show d≤64; omega),Ak (by omega) (by omega),Ak (by omega) (by omega),F2,Aq]
    have a0:decide ((0:Int)≤(d:Int))=true:=by simp
    have a1:(((d:Int)+1)==63)=false:=by simp; omega
    rw [a0,Ahn,a1,Ahr]
    by_cases h:2^53≤m / 2^d∨e+d < -1074
    · have:(decide ((9007199254740992:Int)≤((m / 2^d:Nat):Int))||decide (e+(d:Int) < -1074))=true:=by
        simp only [Bool.or_eq_true,Ahu]; omega
      rw [this,Ahn,show (d:Int)+1=((d+1:Nat):Int) by omega]
      refine ih (d+1) F (by omega) (by omega) fun d' hd'=>?_
      rcases Nat.lt_or_ge d' d with h' | h'
      · exact hl d' h'
      · obtain rfl:d'=d:=by omega
        exact h
    · refine ⟨d,?_,by omega,fun _=>by omega,hl⟩
      have:(decide ((9007199254740992:Int)≤((m / 2^d:Nat):Int))||decide (e+(d:Int) < -1074))=false:=by
        simp only [Bool.or_eq_false_iff,Ah6]; omega
      rw [this]; rfl
theorem Abb (N:Nat) (n:Bool) {m D:Nat} (hm:m<2^64) {e:Int} (he:-1140≤e∧e≤50000) (r:Bool) (hD:D≤63) (hq:(if e+D < -1074 then 0 else Wq m D r.toNat)≤2^53) :
    soft.B9.C7 N n m e r (D:Int)=soft.B9.C18 N (decide (m%2^D=0∧r.toNat=0)) ((B7 n (B0 (if e+D < -1074 then 0 else Wq m D r.toNat) (max (e+D) (-1074))):Nat):Int):=by
  have hA:=Cj D
  have h2D:=Acm hD
  have hr:=Nat.mod_lt m hA
  have hqm:m / 2^D≤m:=Nat.div_le_self _ _
  rw [soft.B9.C7_eq]
  have a0:decide ((0:Int)≤(D:Int))=true:=by simp
  have e1:Cf .u64 (m:Int) (D:Int)=((m / 2^D:Nat):Int):=Fi .u64 m D (by show D≤64; omega)
  have e2:Be .u64 (1:Int) (D:Int)=((2^D:Nat):Int):=by
    rw [show (1:Int)=((1:Nat):Int) from rfl,D0 1 D (by omega),Nat.one_mul,Ah0 h2D]
  have e3:Eo .u64 (m:Int) (Bx (Be .u64 (1:Int) (D:Int)-(1:Int)))=((m%2^D:Nat):Int):=by
    rw [e2,Gf (by omega) (by omega),show ((2^D:Nat):Int)-1=((2^D-1:Nat):Int) by omega,F7 D hm (by omega)]
  have e5:(bif (((m%2^D:Nat):Int)==(0:Int)) then (!r) else false)=decide (m%2^D=0∧r.toNat=0):=by
    by_cases h:m%2^D=0
    · cases r<;>simp [h]
    · have:(((m%2^D:Nat):Int)==(0:Int))=false:=by simp only [beq_eq_false_iff_ne,ne_eq]; omega
      rw [this]; simp [h]
  rw [a0,Ahn,Ahn,e1,e3,e5,Aq]
  have last:∀ (p:Bool) (q:Nat),q≤2^64-1→(if e+D < -1074 then 0 else q)≤2^53→soft.B9.C14 N n e (D:Int) ((q:Nat):Int) p=soft.B9.C18 N p ((B7 n (B0 (if e+D < -1074 then 0 else q) (max (e+D) (-1074))):Nat):Int):=by
    intro p q hq hq2
    rw [soft.B9.Ze,Ak (by omega) (by omega),Aq]
    have c16:∀ q':Nat,q'≤2^53→soft.B9.C16 N n e (q':Int) (D:Int) p=soft.B9.C18 N p ((B7 n (B0 q' (max (e+D) (-1074))):Nat):Int):=by
      intro q' hq'
      rw [soft.B9.C16_eq,Ak (by omega) (by omega)]
      have:Hu (q':Int) (max (e+(D:Int)) (-1074))=true:=Ar.2 (by omega)
      rw [this,Kc]; rfl
    by_cases h:e+D < -1074
    · rw [if_pos h] at hq2 ⊢
      have:decide (e+(D:Int) < -1074)=true:=by simpa using h
      rw [this]
      exact c16 0 hq2
    · rw [if_neg h] at hq2 ⊢
      have:decide (e+(D:Int) < -1074)=false:=by simpa using h
      rw [this]
      exact c16 q hq2
  have up:∀ (half:Nat) (hh:0<D→half=2^(D-1)) (p:Bool),soft.B9.C12 N n e r (D:Int) ((m / 2^D:Nat):Int) ((m%2^D:Nat):Int) (half:Int) p=soft.B9.C18 N p ((B7 n (B0 (if e+D < -1074 then 0 else Wq m D r.toNat) (max (e+D) (-1074))):Nat):Int):=by
    intro half hh p
    rw [soft.B9.Zf,Aq,Aq]
    have odd:(Eo .u64 ((m / 2^D:Nat):Int) (1:Int)==(1:Int))=decide (m / 2^D%2=1):=by
      rw [show (1:Int)=((2^1-1:Nat):Int) from rfl,F7 1 (by omega) (by decide),Ah3]
      simp only [beq_iff_eq,Ahu]
      omega
    rw [odd]
    have test:(decide ((0:Int)<(D:Int))&&(decide ((half:Int)<((m%2^D:Nat):Int))||((((m%2^D:Nat):Int)==(half:Int))&&(r||decide (m / 2^D%2=1))))) =
        decide (0<D∧(2^(D-1)<m%2^D∨(m%2^D=2^(D-1)∧(r.toNat=1∨m / 2^D%2=1)))):=by
      rw [Ah3]
      generalize m%2^D=rr
      generalize m / 2^D=qq
      generalize hg:2^(D-1)=gg at hh
      by_cases h0:0<D
      · have:=hh h0
        subst this
        cases r<;>simp [h0]<;>omega
      · simp [h0]
    rw [test]
    by_cases ht:0<D∧(2^(D-1)<m%2^D∨(m%2^D=2^(D-1)∧(r.toNat=1∨m / 2^D%2=1)))
    · have hq1:Wq m D r.toNat=m / 2^D+1:=by unfold Wq; rw [if_pos ht]
      have hlt:m / 2^D+1<2^64:=by
        obtain ⟨d,rfl⟩:∃ d,D=d+1:=⟨D-1,by omega⟩
        have h1:m / 2^(d+1)≤m / 2:=Nat.div_le_div_left (by rw [Nat.pow_succ]; have:=Cj d; omega) (by decide)
        omega
      rw [hq1] at hq ⊢
      rw [Aho ht,Ahn,Gf (by omega) (by omega),show ((m / 2^D:Nat):Int)+1=((m / 2^D+1:Nat):Int) by omega]
      exact last p _ (by omega) hq
    · have hq1:Wq m D r.toNat=m / 2^D:=by unfold Wq; rw [if_neg ht]; rfl
      rw [hq1] at hq ⊢
      rw [Ahs ht,Ahr]
      exact last p _ (by omega) hq
  rcases Nat.eq_zero_or_pos D with rfl | hpos
  · have:decide ((0:Int)<((0:Nat):Int))=false:=by decide
    rw [this,Ahr]
    exact up 0 (fun h=>absurd h (by omega)) _
  · have h1:decide ((0:Int)<(D:Int))=true:=by simpa using hpos
    have h2:Ab ((D:Int)-1)=((D-1:Nat):Int):=by rw [Ak (by omega) (by omega)]; omega
    have h3:decide ((0:Int)≤((D-1:Nat):Int))=true:=by simp
    have h4:Be .u64 (1:Int) ((D-1:Nat):Int)=((2^(D-1):Nat):Int):=by
      rw [show (1:Int)=((1:Nat):Int) from rfl,D0 1 (D-1) (by omega),Nat.one_mul,Ah0 (Acm (by omega))]
    rw [h1,Ahn,h2,h3,Ahn,h4]
    exact up _ (fun _=>rfl) _
theorem soft.B9.known:soft.B9.Kn:=soft.B9.Ae (.cons soft.Kind.known (.cons soft.Pack.known .nil)) fun n m e r hp=>by
  obtain ⟨m0,m1,e1,e2,hr⟩:=Ar.1 (show Cv m e r=true from hp)
  obtain ⟨M,rfl⟩:∃ M:Nat,m=M:=⟨m.toNat,by omega⟩
  refine ⟨63,soft.B9.out [.b n,.i M,.i e,.b r],[],?_,Wk.Fl (.cons .int (.cons .int .nil))⟩
  show _=some (DV.tup [.int .u64 (Dh n M e r),.int .u8 (Dg n M e r)])
  unfold Dh Dg Et
  rw [Ahp,soft.B9.ev]
  dsimp only
  by_cases h0:M=0∧r=false
  · obtain ⟨rfl,rfl⟩:=h0
    have:Hu (0:Int) (-1074)=true:=Ar.2 (by omega)
    have hp0:=Kc n 0 (-1074)
    rw [this]
    simp only [Bool.not_false,Bool.and_true,Ahn,Bool.toNat_false]
    have hz:(((0:Nat):Int)==0)=true:=rfl
    rw [hz,Ahn]
    have hp0:Oq n (0:Int) (-1074)=((B7 n (B0 0 (-1074)):Nat):Int):=hp0
    have z:∀ E,B0 0 E=0:=fun E=>if_pos rfl
    have z3:∀ E,flagsOf 0 E=0:=fun E=>if_pos rfl
    rw [hp0,z,show 4*0+0=0 from rfl,z,z3]
    rfl
  · have hc:((((M:Nat):Int)==(0:Int))&&!r)=false:=by
      cases r
      · have:M≠0:=fun h=>h0 ⟨h,rfl⟩
        simp; omega
      · simp
    rw [hc,Ahr]
    have he:-1140≤e∧e≤50000:=by omega
    obtain ⟨D,hl,hD⟩:=Abc 63 n (m:=M) he r 62 0 63 (by omega) (by omega) (fun d' h=>by omega)
    have hs:r.toNat≤1:=by cases r<;>decide
    have hV:4*M+r.toNat≠0:=by
      intro h
      refine h0 ⟨by omega,?_⟩
      cases r
      · rfl
      · simp at h
    obtain ⟨t1,t2,t3⟩:=Abe hD hs hV (by omega) (by omega) (fun h=>by
      have:r=true:=by cases r<;>simp_all
      have:=hr this
      omega)
    have hl:soft.B9.L0 63 63 n (M:Int) e r (0:Int)=soft.B9.C7 63 n (M:Int) e r (D:Int):=hl
    rw [hl,Abb 63 n (by omega) he r hD.le t3,← t1,Yj 63 _ n (Zl _ _),t2]
namespace EqSum
def sum.right.A8:List (Nat × Entry):=[]
def sum.right.E:Env:=Ba (A6 sum.right.A8) (fun _=>false) (fun _=>none) (fun _=>none)
theorem sum.right.ev (N:Nat) (m d:Int):Bo sum.right.E N Try.f89 (An Try.f89) [.int .u64 m,.int .i64 d]=bif (Au 63 d) then bif ((Be .u64 (Cf .u64 m 63) 63) !=m) then some (.int .u64 (Gd .u64 (Cf .u64 m 63) 1)) else some (.int .u64 (Cf .u64 m 63)) else bif (decide (0≤d)) then bif (decide (0≤d)) then bif ((Be .u64 (Cf .u64 m d) d) !=m) then some (.int .u64 (Gd .u64 (Cf .u64 m d) 1)) else some (.int .u64 (Cf .u64 m d)) else none else none:=by kernel_rfl
abbrev _root_.Go.Proofs.S1.sum.right.Kn:=A4 Try.prog 89 sum.right.spec
theorem sum.right.Ae (hk:Av Try.prog sum.right.A8) (h:∀ (m d:Int),sum.right.pre [.i m,.i d]=true→Bd sum.right.E Try.f89 [.int .u64 m,.int .i64 d] (sum.right.out [.i m,.i d])):sum.right.Kn :=
  Aj (Ax hk _ _ _) Try.func89 (by kernel_rfl) (by kernel_rfl) h
def sum.C6.A8:List (Nat × Entry):=[(13,soft.Finite.spec),(24,soft.Kind.spec)]
def sum.C6.E:Env:=Ba (A6 sum.C6.A8) (fun _=>false) (fun _=>none) (fun _=>none)
theorem sum.C6.ev (N:Nat) (a b:Int):Bo sum.C6.E N Try.f88 (An Try.f88) [.int .u64 a,.int .u64 b]=bif (Ag a) then bif ((Az a)==(4:Int)) then some (.tup [.int .u64 9221120237041090560,.int .u8 0]) else bif (Ag b) then bif ((Az b)==(4:Int)) then some (.tup [.int .u64 9221120237041090560,.int .u8 0]) else bif (Ag a) then bif (Cp a) then some (.tup [.int .u64 b,.int .u8 0]) else bif (Ag b) then bif ((Cp b)||(a==b)) then some (.tup [.int .u64 a,.int .u8 0]) else some (.tup [.int .u64 9221120237041090560,.int .u8 16]) else none else none else none else none :=
  Eq.trans (by kernel_rfl)
  (Ew (Ew rfl (Ew (Ew rfl (Ew (Ew rfl (Ew (Am (Qb (Cp b)) (Am (Qb (Cp b)) (Am (tt8 (Cp b)) (Am (Vv (Cp b)) (Dp (tt5 (Cp b) (a==b)) rfl rfl))))) rfl)) rfl)) rfl)) rfl)
abbrev _root_.Go.Proofs.S1.sum.C6.Kn:=A4 Try.prog 88 sum.C6.spec
theorem sum.C6.Ae (hk:Av Try.prog sum.C6.A8) (h:∀ (a b:Int),sum.C6.pre [.i a,.i b]=true→Bd sum.C6.E Try.f88 [.int .u64 a,.int .u64 b] (sum.C6.out [.i a,.i b])):sum.C6.Kn :=
  Aj (Ax hk _ _ _) Try.func88 (by kernel_rfl) (by kernel_rfl) h
def sum.Add.A8:List (Nat × Entry):=[(13,soft.Finite.spec),(84,soft.B9.spec),(83,soft.Eg.spec),(80,soft.Sign.spec),(89,sum.right.spec),(88,sum.C6.spec)]
def sum.Add.E:Env:=Ba (A6 sum.Add.A8) (fun _=>false) (fun _=>none) (fun _=>none)
theorem sum.Add.ev (N:Nat) (a b:Int):Bo sum.Add.E N Try.f71 (An Try.f71) [.int .u64 a,.int .u64 b]=bif (Ag a) then bif ((!(Cp a))||(Ag b)) then bif ((!(Cp a))||(!(Cp b))) then bif ((Ag a&&Ag b)&&(!(Cp a)||!(Cp b))) then some (.tup [.int .u64 (Il a b),.int .u8 (Qt a b)]) else none else bif (Ag a) then bif (Ag b) then bif (Ag a) then bif (Ag b) then bif (Au (Ay a) (Ay b)) then bif (Ag (Be .u64 (A1 a) 9)&&Dd (0≤(Ab ((Ay b)-(Ay a)))∧(Ab ((Ay b)-(Ay a)))<1000000)) then bif ((Cy b)==(Cy a)) then bif (Cv (Bx ((Be .u64 (A1 b) 9)+(Dl (Be .u64 (A1 a) 9) (Ab ((Ay b)-(Ay a)))))) (Ab ((Ay b)-9)) false) then some (.tup [.int .u64 (Dh (Cy b) (Bx ((Be .u64 (A1 b) 9)+(Dl (Be .u64 (A1 a) 9) (Ab ((Ay b)-(Ay a)))))) (Ab ((Ay b)-9)) false),.int .u8 (Dg (Cy b) (Bx ((Be .u64 (A1 b) 9)+(Dl (Be .u64 (A1 a) 9) (Ab ((Ay b)-(Ay a)))))) (Ab ((Ay b)-9)) false)]) else none else bif (Au (Dl (Be .u64 (A1 a) 9) (Ab ((Ay b)-(Ay a)))) (Be .u64 (A1 b) 9)) then bif (Cv (Bx ((Be .u64 (A1 b) 9)-(Dl (Be .u64 (A1 a) 9) (Ab ((Ay b)-(Ay a)))))) (Ab ((Ay b)-9)) false) then some (.tup [.int .u64 (Dh (Cy b) (Bx ((Be .u64 (A1 b) 9)-(Dl (Be .u64 (A1 a) 9) (Ab ((Ay b)-(Ay a)))))) (Ab ((Ay b)-9)) false),.int .u8 (Dg (Cy b) (Bx ((Be .u64 (A1 b) 9)-(Dl (Be .u64 (A1 a) 9) (Ab ((Ay b)-(Ay a)))))) (Ab ((Ay b)-9)) false)]) else none else bif (Au (Be .u64 (A1 b) 9) (Dl (Be .u64 (A1 a) 9) (Ab ((Ay b)-(Ay a))))) then bif (Cv (Bx ((Dl (Be .u64 (A1 a) 9) (Ab ((Ay b)-(Ay a))))-(Be .u64 (A1 b) 9))) (Ab ((Ay b)-9)) false) then some (.tup [.int .u64 (Dh (Cy a) (Bx ((Dl (Be .u64 (A1 a) 9) (Ab ((Ay b)-(Ay a))))-(Be .u64 (A1 b) 9))) (Ab ((Ay b)-9)) false),.int .u8 (Dg (Cy a) (Bx ((Dl (Be .u64 (A1 a) 9) (Ab ((Ay b)-(Ay a))))-(Be .u64 (A1 b) 9))) (Ab ((Ay b)-9)) false)]) else none else some (.tup [.int .u64 0,.int .u8 0]) else none else bif (Ag (Be .u64 (A1 b) 9)&&Dd (0≤(Ab ((Ay a)-(Ay b)))∧(Ab ((Ay a)-(Ay b)))<1000000)) then bif ((Cy a)==(Cy b)) then bif (Cv (Bx ((Be .u64 (A1 a) 9)+(Dl (Be .u64 (A1 b) 9) (Ab ((Ay a)-(Ay b)))))) (Ab ((Ay a)-9)) false) then some (.tup [.int .u64 (Dh (Cy a) (Bx ((Be .u64 (A1 a) 9)+(Dl (Be .u64 (A1 b) 9) (Ab ((Ay a)-(Ay b)))))) (Ab ((Ay a)-9)) false),.int .u8 (Dg (Cy a) (Bx ((Be .u64 (A1 a) 9)+(Dl (Be .u64 (A1 b) 9) (Ab ((Ay a)-(Ay b)))))) (Ab ((Ay a)-9)) false)]) else none else bif (Au (Dl (Be .u64 (A1 b) 9) (Ab ((Ay a)-(Ay b)))) (Be .u64 (A1 a) 9)) then bif (Cv (Bx ((Be .u64 (A1 a) 9)-(Dl (Be .u64 (A1 b) 9) (Ab ((Ay a)-(Ay b)))))) (Ab ((Ay a)-9)) false) then some (.tup [.int .u64 (Dh (Cy a) (Bx ((Be .u64 (A1 a) 9)-(Dl (Be .u64 (A1 b) 9) (Ab ((Ay a)-(Ay b)))))) (Ab ((Ay a)-9)) false),.int .u8 (Dg (Cy a) (Bx ((Be .u64 (A1 a) 9)-(Dl (Be .u64 (A1 b) 9) (Ab ((Ay a)-(Ay b)))))) (Ab ((Ay a)-9)) false)]) else none else bif (Au (Be .u64 (A1 a) 9) (Dl (Be .u64 (A1 b) 9) (Ab ((Ay a)-(Ay b))))) then bif (Cv (Bx ((Dl (Be .u64 (A1 b) 9) (Ab ((Ay a)-(Ay b))))-(Be .u64 (A1 a) 9))) (Ab ((Ay a)-9)) false) then some (.tup [.int .u64 (Dh (Cy b) (Bx ((Dl (Be .u64 (A1 b) 9) (Ab ((Ay a)-(Ay b))))-(Be .u64 (A1 a) 9))) (Ab ((Ay a)-9)) false),.int .u8 (Dg (Cy b) (Bx ((Dl (Be .u64 (A1 b) 9) (Ab ((Ay a)-(Ay b))))-(Be .u64 (A1 a) 9))) (Ab ((Ay a)-9)) false)]) else none else some (.tup [.int .u64 0,.int .u8 0]) else none else none else none else none else none else none else none :=
  Eq.trans (by kernel_rfl)
  (Ew (Am (Aak (Cp a)) (Dp (tt29 (Cp a) (Ag b)) (Am (Rd (Cp a)) (Am (Aal (Cp a)) (Dp (tt28 (Cp a) (Cp b)) rfl rfl))) rfl)) rfl)
abbrev _root_.Go.Proofs.S1.sum.Add.Kn:=A4 Try.prog 71 sum.Add.spec
theorem sum.Add.Ae (hk:Av Try.prog sum.Add.A8) (h:∀ (a b:Int),sum.Add.pre [.i a,.i b]=true→Bd sum.Add.E Try.f71 [.int .u64 a,.int .u64 b] (sum.Add.out [.i a,.i b])):sum.Add.Kn :=
  Aj (Ax hk _ _ _) Try.func71 (by kernel_rfl) (by kernel_rfl) h
def sum.Sub.A8:List (Nat × Entry):=[(73,soft.Ev.spec),(71,sum.Add.spec)]
def sum.Sub.E:Env:=Ba (A6 sum.Sub.A8) (fun _=>false) (fun _=>none) (fun _=>none)
theorem sum.Sub.ev (N:Nat) (a b:Int):Bo sum.Sub.E N Try.f62 (An Try.f62) [.int .u64 a,.int .u64 b]=bif (Ag b) then bif (Ag a&&Ag (Cq b)) then some (.tup [.int .u64 (Il a (Cq b)),.int .u8 (Qt a (Cq b))]) else none else none:=by kernel_rfl
abbrev _root_.Go.Proofs.S1.sum.Sub.Kn:=A4 Try.prog 62 sum.Sub.spec
theorem sum.Sub.Ae (hk:Av Try.prog sum.Sub.A8) (h:∀ (a b:Int),sum.Sub.pre [.i a,.i b]=true→Bd sum.Sub.E Try.f62 [.int .u64 a,.int .u64 b] (sum.Sub.out [.i a,.i b])):sum.Sub.Kn :=
  Aj (Ax hk _ _ _) Try.func62 (by kernel_rfl) (by kernel_rfl) h
end EqSum
open EqSum
theorem or_one (q:Nat):q ||| 1=2*(q / 2)+1:=by
  have e:q%2 ||| (q / 2*2^1)=q / 2*2^1+q%2:=Ov (Nat.mod_lt _ (by decide))
  have e1:1 ||| (q / 2*2^1)=q / 2*2^1+1:=Ov (k:=1) (by decide)
  have hq:q / 2*2^1+q%2=q:=by omega
  rw [hq] at e
  rcases Nat.mod_two_eq_zero_or_one q with h | h
  · rw [h,Nat.zero_or] at e
    rw [e,Nat.or_comm] at e1
    omega
  · rw [h] at e
    have:q ||| 1=q:=by
      conv=>lhs; rw [← e]
      rw [Nat.or_comm 1,Nat.or_assoc,Nat.or_self,Nat.or_comm,e]
    omega
theorem Rm {n s:Nat} (hn:n<2^64) (hs:s≤63) :
    (bif ((Be .u64 (Cf .u64 (n:Int) (s:Int)) (s:Int)) !=(n:Int)) then
      some (DV.int .u64 (Gd .u64 (Cf .u64 (n:Int) (s:Int)) (1:Int)))
    else some (.int .u64 (Cf .u64 (n:Int) (s:Int))))=some (.int .u64 ((D3 n s:Nat):Int)):=by
  have hq:n / 2^s≤n:=Nat.div_le_self _ _
  have hm:n / 2^s*2^s≤n:=Nat.div_mul_le_self _ _
  have hd:=Nat.div_add_mod n (2^s)
  rw [Nat.mul_comm] at hd
  rw [Fi .u64 n s (by show s≤64; omega),D0 _ s (by omega),Ah0 (by omega)]
  have h1:Gd .u64 ((n / 2^s:Nat):Int) (1:Int)=((n / 2^s ||| 1:Nat):Int):=Vm (by omega) (by decide)
  rw [h1,or_one]
  unfold D3
  by_cases h:n%2^s=0
  · have:((((n / 2^s*2^s:Nat):Int)) !=(n:Int))=false:=by
      simp only [bne_eq_false_iff_eq]; omega
    rw [this,if_pos h,Ahr]
  · have:((((n / 2^s*2^s:Nat):Int)) !=(n:Int))=true:=by
      simp only [bne_iff_ne,ne_eq]; omega
    rw [this,if_neg h,Ahn]
theorem sum.right.known:sum.right.Kn:=sum.right.Ae .nil fun m d hp=>by
  obtain ⟨h1,h2⟩:=Ad.1 hp
  obtain ⟨n,rfl,hn⟩:=Bj h1
  have h2:=Ar.1 h2
  obtain ⟨d,rfl⟩:∃ k:Nat,d=k:=⟨d.toNat,by omega⟩
  refine ⟨0,sum.right.out [.i n,.i d],[],?_,.int⟩
  rw [sum.right.ev,Aq]
  show _=some (DV.int .u64 (Dl n d))
  unfold Dl
  rw [Ahp,Ahp]
  by_cases h:63<d
  · have:decide ((63:Int)<(d:Int))=true:=by simp; omega
    rw [this,Ahn,Nat.min_eq_right (by omega)]
    exact Rm hn (Nat.le_refl 63)
  · have:decide ((63:Int)<(d:Int))=false:=by simp; omega
    have h0:decide ((0:Int)≤(d:Int))=true:=by simp
    rw [this,Ahr,h0,Ahn,Ahn,Nat.min_eq_left (by omega)]
    exact Rm hn (by omega)
theorem Zc:((S6:Nat):Int)=9221120237041090560:=rfl
theorem sum.C6.known:sum.C6.Kn:=sum.C6.Ae (.cons soft.Finite.known (.cons soft.Kind.known .nil)) fun a b hp=>by
  obtain ⟨h1,h2⟩:=Ad.1 hp
  obtain ⟨ha,hb⟩:=Ad.1 h1
  obtain ⟨a,rfl,hn⟩:=Bj ha
  obtain ⟨b,rfl,hm⟩:=Bj hb
  refine ⟨0,sum.C6.out [.i a,.i b],[],?_,Wk.Fl (.cons .int (.cons .int .nil))⟩
  rw [sum.C6.ev,ha,hb]
  show _=some (DV.tup [.int .u64 (Il a b),.int .u8 (Qt a b)])
  unfold Il Qt Ma Az Cp
  simp only [Ahp,Ahn]
  unfold Cp at h2
  simp only [Ahp] at h2
  by_cases a4:Ao a=4
  · simp [a4,Zc]
  · have e4:((Ao a:Int)==4)=false:=by simp; omega
    rw [e4,Ahr]
    by_cases b4:Ao b=4
    · simp [b4,Zc]
    · have f4:((Ao b:Int)==4)=false:=by simp; omega
      rw [f4,Ahr]
      have ka:=R8 a
      have kb:=R8 b
      by_cases a3:Ao a=3
      · have fa:J0 a=false:=by rw [ka]; simp [a3]
        rw [fa,Ahr]
        by_cases b3:Ao b=3
        · have fb:J0 b=false:=by rw [kb]; simp [b3]
          rw [fb]
          by_cases hab:a=b
          · subst hab; simp [a3]
          · have hab':((a:Int)==(b:Int))=false:=by simp; omega
            rw [hab']
            simp [a3,b3,hab,Zc]
        · have fb:J0 b=true:=by rw [kb]; simp [b3,b4]
          rw [fb]
          simp [a3,b3,b4]
      · have fa:J0 a=true:=by rw [ka]; simp [a3,a4]
        have b3:Ao b=3:=by
          rw [fa,kb] at h2
          simp [b4] at h2
          exact h2
        rw [fa,Ahn]
        simp [a3,b3,a4]
def Zi (na nb:Bool) (X r:Nat) (e:Int):Nat × Nat :=
  if na=nb then Et na (X+r) e false else if r<X then Et na (X-r) e false else if X<r then Et nb (r-X) e false else (0,0)
theorem Pw {na:Bool} {m:Int} {n:Nat} {e e':Int} (h:m=n) (he:e'=e) (hn:n<2^64) (h1:-1100≤e) (h2:e≤1000) :
    (bif Cv m e' false then some (DV.tup [.int .u64 (Dh na m e' false),.int .u8 (Dg na m e' false)]) else none)
      = some (.tup [.int .u64 (((Et na n e false).1:Nat):Int),.int .u8 (((Et na n e false).2:Nat):Int)]):=by
  subst h; subst he
  have hp:Cv (n:Int) e' false=true:=Ar.2 ⟨by omega,by omega,by omega,.inl (by omega),fun h=>by cases h⟩
  rw [hp,Ahn]
  unfold Dh Dg
  rw [Ahp]
theorem Xs (na nb:Bool) {X r:Nat} {e e':Int} (hX:X<2^62) (hr:r≤2^62) (h:e'=e) (h1:-1100≤e) (h2:e≤1000) :
    (bif (na==nb) then
      bif Cv (Bx ((X:Int)+(r:Int))) e' false then some (DV.tup [.int .u64 (Dh na (Bx ((X:Int)+(r:Int))) e' false),.int .u8 (Dg na (Bx ((X:Int)+(r:Int))) e' false)]) else none
    else bif Au (r:Int) (X:Int) then
      bif Cv (Bx ((X:Int)-(r:Int))) e' false then some (DV.tup [.int .u64 (Dh na (Bx ((X:Int)-(r:Int))) e' false),.int .u8 (Dg na (Bx ((X:Int)-(r:Int))) e' false)]) else none
    else bif Au (X:Int) (r:Int) then
      bif Cv (Bx ((r:Int)-(X:Int))) e' false then some (DV.tup [.int .u64 (Dh nb (Bx ((r:Int)-(X:Int))) e' false),.int .u8 (Dg nb (Bx ((r:Int)-(X:Int))) e' false)]) else none
    else some (.tup [.int .u64 (0:Int),.int .u8 (0:Int)])) =
      some (.tup [.int .u64 (((Zi na nb X r e).1:Nat):Int),.int .u8 (((Zi na nb X r e).2:Nat):Int)]):=by
  unfold Zi
  rw [Aq,Aq]
  by_cases hs:na=nb
  · have:(na==nb)=true:=by simp [hs]
    rw [this,Ahn,if_pos hs]
    exact Pw (by rw [Gf (by omega) (by omega)]; omega) h (by omega) h1 h2
  · have:(na==nb)=false:=by simp [hs]
    rw [this,Ahr,if_neg hs]
    by_cases hl:r<X
    · have:decide ((r:Int)<(X:Int))=true:=by simp; omega
      rw [this,Ahn,if_pos hl]
      exact Pw (by rw [Gf (by omega) (by omega)]; omega) h (by omega) h1 h2
    · have:decide ((r:Int)<(X:Int))=false:=by simp; omega
      rw [this,Ahr,if_neg hl]
      by_cases hg:X<r
      · have:decide ((X:Int)<(r:Int))=true:=by simp; omega
        rw [this,Ahn,if_pos hg]
        exact Pw (by rw [Gf (by omega) (by omega)]; omega) h (by omega) h1 h2
      · have:decide ((X:Int)<(r:Int))=false:=by simp; omega
        rw [this,Ahr,if_neg hg]
        rfl
theorem Aac {a b:Nat} (ha:J0 a=true) (hb:J0 b=true) (hle:A2 b≤A2 a) :
    ∃ X r:Nat,X<2^62∧r≤2^62∧Be .u64 (A1 a) (9:Int)=(X:Int)∧Dl (Be .u64 (A1 b) (9:Int)) (Ab (Ay a-Ay b))=(r:Int)
      ∧ Ab (Ay a-9)=A2 a-9
      ∧ (Ag (Be .u64 (A1 b) (9:Int))&&Dd (0≤(Ab ((Ay a)-(Ay b)))∧(Ab ((Ay a)-(Ay b)))<1000000))=true
      ∧ Zi (Cy a) (Cy b) X r (A2 a-9)=Ma a b:=by
  obtain ⟨d,hd⟩:∃ d:Nat,A2 a=A2 b+d:=⟨(A2 a-A2 b).toNat,by omega⟩
  have hx:=E7 a
  have hy:=E7 b
  have ea:=Ek a
  have eb:=Ek b
  have C:=Xr (Mx:=Ap a) (My:=Ap b) hd hx hy (fun h=>Tn (by omega))
  have sh:∀ m:Nat,m<2^53→Be .u64 (m:Int) (9:Int)=((m*2^9:Nat):Int):=fun m hm=>by
    have:=D0 m 9 (by decide)
    rw [Ah0 (by omega)] at this
    exact this
  have h2:Ab (Ay a-Ay b)=(d:Int):=by
    unfold Ay
    rw [Ahp,Ahp,Ak (by omega) (by omega)]; omega
  have s1:Be .u64 (A1 a) (9:Int)=((Ap a*2^9:Nat):Int):=by
    unfold A1; rw [Ahp]; exact sh _ hx
  have s2:Be .u64 (A1 b) (9:Int)=((Ap b*2^9:Nat):Int):=by
    unfold A1; rw [Ahp]; exact sh _ hy
  refine ⟨Ap a*2^9,D3 (Ap b*2^9) (min d 63),by omega,C.small,s1,?_,?_,?_,?_⟩
  · rw [s2,h2]; unfold Dl; rw [Ahp,Ahp]
  · unfold Ay; rw [Ahp,Ak (by omega) (by omega)]
  · rw [s2,h2,Bl (by omega),Bool.true_and]
    exact Ar.2 ⟨by omega,by omega⟩
  · unfold Cy
    rw [Ahp,Ahp,Xq ha hb hd]
    rfl
theorem sum.Add.known:sum.Add.Kn:=sum.Add.Ae (.cons soft.Finite.known (.cons soft.B9.known (.cons soft.Eg.known (.cons soft.Sign.known (.cons sum.right.known (.cons sum.C6.known .nil)))))) fun a b hp=>by
  obtain ⟨ha,hb⟩:=Ad.1 hp
  obtain ⟨a,rfl,hn⟩:=Bj ha
  obtain ⟨b,rfl,hm⟩:=Bj hb
  refine ⟨0,sum.Add.out [.i a,.i b],[],?_,Wk.Fl (.cons .int (.cons .int .nil))⟩
  rw [sum.Add.ev,ha,hb]
  show _=some (DV.tup [.int .u64 (Il a b),.int .u8 (Qt a b)])
  rw [Bool.or_true,Ahn,Ahn]
  by_cases hf:(!(Cp a)||!(Cp b))=true
  · rw [hf]; rfl
  · have hf:(!(Cp a)||!(Cp b))=false:=by simpa using hf
    rw [hf,Ahr,Ahn,Ahn,Ahn,Ahn]
    have fa:J0 a=true:=by
      have:=(Bool.or_eq_false_iff.1 hf).1
      unfold Cp at this
      simpa using this
    have fb:J0 b=true:=by
      have:=(Bool.or_eq_false_iff.1 hf).2
      unfold Cp at this
      simpa using this
    have xa:=Ek a
    have xb:=Ek b
    rw [Aq]
    by_cases hl:A2 a<A2 b
    · obtain ⟨X,r,hX,hr,e1,e2,e3,e4,e5⟩:=Aac fb fa (by omega)
      have:decide (Ay a<Ay b)=true:=by unfold Ay; simpa using hl
      rw [this,Ahn,e4,Ahn,e1,e2,Xs _ _ hX hr e3 (by omega) (by omega),e5,Ab9]
      rfl
    · obtain ⟨X,r,hX,hr,e1,e2,e3,e4,e5⟩:=Aac fa fb (by omega)
      have:decide (Ay a<Ay b)=false:=by unfold Ay; simpa using hl
      rw [this,Ahr,e4,Ahn,e1,e2,Xs _ _ hX hr e3 (by omega) (by omega),e5]
      rfl
theorem sum.Sub.known:sum.Sub.Kn:=sum.Sub.Ae (.cons soft.Ev.known (.cons sum.Add.known .nil)) fun a b hp=>by
  obtain ⟨ha,hb⟩:=Ad.1 hp
  obtain ⟨b,rfl,hm⟩:=Bj hb
  refine ⟨0,sum.Sub.out [.i a,.i b],[],?_,Wk.Fl (.cons .int (.cons .int .nil))⟩
  have:Ag (Cq (b:Int))=true:=by unfold Cq; rw [Ahp]; exact Bl (Px hm)
  rw [sum.Sub.ev,ha,hb,this]
  unfold Il Qt Cq
  rw [Ahp]
  rfl
end Go.Proofs.S1
end
