import PyProof.Rows.All
import Wide.All
import OpenK.AllK
import Wide.FinOn
import Lean
import PySem.Challenge.RW_pq0375_01
open PySem PySem.W PyProof.Rows PySem.Calls PySem.Spec PySem.SeqAt
set_option Elab.async false
set_option maxRecDepth 100000
set_option maxHeartbeats 0
set_option linter.all false
set_option autoImplicit false
set_option genSizeOf false
set_option genInjectivity false
set_option bootstrap.genMatcherCode false
set_option backward.match.sparseCases false
set_option compiler.extract_closed false
namespace Mine.Internal
noncomputable section
section
section
variable {G:Prop}{A B C D E F I J L:Sort _}
theorem bp {P Q:Prop}(h:P∧Q)(k:P->Q->G):G:=by obtain⟨p,q⟩:=h;exact k p q
theorem ke {P Q R:Prop}(h:P∧Q∧R)(k:P->Q->R->G):G:=by obtain⟨p,q,r⟩:=h;exact k p q r
theorem zQ {P Q R S:Prop}(h:P∧Q∧R∧S)(k:P->Q->R->S->G):G:=by obtain⟨p,q,r,s⟩:=h;exact k p q r s
theorem ZO {P Q R S T:Prop}(h:P∧Q∧R∧S∧T)(k:P->Q->R->S->T->G):G:=by obtain⟨p,q,r,s,t⟩:=h;exact k p q r s t
theorem ZP {P Q R S T U:Prop}(h:P∧Q∧R∧S∧T∧U)(k:P->Q->R->S->T->U->G):G:=by obtain⟨p,q,r,s,t,u⟩:=h;exact k p q r s t u
theorem ZQ {P Q R S T U V:Prop}(h:P∧Q∧R∧S∧T∧U∧V)(k:P->Q->R->S->T->U->V->G):G:=by obtain⟨p,q,r,s,t,u,v⟩:=h;exact k p q r s t u v
theorem aQ {P:A->Prop}(h:∃a,P a)(k:∀a,P a->G):G:=by obtain⟨a,p⟩:=h;exact k a p
theorem aj {P Q:A->Prop}(h:∃a,P a∧Q a)(k:∀a,P a->Q a->G):G:=by obtain⟨a,p,q⟩:=h;exact k a p q
theorem dQ {P Q R:A->Prop}(h:∃a,P a∧Q a∧R a)(k:∀a,P a->Q a->R a->G):G:=by obtain⟨a,p,q,r⟩:=h;exact k a p q r
theorem fj {P Q R S:A->Prop}(h:∃a,P a∧Q a∧R a∧S a)(k:∀a,P a->Q a->R a->S a->G):G:=by obtain⟨a,p,q,r,s⟩:=h;exact k a p q r s
theorem zR {P Q R S T:A->Prop}(h:∃a,P a∧Q a∧R a∧S a∧T a)(k:∀a,P a->Q a->R a->S a->T a->G):G:=by obtain⟨a,p,q,r,s,t⟩:=h;exact k a p q r s t
theorem jK {P:A->B->Prop}(h:∃a b,P a b)(k:∀a b,P a b->G):G:=by obtain⟨a,b,p⟩:=h;exact k a b p
theorem eH {P Q:A->B->Prop}(h:∃a b,P a b∧Q a b)(k:∀a b,P a b->Q a b->G):G:=by obtain⟨a,b,p,q⟩:=h;exact k a b p q
theorem cg {P Q R:A->B->Prop}(h:∃a b,P a b∧Q a b∧R a b)(k:∀a b,P a b->Q a b->R a b->G):G:=by obtain⟨a,b,p,q,r⟩:=h;exact k a b p q r
theorem tE {P Q R S:A->B->Prop}(h:∃a b,P a b∧Q a b∧R a b∧S a b)(k:∀a b,P a b->Q a b->R a b->S a b->G):G:=by obtain⟨a,b,p,q,r,s⟩:=h;exact k a b p q r s
theorem ow {P:A->B->C->Prop}(h:∃a b c,P a b c)(k:∀a b c,P a b c->G):G:=by obtain⟨a,b,c,p⟩:=h;exact k a b c p
theorem lr {P Q:A->B->C->Prop}(h:∃a b c,P a b c∧Q a b c)(k:∀a b c,P a b c->Q a b c->G):G:=by obtain⟨a,b,c,p,q⟩:=h;exact k a b c p q
theorem m7 {P Q R:A->B->C->Prop}(h:∃a b c,P a b c∧Q a b c∧R a b c)(k:∀a b c,P a b c->Q a b c->R a b c->G):G:=by obtain⟨a,b,c,p,q,r⟩:=h;exact k a b c p q r
theorem fk {P Q R S:A->B->C->Prop}(h:∃a b c,P a b c∧Q a b c∧R a b c∧S a b c)(k:∀a b c,P a b c->Q a b c->R a b c->S a b c->G):G:=by obtain⟨a,b,c,p,q,r,s⟩:=h;exact k a b c p q r s
theorem wi {P:A->B->C->D->Prop}(h:∃a b c d,P a b c d)(k:∀a b c d,P a b c d->G):G:=by obtain⟨a,b,c,d,p⟩:=h;exact k a b c d p
theorem ZR {P Q:A->B->C->D->Prop}(h:∃a b c d,P a b c d∧Q a b c d)(k:∀a b c d,P a b c d->Q a b c d->G):G:=by obtain⟨a,b,c,d,p,q⟩:=h;exact k a b c d p q
theorem kg {P Q R S:A->B->C->D->Prop}(h:∃a b c d,P a b c d∧Q a b c d∧R a b c d∧S a b c d)(k:∀a b c d,P a b c d->Q a b c d->R a b c d->S a b c d->G):G:=by obtain⟨a,b,c,d,p,q,r,s⟩:=h;exact k a b c d p q r s
theorem ZS {P Q R S T:A->B->C->D->Prop}(h:∃a b c d,P a b c d∧Q a b c d∧R a b c d∧S a b c d∧T a b c d)(k:∀a b c d,P a b c d->Q a b c d->R a b c d->S a b c d->T a b c d->G):G:=by obtain⟨a,b,c,d,p,q,r,s,t⟩:=h;exact k a b c d p q r s t
theorem ZT {P Q R S T U V W X:A->B->C->D->E->Prop}(h:∃a b c d e,P a b c d e∧Q a b c d e∧R a b c d e∧S a b c d e∧T a b c d e∧U a b c d e∧V a b c d e∧W a b c d e∧X a b c d e)(k:∀a b c d e,P a b c d e->Q a b c d e->R a b c d e->S a b c d e->T a b c d e->U a b c d e->V a b c d e->W a b c d e->X a b c d e->G):G:=by obtain⟨a,b,c,d,e,p,q,r,s,t,u,v,w,x⟩:=h;exact k a b c d e p q r s t u v w x
theorem Ro {P Q:A->B->C->D->E->F->Prop}(h:∃a b c d e f,P a b c d e f∧Q a b c d e f)(k:∀a b c d e f,P a b c d e f->Q a b c d e f->G):G:=by obtain⟨a,b,c,d,e,f,p,q⟩:=h;exact k a b c d e f p q
theorem ZU {P Q R:A->B->C->D->E->F->Prop}(h:∃a b c d e f,P a b c d e f∧Q a b c d e f∧R a b c d e f)(k:∀a b c d e f,P a b c d e f->Q a b c d e f->R a b c d e f->G):G:=by obtain⟨a,b,c,d,e,f,p,q,r⟩:=h;exact k a b c d e f p q r
theorem ZV {P Q R S T U:A->B->C->D->E->F->I->Prop}(h:∃a b c d e f i,P a b c d e f i∧Q a b c d e f i∧R a b c d e f i∧S a b c d e f i∧T a b c d e f i∧U a b c d e f i)(k:∀a b c d e f i,P a b c d e f i->Q a b c d e f i->R a b c d e f i->S a b c d e f i->T a b c d e f i->U a b c d e f i->G):G:=by obtain⟨a,b,c,d,e,f,i,p,q,r,s,t,u⟩:=h;exact k a b c d e f i p q r s t u
end
theorem bC {p:Prop}(h:¬p->False):p:=Classical.byContradiction h
theorem oi {α:Type _}{a b:α}(h:some a=some b):a=b:=Option.some.inj h
section
variable {a b c k l m n p:Nat}
theorem aI (h:a≤m)(d:m.ble n=true):a≤n:=Nat.le_trans h (Nat.le_of_ble_eq_true d)
theorem di (h:a≤m)(d:m.blt n=true):a<n:=Nat.lt_of_le_of_lt h (Nat.le_of_ble_eq_true d)
theorem He (h:a<m)(d:m.ble n=true):a<n:=Nat.lt_of_lt_of_le h (Nat.le_of_ble_eq_true d)
theorem lG (h:a<m)(d:m.ble (n+1)=true):a≤n:=Nat.le_of_lt_succ (He h d)
theorem nA (h:a≤m)(d:(m+k).ble n=true):a+k≤n:=aI (Nat.add_le_add_right h k) d
theorem jA (h:a≤m)(d:(m+k+l).ble n=true):a+k+l≤n:=aI (Nat.add_le_add_right (Nat.add_le_add_right h k) l) d
theorem nB (h:a≤m)(d:(m+k+l+p).ble n=true):a+k+l+p≤n:=aI (Nat.add_le_add_right (Nat.add_le_add_right (Nat.add_le_add_right h k) l) p) d
theorem nC {q:Nat}(h:a≤m)(d:(m+k+l+p+q).ble n=true):a+k+l+p+q≤n:=aI (Nat.add_le_add_right (Nat.add_le_add_right (Nat.add_le_add_right (Nat.add_le_add_right h k) l) p) q) d
theorem bR (h:m≤a)(d:n.ble m=true):n≤a:=Nat.le_trans (Nat.le_of_ble_eq_true d) h
theorem ij (h:a≤m)(h':n≤b)(d:m.blt n=true):a<b:=Nat.lt_of_lt_of_le (di h d) h'
theorem Rp (h:a<m)(h':n≤b)(d:m.ble n=true):a<b:=Nat.lt_of_lt_of_le (He h d) h'
theorem Hf (h:m≤a)(d:Nat.ble 1 m=true):a=a - 1+1:=(Nat.sub_add_cancel (bR h d)).symm
theorem um (h:m≤a)(d:Nat.ble 2 m=true):a=a - 2+1+1:=(Nat.sub_add_cancel (bR h d)).symm
theorem Rq (h:m≤a)(d:Nat.ble 3 m=true):a=a - 3+1+1+1:=(Nat.sub_add_cancel (bR h d)).symm
theorem zS (h:m≤a)(d:Nat.ble 4 m=true):a=a - 4+1+1+1+1:=(Nat.sub_add_cancel (bR h d)).symm
theorem dA (d:k.blt l=true):a+k<a+l:=Nat.add_lt_add_left (Nat.le_of_ble_eq_true d) a
theorem Oy (d:k.ble l=true):a+k≤a+l:=Nat.add_le_add_left (Nat.le_of_ble_eq_true d) a
theorem l9 (e:a=b)(h:b≤m)(d:m.ble n=true):a≤n:=e▸aI h d
theorem Oz (e:b=a)(h:b≤m)(d:m.ble n=true):a≤n:=e▸aI h d
theorem Rr (e:b=a)(h:b≤m)(h':n≤c)(d:m.blt n=true):a<c:=e▸ij h h' d
theorem JY (h:a<b):(a:Int)<(b:Int):=Int.ofNat_lt.mpr h
theorem ZW (h:a≤b):(a:Int)≤(b:Int):=Int.ofNat_le.mpr h
theorem JZ (h:a=b):(a:Int)=(b:Int):=congrArg Int.ofNat h
theorem zT {P:Prop}(h:(a:Int)<0):P:=absurd h (Int.not_lt.mpr (Int.natCast_nonneg a))
theorem D8 (h:a≤m)(d:m.ble n=true):(a:Int)≤(OfNat.ofNat n:Int):=Int.ofNat_le.mpr (aI h d)
theorem Rt (h:a<m)(d:m.ble (n+1)=true):(a:Int)≤(OfNat.ofNat n:Int):=Int.ofNat_le.mpr (lG h d)
theorem yA:a+b - a=b:=by rw[Nat.add_sub_cancel_left]
theorem Hg (h:a - b=c+1):b<a:=Nat.lt_of_sub_pos (h▸Nat.succ_pos c)
theorem MS (h:a<n)(h':n≤b):¬b=a:=λe=>Nat.not_le_of_lt h (e▸h')
theorem Ru (h:a<n)(h':n≤b):¬a=b:=λe=>MS h h' e.symm
theorem Rv (h:a≤m)(h':b≤n)(d:(m+n).ble k=true):a+b≤k:=aI (Nat.add_le_add h h') d
theorem WN (h:a≤m)(h':b≤n)(dH:c≤p)(d:(m+n+p).ble k=true):a+b+c≤k:=aI (Nat.add_le_add (Nat.add_le_add h h') dH) d
theorem Rw {x y:Nat}(h:x≤y+1)(h':y≤a):x≤a+1:=Nat.le_trans h (Nat.succ_le_succ h')
theorem D9 (h:a+1<b+1):a<b:=Nat.lt_of_succ_lt_succ h
theorem WO {h1 h2 x:Nat}(h:x<h1)(h':h1+k<h2):x<h2:=Nat.lt_trans h (Nat.lt_of_le_of_lt (Nat.le_add_right _ _) h')
theorem ma (h:a+b≤m):a≤m:=Nat.le_trans (Nat.le_add_right a b) h
theorem Hh (h:a+b≤m)(d:m.ble n=true):a≤n:=aI (ma h) d
theorem uo (h:a+b≤m)(d:m.blt n=true):a<n:=di (ma h) d
theorem Hi (h:a+b≤m)(d:(m+k).blt n=true):a+k<n:=Nat.lt_of_le_of_lt (Nat.add_le_add_right (ma h) k) (Nat.le_of_ble_eq_true d)
theorem yB (h:a+k<n)(d:l.ble k=true):a+l<n:=Nat.lt_of_le_of_lt (Oy d) h
theorem Rx (h:a+k<n)(d:(l+p).ble k=true):a+l+p<n:=Nat.add_assoc a l p▸yB h d
theorem WQ (h:a+k<n):a<n:=Nat.lt_of_le_of_lt (Nat.le_add_right a k) h
theorem OA {q r:Nat}(h:a≤m)(d:(m+k+l+p+q+r).ble n=true):a+k+l+p+q+r≤n:=nA (nC (n:=m+k+l+p+q) h (Nat.ble_eq_true_of_le (Nat.le_refl _))) d
theorem Ry {j x:Nat}(h:j<x)(h':x≤m)(d:m.ble n=true):j≤n:=Nat.le_trans (Nat.le_of_lt h) (aI h' d)
theorem Rz {r q:Nat}(h:r≤q)(h':q≤m)(d:m.ble n=true):r≤n:=Nat.le_trans h (aI h' d)
theorem OB {r q N:Nat}(h:r≤q)(h':q≤m)(dH:n≤N)(d:m.blt n=true):r<N:=Nat.lt_of_le_of_lt h (ij h' dH d)
theorem OC (h:a≤n)(h':b≤m)(dH:n+m≤k):a+b≤k:=Nat.le_trans (Nat.add_le_add h h') dH
theorem J0 {x:Nat}(h:x≤m)(d:m.ble n=true):0+x≤n:=(Nat.zero_add x).symm▸aI h d
theorem WR {x y:Nat}(e:x=y)(h:x≤m)(d:m.ble n=true):0+y≤n:=J0 (e▸h) d
theorem WS {x:Nat}(h:x<m)(d:m.ble (n+1)=true):0+x≤n:=J0 (Nat.le_refl x) (Nat.ble_eq_true_of_le (lG h d))
theorem ml1 {j:Nat}(h:j≤m)(d:(k+l*m).ble n=true):k+l*j≤n:=aI (Nat.add_le_add_left (Nat.mul_le_mul_left l h) k) d
theorem Ys {j:Nat}(h:j≤m)(d:(k+l*m+p).ble n=true):k+l*j+p≤n:=nA (Nat.add_le_add_left (Nat.mul_le_mul_left l h) k) d
theorem Ea {P:Prop}(h:P∧(a:Int)<(b:Int)):a<b:=Int.ofNat_lt.mp h.2
theorem MT {P:Prop}(h:P∧(a:Int)<(b:Int))(h':b≤m)(d:m.ble n=true):a≤n:=Ry (Ea h) h' d
theorem Eb {P:Prop}(h:0<a)(e:(a:Int)=0):P:=absurd (Int.ofNat.inj e) (Nat.ne_of_gt h)
theorem RA {P:Prop}(e:(a:Int)+1=0):P:=absurd (Int.ofNat.inj e) (Nat.succ_ne_zero a)
theorem ZX:a+k+c≤a+(c+k):=Nat.le_of_eq (by rw[Nat.add_assoc,Nat.add_comm k c])
theorem MU (h:a+(b+k)≤m):a+k+b≤m:=(by rw[Nat.add_assoc,Nat.add_comm k b];exact h)
theorem MV {a' b':Nat}(h:a+b≤m)(e:a'=a)(f:b'=b):a'+b'≤m:=e▸f▸h
theorem RB {a' b':Nat}(h:a+b≤m)(e:a'=a)(f:b'=b):a'+b'≤m+k:=Nat.le_trans (MV h e f) (Nat.le_add_right m k)
theorem RC {a':Nat}(h:a+b≤m)(e:a'=a):a'≤m:=e▸ma h
theorem RE {x:Nat}{P:Prop}(h:a≤m)(h':m<x∧P):a≤x:=Nat.le_of_lt (Nat.lt_of_le_of_lt h h'.1)
theorem MW {x y:Nat}(h:p≤x)(h':y≤x - p):p+y≤x:=Nat.add_comm p y▸Nat.add_le_of_le_sub h h'
theorem WT {x y N:Nat}(h:x<N)(h':y≤x - p):y<N:=Nat.lt_of_le_of_lt (Nat.le_trans h' (Nat.sub_le x p)) h
theorem ZY (h:¬a≤b):b - a=0:=Nat.sub_eq_zero_of_le (Nat.le_of_not_le h)
theorem ZZ (h:a≤b):min a b=a:=Nat.min_eq_left h
theorem Z0 (h:a≤n)(h':b≤n):max a b≤n:=Nat.max_le.mpr ⟨h,h'⟩
theorem Z1 (h:a≤n):a+k≤n+k:=Nat.add_le_add_right h k
theorem Z2 {d:Nat}:a+k+b+l=a+(b+(k+l)):=by rw[Nat.add_right_comm a k b,Nat.add_assoc,Nat.add_assoc]
theorem WU {P:Prop}(h:a<b)(e:a=b):P:=absurd e (Nat.ne_of_lt h)
end
end
noncomputable abbrev sq (s:String) (n:Nat):Value:=.str (Str.ofString s) n
abbrev dk (P:Params)(s:String)(n:Nat)(v:Value):DictEntry:=⟨PyData.keyHash P (Str.ofString s),sq s n,v⟩
noncomputable abbrev pw:Program:=PySem.Challenge.pw_pq0375_01
def bg (i:Nat):Stmt:=(pw.main.body[i]?).getD (.Pass default)
def aK (i j:Nat):Stmt:=match bg i with
 |.ClassDef _ _ _ b _ _ _ _ _ _ _=>(b[j]?).getD (.Pass default)
 |s=>s
noncomputable def bf:Stmt->Arguments
 |.FunctionDef _ a _ _ _ _ _ _ _ _=>a
 |_=>default
noncomputable def dj:Stmt->List Stmt
 |.FunctionDef _ _ b _ _ _ _ _ _ _=>b
 |_=>[]
noncomputable def aw:Stmt->Scope
 |.FunctionDef _ _ _ _ _ _ s _ _ _=>s
 |_=>default
def qg (name qual:Str)(st:Stmt)(cl:List (Str×Addr))(pm code ct:Value):FuncData :=
 {name:=name,qualname:=qual,params:=bf st,body:=.stmts (dj st),scope:=aw st,globals:=3,closure:=cl,
  defaults:=.none,kwdefaults:=.none,doc:=.none,pyModule:=pm,annotations:=none,code:=code,closureTuple:=ct,builtins:=0}
abbrev co (a:Addr)(n:String)(s:Nat)(q:String)(s1 s2:Nat)(l b i1 i2 i3:Int)(r r1 r2 r3 r4:Addr)(x:Int)(y:Nat):Addr×Obj :=
 (a,⟨(.type "code"),none,(.fields #[sq n s,sq q s1,sq "/claim/cut.py" s2,.int l 0,.int b 0,.int i1 0,.int i2 0,.int i3 0,.ref r,.bool true,.int 181 0,.ref r1,.none,.ref r2,.ref r3,.ref r4,.int x 0,.int l 0,sq "/claim/cut.py" y]),#[]⟩)
abbrev fo (a:Addr)(n q:String)(st:Stmt)(cl:List (Str×Addr))(m:Value)(c:Addr)(t:Value):Addr×Obj :=
 (a,⟨(.type "function"),none,(.func (qg (Str.ofString n) (Str.ofString q) st cl m (.ref c) t)),#[]⟩)
def K (P:Params):Frag :=
 [
 (2,⟨.none,none,(.dict #[dk P "type.__subclasses__.Exception.0" 223 (.int 40 0),dk P "type.__subclasses__.Exception.n" 224 (.int 1 0)] 2),#[]⟩),
 (3,⟨(.type "dict"),none,(.dict #[dk P "__name__" 165 (sq "law_pq0375_01" 849),dk P "__doc__" 166 .none,dk P "__package__" 167 .none,dk P "__loader__" 168 (.builtin "__main__.__loader__#opaque"),dk P "__spec__" 169 .none,dk P "__annotations__" 170 (.ref 6),dk P "__builtins__" 171 (.ref 4),dk P "__file__" 173 (sq "/claim/cut.py" 172),dk P "__cached__" 174 .none,dk P "FdError" 226 (.ref 40),dk P "SpotFault" 261 (.ref 69),dk P "TextFault" 277 (.ref 81),dk P "GOALS" 283 (.ref 84),dk P "LINEAR" 287 (.ref 85),dk P "STRENGTHS" 290 (.ref 86),dk P "DIGITS" 292 (sq "0123456789" 291),dk P "LETTERS" 294 (sq "abcdefghijklmnopqrstuvwxyzABCDEFGHIJKLMNOPQRSTUVWXYZ_" 293),dk P "SIGNS" 296 (sq "()[]{},;:" 295),dk P "MOST_DIGITS" 298 (.int (1000) 297),dk P "FORMS" 392 (.ref 87),dk P "PAIRS" 425 (.ref 89),dk P "Flat" 488 (.ref 150),dk P "is_number" 495 (.ref 161),dk P "is_row_of_numbers" 501 (.ref 166),dk P "is_var" 509 (.ref 173),dk P "fits" 515 (.ref 178),dk P "machine_fault" 521 (.ref 183),dk P "told_fault" 527 (.ref 188),dk P "truths_of" 535 (.ref 195),dk P "is_truth" 541 (.ref 200),dk P "piece_fault" 550 (.ref 207),dk P "shown_fault" 562 (.ref 214),dk P "FlatScanner" 646 (.ref 273),dk P "DataReader" 744 (.ref 350),dk P "FlatReader" 848 (.ref 434),dk P "_law_dip" 860 (.ref 443),dk P "_law_put" 869 (.ref 450),dk P "_law_broken" 877 (.ref 457),dk P "_law_variable" 890 (.ref 464),dk P "_law_var" 897 (.ref 471),dk P "_law_constraint" 909 (.ref 478),dk P "_law_goal" 919 (.ref 485),dk P "_law_output" 932 (.ref 492),dk P "_law_unread" 942 (.ref 499),dk P "_law_is_right" 948 (.ref 504),dk P "law" 954 (.ref 509)] 46),#[]⟩),
 (18,⟨(.type "cell"),none,(.cell (some (.ref 40))),#[]⟩),
 co 29 "__init__" 201 "FdError.__init__" 202 203 4 2 0 0 3 24 25 26 27 28 207 208,
 fo 30 "__init__" "FdError.__init__" (aK 1 0) [((Str.ofString "__class__"),18)] (sq "fdsolve.errors" 187) 29 (.ref 23),
 (38,⟨(.type "tuple"),none,(.seq #[(sq "what" 217)] 0),#[]⟩),
 (39,⟨(.type "dict"),none,(.dict #[dk P "__module__" 196 (sq "fdsolve.errors" 187),dk P "__firstlineno__" 200 (.int (2) 199),dk P "__init__" 209 (.ref 30),dk P "told" 216 (.ref 37),dk P "__static_attributes__" 218 (.ref 38),dk P "__weakref__" 221 (.ref 41),dk P "__doc__" 222 .none] 4),#[]⟩),
 (40,⟨(.type "type"),none,(.cls {name:=(Str.ofString "FdError"),bases:=[(.type "Exception")],mro:=[(.ref 40),(.type "Exception"),(.type "BaseException"),(.type "object")],ns:=39,qualname:=(Str.ofString "FdError"),hasDict:=true,slotNames:=[],subclasses:=[(.ref 69)],abstract:=false,collection:=none,hasDel:=false}),#[(some (.ref 15)),none,(some (sq "FdError" 189)),(some (sq "FdError" 197)),(some (.builtin "Exception.__new__")),(some (.bool true))]⟩),
 (41,⟨(.type "getset_descriptor"),none,(.fields #[(sq "__weakref__" 220),(.ref 40),(.builtin "ExceptionGroup.__weakref__"),.none]),#[]⟩),
 (47,⟨(.type "cell"),none,(.cell (some (.ref 69))),#[]⟩),
 co 58 "__init__" 239 "SpotFault.__init__" 240 241 12 3 0 0 3 53 54 55 56 57 246 247,
 fo 59 "__init__" "SpotFault.__init__" (aK 2 0) [((Str.ofString "__class__"),47)] (sq "fdsolve.errors" 187) 58 (.ref 52),
 (68,⟨(.type "dict"),none,(.dict #[dk P "__module__" 234 (sq "fdsolve.errors" 187),dk P "__firstlineno__" 238 (.int (10) 237),dk P "__init__" 248 (.ref 59),dk P "told" 255 (.ref 66),dk P "__static_attributes__" 257 (.ref 67),dk P "__doc__" 259 .none] 3),#[]⟩),
 (69,⟨(.type "type"),none,(.cls {name:=(Str.ofString "SpotFault"),bases:=[(.ref 40)],mro:=[(.ref 69),(.ref 40),(.type "Exception"),(.type "BaseException"),(.type "object")],ns:=68,qualname:=(Str.ofString "SpotFault"),hasDict:=true,slotNames:=[],subclasses:=[(.ref 81)],abstract:=false,collection:=none,hasDel:=false}),#[(some (.ref 44)),none,(some (sq "SpotFault" 227)),(some (sq "SpotFault" 235)),(some (.builtin "Exception.__new__")),(some (.bool true))]⟩),
 (80,⟨(.type "dict"),none,(.dict #[dk P "__module__" 269 (sq "fdsolve.errors" 187),dk P "__firstlineno__" 273 (.int (18) 272),dk P "__static_attributes__" 274 (.ref 79),dk P "__doc__" 275 .none] 2),#[]⟩),
 (81,⟨(.type "type"),none,(.cls {name:=(Str.ofString "TextFault"),bases:=[(.ref 69)],mro:=[(.ref 81),(.ref 69),(.ref 40),(.type "Exception"),(.type "BaseException"),(.type "object")],ns:=80,qualname:=(Str.ofString "TextFault"),hasDict:=true,slotNames:=[],subclasses:=[],abstract:=false,collection:=none,hasDel:=false}),#[(some (.ref 72)),none,(some (sq "TextFault" 262)),(some (sq "TextFault" 270)),(some (.builtin "Exception.__new__")),(some (.bool true))]⟩),
 (84,⟨(.type "tuple"),none,(.seq #[(sq "satisfy" 280),(sq "minimize" 281),(sq "maximize" 282)] 0),#[]⟩),
 (85,⟨(.type "tuple"),none,(.seq #[(sq "linear_le" 284),(sq "linear_eq" 285),(sq "linear_ne" 286)] 0),#[]⟩),
 (86,⟨(.type "tuple"),none,(.seq #[(sq "bounds" 288),(sq "values" 289)] 0),#[]⟩),
 (87,⟨(.type "dict"),none,(.dict #[dk P "linear_le" 299 (sq "NXn" 300),dk P "linear_eq" 302 (sq "NXn" 303),dk P "linear_ne" 305 (sq "NXn" 306),dk P "times" 308 (sq "xxx" 309),dk P "div" 311 (sq "xxx" 312),dk P "mod" 314 (sq "xxx" 315),dk P "abs" 317 (sq "xx" 318),dk P "max" 320 (sq "Xx" 321),dk P "min" 323 (sq "Xx" 324),dk P "element" 326 (sq "xXx" 327),dk P "element_of" 329 (sq "xNx" 330),dk P "table" 332 (sq "XR" 333),dk P "all_different" 335 (sq "Xs" 336),dk P "count" 338 (sq "Xnx" 339),dk P "nvalue" 341 (sq "Xx" 342),dk P "cardinality" 344 (sq "XNNN" 345),dk P "cumulative" 347 (sq "XNNn" 348),dk P "disjunctive" 350 (sq "XN" 351),dk P "circuit" 352 (sq "X" 353),dk P "inverse" 354 (sq "XX" 355),dk P "regular" 356 (sq "XnnRnN" 357),dk P "lex_le" 358 (sq "XX" 359),dk P "lex_lt" 360 (sq "XX" 361),dk P "increasing" 362 (sq "X" 363),dk P "precede" 364 (sq "nnX" 365),dk P "clause" 366 (sq "XX" 367),dk P "and" 368 (sq "Xx" 369),dk P "or" 370 (sq "Xx" 371),dk P "xor" 372 (sq "xxx" 373),dk P "reif" 374 (sq "xt" 375),dk P "imp" 376 (sq "xt" 377)] 31),#[]⟩),
 (88,⟨(.type "dict"),none,(.dict #[dk P "disjunctive" 350 (sq "XN" 351),dk P "circuit" 352 (sq "X" 353),dk P "inverse" 354 (sq "XX" 355),dk P "regular" 356 (sq "XnnRnN" 357),dk P "lex_le" 358 (sq "XX" 359),dk P "lex_lt" 360 (sq "XX" 361),dk P "increasing" 362 (sq "X" 363),dk P "precede" 364 (sq "nnX" 365),dk P "clause" 366 (sq "XX" 367),dk P "and" 368 (sq "Xx" 369),dk P "or" 370 (sq "Xx" 371),dk P "xor" 372 (sq "xxx" 373),dk P "reif" 374 (sq "xt" 375),dk P "imp" 376 (sq "xt" 377)] 14),#[]⟩),
 (89,⟨(.type "dict"),none,(.dict #[dk P "linear_le" 393 (.ref 91),dk P "linear_eq" 396 (.ref 93),dk P "linear_ne" 399 (.ref 95),dk P "cardinality" 402 (.ref 98),dk P "cumulative" 407 (.ref 101),dk P "disjunctive" 412 (.ref 103),dk P "inverse" 415 (.ref 105)] 7),#[]⟩),
 (90,⟨(.type "tuple"),none,(.seq #[(.int (1) 394),(.int (2) 395)] 0),#[]⟩),
 (91,⟨(.type "tuple"),none,(.seq #[(.ref 90)] 0),#[]⟩),
 (92,⟨(.type "tuple"),none,(.seq #[(.int (1) 397),(.int (2) 398)] 0),#[]⟩),
 (93,⟨(.type "tuple"),none,(.seq #[(.ref 92)] 0),#[]⟩),
 (94,⟨(.type "tuple"),none,(.seq #[(.int (1) 400),(.int (2) 401)] 0),#[]⟩),
 (95,⟨(.type "tuple"),none,(.seq #[(.ref 94)] 0),#[]⟩),
 (96,⟨(.type "tuple"),none,(.seq #[(.int (2) 403),(.int (3) 404)] 0),#[]⟩),
 (97,⟨(.type "tuple"),none,(.seq #[(.int (2) 405),(.int (4) 406)] 0),#[]⟩),
 (98,⟨(.type "tuple"),none,(.seq #[(.ref 96),(.ref 97)] 0),#[]⟩),
 (99,⟨(.type "tuple"),none,(.seq #[(.int (1) 408),(.int (2) 409)] 0),#[]⟩),
 (100,⟨(.type "tuple"),none,(.seq #[(.int (1) 410),(.int (3) 411)] 0),#[]⟩),
 (101,⟨(.type "tuple"),none,(.seq #[(.ref 99),(.ref 100)] 0),#[]⟩),
 (102,⟨(.type "tuple"),none,(.seq #[(.int (1) 413),(.int (2) 414)] 0),#[]⟩),
 (103,⟨(.type "tuple"),none,(.seq #[(.ref 102)] 0),#[]⟩),
 (104,⟨(.type "tuple"),none,(.seq #[(.int (1) 416),(.int (2) 417)] 0),#[]⟩),
 (105,⟨(.type "tuple"),none,(.seq #[(.ref 104)] 0),#[]⟩),
 co 118 "__init__" 438 "Flat.__init__" 439 440 32 1 0 0 3 113 114 115 116 117 442 443,
 fo 119 "__init__" "Flat.__init__" (aK 14 0) [] (sq "fdsolve.flat" 278) 118 .none,
 co 125 "new_var" 445 "Flat.new_var" 446 447 38 3 0 0 3 120 121 122 123 124 451 452,
 fo 126 "new_var" "Flat.new_var" (aK 14 1) [] (sq "fdsolve.flat" 278) 125 .none,
 co 132 "post" 454 "Flat.post" 455 456 42 2 0 0 3 127 128 129 130 131 459 460,
 fo 133 "post" "Flat.post" (aK 14 2) [] (sq "fdsolve.flat" 278) 132 .none,
 co 139 "size" 462 "Flat.size" 463 464 45 1 0 0 3 134 135 136 137 138 466 467,
 fo 140 "size" "Flat.size" (aK 14 3) [] (sq "fdsolve.flat" 278) 139 .none,
 co 146 "domain_of" 469 "Flat.domain_of" 470 471 48 2 0 0 3 141 142 143 144 145 474 475,
 fo 147 "domain_of" "Flat.domain_of" (aK 14 4) [] (sq "fdsolve.flat" 278) 146 .none,
 (149,⟨(.type "dict"),none,(.dict #[dk P "__module__" 433 (sq "fdsolve.flat" 278),dk P "__firstlineno__" 437 (.int (30) 436),dk P "__init__" 444 (.ref 119),dk P "new_var" 453 (.ref 126),dk P "post" 461 (.ref 133),dk P "size" 468 (.ref 140),dk P "domain_of" 476 (.ref 147),dk P "__static_attributes__" 481 (.ref 148),dk P "__dict__" 483 (.ref 151),dk P "__weakref__" 485 (.ref 152),dk P "__doc__" 486 .none] 4),#[]⟩),
 (150,⟨(.type "type"),none,(.cls {name:=(Str.ofString "Flat"),bases:=[(.type "object")],mro:=[(.ref 150),(.type "object")],ns:=149,qualname:=(Str.ofString "Flat"),hasDict:=true,slotNames:=[],subclasses:=[],abstract:=false,collection:=none,hasDel:=false}),#[none,none,(some (sq "Flat" 426)),(some (sq "Flat" 434)),(some (.builtin "object.__new__")),(some (.bool true))]⟩),
 (151,⟨(.type "getset_descriptor"),none,(.fields #[(sq "__dict__" 482),(.ref 150),(.builtin "function.__dict__"),(.builtin "function.__dict__#set")]),#[]⟩),
 (152,⟨(.type "getset_descriptor"),none,(.fields #[(sq "__weakref__" 484),(.ref 150),(.builtin "ExceptionGroup.__weakref__"),.none]),#[]⟩),
 co 160 "is_number" 489 "is_number" 490 491 50 1 0 0 3 155 156 157 158 159 493 494,
 fo 161 "is_number" "is_number" (bg 15) [] (sq "fdsolve.flat" 278) 160 .none,
 (165,⟨(.type "code"),none,(.fields #[(sq "is_row_of_numbers" 496),(sq "is_row_of_numbers" 497),(sq "/claim/cut.py" 498),(.int 52 0),(.int 1 0),(.int 0 0),(.int 0 0),(.int 3 0),(.ref 162),(.bool true),(.int 181 0),(.ref 163),.none,.none,.none,(.ref 164),(.int 499 0),(.int 52 0),(sq "/claim/cut.py" 500)]),#[]⟩),
 fo 166 "is_row_of_numbers" "is_row_of_numbers" (bg 16) [] (sq "fdsolve.flat" 278) 165 .none,
 co 172 "is_var" 502 "is_var" 503 504 54 2 0 0 3 167 168 169 170 171 507 508,
 fo 173 "is_var" "is_var" (bg 17) [] (sq "fdsolve.flat" 278) 172 .none,
 (177,⟨(.type "code"),none,(.fields #[(sq "fits" 510),(sq "fits" 511),(sq "/claim/cut.py" 512),(.int 56 0),(.int 3 0),(.int 0 0),(.int 0 0),(.int 3 0),(.ref 174),(.bool true),(.int 181 0),(.ref 175),.none,.none,.none,(.ref 176),(.int 513 0),(.int 56 0),(sq "/claim/cut.py" 514)]),#[]⟩),
 fo 178 "fits" "fits" (bg 18) [] (sq "fdsolve.flat" 278) 177 .none,
 (187,⟨(.type "code"),none,(.fields #[(sq "told_fault" 522),(sq "told_fault" 523),(sq "/claim/cut.py" 524),(.int 79 0),(.int 2 0),(.int 0 0),(.int 0 0),(.int 3 0),(.ref 184),(.bool true),(.int 181 0),(.ref 185),.none,.none,.none,(.ref 186),(.int 525 0),(.int 79 0),(sq "/claim/cut.py" 526)]),#[]⟩),
 fo 188 "told_fault" "told_fault" (bg 20) [] (sq "fdsolve.flat" 278) 187 .none,
 co 194 "truths_of" 528 "truths_of" 529 530 100 1 0 0 3 189 190 191 192 193 533 534,
 fo 195 "truths_of" "truths_of" (bg 21) [] (sq "fdsolve.flat" 278) 194 .none,
 (199,⟨(.type "code"),none,(.fields #[(sq "is_truth" 536),(sq "is_truth" 537),(sq "/claim/cut.py" 538),(.int 109 0),(.int 1 0),(.int 0 0),(.int 0 0),(.int 3 0),(.ref 196),(.bool true),(.int 181 0),(.ref 197),.none,.none,.none,(.ref 198),(.int 539 0),(.int 109 0),(sq "/claim/cut.py" 540)]),#[]⟩),
 fo 200 "is_truth" "is_truth" (bg 22) [] (sq "fdsolve.flat" 278) 199 .none,
 co 206 "piece_fault" 542 "piece_fault" 543 544 111 3 0 0 3 201 202 203 204 205 548 549,
 fo 207 "piece_fault" "piece_fault" (bg 23) [] (sq "fdsolve.flat" 278) 206 .none,
 co 213 "shown_fault" 551 "shown_fault" 552 553 125 2 0 0 3 208 209 210 211 212 560 561,
 fo 214 "shown_fault" "shown_fault" (bg 24) [] (sq "fdsolve.flat" 278) 213 .none,
 co 227 "__init__" 575 "FlatScanner.__init__" 576 577 138 2 0 0 3 222 223 224 225 226 580 581,
 fo 228 "__init__" "FlatScanner.__init__" (aK 25 0) [] (sq "fdsolve.flat" 278) 227 .none,
 co 234 "sign" 583 "FlatScanner.sign" 584 585 142 1 0 0 3 229 230 231 232 233 587 588,
 fo 235 "sign" "FlatScanner.sign" (aK 25 1) [] (sq "fdsolve.flat" 278) 234 .none,
 co 241 "skip" 590 "FlatScanner.skip" 591 592 145 1 0 0 3 236 237 238 239 240 595 596,
 fo 242 "skip" "FlatScanner.skip" (aK 25 2) [] (sq "fdsolve.flat" 278) 241 .none,
 co 248 "run_of" 598 "FlatScanner.run_of" 599 600 152 2 0 0 3 243 244 245 246 247 605 606,
 fo 249 "run_of" "FlatScanner.run_of" (aK 25 3) [] (sq "fdsolve.flat" 278) 248 .none,
 co 255 "quotation" 608 "FlatScanner.quotation" 609 610 159 1 0 0 3 250 251 252 253 254 615 616,
 fo 256 "quotation" "FlatScanner.quotation" (aK 25 4) [] (sq "fdsolve.flat" 278) 255 .none,
 co 262 "number" 618 "FlatScanner.number" 619 620 176 1 0 0 3 257 258 259 260 261 625 626,
 fo 263 "number" "FlatScanner.number" (aK 25 5) [] (sq "fdsolve.flat" 278) 262 .none,
 co 269 "token" 628 "FlatScanner.token" 629 630 185 1 0 0 3 264 265 266 267 268 634 635,
 fo 270 "token" "FlatScanner.token" (aK 25 6) [] (sq "fdsolve.flat" 278) 269 .none,
 (272,⟨(.type "dict"),none,(.dict #[dk P "__module__" 570 (sq "fdsolve.flat" 278),dk P "__firstlineno__" 574 (.int (136) 573),dk P "__init__" 582 (.ref 228),dk P "sign" 589 (.ref 235),dk P "skip" 597 (.ref 242),dk P "run_of" 607 (.ref 249),dk P "quotation" 617 (.ref 256),dk P "number" 627 (.ref 263),dk P "token" 636 (.ref 270),dk P "__static_attributes__" 639 (.ref 271),dk P "__dict__" 641 (.ref 274),dk P "__weakref__" 643 (.ref 275),dk P "__doc__" 644 .none] 4),#[]⟩),
 (273,⟨(.type "type"),none,(.cls {name:=(Str.ofString "FlatScanner"),bases:=[(.type "object")],mro:=[(.ref 273),(.type "object")],ns:=272,qualname:=(Str.ofString "FlatScanner"),hasDict:=true,slotNames:=[],subclasses:=[],abstract:=false,collection:=none,hasDel:=false}),#[none,none,(some (sq "FlatScanner" 563)),(some (sq "FlatScanner" 571)),(some (.builtin "object.__new__")),(some (.bool true))]⟩),
 (274,⟨(.type "getset_descriptor"),none,(.fields #[(sq "__dict__" 640),(.ref 273),(.builtin "function.__dict__"),(.builtin "function.__dict__#set")]),#[]⟩),
 (275,⟨(.type "getset_descriptor"),none,(.fields #[(sq "__weakref__" 642),(.ref 273),(.builtin "ExceptionGroup.__weakref__"),.none]),#[]⟩),
 co 290 "__init__" 659 "DataReader.__init__" 660 661 205 2 0 0 3 285 286 287 288 289 664 665,
 fo 291 "__init__" "DataReader.__init__" (aK 26 0) [] (sq "fdsolve.flat" 278) 290 .none,
 co 297 "take" 667 "DataReader.take" 668 669 209 1 0 0 3 292 293 294 295 296 672 673,
 fo 298 "take" "DataReader.take" (aK 26 1) [] (sq "fdsolve.flat" 278) 297 .none,
 co 304 "is_sign" 675 "DataReader.is_sign" 676 677 214 2 0 0 3 299 300 301 302 303 680 681,
 fo 305 "is_sign" "DataReader.is_sign" (aK 26 2) [] (sq "fdsolve.flat" 278) 304 .none,
 co 311 "want" 683 "DataReader.want" 684 685 217 2 0 0 3 306 307 308 309 310 688 689,
 fo 312 "want" "DataReader.want" (aK 26 3) [] (sq "fdsolve.flat" 278) 311 .none,
 co 318 "number" 691 "DataReader.number" 692 693 222 1 0 0 3 313 314 315 316 317 695 696,
 fo 319 "number" "DataReader.number" (aK 26 4) [] (sq "fdsolve.flat" 278) 318 .none,
 co 325 "word_value" 698 "DataReader.word_value" 699 700 227 2 0 0 3 320 321 322 323 324 703 704,
 fo 326 "word_value" "DataReader.word_value" (aK 26 5) [] (sq "fdsolve.flat" 278) 325 .none,
 co 332 "opened" 706 "DataReader.opened" 707 708 234 2 0 0 3 327 328 329 330 331 712 713,
 fo 333 "opened" "DataReader.opened" (aK 26 6) [] (sq "fdsolve.flat" 278) 332 .none,
 co 339 "closed" 715 "DataReader.closed" 716 717 247 2 0 0 3 334 335 336 337 338 722 723,
 fo 340 "closed" "DataReader.closed" (aK 26 7) [] (sq "fdsolve.flat" 278) 339 .none,
 co 346 "data" 725 "DataReader.data" 726 727 256 1 0 0 3 341 342 343 344 345 732 733,
 fo 347 "data" "DataReader.data" (aK 26 8) [] (sq "fdsolve.flat" 278) 346 .none,
 (349,⟨(.type "dict"),none,(.dict #[dk P "__module__" 654 (sq "fdsolve.flat" 278),dk P "__firstlineno__" 658 (.int (203) 657),dk P "__init__" 666 (.ref 291),dk P "take" 674 (.ref 298),dk P "is_sign" 682 (.ref 305),dk P "want" 690 (.ref 312),dk P "number" 697 (.ref 319),dk P "word_value" 705 (.ref 326),dk P "opened" 714 (.ref 333),dk P "closed" 724 (.ref 340),dk P "data" 734 (.ref 347),dk P "__static_attributes__" 737 (.ref 348),dk P "__dict__" 739 (.ref 351),dk P "__weakref__" 741 (.ref 352),dk P "__doc__" 742 .none] 4),#[]⟩),
 (350,⟨(.type "type"),none,(.cls {name:=(Str.ofString "DataReader"),bases:=[(.type "object")],mro:=[(.ref 350),(.type "object")],ns:=349,qualname:=(Str.ofString "DataReader"),hasDict:=true,slotNames:=[],subclasses:=[(.ref 434)],abstract:=false,collection:=none,hasDel:=false}),#[none,none,(some (sq "DataReader" 647)),(some (sq "DataReader" 655)),(some (.builtin "object.__new__")),(some (.bool true))]⟩),
 (351,⟨(.type "getset_descriptor"),none,(.fields #[(sq "__dict__" 738),(.ref 350),(.builtin "function.__dict__"),(.builtin "function.__dict__#set")]),#[]⟩),
 (352,⟨(.type "getset_descriptor"),none,(.fields #[(sq "__weakref__" 740),(.ref 350),(.builtin "ExceptionGroup.__weakref__"),.none]),#[]⟩),
 (358,⟨(.type "cell"),none,(.cell (some (.ref 434))),#[]⟩),
 co 369 "__init__" 757 "FlatReader.__init__" 758 759 267 2 0 0 3 364 365 366 367 368 763 764,
 fo 370 "__init__" "FlatReader.__init__" (aK 27 0) [((Str.ofString "__class__"),358)] (sq "fdsolve.flat" 278) 369 (.ref 363),
 co 376 "stretch" 766 "FlatReader.stretch" 767 768 274 2 0 0 3 371 372 373 374 375 774 775,
 fo 377 "stretch" "FlatReader.stretch" (aK 27 1) [] (sq "fdsolve.flat" 278) 376 .none,
 co 383 "domain" 777 "FlatReader.domain" 778 779 282 1 0 0 3 378 379 380 381 382 782 783,
 fo 384 "domain" "FlatReader.domain" (aK 27 2) [] (sq "fdsolve.flat" 278) 383 .none,
 co 390 "variable" 785 "FlatReader.variable" 786 787 294 1 0 0 3 385 386 387 388 389 790 791,
 fo 391 "variable" "FlatReader.variable" (aK 27 3) [] (sq "fdsolve.flat" 278) 390 .none,
 co 397 "constraint" 793 "FlatReader.constraint" 794 795 301 1 0 0 3 392 393 394 395 396 797 798,
 fo 398 "constraint" "FlatReader.constraint" (aK 27 4) [] (sq "fdsolve.flat" 278) 397 .none,
 co 404 "goal" 800 "FlatReader.goal" 801 802 305 2 0 0 3 399 400 401 402 403 806 807,
 fo 405 "goal" "FlatReader.goal" (aK 27 5) [] (sq "fdsolve.flat" 278) 404 .none,
 co 411 "output" 809 "FlatReader.output" 810 811 314 2 0 0 3 406 407 408 409 410 814 815,
 fo 412 "output" "FlatReader.output" (aK 27 6) [] (sq "fdsolve.flat" 278) 411 .none,
 co 418 "item" 817 "FlatReader.item" 818 819 320 1 0 0 3 413 414 415 416 417 822 823,
 fo 419 "item" "FlatReader.item" (aK 27 7) [] (sq "fdsolve.flat" 278) 418 .none,
 co 425 "look" 825 "FlatReader.look" 826 827 334 3 0 0 3 420 421 422 423 424 831 832,
 fo 426 "look" "FlatReader.look" (aK 27 8) [] (sq "fdsolve.flat" 278) 425 .none,
 (430,⟨(.type "code"),none,(.fields #[(sq "model" 834),(sq "FlatReader.model" 835),(sq "/claim/cut.py" 836),(.int 338 0),(.int 1 0),(.int 0 0),(.int 0 0),(.int 3 0),(.ref 427),(.bool true),(.int 181 0),(.ref 428),.none,.none,.none,(.ref 429),(.int 837 0),(.int 338 0),(sq "/claim/cut.py" 838)]),#[]⟩),
 fo 431 "model" "FlatReader.model" (aK 27 9) [] (sq "fdsolve.flat" 278) 430 .none,
 (433,⟨(.type "dict"),none,(.dict #[dk P "__module__" 752 (sq "fdsolve.flat" 278),dk P "__firstlineno__" 756 (.int (265) 755),dk P "__init__" 765 (.ref 370),dk P "stretch" 776 (.ref 377),dk P "domain" 784 (.ref 384),dk P "variable" 792 (.ref 391),dk P "constraint" 799 (.ref 398),dk P "goal" 808 (.ref 405),dk P "output" 816 (.ref 412),dk P "item" 824 (.ref 419),dk P "look" 833 (.ref 426),dk P "model" 839 (.ref 431),dk P "__static_attributes__" 844 (.ref 432),dk P "__doc__" 846 .none] 3),#[]⟩),
 (434,⟨(.type "type"),none,(.cls {name:=(Str.ofString "FlatReader"),bases:=[(.ref 350)],mro:=[(.ref 434),(.ref 350),(.type "object")],ns:=433,qualname:=(Str.ofString "FlatReader"),hasDict:=true,slotNames:=[],subclasses:=[],abstract:=false,collection:=none,hasDel:=false}),#[(some (.ref 355)),none,(some (sq "FlatReader" 745)),(some (sq "FlatReader" 753)),(some (.builtin "object.__new__")),(some (.bool true))]⟩),
 co 442 "_law_dip" 851 "_law_dip" 852 853 351 2 0 0 3 437 438 439 440 441 858 859,
 fo 443 "_law_dip" "_law_dip" (bg 29) [] (sq "law_pq0375_01" 849) 442 .none,
 co 449 "_law_put" 861 "_law_put" 862 863 357 2 0 0 3 444 445 446 447 448 867 868,
 fo 450 "_law_put" "_law_put" (bg 30) [] (sq "law_pq0375_01" 849) 449 .none,
 co 456 "_law_broken" 870 "_law_broken" 871 872 362 2 0 0 3 451 452 453 454 455 875 876,
 fo 457 "_law_broken" "_law_broken" (bg 31) [] (sq "law_pq0375_01" 849) 456 .none,
 co 463 "_law_variable" 878 "_law_variable" 879 880 365 1 0 0 3 458 459 460 461 462 888 889,
 fo 464 "_law_variable" "_law_variable" (bg 32) [] (sq "law_pq0375_01" 849) 463 .none,
 co 470 "_law_var" 891 "_law_var" 892 893 387 1 0 0 3 465 466 467 468 469 895 896,
 fo 471 "_law_var" "_law_var" (bg 33) [] (sq "law_pq0375_01" 849) 470 .none,
 co 477 "_law_constraint" 898 "_law_constraint" 899 900 389 1 0 0 3 472 473 474 475 476 907 908,
 fo 478 "_law_constraint" "_law_constraint" (bg 34) [] (sq "law_pq0375_01" 849) 477 .none,
 co 484 "_law_goal" 910 "_law_goal" 911 912 396 1 0 0 3 479 480 481 482 483 917 918,
 fo 485 "_law_goal" "_law_goal" (bg 35) [] (sq "law_pq0375_01" 849) 484 .none,
 co 491 "_law_output" 920 "_law_output" 921 922 406 1 0 0 3 486 487 488 489 490 930 931,
 fo 492 "_law_output" "_law_output" (bg 36) [] (sq "law_pq0375_01" 849) 491 .none,
 co 498 "_law_unread" 933 "_law_unread" 934 935 416 1 0 0 3 493 494 495 496 497 940 941,
 fo 499 "_law_unread" "_law_unread" (bg 37) [] (sq "law_pq0375_01" 849) 498 .none,
 (503,⟨(.type "code"),none,(.fields #[(sq "_law_is_right" 943),(sq "_law_is_right" 944),(sq "/claim/cut.py" 945),(.int 423 0),(.int 2 0),(.int 0 0),(.int 0 0),(.int 3 0),(.ref 500),(.bool true),(.int 181 0),(.ref 501),.none,.none,.none,(.ref 502),(.int 946 0),(.int 423 0),(sq "/claim/cut.py" 947)]),#[]⟩),
 fo 504 "_law_is_right" "_law_is_right" (bg 38) [] (sq "law_pq0375_01" 849) 503 .none,
 (508,⟨(.type "code"),none,(.fields #[(sq "law" 949),(sq "law" 950),(sq "/claim/cut.py" 951),(.int 435 0),(.int 1 0),(.int 0 0),(.int 0 0),(.int 3 0),(.ref 505),(.bool true),(.int 181 0),(.ref 506),.none,.none,.none,(.ref 507),(.int 952 0),(.int 435 0),(sq "/claim/cut.py" 953)]),#[]⟩),
 fo 509 "law" "law" (bg 39) [] (sq "law_pq0375_01" 849) 508 .none]
section
def Q0:Program:={pw with main:={pw.main with body:=pw.main.body.drop 39}}
def nD:List Str:=pw.boundNames.filter λn=>!(n==("law":Str))
noncomputable def Yt:List Addr:=[2,3,18,29,30,38,39,40,41,47,58,59,68,69,80,81,84,85,86,87,88,89,90,91,92,93,94,95,96,97,98,99,100,101,102,103,104,105,118,119,125,126,132,133,139,140,146,147,149,150,151,152,160,161,165,166,172,173,177,178,187,188,194,195,199,200,206,207,213,214,227,228,234,235,241,242,248,249,255,256,262,263,269,270,272,273,274,275,290,291,297,298,304,305,311,312,318,319,325,326,332,333,339,340,346,347,349,350,351,352,358,369,370,376,377,383,384,390,391,397,398,404,405,411,412,418,419,425,426,430,431,433,434,442,443,449,450,456,457,463,464,470,471,477,478,484,485,491,492,498,499,503,504,508,509]
theorem RF:∀P,Yt=(K P).map (·.1):=λP=>by kernel_rfl
abbrev HK:Hook:=kHook K Yt RF
noncomputable abbrev row:String:="special-get-raises"
theorem WV:∀w:World,(fencedOpening treeTable pw w 4200).map (λs=>(s.heap,s.gens,s.drawn,s.toks))=some (boot_heap w.params,Array.mk [],boot_drawn,boot_toks) :=
 boot_open (by kernel_rfl) (by decide) (λs=>by kernel_rfl)
noncomputable abbrev RG (s:Shared):Bool:=recOk (PySem.Challenge.rw_pq0375_01.row.toRowW.records) s
noncomputable def J1 {β:Type} (n:Nat) (k:Nat->β):β:=Nat.rec (k 0) (λm _=>k m.succ) n
theorem Cz {β:Type}(n:Nat)(k:Nat->β):J1 n k=k n:=by cases n<;>rfl
section
variable {w:World}{z:Nat}{a:Option Value}{β:Type}
def RH (w:World)(z:Nat)(a:Option Value)(n:Nat):SharedT->Thread->Option SharedT:=Nat.rec (λ_ _=>none) (λ_ ih s t=>bif through t then some s else bif Fast.tw6613529449190102663 z a t then(Fast.tw10156331382660048174 (Fast.tw11892475500146522536 Fast.tw14364793385576792824) pw w s t).bind λx=>J1 x.1.n λm=>J1 x.1.toks λk=>ih {x.1 with n:=m,toks:=k} x.2 else none) n
theorem RI (n:Nat):∀{s r t},RH w z a n s t=some r->topRun treeTable pw w z a n s.abs t=some r.abs:=by
 unfold RH;rw[<- Fast.te6613529449190102663,<- Fast.te10156331382660048174,<- Fast.te11892475500146522536,<- Fast.te14364793385576792824]
 induction n with
 |zero=>exact λh=>by cases h
 |succ n ih =>
  intro s r t h;unfold topRun;dsimp only at h;cases ht:through t with
  |true=>rw[ht]at h;cases h;rfl
  |false =>
   rw[ht]at h;cases hk:stepOk z a t with
   |false=>rw[hk]at h;cases h
   |true =>
    rw[hk]at h;obtain⟨x,hs,h⟩:=Option.bind_eq_some_iff.mp h;rw[stepT_spec hs];rw[Cz,Cz]at h;exact ih h
noncomputable def gT (r:SharedT) (a:Addr):Option Obj:=bif Nat.blt a r.n then(r.tree.get a).elim (r.abs.heap.get? a) alive else none
theorem WW (r:SharedT):r.abs.heap.get?=gT r:=by
 funext a
 unfold gT SharedT.abs;cases h:Nat.blt a r.n with
 |true =>
  cases g:r.tree.get a with
  |some o=>exact abs_get (Nat.blt_eq.mp h) g
  |none=>rfl
 |false=>exact abs_get_none λq=>by rw[Nat.blt_eq.mpr q]at h;cases h
def J2 (h:Heap)(s:Shared):Bool:=staticsOk (importedModules pw.main.body) h s.heap&&namesBound pw s.heap&&gensDone s&&laidKept h s.heap
theorem RJ {N:Nat}{s:SharedT}{A:Shared->β}{l:List Addr}{y:β×List (Option Obj)}(h0:(s.abs.heap.isNs mainGlobals&&s.abs.gens.size==0)=true)
  (h:((RH w s.abs.heap.objs.size (s.abs.heap.nsMap mainGlobals "__annotations__") N s (topStub pw)).bind λr=>bif J2 s.abs.heap r.abs then some (A r.abs,l.map (gT r))else none)=some y) :
  (topFrom treeTable pw w N s.abs).map (λs=>(A s,l.map s.heap.get?))=some y:=by
 obtain⟨r,e,h⟩:=Option.bind_eq_some_iff.mp h;unfold topFrom;rw[h0];dsimp only;rw[RI N e,<- h,<- WW];show Option.map _ (bif J2 s.abs.heap r.abs then some r.abs else none)=_;cases J2 s.abs.heap r.abs<;>rfl
end
noncomputable def bT (P:Params) (os:OsState):SharedT:=(boot_heap P).objs.toList.foldl (λs o=>{s with tree:=s.tree.ins s.n o,n:=s.n+1}) ⟨.nil,0,(boot_heap P).life,Array.mk [],boot_drawn,boot_toks,os⟩
theorem MX (P:Params)(os:OsState):⟨boot_heap P,Array.mk [],boot_drawn,boot_toks,os⟩=(bT P os).abs:=by kernel_rfl
abbrev Rn (b:Bool):Prop:=∀(w:World) (os:OsState),(topFrom treeTable pw (w.withFollow row b) 4200 ⟨boot_heap w.params,Array.mk [],boot_drawn,boot_toks,os⟩).map
   (λs=>(openSeen Q0 nD (importedModules pw.main.body) RG true s,HK.obs s))=some (openGood Q0 nD,HK.val (w.withFollow row b))
theorem WX:Rn false:=λw os=>by
 rw[MX,Fast.te4187177175401517315];exact RJ (by kernel_rfl) (by kernel_rfl)
theorem WY:Rn true:=λw os=>by
 rw[MX,Fast.te4187177175401517315];exact RJ (by kernel_rfl) (by kernel_rfl)
theorem WZ:LeftO pw Q0 nD RG HK.obs HK.val 4200:=by
 refine LeftO.of_split row λw=>?_;obtain⟨⟨h,gs,d,k,os⟩,e,e'⟩:=Option.map_eq_some_iff.mp (WV w);obtain⟨rfl,rfl,rfl,rfl⟩:h=boot_heap w.params∧gs=Array.mk []∧d=boot_drawn∧k=boot_toks:=by simpa using e'
 rw[e];exact congrArg some (Prod.ext (WX w os) (WY w os))
def MY:DefRec×List (Str×Expr):=(defOf Q0 "law").getD ⟨⟨"",default,[],default,default⟩,[]⟩
theorem W0:R.filterR (Fast.tw13343964577679436407 pw pw.main.body) [{cps:={toList:=[118,97,114,115]}},{cps:={toList:=[100,105,114]}},{cps:={toList:=[108,111,99,97,108,115]}}]=[]:=by kernel_rfl
theorem RK:Fast.tw12908688711261696721 pw=true:=by
 unfold Fast.tw12908688711261696721;rw[W0];kernel_rfl
theorem W2:OpenLaw.wellSaid PySem.Challenge.rw_pq0375_01=true:=by
 rw[Fast.te9446332074065402090];unfold Fast.tw9446332074065402090 Fast.tw17960256430627541270 Fast.tw2436336058641802641;rw[show Fast.tw12908688711261696721 (Fast.tw2368527892694137696 PySem.Challenge.rw_pq0375_01).prog=true from RK];kernel_rfl
theorem yx (call:WalkO Q0 nD (λ_ _=>True) HK.says PySem.Challenge.rw_pq0375_01.row.toRowW MY.1 MY.2 λf vs=>PySem.call f vs):PySem.Challenge.rw_pq0375_01.Holds:=by
 refine holds_law W2 λZ3=>?_
 refine holds_open (q:=Q0) (loose:=nD) (Xt:=RG) (XP:=λ_ _=>True) (Yf:=HK.obs) (Ya:=HK.val) (YP:=HK.says) (N:=4200) WZ HK.of HK.keeps (λ_ _=>trivial) (λ_ _ _ _ _=>trivial)
  (by kernel_rfl) (by kernel_rfl) (by kernel_rfl) (λs e=>recFacts_of e) (by kernel_rfl) Z3 (by kernel_rfl) ⟨rfl,rfl,rfl,rfl,rfl,by decide +kernel⟩ ?_ call
 w_witness2
end
inductive V where
 |none
 |bool (b:Bool)
 |int (i:Int)
 |str (l:List Nat)
 |tup (vs:List V)
 |ref (i:Nat)
 |fix (v:Value)
inductive Key where
 |vars|bZ|goal|shown|text|bG|bM|ahead|flat|eN|cb|b9|cells|place|iA
 |ki|post|size|d8|sign|skip|jL|kU|number|token|take|cN|want|fq|opened|closed|data
 |iR|domain|jB|constraint|output|item|look|model
 |append|pop|extend|find|replace|join|get|init
noncomputable def Key.str:Key->Str
 |vars=>"vars"|bZ=>"tolds"|goal=>"goal"|shown=>"shown"|text=>"text"|bG=>"spot"|bM=>"scanner"|ahead=>"ahead"|flat=>"flat"|eN=>"spots"
 |cb=>"goal_spot"|b9=>"shown_spot"|cells=>"cells"|place=>"place"|iA=>"broken"
 |ki=>"new_var"|post=>"post"|size=>"size"|d8=>"domain_of"|sign=>"sign"|skip=>"skip"|jL=>"run_of"|kU=>"quotation"|number=>"number"|token=>"token"
 |take=>"take"|cN=>"is_sign"|want=>"want"|fq=>"word_value"|opened=>"opened"|closed=>"closed"|data=>"data"
 |iR=>"stretch"|domain=>"domain"|jB=>"variable"|constraint=>"constraint"|output=>"output"|item=>"item"|look=>"look"|model=>"model"
 |append=>"append"|pop=>"pop"|extend=>"extend"|find=>"find"|replace=>"replace"|join=>"join"|get=>"get"|init=>"__init__"
noncomputable def Key.all:List Key:=[.vars,.bZ,.goal,.shown,.text,.bG,.bM,.ahead,.flat,.eN,.cb,.b9,.cells,.place,.iA,
 .ki,.post,.size,.d8,.sign,.skip,.jL,.kU,.number,.token,.take,.cN,.want,.fq,.opened,.closed,.data,
 .iR,.domain,.jB,.constraint,.output,.item,.look,.model,.append,.pop,.extend,.find,.replace,.join,.get,.init]
theorem Key.ix (k:Key):Key.all[k.ctorIdx]?=some k:=by cases k<;>rfl
noncomputable instance instDecidableEqKey:DecidableEq Key:=λa b=>if h:a.ctorIdx=b.ctorIdx then isTrue (oi ((Key.ix a).symm.trans (h▸Key.ix b)))else isFalse λe=>h (e▸rfl)
def Key.of (s:Str):Option Key:=Key.all.find? λk=>k.str==s
noncomputable def isClass (a:Addr):Bool:=a==150||a==273||a==434
inductive O where
 |list (xs:List V)
 |dict (es:List (Key×V))
 |inst (C:Addr) (d:Nat)
noncomputable abbrev HP:=List O
noncomputable abbrev Loc:=List (Option V)
inductive R (α:Type) where
 |ok (a:α) (hp:HP)
 |gI (k:Int)
 |bad
noncomputable def az {α β:Type} (r:R α) (f:α->HP->R β):R β :=
 match r with
 |.ok a hp=>f a hp
 |.gI k=>.gI k
 |.bad=>.bad
noncomputable def bQ {α:Type} (o:Option α) (hp:HP):R α:=match o with|some a=>.ok a hp|none=>.bad
noncomputable def S (l:List Nat):Str:=⟨l.toArray⟩
noncomputable def af (s:String):List Nat:=s.toList.map Char.toNat
noncomputable def eu:List (Key×V)->Key->Option V
 |[],_=>none
 |(k,v)::r,x=>if k=x then some v else eu r x
noncomputable def dput:List (Key×V)->Key->V->List (Key×V)
 |[],x,a=>[(x,a)]
 |(k,v)::r,x,a=>if k=x then(k,a)::r else(k,v)::dput r x a
noncomputable def oB {α β:Type} (o:Option α) (f:α->Option β):Option β:=match o with
 |some a=>f a
 |none=>none
noncomputable def O.lst:O->Option (List V)
 |.list l=>some l
 |_=>none
noncomputable def O.dic:O->Option (List (Key×V))
 |.dict l=>some l
 |_=>none
noncomputable def O.ins:O->Option (Addr×Nat)
 |.inst C d=>some (C,d)
 |_=>none
def eO (hp:HP)(i:Nat):Option (List V):=oB hp[i]? O.lst
def kK (hp:HP)(i:Nat):Option (List (Key×V)):=oB hp[i]? O.dic
def lH (hp:HP)(i:Nat):Option (Addr×Nat):=oB hp[i]? O.ins
noncomputable def j9 {α:Type}:List α->Option α
 |[]=>none
 |a::r=>match r with
  |[]=>some a
  |_::_=>none
def xm {α:Type}:List α->Option (α×α)
 |[]=>none
 |a::r=>oB (j9 r) λb=>some (a,b)
def RL {α:Type}:List α->Option (α×α×α)
 |[]=>none
 |a::r=>oB (xm r) λb=>some (a,b)
noncomputable def rB {α β:Type} (o:Option α) (f:α->R β):R β:=match o with
 |some a=>f a
 |none=>.bad
noncomputable def rI {β:Type} (b:Bool) (r:R β):R β:=match b with
 |true=>r
 |false=>.bad
noncomputable def vInt:V->Option Int
 |.int i=>some i
 |_=>none
noncomputable def vStr:V->Option (List Nat)
 |.str l=>some l
 |_=>none
noncomputable def wj:V->Option (List V)
 |.tup l=>some l
 |_=>none
noncomputable def lu:V->Option Nat
 |.ref l=>some l
 |_=>none
noncomputable def J3:V->Option Value
 |.fix l=>some l
 |_=>none
noncomputable def isRef (n:Nat):Value->Bool
 |.ref k=>k==n
 |_=>false
def tF (hp:HP)(v:V):Option (List V):=oB (lu v) (eO hp)
def J4 (v:V):Option Nat:=oB (vStr v) j9
mutual
def hO:V->Option PyData
 |.none=>some .none
 |.bool b=>some (.bool b)
 |.int i=>some (.int i)
 |.str l=>some (.str (S l))
 |.tup vs=>(fQ vs).map .tuple
 |.ref _=>none
 |.fix _=>none
def fQ:List V->Option (List PyData)
 |[]=>some []
 |v::vs=>match hO v,fQ vs with|some d,some ds=>some (d::ds)|_,_=>none
end
def mc (hp:HP)(v:V):Option PyData:=match v with
 |.ref i=>oB (eO hp i) λxs=>oB (fQ xs) λds=>some (.list ds)
 |_=>hO v
def md (hp:HP):List V->Option (List PyData)
 |[]=>some []
 |v::vs=>oB (mc hp v) λd=>oB (md hp vs) λds=>some (d::ds)
def wh (hp:HP)(v:V):Option PyData:=match v with
 |.tup vs=>oB (md hp vs) λds=>some (.tuple ds)
 |_=>mc hp v
noncomputable def kj:V->Option Bool
 |.none=>some false
 |.bool b=>some b
 |.int i=>some (i != 0)
 |_=>none
noncomputable def OD:Nat->Nat->List Nat
 |0,_=>[]
 |f+1,n=>if n<10 then[48+n]else OD f (n / 10)++[48+n % 10]
noncomputable def bS (i:Int):List Nat:=(toString i).toList.map Char.toNat
noncomputable def big:Nat:=2 ^ 62
def dz (i:Int):Bool:=i.natAbs<big
abbrev Ex:=Loc->HP->R V
abbrev Tx:=Loc->HP->R Bool
inductive Fl where
 |next
 |ret (v:V)
abbrev Sx:=Loc->HP->R (Fl×Loc)
abbrev Fn:=List V->HP->R V
abbrev Ca:=V->List V->HP->R V
noncomputable def xC (v:V):Ex:=λ_ hp=>.ok v hp
def J5 (o:Option (Option V))(hp:HP):R V:=rB o λu=>rB u λv=>.ok v hp
def aa (i:Nat):Ex:=λloc hp=>J5 loc[i]? hp
noncomputable def yC (v:V) (vs:List V) (hp:HP):R (List V):=.ok (v::vs) hp
noncomputable def J6 (vs:List V) (hp:HP):R V:=.ok (.tup vs) hp
noncomputable def oy (vs:List V) (hp:HP):R V:=.ok (.ref hp.length) (hp++[.list vs])
def xs (es:List Ex)(loc:Loc)(hp:HP):R (List V) :=
 match es with
 |[]=>.ok [] hp
 |e::r=>az (e loc hp) λv hp=>az (xs r loc hp) (yC v)
def ao (es:List Ex):Ex:=λloc hp=>az (xs es loc hp) J6
def cp (es:List Ex):Ex:=λloc hp=>az (xs es loc hp) oy
noncomputable def oz {α:Type} (z:α) (a b:V) (f:Int->Int->α):α:=match a with
 |.int i=>(match b with
  |.int j=>f i j
  |_=>z)
 |_=>z
noncomputable def fu (m n:Nat):Bool:=decide (m+n≤sizeLine)
def Z4 (a b:V)(hp:HP):R V:=match a with
 |.int i=>(match b with
  |.int j=>.ok (.int (i+j)) hp
  |_=>.bad)
 |.str x=>rB (vStr b) λy=>rI (fu x.length y.length) (.ok (.str (x++y)) hp)
 |.tup x=>rB (wj b) λy=>rI (fu x.length y.length) (.ok (.tup (x++y)) hp)
 |.ref i=>rB (eO hp i) λx=>rB (tF hp b) λy=>rI (fu x.length y.length) (.ok (.ref hp.length) (hp++[.list (x++y)]))
 |_=>.bad
def jy (op:Operator)(a b:V)(hp:HP):R V:=match op with
 |.Add=>Z4 a b hp
 |.Sub=>oz .bad a b λi j=>.ok (.int (i - j)) hp
 |.Mult=>oz .bad a b λi j=>rI (dz i&&dz j) (.ok (.int (i*j)) hp)
 |.Mod=>oz .bad a b λi j=>rI (decide (0<j)) (.ok (.int (i % j)) hp)
 |_=>.bad
def Ec (op:Operator)(u v:V)(hp:HP):R V:=jy op u v hp
def J7 (op:Operator)(b:Ex)(loc:Loc)(u:V)(hp:HP):R V:=az (b loc hp) (Ec op u)
def bw (op:Operator)(a b:Ex):Ex:=λloc hp=>az (a loc hp) (J7 op b loc)
def J8 (u:V)(hp:HP):R V:=rB (vInt u) λi=>.ok (.int (-i)) hp
def gO (a:Ex):Ex:=λloc hp=>az (a loc hp) J8
inductive dT where
 |eq|ne|lt|le|gt|ge|sZ|gP|jM|gj
deriving DecidableEq
noncomputable def dT.of:CmpOp->dT
 |.Eq=>.eq|.NotEq=>.ne|.Lt=>.lt|.LtE=>.le|.Gt=>.gt|.GtE=>.ge|.Is=>.sZ|.IsNot=>.gP|.In=>.jM|.NotIn=>.gj
noncomputable def dT.op:dT->CmpOp
 |.eq=>.Eq|.ne=>.NotEq|.lt=>.Lt|.le=>.LtE|.gt=>.Gt|.ge=>.GtE|.sZ=>.Is|.gP=>.IsNot|.jM=>.In|.gj=>.NotIn
def tG (hp:HP)(a b:V):Option Bool:=oB (wh hp a) λx=>oB (wh hp b) λy=>match shaped x&&shaped y with
 |true=>some (PyData.eqv x y)
 |false=>none
noncomputable def kl:V->Option Bool
 |.none=>some true
 |.fix _=>none
 |_=>some false
noncomputable def Hj:List String:=["linear_le","linear_eq","linear_ne","times","div","mod","abs","max","min","element","element_of","table","all_different","count","nvalue","cardinality","cumulative","disjunctive","circuit","inverse","regular","lex_le","lex_lt","increasing","precede","clause","and","or","xor","reif","imp"]
noncomputable def Hk:List String:=["NXn","NXn","NXn","xxx","xxx","xxx","xx","Xx","Xx","xXx","xNx","XR","Xs","Xnx","Xx","XNNN","XNNn","XN","X","XX","XnnRnN","XX","XX","X","nnX","XX","Xx","Xx","xxx","xt","xt"]
def eX:List (List Nat×List Nat):=(Hj.map af).zip (Hk.map af)
noncomputable def pr (a b:Int):V:=.tup [.int a,.int b]
def pairs:List (List Nat×V):=[(af "linear_le",.tup [pr 1 2]),(af "linear_eq",.tup [pr 1 2]),(af "linear_ne",.tup [pr 1 2]),(af "cardinality",.tup [pr 2 3,pr 2 4]),(af "cumulative",.tup [pr 1 2,pr 1 3]),(af "disjunctive",.tup [pr 1 2]),(af "inverse",.tup [pr 1 2])]
noncomputable def Hl (ds:List PyData) (d:PyData):Option Bool:=match shaped (.tuple ds)&&shaped d with
 |true=>some (ds.any λy=>PyData.eqv y d)
 |false=>none
def qh (hp:HP)(a b:V):Option Bool:=match b with
 |.tup vs=>oB (fQ vs) λds=>oB (hO a) (Hl ds)
 |.str y=>oB (J4 a) λc=>some (y.contains c)
 |.fix w=>oB (vStr a) λx=>match isRef 87 w with
  |true=>some (eX.lookup x).isSome
  |false=>none
 |_=>none
def RM (a b:V):Option Bool:=match b with
 |.none=>kl a
 |_=>none
def dB (op:dT)(a b:V)(hp:HP):Option Bool:=match op with
 |.eq=>tG hp a b
 |.ne=>(tG hp a b).map (!·)
 |.lt=>oz none a b λi j=>some (decide (i<j))
 |.le=>oz none a b λi j=>some (decide (i≤j))
 |.gt=>oz none a b λi j=>some (decide (j<i))
 |.ge=>oz none a b λi j=>some (decide (j≤i))
 |.sZ=>RM a b
 |.gP=>(RM a b).map (!·)
 |.jM=>qh hp a b
 |.gj=>(qh hp a b).map (!·)
def cE (op:dT)(u v:V)(hp:HP):R Bool:=bQ (dB op u v hp) hp
noncomputable def cD (g:Tx) (loc:Loc) (b:Bool) (hp:HP):R Bool:=cond b (g loc hp) (.ok false hp)
def cC (op:dT)(u:V)(f:V->Tx)(loc:Loc)(v:V)(hp:HP):R Bool:=az (bQ (dB op u v hp) hp) (cD (f v) loc)
def RN (p:dT×Ex)(n:Bool)(f:V->Tx)(u:V):Tx:=λloc hp=>az (p.2 loc hp) (cond n (cE p.1 u) (cC p.1 u f loc))
def iz (u:V)(cs:List (dT×Ex)):Tx:=match cs with
 |[]=>λ_ _=>.bad
 |p::r=>RN p r.isEmpty (λv=>iz v r) u
def RO (cs:List (dT×Ex))(loc:Loc)(u:V)(hp:HP):R Bool:=iz u cs loc hp
def ai (e:Ex)(cs:List (dT×Ex)):Tx:=λloc hp=>az (e loc hp) (RO cs loc)
noncomputable def s9 (b:Bool) (hp:HP):R V:=.ok (.bool b) hp
def xB (t:Tx):Ex:=λloc hp=>az (t loc hp) s9
def kX (v:V)(hp:HP):R Bool:=bQ (kj v) hp
def tX (e:Ex):Tx:=λloc hp=>az (e loc hp) kX
noncomputable def rk (b:Bool) (e:Ex) (loc:Loc) (v:V) (c:Bool) (hp:HP):R V:=cond (c==b) (e loc hp) (.ok v hp)
def J9 (b:Bool)(e:Ex)(loc:Loc)(v:V)(hp:HP):R V:=az (bQ (kj v) hp) (rk b e loc v)
def Z5 (b:Bool)(e f:Ex):Ex:=λloc hp=>az (e loc hp) (J9 b f loc)
def gk (rm:Bool)(es:List Ex):Ex:=match es with
 |[]=>λ_ _=>.bad
 |e::r=>cond r.isEmpty e (Z5 rm e (gk rm r))
noncomputable def wk (b:Bool) (f:Tx) (loc:Loc) (c:Bool) (hp:HP):R Bool:=cond (c==b) (f loc hp) (.ok (!b) hp)
def tAl (b:Bool)(t f:Tx):Tx:=λloc hp=>az (t loc hp) (wk b f loc)
def aS (rm:Bool)(ts:List Tx):Tx:=match ts with
 |[]=>λ_ hp=>.ok rm hp
 |t::r=>tAl rm t (aS rm r)
noncomputable def Ed (b:Bool) (hp:HP):R Bool:=.ok (!b) hp
def cW (t:Tx):Tx:=λloc hp=>az (t loc hp) Ed
noncomputable def MZ (a b:Ex) (loc:Loc) (c:Bool) (hp:HP):R V:=cond c (a loc hp) (b loc hp)
def ik (t:Tx)(a b:Ex):Ex:=λloc hp=>az (t loc hp) (MZ a b loc)
noncomputable def Z6 (a b:Tx) (loc:Loc) (c:Bool) (hp:HP):R Bool:=cond c (a loc hp) (b loc hp)
def Yu (t a b:Tx):Tx:=λloc hp=>az (t loc hp) (Z6 a b loc)
def tD (i:Int)(n:Nat):Option Nat:=match dz i with
 |true=>PySem.seqIndex? i n
 |false=>none
noncomputable def okN (n:Nat):Bool:=decide (n≤sizeLine)
def rn (l:List V)(i:Int):Option V:=oB (tD i l.length) λk=>l[k]?
def bh (hp:HP)(o:V)(i:V):Option V:=match o with
 |.tup vs=>oB (vInt i) (rn vs)
 |.str l=>oB (vInt i) λk=>oB (tD k l.length) λk=>(l[k]?).map λc=>.str [c]
 |.ref a=>oB (eO hp a) λvs=>oB (vInt i) (rn vs)
 |.fix w=>oB (vStr i) λx=>match isRef 87 w with
  |true=>(eX.lookup x).map .str
  |false=>none
 |_=>none
def Ee (u v:V)(hp:HP):R V:=bQ (bh hp u v) hp
def Ka (i:Ex)(loc:Loc)(u:V)(hp:HP):R V:=az (i loc hp) (Ee u)
def aq (o i:Ex):Ex:=λloc hp=>az (o loc hp) (Ka i loc)
def zU (hp:HP)(u:V)(k:Key):R V:=rB (lu u) λa=>rB (kK hp a) λes=>bQ (eu es k) hp
def Ef (k:Key)(u:V)(hp:HP):R V:=zU hp u k
def bO (o:Ex)(k:Key):Ex:=λloc hp=>az (o loc hp) (Ef k)
noncomputable def ia:V->Option (Option Nat)
 |.none=>some none
 |.int i=>if 0≤i then some (some i.toNat)else none
 |_=>none
noncomputable def cut {α:Type} (l:List α) (lo hi:Option Nat):List α :=
 (l.take (hi.getD l.length)).drop (lo.getD 0)
def gZ (hp:HP)(u:V)(a b:Option Nat):R V:=match u with
 |.str l=>rI (okN l.length) (.ok (.str (cut l a b)) hp)
 |.tup l=>rI (okN l.length&&decide ((cut l a b).length<l.length)) (.ok (.tup (cut l a b)) hp)
 |.ref i=>rB (eO hp i) λl=>rI (okN l.length) (.ok (.ref hp.length) (hp++[.list (cut l a b)]))
 |_=>.bad
def Kc (u:V)(a b:Option (Option Nat))(hp:HP):R V:=rB a λa=>rB b λb=>gZ hp u a b
def Ke (u a b:V)(hp:HP):R V:=Kc u (ia a) (ia b) hp
def Kg (hi:Ex)(loc:Loc)(u a:V)(hp:HP):R V:=az (hi loc hp) (Ke u a)
def RP (lo hi:Ex)(loc:Loc)(u:V)(hp:HP):R V:=az (lo loc hp) (Kg hi loc u)
def cV (o lo hi:Ex):Ex:=λloc hp=>az (o loc hp) (RP lo hi loc)
noncomputable def attrOk (C:Addr) (k:Key):Bool:=match C with
 |150=>k==.vars||k==.bZ||k==.goal||k==.shown
 |273=>k==.text||k==.bG
 |434=>k==.bM||k==.ahead||k==.flat||k==.eN||k==.cb||k==.b9
 |_=>false
noncomputable def yD:Option V->Option V
 |some v=>(match v with
  |.fix _=>none
  |_=>some v)
 |none=>none
def eA (hp:HP)(o:V)(k:Key):Option V:=oB (lu o) λa=>oB (lH hp a) λq=>oB (kK hp q.2) λes=>match attrOk q.1 k with
 |true=>yD (eu es k)
 |false=>none
def Eg (k:Key)(u:V)(hp:HP):R V:=bQ (eA hp u k) hp
def aH (o:Ex)(k:Key):Ex:=λloc hp=>az (o loc hp) (Eg k)
noncomputable def M0 (ks:List Key) (vs:List V) (hp:HP):R V:=.ok (.ref hp.length) (hp++[.dict (ks.zip vs)])
def lI (es:List (Key×Ex)):Ex:=λloc hp=>az (xs (es.map (·.2)) loc hp) (M0 (es.map (·.1)))
noncomputable def OE:List (Key×Addr):=[(.take,298),(.cN,305),(.want,312),(.number,319),(.fq,326),(.opened,333),(.closed,340),(.data,347)]
def d7:Addr->List (Key×Addr)
 |150=>[(.init,119),(.ki,126),(.post,133),(.size,140),(.d8,147)]
 |273=>[(.init,228),(.sign,235),(.skip,242),(.jL,249),(.kU,256),(.number,263),(.token,270)]
 |434=>[(.init,370),(.iR,377),(.domain,384),(.jB,391),(.constraint,398),(.goal,405),(.output,412),(.item,419),(.look,426),(.model,431)]++OE
 |_=>[]
noncomputable def fg {β:Type}:List (Key×β)->Key->Option β
 |[],_=>none
 |(k,v)::r,x=>if k=x then some v else fg r x
noncomputable def bi (s:String):V:=.fix (.builtin s)
def yE (hp:HP)(k:Key)(q:Addr×Nat):Option V:=oB (kK hp q.2) λes=>match (eu es k).isNone with
 |true=>(fg (d7 q.1) k).map λf=>.fix (.ref f)
 |false=>none
def Eh (k:Key):Option V:=if k=.append then some (bi "list.append")else if k=.pop then some (bi "list.pop")else if k=.extend then some (bi "list.extend")else none
def W3 (hp:HP)(k:Key):O->Option V
 |.inst C d=>yE hp k (C,d)
 |.list _=>Eh k
 |_=>none
def dN (hp:HP)(o:V)(k:Key):Option V:=match o with
 |.ref a=>oB hp[a]? (W3 hp k)
 |.str _=>if k=.find then some (bi "str.find")else if k=.join then some (bi "str.join")else none
 |.fix w=>(match isRef 89 w&&decide (k=.get)with
  |true=>some (bi "dict.get")
  |false=>none)
 |_=>none
noncomputable def Kh (c:Ca) (f:V) (vs:List V) (hp:HP):R V:=c f vs hp
def RQ (c:Ca)(as:List Ex)(loc:Loc)(f:V)(hp:HP):R V:=az (xs as loc hp) (Kh c f)
def aD (c:Ca)(f:Ex)(as:List Ex):Ex:=λloc hp=>az (f loc hp) (RQ c as loc)
noncomputable def Ei (c:Ca) (u f:V) (vs:List V) (hp:HP):R V:=c f (u::vs) hp
def Ej (c:Ca)(as:List Ex)(loc:Loc)(u f:V)(hp:HP):R V:=az (xs as loc hp) (Ei c u f)
def RR (c:Ca)(k:Key)(as:List Ex)(loc:Loc)(u:V)(hp:HP):R V:=az (bQ (dN hp u k) hp) (Ej c as loc u)
def ax (c:Ca)(o:Ex)(k:Key)(as:List Ex):Ex:=λloc hp=>az (o loc hp) (RR c k as loc)
def me (hp:HP)(a:Nat):Bool:=match lH hp a with
 |some q=>q.1==434
 |none=>false
def Z7 (c:Ca)(as:List Ex)(loc:Loc)(hp:HP)(v:V):R V:=rB (lu v) λa=>rI (me hp a) (az (xs as loc hp) (Ei c (.ref a) (.fix (.ref 291))))
def ji (c:Ca)(as:List Ex):Ex:=λloc hp=>rB loc[0]? λo=>rB o (Z7 c as loc hp)
def ly:V->Option (List Nat)
 |.str l=>if l.length≤sizeLine then some l else none
 |.int i=>if dz i then some (bS i)else none
 |_=>none
noncomputable def Ek (l:List Nat) (hp:HP):R V:=.ok (.str l) hp
def Ki (v:V)(hp:HP):R V:=az (bQ (ly v) hp) Ek
def c7 (e:Ex):Ex:=λloc hp=>az (e loc hp) Ki
def mK (out:List Nat)(es:List Ex)(loc:Loc)(hp:HP):R V :=
 match es with
 |[]=>.ok (.str out) hp
 |e::r=>az (e loc hp) λv hp=>rB (vStr v) λl=>rI (fu out.length l.length) (mK (out++l) r loc hp)
def eP (es:List Ex):Ex:=λloc hp=>mK [] es loc hp
inductive Tg where
 |one (i:Nat)
 |many (is:List Nat)
noncomputable def dX:List Nat->List V->Loc->Option Loc
 |[],vs,loc=>(match vs with
  |[]=>some loc
  |_::_=>none)
 |i::is,vs,loc=>match vs with
  |v::vs=>dX is vs (loc.set i (some v))
  |[]=>none
def Tg.put (t:Tg)(v:V)(loc:Loc):Option Loc :=
 match t with
 |.one i=>some (loc.set i (some v))
 |.many is=>match v with
  |.tup vs=>dX is vs loc
  |_=>none
inductive It where
 |vals (l:List V)
 |lst (i k:Nat)
 |zip (i j k:Nat)
noncomputable def M1 (i j k:Nat) (v u:Option V):Option (Option (V×It)):=match v with
 |some v=>(match u with
  |some u=>some (some (.tup [v,u],.zip i j (k+1)))
  |none=>none)
 |none=>match u with
  |some _=>none
  |none=>some none
def It.next (it:It)(hp:HP):Option (Option (V×It)):=match it with
 |.vals l=>(match l with
  |[]=>some none
  |v::l=>some (some (v,.vals l)))
 |.lst i k=>oB (eO hp i) λl=>(match l[k]? with
  |some v=>some (some (v,.lst i (k+1)))
  |none=>some none)
 |.zip i j k=>oB (eO hp i) λl=>oB (eO hp j) λm=>M1 i j k l[k]? m[k]?
def El (hp:HP)(v:V):Option It:=match v with
 |.tup vs=>some (.vals vs)
 |.ref i=>oB (eO hp i) λ_=>some (.lst i 0)
 |_=>none
abbrev Ix:=Loc->HP->R It
def M3 (v:V)(hp:HP):R It:=bQ (El hp v) hp
def cx (e:Ex):Ix:=λloc hp=>az (e loc hp) M3
def M4 (v:V)(hp:HP):R It:=rB (vInt v) λn=>rI (decide (n≤1000)&&dz n) (.ok (.vals ((List.range n.toNat).map λ(k:Nat)=>V.int k)) hp)
def mf (e:Ex):Ix:=λloc hp=>az (e loc hp) M4
noncomputable def fb:Nat->List Nat->List V
 |_,[]=>[]
 |k,c::r=>.tup [.int k,.str [c]]::fb (k+1) r
def M5 (v:V)(hp:HP):R It:=rB (vStr v) λl=>.ok (.vals (fb 0 l)) hp
def ro (e:Ex):Ix:=λloc hp=>az (e loc hp) M5
def Z8 (hp:HP)(j k:Nat):R It:=rB (eO hp j) λ_=>rB (eO hp k) λ_=>.ok (.zip j k 0) hp
def Z9 (u v:V)(hp:HP):R It:=rB (lu u) λj=>rB (lu v) λk=>Z8 hp j k
def Em (u v:V)(hp:HP):R It:=Z9 u v hp
def RU (b:Ex)(loc:Loc)(u:V)(hp:HP):R It:=az (b loc hp) (Em u)
def wm (a b:Ex):Ix:=λloc hp=>az (a loc hp) (RU b loc)
def cS (tg:Tg)(ifs:Tx)(elt:Ex):Nat->It->List V->Loc->HP->R (List V)
 |0,_,_,_,_=>.bad
 |n+1,it,acc,loc,hp=>match it.next hp with
  |none=>.bad
  |some none=>.ok acc hp
  |some (some (v,it))=>match tg.put v loc with
   |none=>.bad
   |some loc=>az (ifs loc hp) λb hp=>if b then az (elt loc hp) λx hp=>(if acc.length≤1000 then cS tg ifs elt n it (acc++[x]) loc hp else .bad)else cS tg ifs elt n it acc loc hp
noncomputable def yF {α:Type}:R α->R α
 |.gI _=>.bad
 |r=>r
noncomputable def kM (mp:List (Option Nat)) (loc:Loc):Loc:=mp.map λo=>match o with|some k=>(loc[k]?).getD none|none=>none
def En (N:Nat)(mp:List (Option Nat))(tg:Tg)(ifs:Tx)(elt:Ex)(loc:Loc)(it:It)(hp:HP):R V:=az (yF (cS tg ifs elt N it [] (kM mp loc) hp)) oy
def cq (N:Nat)(i:Ix)(mp:List (Option Nat))(tg:Tg)(ifs:Tx)(elt:Ex):Ex:=λloc hp=>az (i loc hp) (En N mp tg ifs elt loc)
noncomputable def Kj (i:Nat) (loc:Loc) (v:V) (hp:HP):R (Fl×Loc):=.ok (.next,loc.set i (some v)) hp
def aR (i:Nat)(e:Ex):Sx:=λloc hp=>az (e loc hp) (Kj i loc)
def Kk (o:Option Loc)(hp:HP):R (Fl×Loc):=rB o λloc=>.ok (.next,loc) hp
def Eo (is:List Nat)(loc:Loc)(v:V)(hp:HP):R (Fl×Loc):=rB (wj v) λvs=>Kk (dX is vs loc) hp
def eI (is:List Nat)(e:Ex):Sx:=λloc hp=>az (e loc hp) (Eo is loc)
def Hm (loc:Loc)(o:Option HP):R (Fl×Loc):=rB o λhp=>.ok (.next,loc) hp
def dn (hp:HP)(o:V)(k:Key)(v:V):Option HP:=oB (lu o) λa=>oB (lH hp a) λq=>oB (kK hp q.2) λes=>cond (attrOk q.1 k&&decide (es.length≤100)) (some (hp.set q.2 (.dict (dput es k v)))) none
def Kl (k:Key)(loc:Loc)(v u:V)(hp:HP):R (Fl×Loc):=Hm loc (dn hp u k v)
def RV (o:Ex)(k:Key)(loc:Loc)(v:V)(hp:HP):R (Fl×Loc):=az (o loc hp) (Kl k loc v)
def cI (o:Ex)(k:Key)(e:Ex):Sx:=λloc hp=>az (e loc hp) (RV o k loc)
def sU (hp:HP)(o:V)(k:Key)(v:V):Option HP:=oB (lu o) λa=>oB (kK hp a) λes=>cond (decide (es.length≤sizeLine)) (some (hp.set a (.dict (dput es k v)))) none
def Km (k:Key)(loc:Loc)(v u:V)(hp:HP):R (Fl×Loc):=Hm loc (sU hp u k v)
def RW (o:Ex)(k:Key)(loc:Loc)(v:V)(hp:HP):R (Fl×Loc):=az (o loc hp) (Km k loc v)
def iS (o:Ex)(k:Key)(e:Ex):Sx:=λloc hp=>az (e loc hp) (RW o k loc)
noncomputable def kEx (loc:Loc) (_:V) (hp:HP):R (Fl×Loc):=.ok (.next,loc) hp
def bo (e:Ex):Sx:=λloc hp=>az (e loc hp) (kEx loc)
noncomputable def Kn (loc:Loc) (v:V) (hp:HP):R (Fl×Loc):=.ok (.ret v,loc) hp
def aW (e:Ex):Sx:=λloc hp=>az (e loc hp) (Kn loc)
def aF (ss:List Sx)(loc:Loc)(hp:HP):R (Fl×Loc) :=
 match ss with
 |[]=>.ok (.next,loc) hp
 |s::r=>az (s loc hp) λp hp=>match p.1 with
  |.next=>aF r p.2 hp
  |.ret _=>.ok p hp
def Ep (a b:List Sx)(loc:Loc)(c:Bool)(hp:HP):R (Fl×Loc):=cond c (aF a loc hp) (aF b loc hp)
def bc (t:Tx)(a b:List Sx):Sx:=λloc hp=>az (t loc hp) (Ep a b loc)
def dI (t:Tx)(b:Sx):Nat->Loc->HP->R (Fl×Loc)
 |0,_,_=>.bad
 |n+1,loc,hp=>az (t loc hp) λc hp=>if c then az (b loc hp) λp hp=>(match p.1 with|.next=>dI t b n p.2 hp|.ret _=>.ok p hp)else .ok (.next,loc) hp
def fC (N:Nat)(t:Tx)(b:List Sx):Sx:=λloc hp=>dI t (aF b) N loc hp
def cJ (tg:Tg)(b:Sx):Nat->It->Loc->HP->R (Fl×Loc)
 |0,_,_,_=>.bad
 |n+1,it,loc,hp=>match it.next hp with
  |none=>.bad
  |some none=>.ok (.next,loc) hp
  |some (some (v,it))=>match tg.put v loc with
   |none=>.bad
   |some loc=>az (b loc hp) λp hp=>match p.1 with|.next=>cJ tg b n it p.2 hp|.ret _=>.ok p hp
def G8 (N:Nat)(tg:Tg)(b:List Sx)(loc:Loc)(it:It)(hp:HP):R (Fl×Loc):=cJ tg (aF b) N it loc hp
def ib (N:Nat)(tg:Tg)(i:Ix)(b:List Sx):Sx:=λloc hp=>az (i loc hp) (G8 N tg b loc)
def Ko (v:V)(_:HP):R (Fl×Loc):=rB (vInt v) .gI
def RX (b:Ex)(loc:Loc)(_:V)(hp:HP):R (Fl×Loc):=az (b loc hp) Ko
def c8 (a b:Ex):Sx:=λloc hp=>az (a loc hp) (RX b loc)
noncomputable def tH:Ex:=λ_ _=>.bad
noncomputable def aaa:Tx:=λ_ _=>.bad
noncomputable def Kp:Sx:=λ_ _=>.bad
noncomputable def aab:Ix:=λ_ _=>.bad
noncomputable def findAt (c:Nat):List Nat->Nat->Option Nat
 |[],_=>none
 |x::r,k=>if x=c then some k else findAt c r (k+1)
def RY (hp:HP)(v:V):Option Nat:=match v with
 |.tup vs=>some vs.length
 |.str l=>some l.length
 |.ref i=>oB (eO hp i) λl=>some l.length
 |_=>none
noncomputable def vBool:V->Option Bool
 |.bool b=>some b
 |_=>none
def qi:List V->Option (List Bool)
 |[]=>some []
 |v::vs=>oB (vBool v) λb=>oB (qi vs) λr=>some (b::r)
def aac (vs:List V):Option Bool:=(qi vs).map (·.all id)
def Er:List V->Option (List Int)
 |[]=>some []
 |v::vs=>oB (vInt v) λi=>oB (Er vs) λl=>some (i::l)
def Kq (vs:List V):Option Int:=oB (Er vs) λl=>l[argBest (λi j=>decide (l.getD i 0<l.getD j 0)) (l.length - 1)]?
def uq:List V->Option (List Nat)
 |[]=>some []
 |v::vs=>oB (vStr v) λl=>oB (uq vs) λr=>some (l++r)
noncomputable def isType (T:String):V->Option Bool
 |.bool _=>some (T=="int"||T=="bool")
 |.int _=>some (T=="int")
 |.str _=>some (T=="str")
 |.tup _=>some (T=="tuple")
 |_=>none
noncomputable def Hn (T:String):Bool:=T=="int"||T=="bool"||T=="str"||T=="tuple"
def M6 (v:V):Option String:=oB (J3 v) λw=>match w with
 |.type T=>some T
 |_=>none
def ur (vs:List V)(hp:HP):R V:=rB (j9 vs) λv=>rB (RY hp v) λn=>rI (okN n) (.ok (.int n) hp)
def Es (vs:List V)(hp:HP):R V:=rB (xm vs) λp=>rB (M6 p.2) λT=>rI (Hn T) (bQ ((isType T p.1).map .bool) hp)
def Et (vs:List V)(hp:HP):R V:=rB (j9 vs) λv=>rB (tF hp v) λl=>bQ ((aac l).map .bool) hp
def Eu (vs:List V)(hp:HP):R V:=rB (j9 vs) λv=>rB (wj v) λl=>bQ ((Kq l).map .int) hp
def tI (vs:List V)(hp:HP):R V:=rB (xm vs) λp=>rB (lu p.1) λi=>rB (eO hp i) λl=>rI (okN l.length) (.ok .none (hp.set i (.list (l++[p.2]))))
def yG (vs:List V)(hp:HP):R V:=rB (j9 vs) λv=>rB (lu v) λi=>rB (eO hp i) λl=>rB l.getLast? λv=>rI (okN l.length) (.ok v (hp.set i (.list l.dropLast)))
def tJ (vs:List V)(hp:HP):R V:=rB (xm vs) λp=>rB (lu p.1) λi=>rB (eO hp i) λl=>rB (wj p.2) λws=>rI (fu l.length ws.length) (.ok .none (hp.set i (.list (l++ws))))
def uu (c:Nat)(l:List Nat)(i:Int):Int:=match findAt c (l.drop i.toNat) i.toNat with
 |some k=>(k:Int)
 |none=>-1
def zV (vs:List V)(hp:HP):R V:=rB (RL vs) λp=>rB (vStr p.1) λl=>rB (J4 p.2.1) λc=>rB (vInt p.2.2) λi=>rI (decide (0≤i)) (.ok (.int (uu c l i)) hp)
noncomputable def ic (c:Nat) (t:List Nat):List Nat->List Nat
 |[]=>[]
 |x::r=>if x=c then t++ic c t r else x::ic c t r
def Ho (c:Nat)(l:List Nat)(k:Int):Bool:=decide (l.length≤1000)&&(dz k&&(decide ((bS k).length≤20)&&!(bS k==[c])))
def Ew (c:Nat)(l:List Nat)(v:V)(hp:HP):R V:=rB (vInt v) λk=>rI (Ho c l k) (.ok (.str (ic c (bS k) l)) hp)
def Kr (c:Nat)(x:Ex)(loc:Loc)(u:V)(hp:HP):R V:=rB (vStr u) λl=>az (x loc hp) (Ew c l)
def jN (c:Nat)(o x:Ex):Ex:=λloc hp=>az (o loc hp) (Kr c x loc)
def zW (vs:List V)(hp:HP):R V:=rB (xm vs) λp=>rB (vStr p.1) λs=>rI s.isEmpty (rB (tF hp p.2) λl=>rB (uq l) λx=>rI (okN x.length) (.ok (.str x) hp))
def Ey (vs:List V)(hp:HP):R V:=rB (RL vs) λp=>rB (J3 p.1) λw=>rI (isRef 89 w) (rB (vStr p.2.1) λx=>.ok ((pairs.lookup x).getD p.2.2) hp)
def Ez (vs:List V)(hp:HP):R V:=rB (j9 vs) λv=>bQ ((ly v).map .str) hp
def EA (vs:List V)(hp:HP):R V:=rB (j9 vs) λv=>rB (vStr v) λl=>rI (decide (l.length≤640)) (bQ ((PySem.intText? (S l)).map .int) hp)
def wo (vs:List V)(hp:HP):R V:=rB (j9 vs) λv=>rB (tF hp v) λl=>rI (okN l.length) (.ok (.tup l) hp)
def zX (vs:List V)(hp:HP):R V:=rB (j9 vs) λv=>rB (tF hp v) λl=>rI (okN l.length) (.ok (.ref hp.length) (hp++[.list l]))
def builtins:List (String×Fn):=[("len",ur),("isinstance",Es),("all",Et),("min",Eu),("list.append",tI),("list.pop",yG),("list.extend",tJ),
 ("str.find",zV),("str.join",zW),("dict.get",Ey)]
def types:List (String×Fn):=[("str",Ez),("int",EA),("tuple",wo),("list",zX)]
def yH (l:List String):V:=.tup (l.map λs=>.str (af s))
noncomputable def dv (a:Addr):V:=.fix (.ref a)
def RZ:List (Str×V):=[("len",bi "len"),("isinstance",bi "isinstance"),("all",bi "all"),("min",bi "min"),("str",.fix (.type "str")),("int",.fix (.type "int")),("bool",.fix (.type "bool")),
 ("tuple",.fix (.type "tuple")),("list",.fix (.type "list")),("is_number",dv 161),("is_row_of_numbers",dv 166),("is_var",dv 173),("fits",dv 178),("told_fault",dv 188),("truths_of",dv 195)]
def R0:List (Str×V):=[("is_truth",dv 200),("piece_fault",dv 207),("shown_fault",dv 214),("Flat",dv 150),("FlatScanner",dv 273),("FlatReader",dv 434),("FORMS",dv 87),("PAIRS",dv 89),
 ("GOALS",yH ["satisfy","minimize","maximize"]),("LINEAR",yH ["linear_le","linear_eq","linear_ne"]),("STRENGTHS",yH ["bounds","values"]),
 ("DIGITS",.str (af "0123456789")),("LETTERS",.str (af "abcdefghijklmnopqrstuvwxyzABCDEFGHIJKLMNOPQRSTUVWXYZ_")),("SIGNS",.str (af "()[]{},;:")),("MOST_DIGITS",.int 1000)]
def R4:List (Str×V):=[("_law_dip",dv 443),("_law_put",dv 450),("_law_broken",dv 457),("_law_variable",dv 464),("_law_var",dv 471),("_law_constraint",dv 478),("_law_goal",dv 485),("_law_output",dv 492),
 ("_law_unread",dv 499),("_law_is_right",dv 504),("range",.fix (.type "range")),("enumerate",.fix (.type "enumerate")),("zip",.fix (.type "zip")),("TextFault",dv 81)]
def iT:List (Str×V):=RZ++(R0++R4)
noncomputable abbrev Sc:=List (Str×NameKind)
noncomputable def uv:NameKind->Bool
 |.local=>true
 |.cell=>true
 |.free=>true
 |_=>false
def bW (sc:Sc):List Str:=(sc.filter λp=>uv p.2).map (·.1)
noncomputable def yI (x:Str):List Str->Option Nat
 |[]=>none
 |y::r=>if y==x then some 0 else(yI x r).map (·+1)
def slot (sc:Sc)(x:Str):Option Nat:=yI x (bW sc)
noncomputable def xo {β κ:Type} (o:Option κ) (f:κ->Loc->HP->R β):Loc->HP->R β:=match o with
 |some k=>f k
 |none=>λ_ _=>.bad
noncomputable def xi {β:Type} (b:Bool) (f:Loc->HP->R β):Loc->HP->R β:=match b with
 |true=>f
 |false=>λ_ _=>.bad
def gQ (sc:Sc)(x:Str):Ex:=xo (sc.lookup x) λk=>cond (k==.globalImplicit) (xo (iT.lookup x) xC) (xi (!(k==.globalExplicit)) (xo (slot sc x) aa))
def zY:Const->Ex
 |.none=>xC .none
 |.bool b=>xC (.bool b)
 |.int i=>xC (.int i)
 |.str s=>xC (.str s.cps.toList)
 |_=>tH
structure cy where
 ex:Sc->Expr->Ex
 te:Sc->Expr->Tx
 st:Sc->Stmt->Sx
noncomputable def asName:Expr->Option Str
 |.Name x _=>some x
 |_=>none
noncomputable def CA:Expr->Option Const
 |.Constant k _ _=>some k
 |_=>none
noncomputable def R5:Const->Option Str
 |.str y=>some y
 |_=>none
def yJ (e:Expr):Option Str:=oB (CA e) R5
noncomputable def iB:Expr->Option (Expr×List Expr×List Keyword)
 |.Call f as ks _=>some (f,as,ks)
 |_=>none
noncomputable def Hp:Expr->Option (Expr×List Comprehension×Scope)
 |.ListComp e gs sc _=>some (e,gs,sc)
 |_=>none
noncomputable def M7:Option NameKind->Bool
 |some k=>k==.local||k==.cell
 |none=>false
def yK (sc:Sc)(e:Expr):Option Nat:=oB (asName e) λx=>cond (M7 (sc.lookup x)) (slot sc x) none
def mh (sc:Sc):List Expr->Option (List Nat)
 |[]=>some []
 |e::r=>oB (yK sc e) λi=>oB (mh sc r) λis=>cond (is.contains i) none (some (i::is))
noncomputable def EB:Expr->Option (List Expr)
 |.Tuple es _ _=>some es
 |_=>none
def lz (sc:Sc)(e:Expr):Option Tg:=match EB e with
 |some es=>(mh sc es).map .many
 |none=>(yK sc e).map .one
noncomputable def noStar:Expr->Bool
 |.Starred _ _=>false
 |_=>true
noncomputable def fE:Expr->Bool
 |.ListComp ..=>true
 |.SetComp ..=>true
 |.DictComp ..=>true
 |_=>false
noncomputable def oA (sc:Sc) (f:Str) (w:Str):Bool:=f==w&&sc.lookup f==some .globalImplicit
def EC (d:cy)(sc:Sc)(f:Str)(a:Expr):Ix:=xi (noStar a) (cond (oA sc f "range") (mf (d.ex sc a)) (xi (oA sc f "enumerate") (ro (d.ex sc a))))
def yL (d:cy)(sc:Sc)(f:Str)(a b:Expr):Ix:=xi (oA sc f "zip"&&(noStar a&&noStar b)) (wm (d.ex sc a) (d.ex sc b))
def Yq (d:cy)(sc:Sc)(f:Str)(a:Expr)(r:List Expr):Ix:=match r with
 |[]=>EC d sc f a
 |b::r=>xi r.isEmpty (yL d sc f a b)
def M8 (d:cy)(sc:Sc)(f:Str)(as:List Expr):Ix:=match as with
 |[]=>aab
 |a::r=>Yq d sc f a r
def R6 (d:cy)(sc:Sc)(e:Expr):Ix:=xo (iB e) λq=>xo (asName q.1) λf=>xi q.2.2.isEmpty (M8 d sc f q.2.1)
noncomputable def R7 (f:Str):Bool:=f==("range":Str)||(f==("enumerate":Str)||f==("zip":Str))
def iC (e:Expr):Bool:=match e with
 |.Name ..=>true
 |.Attribute ..=>true
 |.Subscript ..=>true
 |.Call f _ _ _=>(match f with
  |.Name f _=>!R7 f
  |.Attribute ..=>true
  |_=>false)
 |_=>false
def eY (d:cy)(sc:Sc)(e:Expr):Ix:=cond (iC e) (cx (d.ex sc e)) (R6 d sc e)
def km (e:Expr):Bool:=match iB e with
 |some q=>(match asName q.1 with
  |some f=>f==("enumerate":Str)||f==("zip":Str)
  |none=>false)
 |none=>false
noncomputable def zZ:Expr->Bool
 |.Tuple ..=>true
 |_=>false
def Hq (o:Option Expr):Option Key:=oB o λe=>oB (yJ e) Key.of
def ou:List (Option Expr)->Option (List Key)
 |[]=>some []
 |o::r=>oB (Hq o) λk=>oB (ou r) λks=>cond (ks.contains k) none (some (k::ks))
def mapOf (sc pX:Sc):List (Option Nat):=(pX.filter λp=>uv p.2).map λp=>if p.2==.free then slot sc p.1 else none
def oC (sc pX:Sc):Bool:=(pX.all λp=>p.2==.local||p.2==.globalImplicit||(p.2==.free&&(slot sc p.1).isSome&&(sc.lookup p.1==some .cell||sc.lookup p.1==some .free)))&&decide ((pX.map (·.1)).Nodup)&&pX.all (λp=>!(p.1==("__debug__":Str)))
def jC (e:Expr):Bool:=match iB e with
 |some q=>q.2.1.isEmpty&&q.2.2.isEmpty
 |none=>false
def ED (N:Nat)(d:cy)(sc:Sc)(elt:Expr)(scope:Scope)(g:Comprehension):Ex:=xo (lz scope.names g.target) λt =>
 xi (g.is_async==0&&(oC sc scope.names&&(scope.kind==.function&&(!scope.isGenerator&&(!scope.isCoroutine&&iC g.iter)))))
  (cq N (eY d sc g.iter) (mapOf sc scope.names) t (aS true (g.ifs.map (d.te scope.names))) (d.ex scope.names elt))
def z0 (N:Nat)(d:cy)(sc:Sc)(e:Expr):Ex:=xo (Hp e) λq=>xo (j9 q.2.1) λg=>ED N d sc q.1 q.2.2 g
def M9 (d:cy)(sc:Sc)(o:Expr)(as:List Expr):Ex:=xo (xm as) λp=>xo (yJ p.1) λy=>xo (j9 y.cps.toList) λn=>xo (iB p.2) λq=>xo (asName q.1) λf=>xo (j9 q.2.1) λx=>xo (asName x) λx =>
 xi (q.2.2.isEmpty&&oA sc f "str") (jN n (d.ex sc o) (gQ sc x))
def Na (c:Ca)(d:cy)(sc:Sc)(f:Expr)(as:List Expr)(pos:Pos):Ex:=match f with
 |.Attribute o m apos=>xi (apos.endLine==pos.line&&!jC o) (if m==("replace":Str)then M9 d sc o as else xo (Key.of m) λk=>ax c (d.ex sc o) k (as.map (d.ex sc)))
 |.Name _ _=>aD c (d.ex sc f) (as.map (d.ex sc))
 |_=>tH
def aad (d:cy)(sc:Sc)(o i:Expr):Const->Ex
 |.str s=>xo (Key.of s) λk=>bO (d.ex sc o) k
 |_=>aq (d.ex sc o) (d.ex sc i)
def z5 (d:cy)(sc:Sc):Option Expr->Ex
 |some a=>d.ex sc a
 |none=>xC .none
def R8 (d:cy)(sc:Sc)(o i:Expr):Ex:=match i with
 |.Slice a b st _=>xi st.isNone (cV (d.ex sc o) (z5 d sc a) (z5 d sc b))
 |.Constant k _ _=>aad d sc o i k
 |_=>aq (d.ex sc o) (d.ex sc i)
def unD (d:cy)(sc:Sc)(e:Expr):UnaryOp->Ex
 |.USub=>gO (d.ex sc e)
 |.Not=>xB (cW (tX (d.ex sc e)))
 |_=>tH
def EE (es:List Expr):Bool:=es.all noStar&&decide (es.length≤1000)
def Hr (c:Ca)(N:Nat)(d:cy)(sc:Sc)(e:Expr):Ex:=match e with
 |.Constant k _ _=>zY k
 |.Name x _=>gQ sc x
 |.BoolOp op es _=>gk (op==.And) (es.map (d.ex sc))
 |.BinOp a op b _=>bw op (d.ex sc a) (d.ex sc b)
 |.UnaryOp op e _=>unD d sc e op
 |.IfExp t a b _=>ik (d.te sc t) (d.ex sc a) (d.ex sc b)
 |.Dict ks vs _=>xo (ou ks) λks=>xi (ks.length==vs.length&&(!vs.isEmpty&&decide (vs.length≤15))) (lI (ks.zip (vs.map (d.ex sc))))
 |.List es _=>xi (EE es) (cp (es.map (d.ex sc)))
 |.Tuple es _ _=>xi (EE es) (ao (es.map (d.ex sc)))
 |.ListComp elt gs scope _=>xo (j9 gs) λg=>ED N d sc elt scope g
 |.Compare e ops es _=>xi (ops.length==es.length&&!lastMarks ops es) (xB (ai (d.ex sc e) ((ops.map dT.of).zip (es.map (d.ex sc)))))
 |.Call f as ks pos=>xi (ks.isEmpty&&(as.all noStar&&decide (as.length<20))) (Na c d sc f as pos)
 |.FormattedValue e k fs _=>xi (k==-1&&fs.isNone) (c7 (d.ex sc e))
 |.JoinedStr es _=>eP (es.map (d.ex sc))
 |.Attribute o m _=>xi (!jC o) (xo (Key.of m) λk=>aH (d.ex sc o) k)
 |.Subscript o i _=>R8 d sc o i
 |_=>tH
def Hs (d:cy)(sc:Sc)(e:Expr):Tx:=match e with
 |.UnaryOp op a _=>(match op with
  |.Not=>cW (d.te sc a)
  |_=>tX (d.ex sc e))
 |.BoolOp op es _=>aS (op==.And) (es.map (d.te sc))
 |.IfExp t a b _=>Yu (d.te sc t) (d.te sc a) (d.te sc b)
 |.Compare e ops es _=>xi (ops.length==es.length&&!lastMarks ops es) (ai (d.ex sc e) ((ops.map dT.of).zip (es.map (d.ex sc))))
 |_=>tX (d.ex sc e)
noncomputable def oE:Expr->Bool
 |.Tuple vs _ _=>vs.all (constantsAlone 8)
 |_=>false
noncomputable def R9:Expr->Bool
 |.Name ..=>true
 |.Attribute ..=>true
 |_=>false
def Sa (N:Nat)(d:cy)(sc:Sc)(e:Expr)(t:Expr):Sx:=match t with
 |.Name x _=>xi (sc.lookup x==some .local) (xo (slot sc x) λi=>if fE e then aR i (z0 N d sc e)else aR i (d.ex sc e))
 |.Attribute o m _=>xi (R9 o&&!fE e) (xo (Key.of m) λk=>cI (d.ex sc o) k (d.ex sc e))
 |.Subscript o i _=>xi (!fE e) (xo (yJ i) λs=>xo (Key.of s) λk=>iS (d.ex sc o) k (d.ex sc e))
 |.Tuple ts _ _=>xi (!(oE e||fE e)) (xo (mh sc ts) λis=>eI is (d.ex sc e))
 |_=>Kp
def Ht (d:cy)(sc:Sc)(e:Expr):Sx:=xo (iB e) λq=>xo (asName q.1) λx=>xo (xm q.2.1) λp=>xi (q.2.2.isEmpty&&(oA sc x "TextFault"&&(noStar p.1&&noStar p.2))) (c8 (d.ex sc p.1) (d.ex sc p.2))
def Hu (N:Nat)(d:cy)(sc:Sc)(st:Stmt):Sx:=match st with
 |.Expr e _=>xi (!fE e) (bo (d.ex sc e))
 |.Return e _=>(match e with
  |none=>aW (xC .none)
  |some e=>aW (d.ex sc e))
 |.Assign ts e _=>xo (j9 ts) (Sa N d sc e)
 |.If t a b _=>bc (d.te sc t) (a.map (d.st sc)) (b.map (d.st sc))
 |.While t a b _=>xi b.isEmpty (fC N (d.te sc t) (a.map (d.st sc)))
 |.For t it a b _=>xi (b.isEmpty&&!(km it&&!zZ t)) (xo (lz sc t) λtg=>ib N tg (eY d sc it) (a.map (d.st sc)))
 |.Raise e r _=>xi r.isNone (xo e (Ht d sc))
 |_=>Kp
def OF (c:Ca)(N:Nat)(d:cy):cy:=⟨Hr c N d,Hs d,Hu N d⟩
def gv (c:Ca)(N:Nat):Nat->cy
 |0=>⟨λ_ _=>tH,λ_ _=>aaa,λ_ _=>Kp⟩
 |n+1=>OF c N (gv c N n)
noncomputable def deep:Nat:=24
def WJ (c:Ca)(N:Nat)(sc:Sc)(b:List Stmt):Sx:=aF (b.map ((gv c N deep).st sc))
noncomputable def cG (names:List Str) (ps:List Str) (vs:List V):Loc:=names.map λx=>(ps.zip vs).lookup x
def bj (f:Sx)(loc:Loc)(hp:HP):R V:=az (f loc hp) λp hp=>match p.1 with
 |.ret v=>.ok v hp
 |.next=>.ok .none hp
def G7 (c:Ca)(N:Nat)(st:Stmt):Fn:=λvs hp =>
 if((bf st).args.map (·.arg)).length==vs.length then bj (WJ c N (aw st).names (dj st)) (cG (bW (aw st).names) ((bf st).args.map (·.arg)) vs) hp else .bad
noncomputable def OG:Stmt->Option Expr
 |.Expr e _=>some e
 |_=>none
def Nb:List Stmt->Option (List Expr×List Stmt)
 |[]=>none
 |s::r=>match OG s with
  |some e=>(match iB e with
   |some q=>some (q.2.1,r)
   |none=>none)
  |none=>none
def uw (c:Ca)(N:Nat)(st:Stmt):Fn:=λvs hp =>
 if((bf st).args.map (·.arg)).length==vs.length then(match Nb (dj st)with
  |some q=>bj (aF (bo (ji c (q.1.map ((gv c N deep).ex (aw st).names)))::q.2.map ((gv c N deep).st (aw st).names))) (cG (bW (aw st).names) ((bf st).args.map (·.arg)) vs) hp
  |none=>.bad)else .bad
def table:List (Addr×Stmt):=[(119,aK 14 0),(126,aK 14 1),(133,aK 14 2),(140,aK 14 3),(147,aK 14 4),(161,bg 15),(166,bg 16),(173,bg 17),(178,bg 18),(188,bg 20),(195,bg 21),(200,bg 22),
 (207,bg 23),(214,bg 24),(228,aK 25 0),(235,aK 25 1),(242,aK 25 2),(249,aK 25 3),(256,aK 25 4),(263,aK 25 5),(270,aK 25 6),(291,aK 26 0),(298,aK 26 1),(305,aK 26 2),(312,aK 26 3),
 (319,aK 26 4),(326,aK 26 5),(333,aK 26 6),(340,aK 26 7),(347,aK 26 8),(370,aK 27 0),(377,aK 27 1),(384,aK 27 2),(391,aK 27 3),(398,aK 27 4),(405,aK 27 5),(412,aK 27 6),(419,aK 27 7),
 (426,aK 27 8),(431,aK 27 9),(443,bg 29),(450,bg 30),(457,bg 31),(464,bg 32),(471,bg 33),(478,bg 34),(485,bg 35),(492,bg 36),(499,bg 37),(504,bg 38)]
def m6 (c:Ca)(C:Addr)(vs:List V)(hp:HP):R V :=
 match fg (d7 C) .init with
 |some f=>az (c (.fix (.ref f)) (.ref hp.length::vs) (hp++[.inst C (hp.length+1),.dict []])) λr hp'=>match r with
  |.none=>.ok (.ref hp.length) hp'
  |_=>.bad
 |none=>.bad
def fF (N:Nat)(c:Ca):Ca:=λf vs hp =>
 match f with
 |.fix (.ref a)=>if isClass a then m6 c a vs hp else match table.lookup a with
  |some st=>if a==370 then uw c N st vs hp else G7 c N st vs hp
  |none=>.bad
 |.fix (.builtin b)=>match builtins.lookup b with
  |some g=>g vs hp
  |none=>.bad
 |.fix (.type t)=>match types.lookup t with
  |some g=>g vs hp
  |none=>.bad
 |_=>.bad
def ag (N:Nat):Nat->Ca
 |0=>λ_ _ _=>.bad
 |k+1=>fF N (ag N k)
section
noncomputable abbrev Pl:=List Addr
def mj (h:Heap)(a:Addr)(its:Array Value):Prop:=∃n,IsT h a its n
theorem mj.is {h:Heap}{a:Addr}{its:Array Value}(x:mj h a its):IsTup h a its:=let⟨n,e⟩:=x;⟨_,e,rfl,n,rfl⟩
theorem bx {α:Type}{x:α}{P:Prop}(h:none=some x):P:=by cases h
theorem ft {P:Prop}(h:false=true):P:=by cases h
theorem fh {α:Type}{l:List α}{a:α}(h:j9 l=some a):l=[a]:=by
 cases l with
 |nil=>exact bx h
 |cons b r=>cases r with
  |nil=>exact congrArg (λx=>[x]) (oi h)
  |cons _ _=>exact bx h
theorem bE {α β:Type}{o:Option α}{f:α->Option β}{b:β}(h:oB o f=some b):∃a,o=some a∧f a=some b:=by
 cases o with
 |none=>exact bx h
 |some a=>exact⟨a,rfl,h⟩
theorem ml {α:Type}{l:List α}{a:α×α}(h:xm l=some a):l=[a.1,a.2]:=by
 cases l with
 |nil=>exact bx h
 |cons b r =>
  refine aj (bE h) λc h1 h2=>?_;rw[fh h1,<- oi h2]
theorem fY {α:Type}{l:List α}(h:l.isEmpty=true):l=[]:=List.isEmpty_iff.mp h
theorem l8 {α:Type}{l:Option α}(h:l.isNone=true):l=none:=Option.isNone_iff_eq_none.mp h
theorem Hv {α:Type}{l:List α}{a:α×α×α}(h:RL l=some a):l=[a.1,a.2.1,a.2.2]:=by
 cases l with
 |nil=>exact bx h
 |cons b r =>
  refine aj (bE h) λc h1 h2=>?_;rw[ml h1,<- oi h2]
theorem iU {v:V}{x:Int}(h:vInt v=some x):v=.int x:=by cases v<;>first|exact congrArg _ (oi h)|exact bx h
theorem fz {v:V}{x:List Nat}(h:vStr v=some x):v=.str x:=by cases v<;>first|exact congrArg _ (oi h)|exact bx h
theorem rp {v:V}{x:List V}(h:wj v=some x):v=.tup x:=by cases v<;>first|exact congrArg _ (oi h)|exact bx h
theorem gw {v:V}{x:Nat}(h:lu v=some x):v=.ref x:=by cases v<;>first|exact congrArg _ (oi h)|exact bx h
theorem CB {v:V}{x:Value}(h:J3 v=some x):v=.fix x:=by cases v<;>first|exact congrArg _ (oi h)|exact bx h
theorem CD {v:V}{x:Nat}(h:J4 v=some x):v=.str [x]:=by
 refine aj (bE h) λl h1 h2=>?_;rw[fz h1,fh h2]
theorem oF {n:Nat}{v:Value}(h:isRef n v=true):v=.ref n:=by cases v<;>first|exact congrArg _ (beq_iff_eq.mp h)|exact ft h
theorem dE {hp:HP}{i:Nat}{l:List V}(h:eO hp i=some l):hp[i]?=some (.list l):=by
 refine aj (bE h) λo h1 h2=>?_;rw[h1];cases o<;>first|exact congrArg (λl=>some (O.list l)) (oi h2)|exact bx h2
theorem kr {hp:HP}{i:Nat}{l:List (Key×V)}(h:kK hp i=some l):hp[i]?=some (.dict l):=by
 refine aj (bE h) λo h1 h2=>?_;rw[h1];cases o<;>first|exact congrArg (λl=>some (O.dict l)) (oi h2)|exact bx h2
theorem tK {hp:HP}{i:Nat}{q:Addr×Nat}(h:lH hp i=some q):hp[i]?=some (.inst q.1 q.2):=by
 refine aj (bE h) λo h1 h2=>?_;rw[h1];cases o<;>first|exact congrArg (λq:Addr×Nat=>some (O.inst q.1 q.2)) (oi h2)|exact bx h2
theorem nE {hp:HP}{v:V}{l:List V}(h:tF hp v=some l):∃k,v=.ref k∧hp[k]?=some (.list l):=by
 refine aj (bE h) λk h1 h2=>?_;exact⟨k,gw h1,dE h2⟩
theorem bk {a b:Bool}(h:(a&&b)=true):a=true∧b=true:=Bool.and_eq_true_iff.mp h
mutual
inductive Val (no:List Addr)(i:Pl)(h:Heap):V->Value->Prop
 |none:Val no i h .none .none
 |bool (b:Bool):Val no i h (.bool b) (.bool b)
 |int (k:Int) (t:Tok):Val no i h (.int k) (.int k t)
 |str (l:List Nat) (t:Tok):Val no i h (.str l) (.str (S l) t)
 |tup {vs:List V} {a:Addr} {its:Array Value} (hn:a∉no) (x:mj h a its) (y:Vals no i h vs its.toList):Val no i h (.tup vs) (.ref a)
 |ref (k:Nat) (a:Addr) (e:i[k]?=some a):Val no i h (.ref k) (.ref a)
 |fix (v:Value):Val no i h (.fix v) v
inductive Vals (no:List Addr)(i:Pl)(h:Heap):List V->List Value->Prop
 |nil:Vals no i h [] []
 |cons {v:V} {vs:List V} {a:Value} {as:List Value} (x:Val no i h v a) (y:Vals no i h vs as):Vals no i h (v::vs) (a::as)
end
def aae (no:List Addr)(i:Pl)(h:Heap)(v:V)(a:Value):Prop:=match v with
 |.none=>a=.none
 |.bool b=>a=.bool b
 |.int k=>∃t,a=.int k t
 |.str l=>∃t,a=.str (S l) t
 |.tup vs=>∃t its,a=.ref t∧t∉no∧mj h t its∧Vals no i h vs its.toList
 |.ref k=>∃b,a=.ref b∧i[k]?=some b
 |.fix v=>a=v
def W4 (no:List Addr)(i:Pl)(h:Heap)(v:List V)(as:List Value):Prop:=match v with
 |[]=>as=[]
 |v::vs=>∃a bs,as=a::bs∧Val no i h v a∧Vals no i h vs bs
theorem Val.inv {no:List Addr}{i:Pl}{h:Heap}{v:V}{a:Value}(x:Val no i h v a):aae no i h v a:=by
 cases x with
 |none=>exact rfl
 |bool b=>exact rfl
 |int k t=>exact⟨t,rfl⟩
 |str l t=>exact⟨t,rfl⟩
 |tup hn x y=>exact⟨_,_,rfl,hn,x,y⟩
 |ref k b e=>exact⟨b,rfl,e⟩
 |fix v=>exact rfl
theorem Vals.Sb {no:List Addr}{i:Pl}{h:Heap}{v:List V}{a:List Value}(x:Vals no i h v a):W4 no i h v a:=by
 cases x with
 |nil=>exact rfl
 |cons x y=>exact⟨_,_,rfl,x,y⟩
theorem Val.z6 {no:List Addr}{i:Pl}{h:Heap}{a:Value}(x:Val no i h .none a):a=.none:=x.inv
theorem Val.tM {no:List Addr}{i:Pl}{h:Heap}{a:Value}{b:Bool}(x:Val no i h (.bool b) a):a=.bool b:=x.inv
theorem Val.dp {no:List Addr}{i:Pl}{h:Heap}{a:Value}{k:Int}(x:Val no i h (.int k) a):∃t,a=.int k t:=x.inv
theorem Val.cP {no:List Addr}{i:Pl}{h:Heap}{a:Value}{l:List Nat}(x:Val no i h (.str l) a):∃t,a=.str (S l) t:=x.inv
theorem Val.fA {no:List Addr}{i:Pl}{h:Heap}{a:Value}{vs:List V}(x:Val no i h (.tup vs) a):∃t its,a=.ref t∧t∉no∧mj h t its∧Vals no i h vs its.toList:=x.inv
theorem Val.Ks {no:List Addr}{i:Pl}{h:Heap}{t:Addr}{vs:List V}(x:Val no i h (.tup vs) (.ref t)):∃its,t∉no∧mj h t its∧Vals no i h vs its.toList :=
 let⟨_,its,e,r⟩:=x.inv
 ⟨its,by injection e with e;subst e;exact r⟩
theorem Val.cQ {no:List Addr}{i:Pl}{h:Heap}{a:Value}{k:Nat}(x:Val no i h (.ref k) a):∃b,a=.ref b∧i[k]?=some b:=x.inv
theorem Val.ku {no:List Addr}{i:Pl}{h:Heap}{a v:Value}(x:Val no i h (.fix v) a):a=v:=x.inv
theorem Vals.wq {no:List Addr}{i:Pl}{h:Heap}{as:List Value}(x:Vals no i h [] as):as=[]:=x.Sb
theorem Vals.inv {no:List Addr}{i:Pl}{h:Heap}{v:V}{vs:List V}{as:List Value}(x:Vals no i h (v::vs) as):∃a bs,as=a::bs∧Val no i h v a∧Vals no i h vs bs:=x.Sb
theorem Vals.inv1 {no:List Addr}{i:Pl}{h:Heap}{v:V}{as:List Value}(x:Vals no i h [v] as):∃a,as=[a]∧Val no i h v a:=by
 obtain⟨a,bs,rfl,x,y⟩:=x.inv;exact⟨a,by rw[y.wq],x⟩
theorem Vals.inv2 {no:List Addr}{i:Pl}{h:Heap}{v w:V}{as:List Value}(x:Vals no i h [v,w] as):∃a b,as=[a,b]∧Val no i h v a∧Val no i h w b:=by
 refine cg (x.inv) λa bs e x1 y=>?_;refine aj (y.inv1) λb e' y1=>?_;exact⟨a,b,e'▸e,x1,y1⟩
theorem Vals.Sd {no:List Addr}{i:Pl}{h:Heap}{v w u:V}{as:List Value}(x:Vals no i h [v,w,u] as):∃a b c,as=[a,b,c]∧Val no i h v a∧Val no i h w b∧Val no i h u c:=by
 refine cg (x.inv) λa bs e x1 y=>?_;refine cg (y.inv2) λb c e' y1 z=>?_;exact⟨a,b,c,e'▸e,x1,y1,z⟩
def bq (no:List Addr)(h h':Heap):Prop:=∀a its,a∉no->mj h a its->mj h' a its
theorem bq.refl (no:List Addr)(h:Heap):bq no h h:=λ_ _ _ x=>x
theorem bq.trans {no:List Addr}{h dR ie:Heap}(x:bq no h dR)(y:bq no dR ie):bq no h ie:=λa i hn z=>y a i hn (x a i hn z)
theorem bq.of {no:List Addr}{h h':Heap}(k:∀b o,h.get? b=some o->h'.get? b=some o):bq no h h':=λ_ _ _ ⟨n,ho⟩=>⟨n,k _ _ ho⟩
def bB (i i':Pl):Prop:=∃t,i'=i++t
theorem bB.refl (i:Pl):bB i i:=⟨[],by simp⟩
theorem bB.trans {i j k:Pl}(x:bB i j)(y:bB j k):bB i k:=by
 refine aQ x λt aC=>?_;subst aC;obtain⟨u,rfl⟩:=y;exact⟨t++u,by simp⟩
theorem bB.get {i i':Pl}(g:bB i i'){k:Nat}{a:Addr}(e:i[k]?=some a):i'[k]?=some a:=by
 refine aQ g λt aC=>?_;subst aC;refine aQ (List.getElem?_eq_some_iff.mp e) λhk e=>?_;rw[List.getElem?_append_left hk,List.getElem?_eq_getElem hk,e]
theorem bB.snoc (i:Pl)(a:Addr):bB i (i++[a]):=⟨[a],rfl⟩
variable {no:List Addr}{i i' aB cm:Pl}{h h':Heap}
theorem Val.keep (g:bB i i')(k:bq no h h'){v:V}{a:Value}(x:Val no i h v a):Val no i' h' v a :=
 Val.rec (motive_1:=λv a _=>Val no i' h' v a) (motive_2:=λvs as _=>Vals no i' h' vs as) .none .bool .int .str (λhn x _ y=>.tup hn (k _ _ hn x) y) (λn a e=>.ref n a (g.get e)) .fix .nil (λ_ _ x y=>.cons x y) x
theorem Vals.ind {P:List V->List Value->Prop}(h0:P [] [])(h1:∀{v vs a as},Val no i h v a->Vals no i h vs as->P vs as->P (v::vs) (a::as)){vs:List V}{as:List Value}(x:Vals no i h vs as):P vs as :=
 Vals.rec (motive_1:=λ_ _ _=>True) (motive_2:=λvs as _=>P vs as) trivial (λ_=>trivial) (λ_ _=>trivial) (λ_ _=>trivial) (λ_ _ _ _=>trivial) (λ_ _ _=>trivial) (λ_=>trivial) h0 (λx y _ z=>h1 x y z) x
theorem Vals.keep (g:bB i i')(k:bq no h h'){vs:List V}{as:List Value}(x:Vals no i h vs as):Vals no i' h' vs as:=x.ind .nil λx _ y=>.cons (x.keep g k) y
theorem Vals.length {vs:List V}{as:List Value}(x:Vals no i h vs as):vs.length=as.length:=x.ind (P:=λvs as=>vs.length=as.length) rfl λ_ _ e=>congrArg (·+1) e
theorem Vals.append {vs ws:List V}{as bs:List Value}(x:Vals no i h vs as)(z:Vals no i h ws bs):Vals no i h (vs++ws) (as++bs):=x.ind (P:=λvs as=>Vals no i h (vs++ws) (as++bs)) z λx _ y=>.cons x y
theorem Vals.get {vs:List V}{as:List Value}(x:Vals no i h vs as){n:Nat}{v:V}:vs[n]?=some v->∃a,as[n]?=some a∧Val no i h v a :=
 x.ind (P:=λvs as=>∀n,vs[n]?=some v->∃a,as[n]?=some a∧Val no i h v a) (λn e=>bx (List.getElem?_nil.symm.trans e))
  (λx _ ih n=>Nat.casesOn n (λe=>⟨_,rfl,oi e▸x⟩) λn=>ih n) n
theorem Vals.drop (n:Nat){vs:List V}{as:List Value}(x:Vals no i h vs as):Vals no i h (vs.drop n) (as.drop n) :=
 x.ind (P:=λvs as=>∀n,Vals no i h (vs.drop n) (as.drop n)) (λn=>by rw[List.drop_nil,List.drop_nil];exact .nil) (λx y ih n=>Nat.casesOn n (.cons x y) ih) n
theorem Vals.take (n:Nat){vs:List V}{as:List Value}(x:Vals no i h vs as):Vals no i h (vs.take n) (as.take n) :=
 x.ind (P:=λvs as=>∀n,Vals no i h (vs.take n) (as.take n)) (λn=>by rw[List.take_nil,List.take_nil];exact .nil) (λx y ih n=>Nat.casesOn n .nil λn=>.cons x (ih n)) n
theorem Vals.dropLast {vs:List V}{as:List Value}(x:Vals no i h vs as):Vals no i h vs.dropLast as.dropLast :=
 x.ind (P:=λvs as=>Vals no i h vs.dropLast as.dropLast) .nil λx y ih=>by
  cases y with
  |nil=>exact .nil
  |cons y z=>exact .cons x ih
inductive fc (no:List Addr)(i:Pl)(P:Params)(h:Heap):List (Key×V)->List DictEntry->Prop
 |nil:fc no i P h [] []
 |cons {k:Key} {v:V} {r:List (Key×V)} {t:Tok} {a:Value} {es:List DictEntry} (x:Val no i h v a) (y:fc no i P h r es) :
   fc no i P h ((k,v)::r) (⟨PyData.keyHash P k.str,.str k.str t,a⟩::es)
theorem fc.keep {P:Params}(g:bB i i')(k:bq no h h'){es:List (Key×V)}{ds:List DictEntry}(x:fc no i P h es ds):fc no i' P h' es ds:=by
 induction x with
 |nil=>exact .nil
 |cons x _ ih=>exact .cons (x.keep g k) ih
def fM (no:List Addr)(i:Pl)(P:Params)(h:Heap)(a:Addr):O->Prop
 |.list xs=>∃its n,h.get? a=some (listOf its n)∧Vals no i h xs its.toList
 |.dict es=>∃ds n,h.get? a=some (dictOf ds n)∧fc no i P h es ds∧(es.map (·.1)).Nodup
 |.inst C d=>∃da,i[d]?=some da∧h.get? a=some (instObj C da)
theorem fM.keep {P:Params}{a:Addr}{o:O}(x:fM no i P h a o)(g:bB i i')(k:bq no h h')(e:h'.get? a=h.get? a):fM no i' P h' a o:=by
 cases o with
 |list xs=>obtain⟨its,n,h1,h2⟩:=x;exact⟨its,n,e.trans h1,h2.keep g k⟩
 |dict es=>obtain⟨ds,n,h1,h2,h3⟩:=x;exact⟨ds,n,e.trans h1,h2.keep g k,h3⟩
 |inst C d=>obtain⟨da,h1,h2⟩:=x;exact⟨da,g.get h1,e.trans h2⟩
theorem fM.some {P:Params}{a:Addr}{o:O}(x:fM no i P h a o):∃ob,h.get? a=some ob∧ob.cls≠.type "tuple"∧(∀vs,ob.data≠.fields vs)∧∀c,ob.data≠.cell c:=by
 cases o with
 |list xs=>obtain⟨its,n,h1,_⟩:=x;exact⟨_,h1,by simp,by simp,by simp⟩
 |dict es=>obtain⟨ds,n,h1,_⟩:=x;exact⟨_,h1,by simp,by simp,by simp⟩
 |inst C d=>obtain⟨da,_,h1⟩:=x;exact⟨_,h1,by simp,by simp,by simp⟩
structure Cx where
 w:World
 A:Around
 hb:Heap
 os:OsState
 env:Env
 d9:List Env
 oc:List Addr
 sc:Sc
 no:List Addr
noncomputable abbrev Cx.L (C:Cx):Addr:=C.env.locals
noncomputable abbrev Cx.own (C:Cx):List Addr:=C.env.locals::C.oc
abbrev Cx.M (C:Cx):Model:=model pw C.w
abbrev Cx.names (C:Cx):List Str:=bW C.sc
def Se (C:Cx)(x:Str):NameKind->Prop
 |.local=>C.env.kindOf x=some .local
 |.cell=>C.env.kindOf x=some .cell∧∃c,C.env.cells.lookup x=some c∧c∈C.own∧c≠C.L
 |.free=>(C.env.kindOf x=some .cell∨(C.env.kindOf x=some .free∧(x==("__classdict__":Str))=false))∧∃c,C.env.cells.lookup x=some c
 |.globalImplicit=>C.env.kindOf x=some .globalImplicit
 |.globalExplicit=>True
structure Cx.Ok (C:Cx)(n:Nat):Prop where
 frames:C.A.frames=some C.d9
 depth:C.A.depth+10*n≤900
 units:C.A.units+40*n≤1000
 handled:C.A.handled=none
 dJ:(K C.w.params).In C.hb
 top:∃p loose mg mb,TopRead p loose mg mb C.hb
 kind:C.env.scope.kind=.function
 globals:C.env.globals=mainGlobals
 builtins:C.env.builtins=builtinsNs
 names:∀x k,C.sc.lookup x=some k->Se C x k∧(x==("__debug__":Str))=false
 nd:(C.sc.map (·.1)).Nodup
 cells:∀x y c,C.env.cells.lookup x=some c->C.env.cells.lookup y=some c->x=y
 nF:∀b∈C.own,C.hb.get? b=none
 above:C.hb.objs.size≤C.L
 noNew:∀b∈C.no,C.hb.get? b=none
 frame:∃F outer e,C.env.frame=some F∧C.d9=e::outer∧e.frame=some F
 func:C.env.scope.isGenerator=false∧C.env.scope.isCoroutine=false
def dO (C:Cx)(i:Pl)(h:Heap)(m:Str->Option Value)(x:Str)(k:NameKind)(v:Option V):Prop :=
 match k with
 |.local=>∀u,v=some u->∃a,m x=some a∧Val C.no i h u a
 |_=>∃c a,C.env.cells.lookup x=some c∧h.IsCell c a∧∀u,v=some u->∃b,a=some b∧Val C.no i h u b
structure Rep (C:Cx)(i:Pl)(loc:Loc)(hp:HP)(s:Shared):Prop where
 ns:∃m,s.heap.Ns C.L m∧∀(n:Nat) v,loc[n]?=some v->∃x k,C.names[n]?=some x∧C.sc.lookup x=some k∧dO C i s.heap m x k v
 len:i.length=hp.length
 objs:∀(n:Nat) o,hp[n]?=some o->∃a,i[n]?=some a∧fM C.no i C.w.params s.heap a o
 nd:i.Nodup
 new:∀a∈i,C.hb.get? a=none
 own:∀b∈C.own,b∉i∧∃o,s.heap.get? b=some o∧(∀vs,o.data≠.fields vs)∧∀its n,o.data≠.seq its n
 base:∀b o,C.hb.get? b=some o->s.heap.get? b=some o
 fR:s.heap.FunFrames C.hb C.d9
 gens:s.gens=#[]
 os:s.os=C.os
 pos:0<s.toks
 ll:loc.length=C.names.length
 ej:∀b∈C.no,b∉i∧∃o,s.heap.get? b=some o
structure aJ (own:List Addr)(i:Pl)(s:Shared)(i':Pl)(s':Shared):Prop where
 keep:∀b o,s.heap.get? b=some o->b∉own->b∉i->s'.heap.get? b=some o
 live:∀b o,s.heap.get? b=some o->∃o',s'.heap.get? b=some o'
 grow:∃t,i'=i++t∧∀a∈t,s.heap.get? a=none
inductive TrT (hb:Heap)(fr:Option Addr)(ea:Addr)(h:Heap)(vs:Array Value):Prop
 |mk (T:Addr) (oT:Obj) (ts:Array Value) (fl:Value) (h4:vs[1]?=some (.ref T)) (h5:hb.get? T=none) (h6:T≠ea) (h7:h.get? T=some oT) (h8:oT.data=.fields ts) (h9:3<ts.size) (ux:ts[3]?=some fl) (Sf:fl=.none∨∃F,fr=some F∧fl=rawInt F)
inductive Tr (hb:Heap)(fr:Option Addr)(ea:Addr)(h:Heap):Prop
 |mk (oe:Obj) (vs:Array Value) (h1:h.get? ea=some oe) (h2:oe.data=.fields vs) (h3:1<vs.size) (h4:vs[1]?=some .none∨TrT hb fr ea h vs)
noncomputable abbrev Trace (C:Cx):Addr->Heap->Prop:=Tr C.hb C.env.frame
inductive aaf (hb:Heap)(fr:Option Addr)(d9:List Env)(k:Int)(e:Value)(h:Heap):Prop
 |mk (ea d:Addr) (oe od:Obj) (t:Tok) (e0:e=.ref ea) (e1:h.get? ea=some oe) (e2:oe.cls=.ref 81) (e3:oe.dict=some d) (e4:hb.get? ea=none) (e5:Tr hb fr ea h) (e6:h.get? d=some od) (c6:od.cls=.type "dict") (d6:od.dict=none)
  (e7:∀vs,od.data≠.fields vs) (e8:lookIn "spot" od=some (some (.int k t))) (e9:∀v∈d9,v.frame≠some d)
noncomputable abbrev Sg (C:Cx):Int->Value->Heap->Prop:=aaf C.hb C.env.frame C.d9
structure mu (C:Cx)(k:Int)(e:Value)(s:Shared):Prop where
 obj:Sg C k e s.heap
 base:∀b o,C.hb.get? b=some o->s.heap.get? b=some o
 fR:s.heap.FunFrames C.hb C.d9
 gens:s.gens=#[]
 os:s.os=C.os
def fT (own:List Addr)(i:Pl)(s s':Shared):Prop:=∀b o,s.heap.get? b=some o->(∀vs,o.data≠.fields vs)->b∉own->b∉i->∃sl,s'.heap.get? b=some {o with slots:=sl}
variable {α β γ δ:Type}{C:Cx}{loc loc':Loc}{hp hp' au bJ:HP}{s s' ah aO:Shared}{own:List Addr}
theorem qj {sc:Sc}{n:Nat}{x:Str}(e:(bW sc)[n]?=some x):∃k,(x,k)∈sc∧uv k=true:=by
 have:=List.mem_of_getElem? e;refine aj (List.mem_map.mp this) λp hp bH=>?_;subst bH;refine bp (List.mem_filter.mp hp) λh1 h2=>?_;exact⟨p.2,h1,h2⟩
theorem Rep.lW (R:Rep C i loc hp s){a:Addr}{its:Array Value}(x:mj s.heap a its):a∉C.own∧a∉i:=by
 refine aQ x λn ho=>?_;refine⟨λhm=>?_,λhm=>?_⟩
 ·obtain⟨_,o',qk,_,h1⟩:=R.own a hm;rw[ho]at qk;obtain rfl:=oi qk;exact h1 _ _ rfl
 ·refine aQ (List.mem_iff_getElem?.mp hm) λn hn=>?_;have hl:n<hp.length:=by have:=(List.getElem?_eq_some_iff.mp hn).1;rw[R.len]at this;exact this
  refine aj (R.objs n hp[n] (List.getElem?_eq_getElem hl)) λa' e1 e2=>?_;rw[hn]at e1;obtain rfl:=oi e1;refine dQ (e2.some) λo' qk h1 _=>?_;rw[ho]at qk;obtain rfl:=oi qk;exact h1 rfl
theorem Rep.gy (R:Rep C i loc hp s){a:Addr}(hm:a∈i):∃(n:Nat) (o:O),i[n]?=some a∧hp[n]?=some o∧fM C.no i C.w.params s.heap a o:=by
 refine aQ (List.mem_iff_getElem?.mp hm) λn hn=>?_;have hl:n<hp.length:=by have:=(List.getElem?_eq_some_iff.mp hn).1;rw[R.len]at this;exact this
 refine aj (R.objs n hp[n] (List.getElem?_eq_getElem hl)) λa' e1 e2=>?_;rw[hn]at e1;obtain rfl:=oi e1;exact⟨n,hp[n],hn,List.getElem?_eq_getElem hl,e2⟩
theorem aJ.g (k:aJ own i s i' s'):bB i i':=let⟨t,e,_⟩:=k.grow;⟨t,e⟩
theorem aJ.tup (k:aJ own i s i' s')(R:Rep C i loc hp s)(ho:∀b∈own,b∈C.own):bq C.no s.heap s'.heap:=λa its _ x=>by
 refine bp (R.lW x) λh1 h2=>?_;refine aQ x λn hx=>?_;exact⟨n,k.keep a _ hx (λq=>h1 (ho _ q)) h2⟩
theorem aJ.refl (own:List Addr)(i:Pl)(s:Shared):aJ own i s i s:=⟨λ_ _ e _ _=>e,λ_ o e=>⟨o,e⟩,[],by simp,by simp⟩
theorem aJ.off (k:aJ own i s i' s'){b:Addr}{o:Obj}(e:s.heap.get? b=some o)(hb:b∉i):b∉i':=λhm=>by
 refine aj (k.grow) λt aC ht=>?_;subst aC;rcases List.mem_append.mp hm with q|q
 ·exact hb q
 ·rw[ht b q]at e;exact(Option.some_ne_none _ e.symm).elim
theorem aJ.trans (x:aJ own i s aB ah)(y:aJ own aB ah cm aO):aJ own i s cm aO:=by
 refine⟨λb o e h1 h2=>y.keep b o (x.keep b o e h1 h2) h1 (x.off e h2),λb o e=>?_,?_⟩
 ·refine aQ (x.live b o e) λo' e'=>?_;exact y.live b o' e'
 ·refine aj (x.grow) λt aC ht=>?_;subst aC;refine aj (y.grow) λu aC hu=>?_;subst aC;refine⟨t++u,by simp,λa ha=>?_⟩;rcases List.mem_append.mp ha with q|q
  ·exact ht a q
  ·cases z:s.heap.get? a with
   |none=>rfl
   |some o=>obtain⟨o',e'⟩:=x.live a o z;rw[hu a q]at e';exact(Option.some_ne_none _ e'.symm).elim
theorem aJ.weaken (k:aJ own i s i' s'){own':List Addr}(ho:∀b∈own,b∈own'):aJ own' i s i' s':=⟨λb o e h1 h2=>k.keep b o e (λq=>h1 (ho b q)) h2,k.live,k.grow⟩
theorem aJ.x (k:aJ own i s i' s'):fT own i s s':=λb o e _ h1 h2=>⟨o.slots,k.keep b o e h1 h2⟩
theorem aJ.z7 (x:aJ own i s i' s')(y:fT own i' s' aO):fT own i s aO:=λb o e hn h1 h2=>y b o (x.keep b o e h1 h2) hn h1 (x.off e h2)
theorem fT.weaken (k:fT own i s s'){own':List Addr}(ho:∀b∈own,b∈own'):fT own' i s s':=λb o e hn h1 h2=>k b o e hn (λq=>h1 (ho b q)) h2
abbrev fK (α β:Type):=Pl->Heap->β->α->Prop
def PN (C:Cx)(own:List Addr)(i:Pl)(s:Shared)(lc:β->Loc)(T:fK α β)(r:R β):α->Shared->Prop :=
 λa s'=>∃b hp' i',r=.ok b hp'∧Rep C i' (lc b) hp' s'∧aJ own i s i' s'∧T i' s'.heap b a
def PX (C:Cx)(own:List Addr)(i:Pl)(s:Shared)(r:R β):Value->Shared->Prop:=λe s'=>∃k,r=.gI k∧mu C k e s'∧fT own i s s'
def eF (C:Cx)(own:List Addr)(i:Pl)(s:Shared)(lc:β->Loc)(T:fK α β)(r:R β)(t:Sem α):Prop :=
 r≠.bad->wpAny C.M C.A t (PN C own i s lc T r) (PX C own i s r) s
theorem cH {κ:Type}{o:Option κ}{f:κ->R β}{lc:β->Loc}{T:fK α β}{m:Sem α}(h:∀k,o=some k->eF C own i s lc T (f k) m):eF C own i s lc T (rB o f) m:=by
 cases o with
 |none=>exact λhb=>absurd rfl hb
 |some k=>exact h k rfl
theorem iD {b:Bool}{r:R β}{lc:β->Loc}{T:fK α β}{m:Sem α}(h:b=true->eF C own i s lc T r m):eF C own i s lc T (rI b r) m:=by
 cases b with
 |false=>exact λhb=>absurd rfl hb
 |true=>exact h rfl
theorem PX.az {r:R β}{g:β->HP->R δ}{e:Value}(x:PX C own i s r e s'):PX C own i s (Internal.az r g) e s':=x.elim λn y=>⟨n,y.1▸rfl,y.2⟩
theorem PX.up {r:R β}(k:aJ own i s aB ah){e:Value}{s':Shared}(x:PX C own aB ah r e s'):PX C own i s r e s':=x.elim λn y=>⟨n,y.1,y.2.1,k.z7 y.2.2⟩
theorem PN.up {T:fK α β}{lc:β->Loc}{r:R β}(k:aJ own i s aB ah){a:α}{s':Shared}(x:PN C own aB ah lc T r a s'):PN C own i s lc T r a s':=by
 refine fk x λb hp' i' e h1 h2 h3=>?_;exact⟨b,hp',i',e,h1,k.trans h2,h3⟩
theorem kY {r:R β}{g:β->HP->R δ}(hb:Internal.az r g≠.bad):r≠.bad:=λe=>hb (e▸rfl)
theorem nH {β γ δ:Type}(r:R β)(f:β->HP->R γ)(g:γ->HP->R δ):Internal.az (Internal.az r f) g=Internal.az r λb hp=>Internal.az (f b hp) g:=by cases r<;>rfl
theorem Hw {β γ:Type}{r:R β}{f g:β->HP->R γ}(h:∀b hp,f b hp=g b hp):Internal.az r f=Internal.az r g:=congrArg (Internal.az r) (funext λb=>funext (h b))
theorem Sh {β:Type}{b:β}{hp:HP}{k:Int}{P:Prop}(h:R.ok b hp=.gI k):P:=by cases h
theorem Si {β:Type}{b:β}{hp:HP}:R.ok b hp≠.bad:=λh=>by cases h
theorem Sj {β:Type}(r:R β):Internal.az r .ok=r:=by cases r<;>rfl
theorem dW {T:fK α β}{lc:β->Loc}{a:α}{b:β}(ak:Rep C aB (lc b) au ah)(k:aJ own i s aB ah)(h:T aB ah.heap b a):PN C own i s lc T (.ok b au) a ah:=⟨b,au,aB,rfl,ak,k,h⟩
structure To (C:Cx)(own:List Addr)(i:Pl)(s:Shared)(lc:β->Loc)(T:fK α β)(r:R β)(Q:α->Shared->Prop)(E:Value->Shared->Prop):Prop where
 nb:r≠.bad
 q:∀a s',PN C own i s lc T r a s'->Q a s'
 e:∀x s',PX C own i s r x s'->E x s'
section
variable {T:fK α β}{T':fK γ δ}{lc:β->Loc}{ql:δ->Loc}{r:R β}{g:β->HP->R δ}{a:α}{b:β}{Q:α->Shared->Prop}{Q':γ->Shared->Prop}{E:Value->Shared->Prop}{t:Sem α}
theorem sn (h:∀{Q:α->Shared->Prop} {E:Value->Shared->Prop},To C own i s lc T r Q E->wpAny C.M C.A t Q E s):eF C own i s lc T r t:=λhb=>h ⟨hb,λ_ _ x=>x,λ_ _ x=>x⟩
theorem To.up (q:To C own i s lc T r Q E)(k:aJ own i s aB ah):To C own aB ah lc T r Q E:=⟨q.nb,λ_ _ x=>q.q _ _ (x.up k),λ_ _ x=>q.e _ _ (x.up k)⟩
theorem eF.to (h:eF C own i s lc T r t)(q:To C own i s lc T r Q E):wpAny C.M C.A t Q E s:=wpAny_mono (h q.nb) q.q q.e
theorem cU (h:eF C own i s lc T r t)(q:To C own i s ql T' (Internal.az r g) Q' E)
  (k:∀a b au aB ah,Rep C aB (lc b) au ah->aJ own i s aB ah->T aB ah.heap b a->To C own aB ah ql T' (g b au) Q' E->Q a ah):wpAny C.M C.A t Q E s :=
 wpAny_mono (h (kY q.nb)) (λa ah x=>by
  refine fk x λb au aB eQ h1 h2 h3=>?_;subst eQ;exact k a b au aB ah h1 h2 h3 (To.up (r:=g b au) q h2)) λ_ _ x=>q.e _ _ x.az
theorem To.fin (q:To C own i s lc T (.ok b hp) Q E)(ak:Rep C i (lc b) hp s)(h:T i s.heap b a):Q a s:=q.q _ _ (dW ak (aJ.refl ..) h)
theorem To.at (q:To C own i s lc T (.ok b hp) Q E)(ak:Rep C aB (lc b) hp ah)(k:aJ own i s aB ah)(h:T aB ah.heap b a):Q a ah:=q.q _ _ (dW ak k h)
theorem To.jO (q:To C own i s lc T .bad Q E){P:Prop}:P:=absurd rfl q.nb
theorem To.rB {κ:Type}{o:Option κ}{f:κ->R β}(q:To C own i s lc T (Internal.rB o f) Q E):∃k,o=some k∧To C own i s lc T (f k) Q E:=by
 cases o with
 |none=>exact q.jO
 |some k=>exact⟨k,rfl,q⟩
theorem To.rI {c:Bool}(q:To C own i s lc T (Internal.rI c r) Q E):c=true∧To C own i s lc T r Q E:=by
 cases c with
 |false=>exact q.jO
 |true=>exact⟨rfl,q⟩
theorem To.oB {o:Option β}(q:To C own i s lc T (bQ o hp) Q E):∃k,o=some k∧To C own i s lc T (.ok k hp) Q E:=by
 cases o with
 |none=>exact q.jO
 |some k=>exact⟨k,rfl,q⟩
theorem ew {κ:Type}{o:Option κ}{f:κ->Loc->HP->R β}(h:∀k,o=some k->eF C own i s lc T (f k loc hp) t):eF C own i s lc T (xo o f loc hp) t:=by
 cases o with
 |none=>exact λhb=>absurd rfl hb
 |some k=>exact h k rfl
theorem fZ {c:Bool}{f:Loc->HP->R β}(h:c=true->eF C own i s lc T (f loc hp) t):eF C own i s lc T (xi c f loc hp) t:=by
 cases c with
 |false=>exact λhb=>absurd rfl hb
 |true=>exact h rfl
end
theorem aJ.vl (k:aJ [] i s aB ah)(ae:Rep C i loc hp s){v:V}{a:Value}(x:Val C.no i s.heap v a):Val C.no aB ah.heap v a:=x.keep k.g (k.tup ae λ_ h=>absurd h List.not_mem_nil)
theorem aJ.vls (k:aJ [] i s aB ah)(ae:Rep C i loc hp s){v:List V}{a:List Value}(x:Vals C.no i s.heap v a):Vals C.no aB ah.heap v a:=x.keep k.g (k.tup ae λ_ h=>absurd h List.not_mem_nil)
theorem eF.weaken {T:fK α β}{lc:β->Loc}{r:R β}{t:Sem α}(h:eF C own i s lc T r t){own':List Addr}(ho:∀b∈own,b∈own'):eF C own' i s lc T r t :=
 λhb=>wpAny_mono (h hb) (λ_ _ x=>by obtain⟨b,hp',i',e,h1,h2,h3⟩:=x;exact⟨b,hp',i',e,h1,h2.weaken ho,h3⟩) λ_ _ x=>x.elim λn y=>⟨n,y.1,y.2.1,y.2.2.weaken ho⟩
theorem FunFrames.uy {hb:Heap}(k:∀b o,h.get? b=some o->(∀vs,o.data≠.fields vs)->∃o',h'.get? b=some o'∧∀vs,o'.data≠.fields vs){l:List Env}(x:h.FunFrames hb l):h'.FunFrames hb l:=by
 induction l with
 |nil=>exact trivial
 |cons e l ih=>exact⟨x.1,x.2.1.elim λL y=>y.elim λo z=>(k L o z.2.2.1 z.2.2.2).elim λo' q=>⟨L,o',z.1,z.2.1,q.1,q.2⟩,ih x.2.2⟩
theorem FunFrames.at_ {hb:Heap}{d:Addr}{l:List Env}(x:h.FunFrames hb l)(v:Env)(hv:v∈l)(e:v.frame=some d):∃o,h.get? d=some o:=by
 induction l with
 |nil=>exact absurd hv List.not_mem_nil
 |cons u l ih =>
  rcases List.mem_cons.mp hv with rfl|hv
  ·refine tE (x.2.1) λL o hf _ ho _=>?_;rw[hf]at e;obtain rfl:=oi e;exact⟨o,ho⟩
  ·exact ih x.2.2 hv
theorem dO.keep {m:Str->Option Value}(g:bB i i')(k:bq C.no h h')(kc:∀c v,h.IsCell c v->h'.IsCell c v){y:Str}{n:NameKind}{v:Option V}(x:dO C i h m y n v):dO C i' h' m y n v:=by
 have hc:(∃c a,C.env.cells.lookup y=some c∧h.IsCell c a∧∀u,v=some u->∃b,a=some b∧Val C.no i h u b)->∃c a,C.env.cells.lookup y=some c∧h'.IsCell c a∧∀u,v=some u->∃b,a=some b∧Val C.no i' h' u b:=λx=>by
  refine cg x λc a h1 h2 h3=>?_;exact⟨c,a,h1,kc _ _ h2,λu e=>(h3 u e).elim λb q=>⟨b,q.1,q.2.keep g k⟩⟩
 cases n with
 | «local»=>exact λu e=>(x u e).elim λa q=>⟨a,q.1,q.2.keep g k⟩
 |_=>exact hc x
theorem Rep.step (ae:Rep C i loc hp s){i':Pl}{hp':HP}{s':Shared}(kp:∀b o,s.heap.get? b=some o->b∉i->s'.heap.get? b=some o)(gr:∃t,i'=i++t∧∀a∈t,s.heap.get? a=none)
  (lv:∀a∈i,∃o,s'.heap.get? a=some o∧∀vs,o.data≠.fields vs)
  (len:i'.length=hp'.length) (nd:i'.Nodup) (objs:bq C.no s.heap s'.heap->∀(n:Nat) o,hp'[n]?=some o->∃a,i'[n]?=some a∧fM C.no i' C.w.params s'.heap a o) (hg:s'.gens=s.gens) (ho:s'.os=s.os) (ht:s.toks≤s'.toks) :
  Rep C i' loc hp' s'∧aJ own i s i' s':=by
 have tk:bq C.no s.heap s'.heap:=λa its _ x=>by
  have:=(ae.lW x).2;refine aQ x λn e=>?_;exact⟨n,kp a _ e this⟩
 have g:bB i i':=let⟨t,e,_⟩:=gr;⟨t,e⟩
 have Kt:∀c v,s.heap.IsCell c v->c∉i:=λc v ⟨o,e,hd⟩ hm=>by
  refine cg (ae.gy hm) λ_ _ _ _ q=>?_;refine fj (q.some) λo' e' _ _ q4=>?_;rw[e]at e';obtain rfl:=oi e';exact q4 _ hd
 refine⟨⟨?_,len,objs tk,nd,λa ha=>?_,λb hb=>?_,λb o e=>?_,?_,hg.trans ae.gens,ho.trans ae.os,Nat.lt_of_lt_of_le ae.pos ht,ae.ll,λb hb=>by
  obtain⟨h1,o,e⟩:=ae.ej b hb;refine aj gr λt aC ht=>?_;subst aC;refine⟨λhm=>?_,o,kp b o e h1⟩;rcases List.mem_append.mp hm with q|q
  ·exact h1 q
  ·rw[ht b q]at e;exact(Option.some_ne_none _ e.symm).elim⟩,⟨λb o e _ h2=>kp b o e h2,λb o e=>?_,gr⟩⟩
 ·refine aj (ae.ns) λm hm hl=>?_;refine⟨m,?_,λn v e=>?_⟩
  ·refine lr hm λo es ep e r=>?_;exact⟨o,es,ep,kp _ o e (ae.own _ (.head _)).1,r⟩
  ·refine cg (hl n v e) λx k h1 h2 h3=>?_;exact⟨x,k,h1,h2,dO.keep g tk (λc v x=>let⟨o,e,hd⟩:=x;⟨o,kp c o e (Kt c v ⟨o,e,hd⟩),hd⟩) h3⟩
 ·refine aj gr λt aC ht=>?_;subst aC;rcases List.mem_append.mp ha with q|q
  ·exact ae.new a q
  ·cases z:C.hb.get? a with
   |none=>rfl
   |some o=>have:=ae.base a o z;rw[ht a q]at this;exact(Option.some_ne_none _ this.symm).elim
 ·obtain⟨h1,o,e,r⟩:=ae.own b hb;refine aj gr λt aC ht=>?_;subst aC;refine⟨λhm=>?_,o,kp b o e h1,r⟩;rcases List.mem_append.mp hm with q|q
  ·exact h1 q
  ·rw[ht b q]at e;exact(Option.some_ne_none _ e.symm).elim
 ·refine kp b o (ae.base b o e) λhm=>?_;rw[ae.new b hm]at e;exact(Option.some_ne_none _ e.symm).elim
 ·refine FunFrames.uy (λb o e hn=>?_) ae.fR;by_cases hm:b∈i
  ·exact lv b hm
  ·exact⟨o,kp b o e hm,hn⟩
 ·by_cases hm:b∈i
  ·refine aj (lv b hm) λo' e' _=>?_;exact⟨o',e'⟩
  ·exact⟨o,kp b o e hm⟩
end
section
variable {no:List Addr}{i i' aB cm:Pl}{h h' dR ie:Heap}{α β γ δ:Type}{C:Cx}{loc loc':Loc}{hp hp' au bJ:HP}{s s' ah aO:Shared}{own:List Addr}
theorem z8 {α:Type}{l:List α}(nd:l.Nodup){n k:Nat}{x:α}(e1:l[n]?=some x)(e2:l[k]?=some x):n=k:=(List.getElem?_inj (List.getElem?_eq_some_iff.mp e1).1 nd).mp (e1.trans e2.symm)
theorem Rep.more (ae:Rep C i loc hp s){h':Heap}{t:Nat}{d:Drawn}(k:∀b o,s.heap.get? b=some o->h'.get? b=some o)(ht:s.toks≤t:=by repeat constructor) :
  Rep C i loc hp {heap:=h',gens:=s.gens,drawn:=d,toks:=t,os:=s.os}∧aJ own i s i {heap:=h',gens:=s.gens,drawn:=d,toks:=t,os:=s.os} :=
 ae.step (λb o e _=>k b o e) ⟨[],by simp,by simp⟩ (λa ha=>by
  refine cg (ae.gy ha) λ_ _ _ _ q=>?_;refine fj (q.some) λo e _ h2 _=>?_;exact⟨o,k a o e,h2⟩) ae.len ae.nd (λtk n o e=>by
  refine aj (ae.objs n o e) λa e1 q=>?_;refine aj (q.some) λob e2 _=>?_;exact⟨a,e1,q.keep (bB.refl i) tk ((k a ob e2).trans e2.symm)⟩) rfl rfl ht
theorem Rep.toks (ae:Rep C i loc hp s)(t:Nat)(ht:s.toks≤t:=by repeat constructor):Rep C i loc hp {s with toks:=t}∧aJ own i s i {s with toks:=t}:=ae.more (d:=s.drawn) (λ_ _ e=>e) ht
theorem Rep.push (ae:Rep C i loc hp s)(o:Obj):Rep C i loc hp {s with heap:=s.heap.push o}∧aJ own i s i {s with heap:=s.heap.push o} :=
 ae.more (t:=s.toks) (d:=s.drawn) λ_ _ e=>Heap.get?_push_of_some _ e
theorem EF (h:Heap):h.get? h.objs.size=none:=by
 cases q:h.get? h.objs.size with
 |none=>rfl
 |some o=>exact absurd (Heap.lt_size q) (Nat.lt_irrefl _)
theorem Rep.join (R:Rep C i loc hp s){a:Addr}{o:O}(qm:a∉i)(aag:a∉C.own)(hb:C.hb.get? a=none)(cT:a∉C.no)(ho:fM C.no (i++[a]) C.w.params s.heap a o):Rep C (i++[a]) loc (hp++[o]) s where
 ns:=R.ns.elim λm x=>⟨m,x.1,λn v e=>(x.2 n v e).elim λy z=>z.elim λk w=>⟨y,k,w.1,w.2.1,dO.keep (bB.snoc i a) (bq.refl _ _) (λ_ _ h=>h) w.2.2⟩⟩
 len:=by rw[List.length_append,List.length_append,R.len];rfl
 objs:=λn ob e=>by
  by_cases hl:n<hp.length
  ·rw[List.getElem?_append_left hl]at e;exact(R.objs n ob e).elim λb q=>⟨b,(bB.snoc i a).get q.1,q.2.keep (bB.snoc i a) (bq.refl _ _) rfl⟩
  ·have hle:=(List.getElem?_eq_some_iff.mp e).1;rw[List.length_append]at hle;obtain rfl:hp.length=n:=Nat.le_antisymm (Nat.le_of_not_lt hl) (Nat.le_of_lt_succ hle);exact⟨a,R.len▸List.getElem?_concat_length,oi (List.getElem?_concat_length.symm.trans e)▸ho⟩
 nd:=List.nodup_append.mpr ⟨R.nd,List.pairwise_singleton _ a,λx hx y hy e=>qm (List.mem_singleton.mp hy▸e▸hx)⟩
 new:=λb hm=>(List.mem_append.mp hm).elim (R.new b) λq=>List.mem_singleton.mp q▸hb
 own:=λb h=>⟨λhm=>(List.mem_append.mp hm).elim (R.own b h).1 λq=>aag (List.mem_singleton.mp q▸h),(R.own b h).2⟩
 base:=R.base
 fR:=R.fR
 gens:=R.gens
 os:=R.os
 pos:=R.pos
 ll:=R.ll
 ej:=λb h=>⟨λhm=>(List.mem_append.mp hm).elim (R.ej b h).1 λq=>cT (List.mem_singleton.mp q▸h),(R.ej b h).2⟩
theorem Rep.fresh (R:Rep C i loc hp s){a:Addr}(hn:s.heap.get? a=none):a∉i∧a∉C.own∧C.hb.get? a=none∧a∉C.no:=by
 have no:∀{P:Prop},(∃o,s.heap.get? a=some o)->P:=λx=>x.elim λo e=>bx (hn.symm.trans e);refine⟨λhm=>?_,λhm=>no ((R.own a hm).2.imp λo x=>x.1),?_,λhm=>no (R.ej a hm).2⟩
 ·refine cg (R.gy hm) λ_ _ _ _ q=>?_;exact no (q.some.imp λo x=>x.1)
 ·cases z:C.hb.get? a with
  |none=>rfl
  |some o=>exact no ⟨o,R.base a o z⟩
theorem Rep.alloc (ae:Rep C i loc hp s){a:Addr}{o:O}{h':Heap}{t:Nat}{d:Drawn}(k:∀b o,s.heap.get? b=some o->h'.get? b=some o)(hn:s.heap.get? a=none)
  (ho:bq C.no s.heap h'->fM C.no (i++[a]) C.w.params h' a o) (ht:s.toks≤t:=by repeat constructor) :
  Rep C (i++[a]) loc (hp++[o]) {heap:=h',gens:=s.gens,drawn:=d,toks:=t,os:=s.os}∧aJ own i s (i++[a]) {heap:=h',gens:=s.gens,drawn:=d,toks:=t,os:=s.os}:=by
 refine bp (ae.more (own:=own) (d:=d) k ht) λR K=>?_;refine zQ (ae.fresh hn) λh1 h2 h3 h4=>?_;exact⟨R.join h1 h2 h3 h4 (ho (bq.of k)),K.keep,K.live,[a],rfl,λb hb=>List.mem_singleton.mp hb▸hn⟩
theorem Rep.put (ae:Rep C i loc hp s){n:Nat}{a:Addr}{o':O}(ha:i[n]?=some a){h':Heap}{t:Nat}{d:Drawn}(hs:Heap.SameBut a s.heap h')(ho:bq C.no s.heap h'->fM C.no i C.w.params h' a o')(ht:s.toks≤t:=by repeat constructor) :
  Rep C i loc (hp.set n o') {heap:=h',gens:=s.gens,drawn:=d,toks:=t,os:=s.os}∧aJ own i s i {heap:=h',gens:=s.gens,drawn:=d,toks:=t,os:=s.os}:=by
 have hm:a∈i:=List.mem_of_getElem? ha;have kp:∀b o,s.heap.get? b=some o->b∉i->h'.get? b=some o:=λb o e hb=>(hs.2 b (λq=>hb (q▸hm))).trans e
 have tk:bq C.no s.heap h':=λb its _ x=>by
  have:=(ae.lW x).2;refine aQ x λn e=>?_;exact⟨n,kp b _ e this⟩
 refine ae.step kp ⟨[],by simp,by simp⟩ (λb hb=>?_) (by simp[ae.len]) ae.nd (λ_ k ob e=>?_) rfl rfl ht
 ·by_cases Nc:b=a
  ·subst Nc;refine fj ((ho tk).some) λo e _ h2 _=>?_;exact⟨o,e,h2⟩
  ·refine cg (ae.gy hb) λ_ _ _ _ q=>?_;refine fj (q.some) λo e _ h2 _=>?_;exact⟨o,(hs.2 b Nc).trans e,h2⟩
 ·by_cases hk:n=k
  ·subst hk;rw[List.getElem?_set]at e;have hl:n<hp.length:=by have:=(List.getElem?_eq_some_iff.mp ha).1;rw[ae.len]at this;exact this
   simp[hl]at e;subst e;exact⟨a,ha,ho tk⟩
  ·rw[List.getElem?_set,if_neg hk]at e;refine aj (ae.objs k ob e) λb e1 q=>?_;refine⟨b,e1,q.keep (bB.refl i) tk (hs.2 b ?_)⟩;rintro rfl;exact hk (z8 ae.nd ha e1)
def gz (P:Params)(x:Str)(v:V):Prop:=x≠"__name__" ∧
 ((∃a,nsIn (K P) mainGlobals x=some (some a)∧∀(no:List Addr) (i:Pl) (h:Heap),(K P).In h->(∀b∈no,(K P).lookup b=none)->Val no i h v a)∨∃a,nsIn (K P) mainGlobals x=some none∧bootBuiltins x=some a∧v=.fix a)
theorem xn {x:Str}{l:List Str}:∀{n:Nat},yI x l=some n->l[n]?=some x:=by
 induction l with
 |nil=>intro n e;exact bx e
 |cons y r ih =>
  intro n e;unfold yI at e;by_cases hy:(y==x)=true
  ·rw[if_pos hy]at e;obtain rfl:=oi e;exact congrArg some (beq_iff_eq.mp hy)
  ·rw[if_neg hy]at e;refine aj (Option.map_eq_some_iff.mp e) λk hk bH=>?_;subst bH;exact ih hk
theorem BW {sc:Sc}(nd:(sc.map (·.1)).Nodup):(bW sc).Nodup:=by
 unfold bW;exact List.Nodup.sublist (List.Sublist.map _ (List.filter_sublist)) nd
theorem hR {k:Nat}(O:C.Ok k)(ae:Rep C i loc hp s){x:Str}{pos:Pos}(hgl:∀v,iT.lookup x=some v->gz C.w.params x v) :
  eF C own i s (λ_=>loc) (Val C.no) (gQ C.sc x loc hp) (eval (.Name x pos) C.env):=by
 unfold gQ;refine ew λkd hk=>?_;refine bp (O.names x kd hk) λfi Yv=>?_
 have wt:(kd=.local∨kd=.cell∨kd=.free)->eF C own i s (λ_=>loc) (Val C.no) (xo (slot C.sc x) aa loc hp) (eval (.Name x pos) C.env):=λhk3=>ew λn hs=>sn λq=>by
  refine aj (q.rB) λov hl q=>?_;refine aj (q.rB) λv aC q=>?_;subst aC;refine aj (ae.ns) λm hm kz=>?_;refine cg (kz n _ hl) λy kk e1 e2 e3=>?_;obtain rfl:x=y:=oi ((xn hs).symm.trans e1);obtain rfl:=oi (hk.symm.trans e2);refine wpAny_Name ?_ Yv;rcases hk3 with rfl|rfl|rfl
  ·refine aj (e3 v rfl) λa q1 q2=>?_;exact wpAny_loadName_local O.kind fi hm q1 (q.fin ae q2)
  ·refine cg e3 λc a q1 q2 q3=>?_;refine aj (q3 v rfl) λb aC q4=>?_;subst aC;exact wpAny_loadName_cell O.kind fi.1 q1 q2 (q.fin ae q4)
  ·refine cg e3 λc a q1 q2 q3=>?_;refine aj (q3 v rfl) λb aC q4=>?_;subst aC;exact fi.1.elim (λz=>wpAny_loadName_cell O.kind z q1 q2 (q.fin ae q4)) λz=>wpAny_loadName_free O.kind z.1 q1 q2 (q.fin ae q4) z.2
 cases kd with
 |globalExplicit=>exact λhb=>absurd rfl hb
 |globalImplicit =>
  exact ew λv hg=>sn λq=>by
   refine wi (O.top) λp loose mg mb T=>?_;refine bp (hgl v hg) λhn hv=>?_;refine Calls.Name_function_global O.kind fi ?_ Yv;have hm:s.heap.Ns C.env.globals mg:=O.globals▸T.g.keeps ae.base;rcases hv with⟨a,e,hv⟩|⟨a,e,hv,rfl⟩
   ·exact Calls.loadGlobal_global (mg:=mg) hm (mg_of O.dJ T.g e) (q.fin ae (hv C.no i s.heap (λb o q=>ae.base b o (O.dJ b o q)) λb hb=>by
     cases q:(K C.w.params).lookup b with
     |none=>rfl
     |some o=>exact bx ((O.noNew b hb).symm.trans (O.dJ b o q))))
   ·exact Calls.loadGlobal_builtin (mg:=mg) (mb:=mb) hm (mg_none_of O.dJ T.g e) (O.builtins▸T.b.keeps ae.base) ((T.builtins x hn).trans hv) (q.fin ae (.fix a))
 | «local»=>exact wt (.inl rfl)
 |cell=>exact wt (.inr (.inl rfl))
 |free=>exact wt (.inr (.inr rfl))
theorem uz {t:Sem α}{T:fK α β}{lc:β->Loc}{r:R β}{g:β->HP->R δ}(h:eF C own i s lc T r t)(hb:az r g≠.bad){Q:α->Shared->Prop}{E:Value->Shared->Prop}
  (hQ:∀a b au aB ah,az r g=g b au->Rep C aB (lc b) au ah->aJ own i s aB ah->T aB ah.heap b a->g b au≠.bad->Q a ah)
  (hE:∀e s',PX C own i s (az r g) e s'->E e s'):wpAny C.M C.A t Q E s :=
 wpAny_mono (h (kY hb)) (λa ah x=>by
  refine fk x λb au aB eQ h1 h2 h3=>?_;subst eQ;exact hQ a b au aB ah rfl h1 h2 h3 hb) λ_ _ x=>hE _ _ x.az
theorem eF.up {T:fK α β}{lc:β->Loc}{r:R β}{t:Sem α}(h:eF C own aB ah lc T r t)(k:aJ own i s aB ah)(hb:r≠.bad):wpAny C.M C.A t (PN C own i s lc T r) (PX C own i s r) ah :=
 wpAny_mono (h hb) (λ_ _ x=>x.up k) λ_ _ x=>x.up k
theorem Yw {T:fK α β}{lc:β->Loc}{a:α}{b:β}(ak:Rep C cm (lc b) au aO)(k:aJ own i s aB ah)(k':aJ own aB ah cm aO)(h:T cm aO.heap b a):PN C own i s lc T (.ok b au) a aO:=dW ak (k.trans k') h
theorem dP {T:fK α β}{lc:β->Loc}{a:α}{b:β}(ak:Rep C i (lc b) au s){t:Nat}(h:T i s.heap b a)(ht:s.toks≤t:=by repeat constructor):PN C own i s lc T (.ok b au) a {s with toks:=t} :=
 let⟨R,k⟩:=ak.toks t ht;dW R k h
theorem To.toks {T:fK α β}{lc:β->Loc}{a:α}{b:β}{Q:α->Shared->Prop}{E:Value->Shared->Prop}(q:To C own i s lc T (.ok b hp) Q E)(ak:Rep C i (lc b) hp s){t:Nat}(h:T i s.heap b a)(ht:s.toks≤t):Q a {s with toks:=t}:=q.q _ _ (dP ak h ht)
noncomputable abbrev IsB:fK Bool Bool:=λ_ _ b a=>a=b
abbrev SV (C:Cx)(own:List Addr)(i:Pl)(loc:Loc)(s:Shared)(r:R V)(t:Sem Value):Prop:=eF C own i s (λ_=>loc) (Val C.no) r t
abbrev SB (C:Cx)(own:List Addr)(i:Pl)(loc:Loc)(s:Shared)(r:R Bool)(t:Sem Bool):Prop:=eF C own i s (λ_=>loc) IsB r t
theorem dC (l:List Nat):(S l).length=l.length:=by simp[S,Str.length]
theorem Nd (x y:List Nat):S x++S y=S (x++y):=by
 show Str.mk ((S x).cps++(S y).cps)=_;simp[S]
theorem EG {x y:List Nat}(e:S x=S y):x=y:=by
 have:(S x).cps.toList=(S y).cps.toList:=by rw[e]
 simpa [S]using this
theorem mv (ae:Rep C i loc hp s){v:V}{a:Value}(hv:Val C.no i s.heap v a):SB C own i loc s (bQ (kj v) hp) (truthy a):=by
 intro hb;cases hv with
 |none=>exact truthy_none (dW ae (aJ.refl ..) rfl)
 |bool b=>exact wpAny_truthy_bool (dW ae (aJ.refl ..) rfl)
 |int k t=>exact truthy_int (dW ae (aJ.refl ..) rfl)
 |_=>exact absurd rfl hb
theorem EH {k:Int}(h:dz k=true):Builtin.Int.intBits k≤64:=by
 have hk:k.natAbs<2 ^ 62:=of_decide_eq_true h;have:=intBits_le hk
 (apply aI<;>trivial)
theorem Rep.wu (ae:Rep C i loc hp s):s.heap.objs.size∉C.no:=λhm=>by
 obtain⟨_,o,e⟩:=ae.ej _ hm;exact absurd (Heap.lt_size e) (Nat.lt_irrefl _)
theorem uA (ae:Rep C i loc hp s){vs:List V}{as:List Value}(hv:Vals C.no i s.heap vs as){t:Nat}{d:Drawn}(ht:s.toks≤t:=by repeat constructor) :
  ∃s',s'={s with heap:=s.heap.push {cls:=.type "tuple",data:=.seq as.toArray},toks:=t,drawn:=d}∧Rep C i loc hp s'∧aJ own i s i s'∧Val C.no i s'.heap (.tup vs) (.ref s.heap.objs.size):=by
 refine bp (ae.more (own:=own) (t:=t) (d:=d) (h':=s.heap.push {cls:=.type "tuple",data:=.seq as.toArray}) (λ_ _ e=>Heap.get?_push_of_some _ e) ht) λR k=>?_;exact⟨_,rfl,R,k,.tup (ae.wu) ⟨_,Heap.get?_push_size _ rfl⟩ (by simpa using hv.keep (bB.refl i) (bq.of λ_ _ e=>Heap.get?_push_of_some _ e))⟩
theorem uB (ae:Rep C i loc hp s){vs:List V}{as:List Value}(hv:Vals C.no i s.heap vs as){t:Nat}{d:Drawn}(ht:s.toks≤t:=by repeat constructor) :
  ∃s',s'={s with heap:=s.heap.push {cls:=.type "list",data:=.seq as.toArray},toks:=t,drawn:=d}∧Rep C (i++[s.heap.objs.size]) loc (hp++[.list vs]) s'∧aJ own i s (i++[s.heap.objs.size]) s' ∧
   Val C.no (i++[s.heap.objs.size]) s'.heap (.ref hp.length) (.ref s.heap.objs.size):=by
 have kp:∀b o,s.heap.get? b=some o->(s.heap.push {cls:=.type "list",data:=.seq as.toArray}).get? b=some o:=λ_ _ e=>Heap.get?_push_of_some _ e
 have hn:s.heap.get? s.heap.objs.size=none:=by
  cases q:s.heap.get? s.heap.objs.size with
  |none=>rfl
  |some o=>exact absurd (Heap.lt_size q) (Nat.lt_irrefl _)
 refine bp (ae.alloc (own:=own) (t:=t) (d:=d) (a:=s.heap.objs.size) (o:=.list vs) kp hn (λtk=>⟨as.toArray,_,Heap.get?_push_size _ rfl,by simpa using hv.keep (bB.snoc i _) tk⟩) ht) λR k=>?_;exact⟨_,rfl,R,k,.ref _ _ (by rw[<- ae.len];simp)⟩
theorem Rep.ref (ae:Rep C i loc hp s){n:Nat}{a:Addr}(e:i[n]?=some a){o:O}(q:hp[n]?=some o):fM C.no i C.w.params s.heap a o:=by
 refine aj (ae.objs n o q) λb e1 h=>?_;rw[e]at e1;cases e1;exact h
theorem W5 (ae:Rep C i loc hp s){x y:List Nat}{a b:Value}(hu:Val C.no i s.heap (.str x) a)(hv:Val C.no i s.heap (.str y) b)(h:fu x.length y.length=true):SV C own i loc s (.ok (.str (x++y)) hp) (binaryOp .Add a b):=λ_=>by
 refine aQ (hu.cP) λt aC=>?_;subst aC;refine aQ (hv.cP) λt' aC=>?_;subst aC;have tN:∀{l:List Nat},((S l).length==0)=true->l=[]:=λh=>List.eq_nil_of_length_eq_zero ((dC _).symm.trans (beq_iff_eq.mp h));refine P.add_str ?_;by_cases h1:(S x).length==0
 ·rw[if_pos h1,tN h1];exact dW ae (aJ.refl ..) (.str y _)
 ·rw[if_neg h1];by_cases h2:(S y).length==0
  ·rw[if_pos h2,tN h2,List.append_nil];exact dW ae (aJ.refl ..) (.str x _)
  ·rw[if_neg h2,Nd];exact⟨by rw[dC,List.length_append];exact of_decide_eq_true h,dP ae (.str _ _)⟩
theorem CE {its:Array Value}{vs:List V}{i:Pl}{h:Heap}(x:Vals no i h vs its.toList)(e:its.isEmpty=true):vs=[]:=by
 have:=x.length;rw[show its=#[]by simpa using e]at this;exact List.eq_nil_of_length_eq_zero this
theorem W6 (ae:Rep C i loc hp s){x y:List V}{a b:Value}(hu:Val C.no i s.heap (.tup x) a)(hv:Val C.no i s.heap (.tup y) b)(h:fu x.length y.length=true):SV C own i loc s (.ok (.tup (x++y)) hp) (binaryOp .Add a b):=λ_=>by
 obtain⟨a,its,rfl,mL,⟨n1,hx⟩,xs⟩:=hu.fA;obtain⟨b,jd,rfl,hny,⟨n2,hy⟩,ys⟩:=hv.fA;by_cases h1:its.isEmpty=true
 ·cases CE xs h1
  exact concat_meets ⟨_,hx,rfl⟩ ⟨_,hy,rfl⟩ noFill_tuple_add seq_tuple_add PySem.F.slot_tuple_add PySem.F.entry_tuple_add (PySem.F.args_tuple_add_2 _ _)
   (tuple_addW0 a b its jd n1 n2 none none #[] #[] h1) ⟨hx,hy,dW ae (aJ.refl ..) (.tup hny ⟨_,hy⟩ ys)⟩
 ·by_cases h2:jd.isEmpty=true
  ·cases CE ys h2
   refine concat_meets ⟨_,hx,rfl⟩ ⟨_,hy,rfl⟩ noFill_tuple_add seq_tuple_add PySem.F.slot_tuple_add PySem.F.entry_tuple_add (PySem.F.args_tuple_add_2 _ _)
    (tuple_addW1 a b its jd n1 n2 none none #[] #[] h1 h2) ⟨hx,hy,dW ae (aJ.refl ..) ?_⟩
   rw[List.append_nil];exact .tup mL ⟨_,hx⟩ xs
  ·refine P.add_tuple hx hy h1 h2 ?_ (by rw[<- Array.length_toList,<- Array.length_toList,<- xs.length,<- ys.length];exact of_decide_eq_true h);refine fj (uA (own:=own) ae (xs.append ys) (t:=s.toks) (d:=s.drawn)) λs' e R k w=>?_;rw[show its++jd=(its.toList++jd.toList).toArray by simp];exact e▸dW R k w
theorem Yr (ae:Rep C i loc hp s){m k:Nat}{x y:List V}{a b:Value}(hu:Val C.no i s.heap (.ref m) a)(hv:Val C.no i s.heap (.ref k) b)(q1:hp[m]?=some (.list x))(q2:hp[k]?=some (.list y))(h:fu x.length y.length=true):SV C own i loc s (.ok (.ref hp.length) (hp++[.list (x++y)])) (binaryOp .Add a b):=λ_=>by
 refine aj (hu.cQ) λa aC e1=>?_;subst aC;refine aj (hv.cQ) λb aC e2=>?_;subst aC;refine eH (ae.ref e1 q1) λits n1 hx xs=>?_;refine eH (ae.ref e2 q2) λjd n2 hy ys=>?_;refine P.add_list hx hy ?_ (by rw[<- Array.length_toList,<- Array.length_toList,<- xs.length,<- ys.length];exact of_decide_eq_true h);refine fj (uB (own:=own) ae (xs.append ys) (t:=s.toks) (d:=s.drawn)) λs' e R k w=>?_;rw[show its++jd=(its.toList++jd.toList).toArray by simp];exact e▸dW R k w
theorem qo {f:Int->Int->R V}{op:Operator}{u v:V}{a b:Value}(hu:Val C.no i s.heap u a)(hv:Val C.no i s.heap v b)(h:∀x y t t',SV C own i loc s (f x y) (binaryOp op (.int x t) (.int y t'))):SV C own i loc s (oz .bad u v f) (binaryOp op a b):=by
 cases u with
 |int x =>
  cases v with
  |int y =>
   refine aQ (hu.dp) λt aC=>?_;subst aC;refine aQ (hv.dp) λt' aC=>?_;subst aC;exact h x y t t'
  |_=>exact λhb=>absurd rfl hb
 |_=>exact λhb=>absurd rfl hb
theorem Hx (ae:Rep C i loc hp s){op:Operator}{u v:V}{a b:Value}(hu:Val C.no i s.heap u a)(hv:Val C.no i s.heap v b):SV C own i loc s (jy op u v hp) (binaryOp op a b):=by
 cases op with
 |Add =>
  cases u with
  |int x =>
   cases v with
   |int y =>
    refine aQ (hu.dp) λt aC=>?_;subst aC;refine aQ (hv.dp) λt' aC=>?_;subst aC;exact λ_=>add_int (dP ae (.int _ _))
   |_=>exact λhb=>absurd rfl hb
  |str x=>exact cH λy hy=>iD λh=>W5 ae hu (fz hy▸hv) h
  |tup x=>exact cH λy hy=>iD λh=>W6 ae hu (rp hy▸hv) h
  |ref m=>exact cH λx hx=>cH λy hy=>iD λh=>let⟨k,e,q⟩:=nE hy;Yr ae hu (e▸hv) (dE hx) q h
  |_=>exact λhb=>absurd rfl hb
 |Sub=>exact qo hu hv λ_ _ _ _ _=>sub_int (dP ae (.int _ _))
 |Mult=>exact qo hu hv λ_ _ _ _=>iD λh _=>mul_int (dP ae (.int _ _)) (IntMulOk.of_left (EH (bk h).1))
 |Mod =>
  refine qo hu hv λx y _ _=>iD λh _=>?_;have h:=of_decide_eq_true h;refine mod_int' (Int.ne_of_gt h) ?_;rw[Int.fmod_eq_emod_of_nonneg _ (Int.le_of_lt h)];exact dP ae (.int _ _)
 |_=>exact λhb=>absurd rfl hb
theorem xp {v:V}{vs:List V}{d:List PyData}(e:fQ (v::vs)=some d):∃x xs,hO v=some x∧fQ vs=some xs∧d=x::xs:=by
 unfold fQ at e;cases e1:hO v with
 |none=>rw[e1]at e;exact bx e
 |some x=>cases e2:fQ vs with
  |none=>rw[e1,e2]at e;exact bx e
  |some xs=>rw[e1,e2]at e;exact⟨x,xs,rfl,rfl,(oi e).symm⟩
def yM (h:Heap)(v:V)(a:Value):Prop:=∀d,hO v=some d->Reads h a d []
def Aa (h:Heap)(vs:List V)(as:List Value):Prop:=∀d,fQ vs=some d->ReadsAll h as d []
theorem mJ {α β:Type}{o:Option α}{f:α->β}{b:β}(h:o.map f=some b):∃a,o=some a∧f a=b:=Option.map_eq_some_iff.mp h
theorem uC (no:List Addr)(i:Pl)(h:Heap):(∀v a,Val no i h v a->yM h v a)∧∀vs as,Vals no i h vs as->Aa h vs as:=by
 have n0:∀d,hO .none=some d->Reads h .none d []:=λd e=>oi e▸.none
 have H1:∀{v a},Val no i h v a->yM h v a:=λx=>Val.rec (motive_1:=λv a _=>yM h v a) (motive_2:=λvs as _=>Aa h vs as) n0 (λb d e=>oi e▸.bool b) (λk t d e=>oi e▸.int k t) (λl t d e=>oi e▸.str _ t)
  (λ_ x _ ih d e=>let⟨ds,e1,e2⟩:=mJ e;let⟨_,hx⟩:=x;e2▸.tuple hx rfl rfl (ih ds e1)) (λ_ _ _ _ e=>bx e) (λ_ _ e=>bx e) (λd e=>oi e▸.nil) (λ_ _ i1 i2 d e=>let⟨_,_,e1,e2,e3⟩:=xp e;e3▸.cons (i1 _ e1) (i2 _ e2)) x
 refine⟨λ_ _=>H1,λvs as x=>?_⟩
 exact Vals.rec (motive_1:=λv a _=>yM h v a) (motive_2:=λvs as _=>Aa h vs as) n0 (λb d e=>oi e▸.bool b) (λk t d e=>oi e▸.int k t) (λl t d e=>oi e▸.str _ t)
  (λ_ x _ ih d e=>let⟨ds,e1,e2⟩:=mJ e;let⟨_,hx⟩:=x;e2▸.tuple hx rfl rfl (ih ds e1)) (λ_ _ _ _ e=>bx e) (λ_ _ e=>bx e) (λd e=>oi e▸.nil) (λ_ _ i1 i2 d e=>let⟨_,_,e1,e2,e3⟩:=xp e;e3▸.cons (i1 _ e1) (i2 _ e2)) x
theorem qp {h:Heap}{v:V}{a:Value}{d:PyData}(x:Val no i h v a)(e:hO v=some d):Reads h a d []:=(uC no i h).1 v a x d e
theorem uD {h:Heap}{vs:List V}{as:List Value}{d:List PyData}(x:Vals no i h vs as)(e:fQ vs=some d):ReadsAll h as d []:=(uC no i h).2 vs as x d e
theorem xq (ae:Rep C i loc hp s){v:V}{a:Value}{d:PyData}(hv:Val C.no i s.heap v a)(e:mc hp v=some d):∃as,Reads s.heap a d as:=by
 cases v with
 |ref k =>
  refine aj (bE e) λxs q e=>?_;refine aj (bE e) λds e1 e=>?_;refine aj (hv.cQ) λb aC e'=>?_;subst aC;refine eH (ae.ref e' (dE q)) λits n h1 h2=>?_;cases oi e
  exact⟨_,.list h1 rfl rfl (uD h2 e1)⟩
 |_=>exact⟨_,qp hv e⟩
theorem EI (ae:Rep C i loc hp s){vs:List V}{as:List Value}(x:Vals C.no i s.heap vs as):∀{ds:List PyData},md hp vs=some ds->∃bs,ReadsAll s.heap as ds bs:=by
 induction vs generalizing as with
 |nil=>intro ds e;rw[x.wq];cases oi e;exact⟨_,.nil⟩
 |cons v vs ih =>
  intro ds e;obtain⟨a,bs,rfl,x,y⟩:=x.inv;obtain⟨d,e1,e⟩:=bE e;obtain⟨ds',e2,e⟩:=bE e;obtain⟨_,h1⟩:=xq ae x e1;refine aQ (ih y e2) λ_ h2=>?_;cases oi e
  exact⟨_,.cons h1 h2⟩
theorem xr (ae:Rep C i loc hp s){v:V}{a:Value}{d:PyData}(hv:Val C.no i s.heap v a)(e:wh hp v=some d):∃as,Reads s.heap a d as:=by
 cases v with
 |tup vs =>
  refine aj (bE e) λds e1 e=>?_;obtain⟨a,its,rfl,hn,⟨n,hx⟩,y⟩:=hv.fA;refine aQ (EI ae y e1) λbs h2=>?_;cases oi e
  exact⟨_,.tuple hx rfl rfl h2⟩
 |_=>exact xq ae hv e
theorem Ab {k:Nat}(O:C.Ok k):C.A.units+200<cLine:=by have:=O.units;show _<9900;(apply Hi<;>trivial)
theorem Ac {v:V}{a:Value}{b:Bool}(hv:Val no i h v a)(e:kl v=some b):PySem.plainIs a .none=true∧(a==Value.none)=b:=by
 cases hv<;>first|exact bx e|exact⟨rfl,oi e⟩
def rq (P:Params):Prop:=∀(w:World),w.params=P->∀(A:Around) (E:Value->Shared->Prop) (s:Shared) (x:List Nat) (t:Tok) (Q:Value->Shared->Prop),(K P).In s.heap ->
 (Q (.bool (eX.lookup x).isSome) {s with toks:=s.toks+1}->wpAny (model pw w) A (compareOp .In (.str (S x) t) (.ref 87)) Q E s) ∧
 (Q (.bool (!(eX.lookup x).isSome)) {s with toks:=s.toks+1}->wpAny (model pw w) A (compareOp .NotIn (.str (S x) t) (.ref 87)) Q E s)
theorem CF (y:List Nat)(c:Nat):(!(Builtin.Str.occurrences (S y) (S [c]) 0 (S y).length 1).isEmpty)=y.contains c:=by
 have:S [c]=⟨#[c]⟩:=rfl;rw[this,StrLaws.found_one,Bool.eq_iff_iff];simp[S];exact decide_eq_true_iff
def Yx (C:Cx)(own:List Addr)(i:Pl)(loc:Loc)(hp:HP)(s:Shared)(a b:Value)(r:Bool):Prop:=SV C own i loc s (.ok (.bool r) hp) (compareOp .In a b)∧SV C own i loc s (.ok (.bool (!r)) hp) (compareOp .NotIn a b)
theorem aah {k:Nat}(O:C.Ok k)(ae:Rep C i loc hp s){u:V}{vs:List V}{a b:Value}(hu:Val C.no i s.heap u a)(hv:Val C.no i s.heap (.tup vs) b){ds:List PyData}{d:PyData}{r:Bool}(e1:fQ vs=some ds)(e2:hO u=some d)(e:Hl ds d=some r):Yx C own i loc hp s a b r:=by
 cases hs:SeqAt.shaped (.tuple ds)&&SeqAt.shaped d with
 |false=>unfold Hl at e;rw[hs]at e;exact bx e
 |true =>
  unfold Hl at e;rw[hs]at e;refine bp (bk hs) λh1 h2=>?_;cases oi e
  obtain⟨b,its,rfl,hn,⟨n,hx⟩,y⟩:=hv.fA;have rc:Reads s.heap (.ref b) (.tuple ds) []:=.tuple hx rfl rfl (uD y e1);have l1:PyData.canLayAll0 ds=true:=by have:=SeqAt.canLay_of_shaped h1;simpa [PyData.canLay0]using this
  have room:C.A.units+1+min (PyData.depthAll ds) d.depth<cLine:=by
   have:=Nat.min_le_right (PyData.depthAll ds) d.depth;have:=SeqAt.depth_of_shaped h2;have:=Ab O;omega
  exact⟨λ_=>SeqAt.in_tuple_reads rc (qp hu e2) l1 (SeqAt.canLay_of_shaped h2) room (dW ae (aJ.refl ..) (.bool _)),λ_=>SeqAt.notIn_tuple_reads rc (qp hu e2) l1 (SeqAt.canLay_of_shaped h2) room (dW ae (aJ.refl ..) (.bool _))⟩
theorem Ad {k:Nat}(O:C.Ok k)(IF:rq C.w.params)(ae:Rep C i loc hp s){u v:V}{a b:Value}(hu:Val C.no i s.heap u a)(hv:Val C.no i s.heap v b){r:Bool}(e:qh hp u v=some r):Yx C own i loc hp s a b r:=by
 cases v with
 |tup vs =>
  refine aj (bE e) λds e1 e=>?_;refine aj (bE e) λd e2 e=>?_;exact aah O ae hu hv e1 e2 e
 |str y =>
  refine aj (bE e) λc e1 e=>?_;cases oi e
  refine aQ ((CD e1▸hu:Val C.no i s.heap (.str [c]) a).cP) λt aC=>?_;subst aC;refine aQ (hv.cP) λt' aC=>?_;subst aC;exact⟨λ_=>P.in_str (by rw[CF];exact dW ae (aJ.refl ..) (.bool _)),λ_=>P.notIn_str (by rw[CF];exact dW ae (aJ.refl ..) (.bool _))⟩
 |fix w =>
  refine aj (bE e) λx e1 e=>?_;cases hw:isRef 87 w with
  |false=>rw[hw]at e;exact bx e
  |true =>
   rw[hw]at e;cases oi e
   refine aQ ((fz e1▸hu:Val C.no i s.heap (.str x) a).cP) λt aC=>?_;subst aC;have eb:=hv.ku;rw[oF hw]at eb;subst eb;have X:(K C.w.params).In s.heap:=λb o q=>ae.base b o (O.dJ b o q);exact⟨λ_=>(IF C.w rfl C.A _ s _ _ _ X).1 (dP ae (.bool _)),λ_=>(IF C.w rfl C.A _ s _ _ _ X).2 (dP ae (.bool _))⟩
 |_=>exact bx e
theorem CG {k:Nat}(O:C.Ok k)(ae:Rep C i loc hp s){u v:V}{a b:Value}(hu:Val C.no i s.heap u a)(hv:Val C.no i s.heap v b){r:Bool}(e:tG hp u v=some r) :
  SV C own i loc s (.ok (.bool r) hp) (compareOp .Eq a b)∧SV C own i loc s (.ok (.bool (!r)) hp) (compareOp .NotEq a b):=by
 have hU:=Ab O;refine aj (bE e) λx e1 e=>?_;refine aj (bE e) λy e2 e=>?_;cases hs:SeqAt.shaped x&&SeqAt.shaped y with
 |false=>rw[hs]at e;exact bx e
 |true =>
  rw[hs]at e;cases oi e
  refine aQ (xr ae hu e1) λas ra=>?_;refine aQ (xr ae hv e2) λbs rb=>?_;exact⟨λ_=>eq_dataH ra rb (bk hs).1 (bk hs).2 (by apply yB<;>trivial) (dW ae (aJ.refl ..) (.bool _)),λ_=>ne_dataH ra rb (bk hs).1 (bk hs).2 (by apply yB<;>trivial) (dW ae (aJ.refl ..) (.bool _))⟩
theorem ru {f:Int->Int->Bool}{op:CmpOp}{u v:V}{a b:Value}(ae:Rep C i loc hp s)(hu:Val C.no i s.heap u a)(hv:Val C.no i s.heap v b){r:Bool}(e:oz none u v (λi j=>some (f i j))=some r)
  (h:∀x y t t' {Q:Value->Shared->Prop} {E:Value->Shared->Prop},Q (.bool (f x y)) s->wpAny C.M C.A (compareOp op (.int x t) (.int y t')) Q E s):SV C own i loc s (.ok (.bool r) hp) (compareOp op a b):=by
 cases u with
 |int x =>
  cases v with
  |int y =>
   refine aQ (hu.dp) λt aC=>?_;subst aC;refine aQ (hv.dp) λt' aC=>?_;subst aC;cases oi e
   exact λ_=>h x y t t' (dW ae (aJ.refl ..) (.bool _))
  |_=>exact bx e
 |_=>exact bx e
theorem xt {u v:V}{a b:Value}(hu:Val no i h u a)(hv:Val no i h v b){r:Bool}(e:RM u v=some r):b=.none∧PySem.plainIs a .none=true∧(a==Value.none)=r:=by
 cases v with
 |none=>exact⟨hv.z6,Ac hu e⟩
 |_=>exact bx e
theorem Hy {k:Nat}(O:C.Ok k)(IF:rq C.w.params)(ae:Rep C i loc hp s){op:dT}{u v:V}{a b:Value}(hu:Val C.no i s.heap u a)(hv:Val C.no i s.heap v b){r:Bool}(e:dB op u v hp=some r) :
  SV C own i loc s (.ok (.bool r) hp) (compareOp op.op a b):=by
 cases op with
 |eq=>exact(CG O ae hu hv e).1
 |ne=>obtain⟨r',e',rfl⟩:=mJ e;exact(CG O ae hu hv e').2
 |lt=>exact ru ae hu hv e λ_ _ _ _ _ _ q=>PyProof.Rows.lt_int q
 |le=>exact ru ae hu hv e λ_ _ _ _ _ _ q=>PyProof.Rows.le_int q
 |gt=>exact ru ae hu hv e λ_ _ _ _ _ _ q=>PyProof.Rows.gt_int q
 |ge=>exact ru ae hu hv e λ_ _ _ _ _ _ q=>PyProof.Rows.ge_int q
 |sZ =>
  refine ke (xt hu hv e) λnI h1 h2=>?_;subst nI;exact λ_=>wpAny_is_plain h1 (by rw[h2];exact dW ae (aJ.refl ..) (.bool _))
 |gP =>
  refine aj (mJ e) λr' e' bH=>?_;subst bH;refine ke (xt hu hv e') λnI h1 h2=>?_;subst nI;exact λ_=>wpAny_isNot_plain h1 (by rw[h2];exact dW ae (aJ.refl ..) (.bool _))
 |jM=>exact(Ad O IF ae hu hv e).1
 |gj=>obtain⟨r',e',rfl⟩:=mJ e;exact(Ad O IF ae hu hv e').2
section
set_option backward.match.sparseCases true
structure pV (P:Params):Prop where
 iT:∀x v,iT.lookup x=some v->gz P x v
 OH:rq P
def tO (no:List Addr):fK Flow (Fl×Loc):=λi h p f=>match p.1,f with
 |.next,.next=>True
 |.ret v,.ret a=>Val no i h v a
 |_,_=>False
structure c5 (n:Nat)(d:cy):Prop where
 ex:∀{C:Cx},C.Ok n->pV C.w.params->∀{i loc hp s},Rep C i loc hp s->∀(e:Expr),SV C [] i loc s (d.ex C.sc e loc hp) (eval e C.env)
 te:∀{C:Cx},C.Ok n->pV C.w.params->∀{i loc hp s},Rep C i loc hp s->∀(e:Expr),SB C [] i loc s (d.te C.sc e loc hp) (isTrue e C.env (eval e C.env))
 st:∀{C:Cx},C.Ok n->pV C.w.params->(∃outer,C.d9=C.env::outer)->∀{i loc hp s},Rep C i loc hp s->∀(e:Stmt),eF C C.own i s (·.2) (tO C.no) (d.st C.sc e loc hp) (exec e C.env)
def kZ (n:Nat)(c:Ca):Prop:=∀{C:Cx},C.Ok n->pV C.w.params->∀{i loc hp s},Rep C i loc hp s->∀{f:V} {fa:Value} {vs:List V} {as:List Value},Val C.no i s.heap f fa->Vals C.no i s.heap vs as ->
 SV C [] i loc s (c f vs hp) (call fa as)
theorem jD {e:Expr}{x:Str}(h:asName e=some x):∃p,e=.Name x p:=by cases e<;>first|exact oi h▸⟨_,rfl⟩|exact bx h
theorem EJ {e:Expr}{x:Const}(h:CA e=some x):∃q p,e=.Constant x q p:=by cases e<;>first|exact oi h▸⟨_,_,rfl⟩|exact bx h
theorem OI {k:Const}{x:Str}(h:R5 k=some x):k=.str x:=by cases k<;>first|exact congrArg _ (oi h)|exact bx h
theorem tP {e:Expr}{x:Str}(h:yJ e=some x):∃q p,e=.Constant (.str x) q p:=by
 refine aj (bE h) λk h1 h2=>?_;exact OI h2▸EJ h1
theorem mM {e:Expr}{q:Expr×List Expr×List Keyword}(h:iB e=some q):∃p,e=.Call q.1 q.2.1 q.2.2 p:=by cases e<;>first|exact oi h▸⟨_,rfl⟩|exact bx h
theorem xu {e:Expr}{q:Expr×List Comprehension×Scope}(h:Hp e=some q):∃p,e=.ListComp q.1 q.2.1 q.2.2 p:=by cases e<;>first|exact oi h▸⟨_,rfl⟩|exact bx h
theorem gJ {e:Expr}(h:noStar e=true)(r:List Expr)(pos:Pos)(env:Env):backTo pos (starEach (e::r) env)=(false,eval e env)::backTo pos (starEach r env):=by
 cases e<;>first|rfl|exact ft h
theorem dT.W7 (op:CmpOp):(dT.of op).op=op:=by cases op<;>rfl
section
variable {n N:Nat}{d:cy}{c:Ca}(O:C.Ok n)(F:pV C.w.params)(D:c5 n d)(cO:kZ n c)
include O F
theorem ta (ae:Rep C i loc hp s)(k:Const)(q:Nat)(p:Pos):SV C own i loc s (zY k loc hp) (eval (.Constant k q p) C.env):=by
 intro hb;cases k with
 |none=>exact wpAny_pure (dW ae (aJ.refl ..) .none)
 |bool b=>exact wpAny_pure (dW ae (aJ.refl ..) (.bool b))
 |int j=>exact wpAny_Constant_int (dP ae (.int j _))
 |str x =>
  have e:S x.cps.toList=x:=by cases x;simp[S]
  refine wpAny_Constant_str (s:=s) ?_;have v:Val C.no i s.heap (.str x.cps.toList) (.str x s.toks):=by have:=Val.str (no:=C.no) (i:=i) (h:=s.heap) x.cps.toList s.toks;rw[e]at this;exact this
  exact dP ae v
 |_=>exact absurd rfl hb
include D
theorem oG (es:List Expr)(pos:Pos):∀{i loc hp s},Rep C i loc hp s->es.all noStar=true->eF C [] i s (λ_=>loc) (Vals C.no) (xs (es.map (d.ex C.sc)) loc hp) (spliced (backTo pos (starEach es C.env))):=by
 induction es with
 |nil=>exact λae _=>sn λq=>Calls.spliced_nil (q.fin ae .nil)
 |cons e r ih =>
  exact λae hs=>gJ (bk hs).1 r pos C.env▸sn λq=>Calls.spliced_cons (cU (D.ex O F ae e) q λa v au aB ah ak k₁ aP q =>
   cU (ih ak (bk hs).2) q λas vs bJ cm aO aV k₂ cX q=>q.fin aV (.cons (k₂.vl ak aP) cX))
theorem Sk (ae:Rep C i loc hp s)(l:Expr)(op:Operator)(r:Expr)(pos:Pos):SV C [] i loc s (bw op (d.ex C.sc l) (d.ex C.sc r) loc hp) (eval (.BinOp l op r pos) C.env) :=
 sn λq=>wpAny_BinOp (cU (D.ex O F ae l) q λa u au aB ah ak k₁ aP q=>cU (D.ex O F ak r) q λb v bJ cm aO aV k₂ cX q=>(Hx aV (k₂.vl ak aP) cX).to q)
theorem Sl (ae:Rep C i loc hp s)(e:Expr)(pos:Pos):SV C [] i loc s (gO (d.ex C.sc e) loc hp) (eval (.UnaryOp .USub e pos) C.env) :=
 sn λq=>wpAny_UnaryOp (cU (D.ex O F ae e) q λa u au aB ah ak k₁ aP q=>by
  refine aj (q.rB) λk h q=>?_;refine aQ ((iU h▸aP:Val C.no aB ah.heap (.int k) a).dp) λt aC=>?_;subst aC;exact PyProof.Rows.neg_int (q.toks ak (.int (-k) _) (Nat.le_add_right _ _)))
theorem Sm (ae:Rep C i loc hp s)(e:Expr)(pos:Pos):SV C [] i loc s (xB (cW (tX (d.ex C.sc e))) loc hp) (eval (.UnaryOp .Not e pos) C.env):=by
 have q:xB (cW (tX (d.ex C.sc e))) loc hp=az (d.ex C.sc e loc hp) λv hp=>az (bQ (kj v) hp) λb hp=>.ok (.bool (!b)) hp:=by
  show az (az (az (d.ex C.sc e loc hp) kX) Ed) s9=_;rw[nH,nH];exact rfl
 rw[q];exact sn λq=>wpAny_UnaryOp (cU (D.ex O F ae e) q λa u au aB ah ak k₁ aP q=>not_of (cU (mv (own:=[]) ak aP) q λb v bJ cm aO aV k₂ cX q=>q.fin aV (cX▸.bool _)))
omit O F D in
theorem EK (pos:Pos)(op:BoolOp)(t u:Sem Value)(r:List (Sem Value)):boolOp pos op (t::u::r)=(do
   let v <- t
   standAt pos
   let t <- holding [v] (truthy v)
   match op,t with
   |.And,false|.Or,true=>pure v
   |_,_=>boolOp pos op (u::r)):=rfl
theorem OJ (op:BoolOp)(pos:Pos)(es:List Expr):∀{i loc hp s},Rep C i loc hp s->SV C [] i loc s (gk (op==.And) (es.map (d.ex C.sc)) loc hp) (boolOp pos op (evalEach es C.env)):=by
 induction es with
 |nil=>exact λae hb=>absurd rfl hb
 |cons e r ih =>
  cases r with
  |nil=>exact λae hb=>D.ex O F ae e hb
  |cons e' r =>
   exact λ{i loc hp s} ae=>sn λ{Q E} q=>EK pos op (eval e C.env) (eval e' C.env) (evalEach r C.env)▸wpAny_bind (cU (D.ex O F ae e) q λa v au aB ah ak k₁ aP q =>
    wpAny_bind (wpAny_standAt (wpAny_bind (wpAny_holding (cU (mv (own:=[]) ak aP) q λb t bJ cm aO aV k₂ cX q=>by
     have m8:=k₂.vl ak aP;subst cX;cases op<;>cases b
     ·exact wpAny_pure (q.fin aV m8)
     ·exact(ih aV).to q
     ·exact(ih aV).to q
     ·exact wpAny_pure (q.fin aV m8))))))
omit O F D in
theorem Ae (op:BoolOp)(e:Expr)(r:List Expr)(env:Env):allTrue op (e::r) env=(do
   match op,<- isTrue e env (eval e env)with
   |.And,false=>pure false
   |.Or,true=>pure true
   |_,_=>allTrue op r env):=rfl
theorem Sn (op:BoolOp)(es:List Expr):∀{i loc hp s},Rep C i loc hp s->SB C [] i loc s (aS (op==.And) (es.map (d.te C.sc)) loc hp) (allTrue op es C.env):=by
 induction es with
 |nil=>exact λae=>sn λq=>wpAny_pure (q.fin ae rfl)
 |cons e r ih =>
  exact λ{i loc hp s} ae=>sn λ{Q E} q=>Ae op e r C.env▸wpAny_bind (cU (D.te O F ae e) q λa b au aB ah ak k₁ aP q=>by
   subst aP;cases op<;>cases a
   ·exact wpAny_pure (q.fin ak rfl)
   ·exact(ih ak).to q
   ·exact(ih ak).to q
   ·exact wpAny_pure (q.fin ak rfl))
theorem W8 (ae:Rep C i loc hp s)(t a b:Expr)(pos:Pos):SV C [] i loc s (ik (d.te C.sc t) (d.ex C.sc a) (d.ex C.sc b) loc hp) (eval (.IfExp t a b pos) C.env) :=
 sn λq=>wpAny_IfExp (cU (D.te O F ae t) q λc u au aB ah ak k₁ aP q=>by
  subst aP;cases c
  ·exact(D.ex O F ak b).to q
  ·exact(D.ex O F ak a).to q)
omit O F D in
theorem Hz (t a b:Expr)(pos:Pos)(env:Env)(w:Sem Value):isTrue (.IfExp t a b pos) env w=(do if <- isTrue t env (eval t env)then isTrue a env (eval a env)else isTrue b env (eval b env)):=rfl
theorem W9 (ae:Rep C i loc hp s)(t a b:Expr)(pos:Pos){whole:Sem Value}:SB C [] i loc s (Yu (d.te C.sc t) (d.te C.sc a) (d.te C.sc b) loc hp) (isTrue (.IfExp t a b pos) C.env whole) :=
 sn λq=>Hz t a b pos C.env whole▸wpAny_bind (cU (D.te O F ae t) q λc u au aB ah ak k₁ aP q=>by
  subst aP;cases c
  ·exact(D.te O F ak b).to q
  ·exact(D.te O F ak a).to q)
omit O F D in
theorem Hd (e:Expr)(pos:Pos)(env:Env)(w:Sem Value):isTrue (.UnaryOp .Not e pos) env w=(do return !(<- isTrue e env (eval e env))):=rfl
theorem So (ae:Rep C i loc hp s)(e:Expr)(pos:Pos){whole:Sem Value}:SB C [] i loc s (cW (d.te C.sc e) loc hp) (isTrue (.UnaryOp .Not e pos) C.env whole) :=
 sn λq=>Hd e pos C.env whole▸wpAny_bind (cU (D.te O F ae e) q λc u au aB ah ak k₁ aP q=>wpAny_pure (q.fin ak (congrArg (!·) aP)))
theorem HA (ae:Rep C i loc hp s)(e:Expr)(hq:isTrue e C.env (eval e C.env)=(do let v <- eval e C.env;standAt e.pos;holding [v] (truthy v))):SB C [] i loc s (tX (d.ex C.sc e) loc hp) (isTrue e C.env (eval e C.env)):=by
 rw[hq];exact sn λq=>wpAny_bind (cU (D.ex O F ae e) q λa v au aB ah ak k₁ aP q=>wpAny_bind (wpAny_standAt (wpAny_holding ((mv (own:=[]) ak aP).to q))))
omit D in
theorem uE {β γ:Type}{op:CmpOp}{u v:V}{a b:Value}{T:fK γ β}{lc:β->Loc}{g:Bool->HP->R β}{Q:γ->Shared->Prop}{Q':Value->Shared->Prop}{E:Value->Shared->Prop}(q:To C [] i s lc T (az (bQ (dB (dT.of op) u v hp) hp) g) Q E)(ae:Rep C i loc hp s)(hu:Val C.no i s.heap u a)(hv:Val C.no i s.heap v b)
  (k:∀r aB ah,Rep C aB loc hp ah->aJ [] i s aB ah->To C [] aB ah lc T (g r hp) Q E->Q' (.bool r) ah):wpAny C.M C.A (compareOp op a b) Q' E s:=by
 cases hc:dB (dT.of op) u v hp with
 |none=>rw[hc]at q;exact q.jO
 |some r =>
  rw[hc]at q;refine wpAny_mono (dT.W7 op▸Hy (own:=[]) O F.OH ae hu hv hc Si) (λc aO x=>?_) λ_ _ x=>x.elim λ_ x=>Sh x.1;refine fk x λw bJ cm oH aV k₂ cX=>?_;injection oH with oH z9;subst oH z9;rw[cX.tM];exact k r cm aO aV k₂ (To.up (r:=g r hp) q k₂)
theorem Ku (pos:Pos)(ops:List CmpOp):∀(es:List Expr) {i loc hp s u a},ops.length=es.length->Rep C i loc hp s->Val C.no i s.heap u a ->
  SV C [] i loc s (az (iz u ((ops.map dT.of).zip (es.map (d.ex C.sc))) loc hp) s9) (compareChain pos a ops (evalEach es C.env)):=by
 induction ops with
 |nil=>exact λ_ {i loc hp s u a} _ ae hu hb=>absurd rfl hb
 |cons op ops ih =>
  intro es i loc hp s u a hl ae hu;cases es with
  |nil=>exact absurd hl (Nat.succ_ne_zero _)
  |cons e es =>
   cases ops with
   |nil =>
    cases es with
    |cons _ _=>exact absurd (Nat.succ.inj hl).symm (Nat.succ_ne_zero _)
    |nil =>
     have e1:az (iz u (([op].map dT.of).zip ([e].map (d.ex C.sc))) loc hp) s9=az (d.ex C.sc e loc hp) λv hp=>az (bQ (dB (dT.of op) u v hp) hp) s9:=nH _ _ _;rw[e1];exact sn λq=>chain_last (cU (D.ex O F ae e) q λb v au aB ah ak k₁ aP q=>uE O F q ak (k₁.vl ae hu) aP λr cm aO aV k₂ q=>q.fin aV (.bool r))
   |cons Sp ops =>
    cases es with
    |nil=>exact absurd (Nat.succ.inj hl) (Nat.succ_ne_zero _)
    |cons e' es =>
     have e1:az (iz u (((op::Sp::ops).map dT.of).zip ((e::e'::es).map (d.ex C.sc))) loc hp) s9=az (d.ex C.sc e loc hp) λv hp=>az (bQ (dB (dT.of op) u v hp) hp) λb hp=>az (cD (iz v (((Sp::ops).map dT.of).zip ((e'::es).map (d.ex C.sc)))) loc b hp) s9 :=
      (nH _ _ _).trans (Hw λv hp=>nH _ _ _)
     rw[e1];refine sn λ{Q E} q=>chain_link (cU (D.ex O F ae e) q λb v au aB ah ak k₁ aP q=>uE O F q ak (k₁.vl ae hu) aP λr cm aO aV k₂ q=>wpAny_truthy_bool ?_);cases r with
     |false=>exact q.fin aV (.bool _)
     |true=>exact(ih (e'::es) (Nat.succ.inj hl) aV (k₂.vl ak aP)).to q
end
end
section
theorem CH {β γ:Type}{r:R β}{g:β->HP->R γ}{c:γ}{hp':HP}(e:az r g=.ok c hp'):∃b au,r=.ok b au∧g b au=.ok c hp':=by
 cases r with
 |ok b au=>exact⟨b,au,rfl,e⟩
 |gI k=>exact Sh e.symm
 |bad=>exact(Si e.symm).elim
theorem Af (es:List Ex)(loc:Loc):∀(hp:HP) (vs:List V) (hp':HP),xs es loc hp=.ok vs hp'->vs.length=es.length:=by
 induction es with
 |nil=>exact λhp vs hp' e=>by injection e with e _;exact e▸rfl
 |cons x r ih =>
  intro hp vs hp' e;refine eH (CH e) λv au _ e=>?_;refine eH (CH e) λws bJ e1 e=>?_;injection e with e _;exact e▸congrArg (·+1) (ih _ _ _ e1)
theorem Kv {t:Sem α}{T:fK α β}{T':fK γ δ}{lc:β->Loc}{ql:δ->Loc}{r:R β}{g:β->HP->R δ}{Q:α->Shared->Prop}{Q':γ->Shared->Prop}{E:Value->Shared->Prop}(h:eF C own i s lc T r t)(q:To C own i s ql T' (az r g) Q' E)
  (k:∀a b au aB ah,r=.ok b au->Rep C aB (lc b) au ah->aJ own i s aB ah->T aB ah.heap b a->To C own aB ah ql T' (g b au) Q' E->Q a ah):wpAny C.M C.A t Q E s :=
 wpAny_mono (h (kY q.nb)) (λa ah x=>by
  refine fk x λb au aB eQ h1 h2 h3=>?_;subst eQ;exact k a b au aB ah rfl h1 h2 h3 (To.up (r:=g b au) q h2)) λ_ _ x=>q.e _ _ x.az
section
variable {n N:Nat}{d:cy}{c:Ca}(O:C.Ok n)(F:pV C.w.params)(D:c5 n d)(cO:kZ n c)
include O F D
theorem OK (pos:Pos)(ops:List CmpOp):∀(es:List Expr) {i loc hp s u a},ops.length=es.length->Rep C i loc hp s->Val C.no i s.heap u a ->
  SB C [] i loc s (iz u ((ops.map dT.of).zip (es.map (d.ex C.sc))) loc hp) (testChain pos a ops (evalEach es C.env)):=by
 induction ops with
 |nil=>exact λ_ {i loc hp s u a} _ ae hu hb=>absurd rfl hb
 |cons op ops ih =>
  intro es i loc hp s u a hl ae hu;cases es with
  |nil=>exact absurd hl (Nat.succ_ne_zero _)
  |cons e es =>
   cases ops with
   |nil =>
    cases es with
    |cons _ _=>exact absurd (Nat.succ.inj hl).symm (Nat.succ_ne_zero _)
    |nil =>
     have e1:iz u (([op].map dT.of).zip ([e].map (d.ex C.sc))) loc hp=az (d.ex C.sc e loc hp) λv hp=>az (bQ (dB (dT.of op) u v hp) hp) .ok:=Hw λv hp=>(Sj _).symm;rw[e1];exact sn λq=>test_last (cU (D.ex O F ae e) q λb v au aB ah ak k₁ aP q=>uE O F q ak (k₁.vl ae hu) aP λr cm aO aV k₂ q=>wpAny_truthy_bool (q.fin aV rfl))
   |cons Sp ops =>
    cases es with
    |nil=>exact absurd (Nat.succ.inj hl) (Nat.succ_ne_zero _)
    |cons e' es =>
     refine sn λ{Q E} q=>test_link (cU (D.ex O F ae e) q λb v au aB ah ak k₁ aP q=>uE O F q ak (k₁.vl ae hu) aP λr cm aO aV k₂ q=>wpAny_truthy_bool ?_);cases r with
     |false=>exact q.fin aV rfl
     |true=>exact(ih (e'::es) (Nat.succ.inj hl) aV (k₂.vl ak aP)).to q
omit O F D in
theorem Kw (e:Expr)(ops:List CmpOp)(es:List Expr)(pos:Pos)(env:Env)(hm:lastMarks ops es=false):eval (.Compare e ops es pos) env=(do compareChain pos (<- eval e env) ops (evalEach es env)):=by
 rw[<- markedEach_of_false ops es (evalEach es env) hm];rfl
omit O F D in
theorem Kx (e:Expr)(ops:List CmpOp)(es:List Expr)(pos:Pos)(env:Env)(whole:Sem Value)(hm:lastMarks ops es=false):isTrue (.Compare e ops es pos) env whole=(do testChain pos (<- eval e env) ops (evalEach es env)):=by
 rw[<- markedEach_of_false ops es (evalEach es env) hm];rfl
theorem Sq (ae:Rep C i loc hp s)(e:Expr)(ops:List CmpOp)(es:List Expr)(pos:Pos)(hl:ops.length=es.length)(hm:lastMarks ops es=false) :
  SV C [] i loc s (xB (ai (d.ex C.sc e) ((ops.map dT.of).zip (es.map (d.ex C.sc)))) loc hp) (eval (.Compare e ops es pos) C.env):=by
 have q:xB (ai (d.ex C.sc e) ((ops.map dT.of).zip (es.map (d.ex C.sc)))) loc hp=az (d.ex C.sc e loc hp) λu hp=>az (iz u ((ops.map dT.of).zip (es.map (d.ex C.sc))) loc hp) s9:=nH _ _ _;rw[Kw e ops es pos C.env hm,q];exact sn λq=>wpAny_bind (cU (D.ex O F ae e) q λa u au aB ah ak k₁ aP q=>(Ku O F D pos ops es hl ak aP).to q)
theorem Sr (ae:Rep C i loc hp s)(e:Expr)(ops:List CmpOp)(es:List Expr)(pos:Pos){whole:Sem Value}(hl:ops.length=es.length)(hm:lastMarks ops es=false) :
  SB C [] i loc s (ai (d.ex C.sc e) ((ops.map dT.of).zip (es.map (d.ex C.sc))) loc hp) (isTrue (.Compare e ops es pos) C.env whole):=by
 rw[Kx e ops es pos C.env whole hm];exact sn λq=>wpAny_bind (cU (D.ex O F ae e) q λa u au aB ah ak k₁ aP q=>(OK O F D pos ops es hl ak aP).to q)
theorem Ss (ae:Rep C i loc hp s)(es:List Expr)(q:Nat)(pos:Pos)(hs:es.all noStar=true)(hz:es.length≤sizeLine):SV C [] i loc s (ao (es.map (d.ex C.sc)) loc hp) (eval (.Tuple es q pos) C.env) :=
 sn λq=>Tuple_ (Kv (oG O F D es pos ae hs) q λas vs au aB ah er ak k₁ aP q=>by
  refine fj (uA (own:=[]) ak aP (t:=ah.toks) (d:=ah.drawn)) λs' e R k w=>?_;refine wpAny_newTuple (e▸q.at R k w) ?_;rw[<- aP.length,Af _ _ _ _ _ er,List.length_map];exact hz)
theorem Su (ae:Rep C i loc hp s)(es:List Expr)(pos:Pos)(hs:es.all noStar=true)(hz:es.length≤sizeLine):SV C [] i loc s (cp (es.map (d.ex C.sc)) loc hp) (eval (.List es pos) C.env) :=
 sn λq=>List_ (Kv (oG O F D es pos ae hs) q λas vs au aB ah er ak k₁ aP q=>by
  refine fj (uB (own:=[]) ak aP (t:=ah.toks) (d:=ah.drawn)) λs' e R k w=>?_;refine wpAny_newObj_type (e▸q.at R k w) ?_;show as.toArray.size≤sizeLine;rw[List.size_toArray,<- aP.length,Af _ _ _ _ _ er,List.length_map];exact hz)
end
end
section
theorem Key.inj (a b:Key)(e:a.str=b.str):a=b:=by
 have h0:(Key.all.all λk=>decide (Key.of k.str=some k))=true:=by decide +kernel
 have h:∀k:Key,Key.of k.str=some k:=λk=>of_decide_eq_true (List.all_eq_true.mp h0 k (List.mem_of_getElem? (Key.ix k)));exact oi ((h a).symm.trans (e▸h b))
theorem Key.nJ {x:Str}{k:Key}(e:Key.of x=some k):k.str=x:=by
 have:=List.find?_some e;exact beq_iff_eq.mp this
theorem xw (a b:Str)(t:Tok):(Value.str a t).isStr b=(a==b):=rfl
theorem HB {a b:Key}(h:¬a=b):(a.str==b.str)=false:=beq_eq_false_iff_ne.mpr λq=>h (Key.inj _ _ q)
section
variable {k k':Str}{h h':Int}{t:Tok}{a w u:Value}{es:List DictEntry}
theorem Ky:getL k (⟨h,.str k t,a⟩::es)=some (some a):=by
 unfold getL;rw[List.find?_cons,xw,beq_self_eq_true]
theorem HC (hs:(k'==k)=false):getL k (⟨h,.str k' t,a⟩::es)=getL k es:=by
 unfold getL;rw[List.find?_cons,xw,hs];cases es.find? λx=>x.key.isStr k<;>rfl
theorem Kz:W.putL k h' u w (⟨h,.str k t,a⟩::es)=⟨h,.str k t,w⟩::es:=if_pos (beq_self_eq_true k)
theorem HD (hs:(k'==k)=false):W.putL k h' u w (⟨h,.str k' t,a⟩::es)=⟨h,.str k' t,a⟩::W.putL k h' u w es:=if_neg (hs▸Bool.false_ne_true:¬(k'==k)=true)
end
section
variable {k k':Key}{v w:V}{r:List (Key×V)}
theorem tQ:eu ((k,v)::r) k=some v:=if_pos rfl
theorem xy (h:¬k'=k):eu ((k',v)::r) k=eu r k:=if_neg h
theorem Ag:dput ((k,v)::r) k w=(k,w)::r:=if_pos rfl
theorem xA (h:¬k'=k):dput ((k',v)::r) k w=(k',v)::dput r k w:=if_neg h
theorem tm {k:Str}{a:Value}{q:List (Str×Value)}:valueAt ((k,a)::q) k=some a:=by simp[valueAt]
theorem qr {k k':Str}{a:Value}{q:List (Str×Value)}(h:¬k'=k):valueAt ((k',a)::q) k=valueAt q k:=by simp[valueAt,List.find?_cons,h]
end
theorem fc.get {P:Params}{es:List (Key×V)}{ds:List DictEntry}(x:fc no i P h es ds)(k:Key) :
  (eu es k=none->getL k.str ds=some none)∧(∀v,eu es k=some v->∃a,getL k.str ds=some (some a)∧Val no i h v a):=by
 induction x with
 |nil=>exact⟨λ_=>rfl,λv e=>bx e⟩
 | @cons k' v' r t a es x _ ih =>
  by_cases hk:k'=k
  ·subst hk;exact⟨λe=>bx (e.symm.trans tQ),λv e=>⟨a,Ky,oi (tQ.symm.trans e)▸x⟩⟩
  ·rw[HC (HB hk),xy hk];exact ih
theorem fc.put {P:Params}{es:List (Key×V)}{ds:List DictEntry}(x:fc no i P h es ds)(k:Key)(v:V)(a:Value)(t:Tok)(hv:Val no i h v a) :
  fc no i P h (dput es k v) (putL k.str (PyData.keyHash P k.str) (.str k.str t) a ds):=by
 induction x with
 |nil=>exact .cons hv .nil
 | @cons k' v' r t a es x y ih =>
  by_cases hk:k'=k
  ·subst hk;rw[Ag,Kz];exact .cons hv y
  ·rw[xA hk,HD (HB hk)];exact .cons x ih
theorem fc.length {P:Params}{es:List (Key×V)}{ds:List DictEntry}(x:fc no i P h es ds):ds.length=es.length:=by
 induction x with
 |nil=>rfl
 |cons _ _ ih=>exact congrArg (·+1) ih
theorem KA (es:List (Key×V))(k:Key)(v:V):(dput es k v).length≤es.length+1:=by
 induction es with
 |nil=>exact Nat.le_refl _
 |cons p r ih =>
  by_cases h:p.1=k
  ·rw[show dput (p::r) k v=(p.1,v)::r from if_pos h];exact Nat.le_succ _
  ·rw[show dput (p::r) k v=p::dput r k v from if_neg h];exact Nat.succ_le_succ ih
theorem KC (es:List (Key×V))(k:Key)(v:V)(x:Key)(hx:x∈(dput es k v).map (·.1)):x∈es.map (·.1)∨x=k:=by
 induction es with
 |nil=>exact .inr (List.mem_singleton.mp hx)
 |cons p r ih =>
  by_cases h:p.1=k
  ·rw[show dput (p::r) k v=(p.1,v)::r from if_pos h]at hx;exact .inl hx
  ·rw[show dput (p::r) k v=p::dput r k v from if_neg h]at hx;exact(List.mem_cons.mp hx).elim (λe=>.inl (e▸.head _)) λe=>(ih e).imp_left (.tail _)
theorem uF (es:List (Key×V))(k:Key)(v:V)(nd:(es.map (·.1)).Nodup):((dput es k v).map (·.1)).Nodup:=by
 induction es with
 |nil=>exact List.pairwise_singleton _ _
 |cons p r ih =>
  have hc:=List.nodup_cons.mp nd;by_cases h:p.1=k
  ·rw[show dput (p::r) k v=(p.1,v)::r from if_pos h];exact nd
  ·rw[show dput (p::r) k v=p::dput r k v from if_neg h];exact List.nodup_cons.mpr ⟨λhm=>(KC r k v _ hm).elim hc.1 h,ih hc.2⟩
structure iV (P:Params)(C:Addr):Prop where
 ga:findIn (K P) (.ref C) "__getattribute__"=some (some (.builtin "object.__getattribute__"))
 gt:findIn (K P) (.ref C) "__getattr__"=some none
 sa:findIn (K P) (.ref C) "__setattr__"=some (some (.builtin "object.__setattr__"))
 over:plainOver (K P) C=true
 dict:hasDictIn (K P) C=true
 attr:∀k,attrOk C k=true->findIn (K P) (.ref C) k.str=some none∧takerIn (K P) C k.str=some none
 bA:∀k f,fg (d7 C) k=some f->findIn (K P) (.ref C) k.str=some (some (.ref f))∧typeIn (K P) (.ref f)=some (.type "function")
def KD (P:Params)(h:Heap)(v:V)(a:Value):Prop:=∀no:List Addr,(∀b∈no,(K P).lookup b=none)->Val no [] h v a
inductive jP (P:Params)(h:Heap):List (List Nat×V)->List (Str×Value)->Prop
 |nil:jP P h [] []
 |cons {k:List Nat} {v:V} {a:Value} {r:List (List Nat×V)} {q:List (Str×Value)} (x:KD P h v a) (y:jP P h r q):jP P h ((k,v)::r) ((S k,a)::q)
theorem jP.get {P:Params}{h:Heap}{T:List (List Nat×V)}{bI:List (Str×Value)}(z:jP P h T bI)(x:List Nat):match T.lookup x with
  |some v=>∃a,valueAt bI (S x)=some a∧KD P h v a
  |none=>valueAt bI (S x)=none:=by
 induction z with
 |nil=>rfl
 | @cons k v a r q z _ ih =>
  by_cases hk:x=k
  ·subst hk;rw[List.lookup_cons_self,tm];exact⟨a,rfl,z⟩
  ·rw[show((k,v)::r).lookup x=r.lookup x by rw[List.lookup_cons,beq_eq_false_iff_ne.mpr hk],qr (λe=>hk (EG e).symm)];exact ih
structure bU (P:Params):Prop where
 base:pV P
 cls:∀C,isClass C=true->iV P C
 eX:∀(w:World),w.params=P->∀h,(K P).In h->∃bI,h.DictOf (strKind pw w) 87 bI∧jP P h (eX.map λp=>(p.1,V.str p.2)) bI
 pairs:∀(w:World),w.params=P->∀h,(K P).In h->∃bI,h.DictOf (strKind pw w) 89 bI∧jP P h pairs bI
theorem qt {C:Addr}{k:Key}(e:attrOk C k=true):isClass C=true:=by
 unfold attrOk at e;split at e
 ·rfl
 ·rfl
 ·rfl
 ·cases e
theorem uG {C:Addr}{k:Key}{f:Addr}(e:fg (d7 C) k=some f):isClass C=true:=by
 unfold d7 at e;split at e
 ·rfl
 ·rfl
 ·rfl
 ·exact(Option.some_ne_none _ e.symm).elim
theorem Rep.dJ {n:Nat}(O:C.Ok n)(ae:Rep C i loc hp s):(K C.w.params).In s.heap:=λb o q=>ae.base b o (O.dJ b o q)
theorem Rep.inst (ae:Rep C i loc hp s){a:Nat}{ad:Addr}{CC:Addr}{dd:Nat}{es:List (Key×V)}(e:i[a]?=some ad)(q1:hp[a]?=some (.inst CC dd))(q2:hp[dd]?=some (.dict es)) :
  ∃dx ds n,i[dd]?=some dx∧(fc C.no i C.w.params s.heap es ds∧(es.map (·.1)).Nodup)∧s.heap.get? dx=some (dictOf ds n)∧W.InstAt s.heap ad (instObj CC dx) CC (some (dictOf ds n)):=by
 refine aj (ae.ref e q1) λdx e1 h1=>?_;refine cg (ae.ref e1 q2) λds n h2 h3 h4=>?_;exact⟨dx,ds,n,e1,⟨h3,h4⟩,h2,⟨h1,rfl,rfl,h2⟩⟩
theorem WL (ae:Rep C i loc hp s){v:V}{a:Value}(hv:Val C.no i s.heap v a)(hf:∀w,v≠.fix w):handedIn a=true:=by
 have x:=hv.inv;cases v with
 |none=>exact x▸rfl
 |bool=>exact x▸rfl
 |int=>exact x.elim λ_ e=>e▸rfl
 |str=>exact x.elim λ_ e=>e▸rfl
 |tup=>exact x.elim λ_ e=>e.elim λ_ e=>e.1▸rfl
 |ref=>exact x.elim λ_ e=>e.1▸rfl
 |fix v=>exact absurd rfl (hf _)
theorem KG {o:Option V}{v:V}(h:yD o=some v):o=some v∧∀w,v≠.fix w:=by
 cases o with
 |none=>exact bx h
 |some u=>cases u<;>first|exact bx h|exact oi h▸⟨rfl,λ_=>V.noConfusion⟩
theorem EL {n:Nat}(O:C.Ok n)(F:bU C.w.params)(ae:Rep C i loc hp s){u v:V}{a:Value}{k:Key}{expr:Bool}(hu:Val C.no i s.heap u a)(e:eA hp u k=some v) :
  SV C own i loc s (.ok v hp) (getAttr a k.str expr):=λ_=>by
 refine aj (bE e) λtR q0 e=>?_;refine aj (bE e) λq q1 e=>?_;refine aj (bE e) λes q2 e=>?_;cases jb:attrOk q.1 k with
 |false=>rw[jb]at e;exact bx e
 |true =>
  rw[jb]at e;refine bp (KG e) λe aai=>?_;refine aj ((gw q0▸hu:Val C.no i s.heap (.ref tR) a).cQ) λad aC e1=>?_;subst aC;refine fk (ae.inst e1 (tK q1) (kr q2)) λdx ds n e2 h3 h2 I=>?_;have cf:=F.cls q.1 (qt jb);refine aj ((h3.1.get k).2 v e) λb e3 hb=>?_;exact get_value (ae.dJ O) I cf.ga (findObj_own cf.dict (cf.attr k jb).1 rfl e3) (WL ae hb aai) (dP ae hb)
section
variable {n:Nat}{f:V}{a:Value}{k:Key}{pl:Sem Bool}{Q:Value×List Value->Shared->Prop}{E:Value->Shared->Prop}
theorem KH (O:C.Ok n)(F:bU C.w.params)(ae:Rep C i loc hp s){ad CC:Addr}{m dd:Nat}(e1:i[m]?=some ad)(q1:hp[m]?=some (.inst CC dd))(e:yE hp k (CC,dd)=some f)(hQ:∀fa,Val C.no i s.heap f fa->Q (fa,[.ref ad]) s):wpAny C.M C.A (getMethod (.ref ad) k.str pl) Q E s:=by
 refine aj (bE e) λes q2 e=>?_;cases hn:(eu es k).isNone with
 |false=>rw[hn]at e;exact bx e
 |true =>
  rw[hn]at e;refine aj (Option.map_eq_some_iff.mp e) λg e0 bH=>?_;subst bH;refine fk (ae.inst e1 q1 (kr q2)) λdx ds n e2 h3 h2 I=>?_;have cf:=F.cls CC (uG e0);refine bp (cf.bA k g e0) λm1 m2=>?_;refine method_fn (ae.dJ O) I cf.ga cf.gt m1 m2 ?_ (hQ _ (.fix _));show(lookIn k.str (dictOf ds n)).map _=_;rw[lookIn_dict,(h3.1.get k).1 (Option.isNone_iff_eq_none.mp hn)];rfl
theorem HE {ad:Addr}{its:Array Value}{m:Nat}(h1:s.heap.get? ad=some (listOf its m))(e:Eh k=some f)(hQ:∀fa,Val C.no i s.heap f fa->Q (fa,[.ref ad]) s):wpAny C.M C.A (getMethod (.ref ad) k.str pl) Q E s:=by
 have CI:∀a',Value.ref ad=.ref a'->∃o,s.heap.get? a'=some o∧o.dict=none:=λa' q=>by injection q with q;subst q;exact⟨_,h1,rfl⟩
 have ty:s.TypeIs (.ref ad) "list":=⟨_,h1,rfl⟩;unfold Eh at e;by_cases k1:k=.append
 ·rw[if_pos k1]at e;subst k1;exact getMethod_builtin (name:=Str.ofString "append") ty PySem.F.plainAttrs_list PySem.F.slot_list_append PySem.F.type_list_append CI (hQ (.builtin "list.append") (oi e▸.fix _))
 ·rw[if_neg k1]at e;by_cases k2:k=.pop
  ·rw[if_pos k2]at e;subst k2;exact getMethod_builtin (name:=Str.ofString "pop") ty PySem.F.plainAttrs_list PySem.F.slot_list_pop PySem.F.type_list_pop CI (hQ (.builtin "list.pop") (oi e▸.fix _))
  ·rw[if_neg k2]at e;by_cases k3:k=.extend
   ·rw[if_pos k3]at e;subst k3;exact getMethod_builtin (name:=Str.ofString "extend") ty PySem.F.plainAttrs_list PySem.F.slot_list_extend PySem.F.type_list_extend CI (hQ (.builtin "list.extend") (oi e▸.fix _))
   ·rw[if_neg k3]at e;exact bx e
theorem KI {l:List Nat}{t:Tok}(e:(if k=.find then some (bi "str.find")else if k=.join then some (bi "str.join")else none)=some f)(hQ:∀fa,Val C.no i s.heap f fa->Q (fa,[.str (S l) t]) s):wpAny C.M C.A (getMethod (.str (S l) t) k.str pl) Q E s:=by
 have CI:∀a',Value.str (S l) t=.ref a'->∃o,s.heap.get? a'=some o∧o.dict=none:=λa' q=>Value.noConfusion q;by_cases k1:k=.find
 ·rw[if_pos k1]at e;subst k1;exact getMethod_builtin (name:=Str.ofString "find") (typeIs_str s (S l) t) PySem.F.plainAttrs_str PySem.F.slot_str_find PySem.F.type_str_find CI (hQ (.builtin "str.find") (oi e▸.fix _))
 ·rw[if_neg k1]at e;by_cases k2:k=.join
  ·rw[if_pos k2]at e;subst k2;exact getMethod_builtin (name:=Str.ofString "join") (typeIs_str s (S l) t) PySem.F.plainAttrs_str PySem.F.slot_str_join PySem.F.type_str_join CI (hQ (.builtin "str.join") (oi e▸.fix _))
  ·rw[if_neg k2]at e;exact bx e
theorem wx (O:C.Ok n)(F:bU C.w.params)(ae:Rep C i loc hp s){u:V}(hu:Val C.no i s.heap u a)(e:dN hp u k=some f)
  (hQ:∀fa,Val C.no i s.heap f fa->Q (fa,[a]) s) (wy:∀pl Q E s,(K C.w.params).In s.heap->Q (.builtin "dict.get",[.ref 89]) s->wpAny C.M C.A (getMethod (.ref 89) "get" pl) Q E s):wpAny C.M C.A (getMethod a k.str pl) Q E s:=by
 cases u with
 |ref m =>
  refine aj (hu.cQ) λad aC e1=>?_;subst aC;refine aj (bE e) λo q1 e=>?_;cases o with
  |inst CC dd=>exact KH O F ae e1 q1 e hQ
  |list xs =>
   refine eH (ae.ref e1 q1) λits n h1 _=>?_;exact HE h1 e hQ
  |_=>exact bx e
 |str l =>
  refine aQ (hu.cP) λt aC=>?_;subst aC;exact KI e hQ
 |fix w =>
  cases hw:isRef 89 w&&decide (k=.get)with
  |false=>unfold dN at e;dsimp only at e;rw[hw]at e;exact bx e
  |true =>
   unfold dN at e;dsimp only at e;rw[hw]at e;have ea:=hu.ku;rw[oF (bk hw).1]at ea;have ek:k=.get:=of_decide_eq_true (bk hw).2;subst ea ek;exact wy _ _ _ _ (ae.dJ O) (hQ _ (oi e▸.fix _))
 |_=>exact bx e
end
end
section
def kA (P:Params):Value->Bool
 |.ref a=>keepIn (K P) (.ref a)
 |_=>true
def nK (P:Params)(c:Ca):Prop:=∀f vs hp,c f vs hp≠.bad->∀(no:List Addr) (i:Pl) h fa,Val no i h f fa->kA P fa=true
theorem k7 {M:Model}{P:Params}{f:Value}(hk:kA P f=true)(h:Heap)(X:(K P).In h):∃k,(k=Keeper.frame∨k=Keeper.machine∨k=Keeper.boundFrame)∧Looks M h (keeperOf f) k:=by
 cases f with
 |ref a=>exact keeps_K (K:=K P) (f:=.ref a) hk h X
 |_=>exact⟨.machine,.inr (.inl rfl),Looks.of_pure rfl⟩
theorem iW (es:List Expr)(pos:Pos)(env:Env)(hs:es.all noStar=true):(backTo pos (starEach es env)).any (·.1)=false:=by
 induction es with
 |nil=>rfl
 |cons e r ih=>exact gJ (bk hs).1 r pos env▸ih (bk hs).2
noncomputable def aaj (c:Ca) (f:V) (fs vs:List V) (hp:HP):R V:=c f (fs++vs) hp
theorem xD (es:List Expr)(pos:Pos)(env:Env)(hs:es.all noStar=true)(hl:es.length<20):methodCallForm (es.length+0) (backTo pos (starEach es env)) (backToKw pos (keywordEach [] env))=true:=by
 show((backTo pos (starEach es env)).all (λx=>!x.1)&&([]:List (Option Str×Sem Value)).all (λx=>x.1.isSome)&&decide (es.length+0+0<30))=true;rw[<- List.not_any_eq_all_not,iW es pos env hs,decide_eq_true (show es.length+0+0<30 from Nat.lt_trans hl (by decide))];rfl
section
variable {n N:Nat}{d:cy}{c:Ca}(O:C.Ok n)(F:bU C.w.params)(D:c5 n d)(cO:kZ n c)(kO:nK C.w.params c)
include O F D cO kO
omit O F D cO kO in
theorem To.Yy {β γ δ:Type}{T:fK γ δ}{lc:δ->Loc}{o:Option β}{g:β->HP->R δ}{Q:γ->Shared->Prop}{E:Value->Shared->Prop}(q:To C own i s lc T (az (bQ o hp) g) Q E):∃k,o=some k∧To C own i s lc T (g k hp) Q E:=by
 cases o with
 |none=>exact q.jO
 |some k=>exact⟨k,rfl,q⟩
theorem yw (ae:Rep C i loc hp s){f:V}{fa:Value}{fs:List V}{first:List Value}(hf:Val C.no i s.heap f fa)(Yz:Vals C.no i s.heap fs first)(es:List Expr)(pos:Pos)(hs:es.all noStar=true) :
  SV C [] i loc s (az (xs (es.map (d.ex C.sc)) loc hp) (aaj c f fs)) (callWith pos fa first (backTo pos (starEach es C.env)) []):=sn λ{Q E} q=>by
 have key:wpAny C.M C.A (evalArgs fa true (backTo pos (starEach es C.env)) []) (λa ah=>((K C.w.params).In ah.heap∧kA C.w.params fa=true)∧wpAny C.M C.A (call fa (first++a.pos) a.kw) Q E ah) E s:=by
  cases es with
  |nil=>exact evalArgs_nil3 ⟨⟨ae.dJ O,kO _ _ _ q.nb C.no i s.heap fa hf⟩,(cO O F.base ae hf (Yz.append .nil)).to q⟩
  |cons e r =>
   have e1:=gJ (bk hs).1 r pos C.env;rw[e1];refine evalArgs_plain ?_;rw[<- e1];exact cU (oG O F.base D (e::r) pos ae hs) q λas vs au aB ah ak k₁ aP q=>⟨⟨ak.dJ O,kO _ _ _ q.nb C.no aB ah.heap fa (k₁.vl ae hf)⟩,(cO O F.base ak (k₁.vl ae hf) ((k₁.vls ae Yz).append aP)).to q⟩
 exact callWith_of (P:=λh=>(K C.w.params).In h∧kA C.w.params fa=true) (by rw[iW es pos C.env hs];rfl) (λh X=>k7 X.2 h X.1) key
theorem OL (ae:Rep C i loc hp s)(f:Expr)(es:List Expr)(pos:Pos)(hs:es.all noStar=true)(hf:∃x p,f=.Name x p):SV C [] i loc s (aD c (d.ex C.sc f) (es.map (d.ex C.sc)) loc hp) (eval (.Call f es [] pos) C.env):=by
 refine jK hf λx p bH=>?_;subst bH;refine sn λ{Q E} q=>?_;show wpAny _ _ (do callWith pos (<- eval (.Name x p) C.env) [] (backTo pos (starEach es C.env)) []) _ _ _
 exact wpAny_bind (cU (D.ex O F.base ae (.Name x p)) q λfa f au aB ah ak k₁ aP q=>(yw O F D cO kO ak aP (fs:=[]) .nil es pos hs).to q)
omit O F D cO kO in
theorem OM (o:Expr)(m:Str)(env:Env)(whole:Sem Value):jC o=true∨attributeBase o m env whole=whole:=by
 cases o with
 |Call f as ks pos =>
  cases f with
  |Name x p =>
   cases as with
   |nil =>
    cases ks with
    |nil=>exact .inl rfl
    |cons _ _=>exact .inr rfl
   |cons _ _=>exact .inr rfl
  |_=>exact .inr rfl
 |_=>exact .inr rfl
omit O F D cO kO in
theorem lJ {o:Expr}{m:Str}{env:Env}{whole:Sem Value}(h0:jC o=false):attributeBase o m env whole=whole :=
 (OM o m env whole).resolve_left (h0▸Bool.false_ne_true)
theorem ON (wy:∀pl Q E s,(K C.w.params).In s.heap->Q (.builtin "dict.get",[.ref 89]) s->wpAny C.M C.A (getMethod (.ref 89) "get" pl) Q E s)
  (ae:Rep C i loc hp s) (o:Expr) (m:Str) (k:Key) (es:List Expr) (apos pos:Pos) (hk:Key.of m=some k) (hs:es.all noStar=true) (hl:es.length<20) (h0:jC o=false) (ay:(apos.endLine==pos.line)=true) :
  SV C [] i loc s (ax c (d.ex C.sc o) k (es.map (d.ex C.sc)) loc hp) (eval (.Call (.Attribute o m apos) es [] pos) C.env):=by
 refine sn λ{Q E} q=>?_
 show wpAny _ _ (do
  let ov <- attributeBase o m C.env (eval o C.env)
  standAt apos.atName
  methodCall o m apos pos C.env ov (es.length+0) (backTo pos (starEach es C.env)) (backToKw pos (keywordEach [] C.env))) _ _ _
 rw[lJ h0];refine wpAny_bind (cU (D.ex O F.base ae o) q λa u au aB ah ak k₁ aP q=>wpAny_bind (wpAny_standAt ?_));refine aj (To.Yy (g:=Ej c (es.map (d.ex C.sc)) loc u) q) λf hm q=>?_;unfold methodCall;rw[xD es pos C.env hs hl]
 show wpAny _ _ (do
  let(f,first) <- holding [a] (getMethod a m (do return (<- importBound o C.env).getD true))
  let iX <- methodCallPos true o C.env apos pos
  callWith iX f first (backTo pos (starEach es C.env)) []) _ _ _
 rw[<- Key.nJ hk];refine wpAny_bind (wpAny_holding (wx O F ak aP hm (λfa Sv=>?_) wy))
 have ep:methodCallPos true o C.env apos pos=pure pos:=by
  unfold methodCallPos;rw[ay];rfl
 show wpAny _ _ (methodCallPos true o C.env apos pos>>=λiX=>callWith iX fa [a] (backTo pos (starEach es C.env)) []) _ _ _;rw[ep];exact wpAny_bind (wpAny_pure ((yw O F D cO kO ak Sv (fs:=[u]) (.cons aP .nil) es pos hs).to q))
theorem OO (ae:Rep C i loc hp s)(o:Expr)(m:Str)(k:Key)(pos:Pos)(hk:Key.of m=some k)(h0:jC o=false) :
  SV C [] i loc s (aH (d.ex C.sc o) k loc hp) (eval (.Attribute o m pos) C.env):=by
 have he:eval (.Attribute o m pos) C.env=(do
   let ov <- eval o C.env
   standAt pos.atName
   let r <- holding [ov] (getAttr ov m true)
   letTemporaryGo o ov r
   pure r):=by
  show(do
   let ov <- attributeBase o m C.env (eval o C.env)
   standAt pos.atName
   let r <- holding [ov] (getAttr ov m true)
   letTemporaryGo o ov r
   pure r)=_
  rw[lJ h0]
 refine sn λ{Q E} q=>Attribute_any_ (cU (D.ex O F.base ae o) q λa u au aB ah ak k₁ aP q=>?_) he;refine aj (q.oB) λv hm q=>?_;exact Key.nJ hk▸(EL O F ak aP hm).to q
end
end
inductive gK (no:List Addr)(i:Pl)(h:Heap):List (Key×V)->List (Str×Value)->Prop
 |nil:gK no i h [] []
 |cons {k:Key} {v:V} {a:Value} {r:List (Key×V)} {q:List (Str×Value)} (x:Val no i h v a) (y:gK no i h r q):gK no i h ((k,v)::r) ((k.str,a)::q)
abbrev SK (w:World):=strKind pw w
theorem gK.keep (g:bB i i')(k:bq no h h'){es:List (Key×V)}{bI:List (Str×Value)}(x:gK no i h es bI):gK no i' h' es bI:=by
 induction x with
 |nil=>exact .nil
 |cons x _ ih=>exact .cons (x.keep g k) ih
theorem fc.bI {w:World}{es:List (Key×V)}{ds:List DictEntry}(x:fc no i w.params h es ds):∃bI,Pairs (SK w) ds bI∧gK no i h es bI∧KeysOf (SK w) ds.toArray:=by
 induction x with
 |nil=>exact⟨[],.nil,.nil,λe he=>absurd he (Array.not_mem_empty e)⟩
 | @cons k v r t a es x _ ih =>
  refine dQ ih λbI h1 h2 h3=>?_;exact⟨(k.str,a)::bI,.cons (strKind_is pw w k.str t) rfl h1,.cons x h2,λe he=>(List.mem_cons.mp (List.mem_toArray.mp he)).elim (λq=>q▸⟨k.str,strKind_is pw w k.str t,rfl⟩) λq=>h3 e (List.mem_toArray.mpr q)⟩
theorem gK.keys {es:List (Key×V)}{bI:List (Str×Value)}(x:gK no i h es bI):bI.map (·.1)=es.map λp=>p.1.str:=by
 induction x with
 |nil=>rfl
 |cons _ _ ih=>exact congrArg (List.cons _) ih
theorem gK.nodup {es:List (Key×V)}{bI:List (Str×Value)}(x:gK no i h es bI)(nd:(es.map (·.1)).Nodup):(bI.map (·.1)).Nodup:=by
 rw[x.keys,show(es.map λp=>p.1.str)=(es.map (·.1)).map Key.str by simp]
 exact nd.map _ λa b uH e=>uH (Key.inj _ _ e)
theorem HF {w:World}{a:Addr}{ds:List DictEntry}{n:Nat}{es:List (Key×V)}(e:h.get? a=some (dictOf ds n))(x:fc no i w.params h es ds)(nd:(es.map (·.1)).Nodup) :
  ∃bI,h.DictOf (SK w) a bI∧gK no i h es bI:=by
 refine dQ (x.bI) λbI h1 h2 h3=>?_;exact⟨bI,⟨_,_,n,e,⟨rfl,rfl,rfl⟩,rfl,h3,by simpa using h1,h2.nodup nd⟩,h2⟩
theorem fc.Sw {w:World}{es:List (Key×V)}{bI:List (Str×Value)}(x:gK no i h es bI):∀{ds:List DictEntry},Pairs (SK w) ds bI->KeysOf (SK w) ds.toArray->fc no i w.params h es ds:=by
 induction x with
 |nil =>
  intro ds y _;cases y
  exact .nil
 | @cons k v a r q x _ ih =>
  intro ds y h4;cases y with
  | @cons e _ es _ h1 h2 h3 =>
  refine aQ (Value.isStrOf_shape (x:=k.str) (v:=e.key) h1) λt ht=>?_;refine aj (h4 e (List.mem_toArray.mpr (.head _))) λk' q1 q2=>?_;rw[show k'=k.str from(SK w).inj _ _ _ q1 h1]at q2;have z:=ih h3 λe he=>h4 e (List.mem_toArray.mpr (.tail _ (List.mem_toArray.mp he)));obtain⟨eh,ekey,ev⟩:=e;subst ht h2 q2;exact .cons x z
theorem xE {w:World}{a:Addr}{es:List (Key×V)}{bI:List (Str×Value)}(x:h.DictOf (SK w) a bI)(y:gK no i h es bI):∃ds n,h.get? a=some (dictOf ds n)∧fc no i w.params h es ds:=by
 obtain⟨o,YA,ep,ho,⟨c1,c2,c3⟩,hd,hk,hp,_⟩:=x;refine⟨YA.toList,ep,?_,fc.Sw y hp hk⟩;obtain⟨oc,od,oda,os⟩:=o;simp only at c1 c2 c3 hd;subst c1 c2 c3 hd
 simpa using ho
theorem gK.get {es:List (Key×V)}{bI:List (Str×Value)}(x:gK no i h es bI){k:Key}{v:V}(e:eu es k=some v):∃a,valueAt bI k.str=some a∧Val no i h v a:=by
 induction x with
 |nil=>exact bx e
 | @cons k' v' a' r q x _ ih =>
  by_cases hk:k'=k
  ·subst hk;exact⟨a',tm,oi (tQ.symm.trans e)▸x⟩
  ·rw[xy hk]at e;rw[qr λq=>hk (Key.inj _ _ q)];exact ih e
theorem gK.app {es fs:List (Key×V)}{bI YB:List (Str×Value)}(x:gK no i h es bI)(z:gK no i h fs YB):gK no i h (es++fs) (bI++YB):=by
 induction x with
 |nil=>exact z
 |cons x _ ih=>exact .cons x ih
theorem G9 {bI:List (Str×Value)}{k:Str}{v:Value}(e:k∉bI.map (·.1)):stored bI k v=bI++[(k,v)]:=by
 unfold stored;rw[if_neg];simp only[List.any_eq_true,decide_eq_true_eq,not_exists,not_and];intro x hx hk;exact e (hk▸List.mem_map_of_mem hx)
theorem EM {k:Str}{a b:Value}{q:List (Str×Value)}(hm:k∉q.map (·.1)):stored ((k,b)::q) k a=(k,a)::q:=by
 unfold stored;rw[if_pos (by simp),List.map_cons,map_store_of_not_mem q k a hm,if_pos rfl]
theorem BX {k k':Str}{a b:Value}{q:List (Str×Value)}(hs:¬k'=k):stored ((k',b)::q) k a=(k',b)::stored q k a:=by
 unfold stored;simp only[List.any_cons,hs,decide_false,Bool.false_or,List.map_cons,if_false];split<;>rfl
theorem gK.put {es:List (Key×V)}{bI:List (Str×Value)}(x:gK no i h es bI)(nd:(es.map (·.1)).Nodup){k:Key}{v:V}{a:Value}(hv:Val no i h v a):gK no i h (dput es k v) (stored bI k.str a):=by
 induction x with
 |nil=>exact .cons hv .nil
 | @cons k' v' a' r q x y ih =>
  have nd:=List.nodup_cons.mp nd;by_cases hk:k'=k
  ·subst hk;rw[Ag,EM (λhm=>?_)]
   ·exact .cons hv y
   ·rw[y.keys]at hm;refine aj (List.mem_map.mp hm) λp hp e=>?_;exact nd.1 (List.mem_map.mpr ⟨p,hp,Key.inj _ _ e⟩)
  ·rw[xA hk,BX λq=>hk (Key.inj _ _ q)];exact .cons x (ih nd.2)
theorem Rep.dict (ae:Rep C i loc hp s){a:Nat}{ad:Addr}{es:List (Key×V)}(e:i[a]?=some ad)(q:hp[a]?=some (.dict es)):∃bI,s.heap.DictOf (SK C.w) ad bI∧gK C.no i s.heap es bI∧(es.map (·.1)).Nodup:=by
 refine cg (ae.ref e q) λds n h1 h2 h3=>?_;refine aj (HF h1 h2 h3) λbI q1 q2=>?_;exact⟨bI,q1,q2,h3⟩
section
theorem Ah {α:Type}(l:List α)(a b:Nat)(hb:b≤l.length):((List.range (b - a)).filterMap λk=>l[a+k]?)=(l.take b).drop a:=by
 have e:∀n (a:Nat),a+n≤l.length->((List.range n).filterMap λk=>l[a+k]?)=(l.drop a).take n:=by
  intro n
  induction n with
  |zero=>intro a _;simp
  |succ n ih =>
   intro a h;rw[List.range_succ,List.filterMap_append,ih a (Nat.le_of_lt (by assumption))];have hl:a+n<l.length:=by assumption
   rw[List.take_succ,List.getElem?_drop];simp[List.getElem?_eq_getElem hl]
 by_cases h:a≤b
 ·rw[e (b - a) a (Nat.le_trans (Nat.le_of_eq (Nat.add_sub_cancel' h)) hb),<- List.drop_take]
 ·have h0:b - a=0:=by apply ZY<;>trivial
  rw[h0,List.drop_of_length_le (Nat.le_trans (List.length_take_le b l) (Nat.le_of_not_le h))];rfl
theorem CJ (a b:Nat):(if(a:Int)<(b:Int)then((b:Int) - a+1 - 1) / 1 else 0).toNat=b - a:=by
 by_cases h:(a:Int)<b
 ·rw[if_pos h,Int.add_sub_cancel,Int.ediv_one,Int.toNat_sub]
 ·rw[if_neg h,Nat.sub_eq_zero_of_le (Int.ofNat_le.mp (Int.not_lt.mp h))];rfl
theorem Nf (a b:Nat):sliceRange (a:Int) (b:Int) 1=(List.range (b - a)).map λ(k:Nat)=>a+k:=by
 rw[<- CJ a b];refine List.map_congr_left λk _=>?_;rw[Int.one_mul];exact Int.toNat_natCast (a+k)
theorem uI {α:Type}(l:List α)(a b:Nat)(hb:b≤l.length):(sliceRange (a:Int) (b:Int) 1).filterMap (λk=>l[k]?)=(l.take b).drop a:=by
 rw[<- Ah l a b hb,Nf,List.filterMap_map];rfl
noncomputable def fe (o:Option Nat):Option Int:=match o with|none=>none|some n=>some (n:Int)
theorem k8 {α:Type}(l:List α)(lo hi:Option Nat):cut l lo hi=(l.take (min (hi.getD l.length) l.length)).drop (min (lo.getD 0) l.length):=by
 unfold cut;rw[<- List.take_eq_take_min];have ht:=List.length_take_le' (hi.getD l.length) l;by_cases h:lo.getD 0≤l.length
 ·rw[Nat.min_eq_left h]
 ·have h:=Nat.le_of_not_le h;rw[Nat.min_eq_right h,List.drop_of_length_le (Nat.le_trans ht h),List.drop_of_length_le ht]
theorem Ai (k n:Nat):min (k:Int) n=((min k n:Nat):Int):=by omega
theorem D7 (k:Nat):¬(k:Int)<0:=Int.not_lt.mpr (Int.natCast_nonneg k)
theorem yN (k n:Nat):max (0:Int) (min (if(k:Int)<0 then(k:Int)+n else(k:Int)) n)=((min k n:Nat):Int):=by
 rw[if_neg (D7 k),Ai];exact Int.max_eq_right (Int.natCast_nonneg _)
theorem Ng (k n:Nat):(if(k:Int)<0 then max ((k:Int)+n) 0 else min (k:Int) n)=((min k n:Nat):Int):=by
 rw[if_neg (D7 k),Ai]
theorem EN (lo hi:Option Nat)(n:Nat):Builtin.Str.strSliceIndices (fe lo) (fe hi) 1 n=sliceRange ((min (lo.getD 0) n:Nat):Int) ((min (hi.getD n) n:Nat):Int) 1:=by
 unfold Builtin.Str.strSliceIndices;dsimp only[show(1:Int)>0 by decide,if_true];congr 1
 ·cases lo with
  |none=>simp[fe]
  |some k=>exact yN k n
 ·cases hi with
  |none=>simp[fe]
  |some k=>exact yN k n
theorem Aj (lo hi:Option Nat)(n:Nat):sliceBounds (fe lo) (fe hi) none n=(((min (lo.getD 0) n:Nat):Int),((min (hi.getD n) n:Nat):Int),1):=by
 unfold sliceBounds;dsimp only[Option.getD_none,show(1:Int)>0 by decide,if_true];congr 1
 ·cases lo with
  |none=>simp[fe]
  |some k=>exact yN k n
 ·congr 1;cases hi with
  |none=>simp[fe]
  |some k=>exact yN k n
theorem Sy (lo hi:Option Nat)(n:Nat):Builtin.Slice.sliceAdjust (fe lo) (fe hi) 1 (n:Int)=(((min (lo.getD 0) n:Nat):Int),((min (hi.getD n) n:Nat):Int)):=by
 unfold Builtin.Slice.sliceAdjust;dsimp only[show ¬(1:Int)<0 by decide,if_false];congr 1
 ·cases lo with
  |none=>simp[fe]
  |some k=>exact Ng k n
 ·cases hi with
  |none=>simp[fe]
  |some k=>exact Ng k n
theorem WK (a b:Nat):Builtin.Slice.slicePlaces (a:Int) (b:Int) 1=b - a:=by
 unfold Builtin.Slice.slicePlaces;rw[if_pos (by decide),<- CJ a b];by_cases h:(a:Int)<b
 ·rw[if_pos h,if_pos h,Int.ediv_one,Int.ediv_one,Int.sub_add_cancel,Int.add_sub_cancel]
 ·rw[if_neg h,if_neg h]
theorem pY (items:Array Value)(lo hi:Option Nat):slicePick items (fe lo) (fe hi) none=(cut items.toList lo hi).toArray:=by
 unfold slicePick;rw[Aj];dsimp only;rw[k8,Array.length_toList,<- uI items.toList (min (lo.getD 0) items.size) (min (hi.getD items.size) items.size) (Nat.min_le_right _ _)];congr 1;simp
theorem Vals.cut {vs:List V}{as:List Value}(x:Vals no i h vs as)(lo hi:Option Nat):Vals no i h (Internal.cut vs lo hi) (Internal.cut as lo hi):=by
 unfold Internal.cut;rw[x.length];exact(x.take _).drop _
theorem sW {v:V}{a:Value}{o:Option Nat}(hv:Val no i h v a)(e:ia v=some o):IsPart a (fe o)∧∃p:Option (Int×Tok),a=partValue p∧p.map (·.1)=fe o:=by
 cases v with
 |none =>
  obtain rfl:=oi e;obtain rfl:=hv.z6;exact⟨.none,none,rfl,rfl⟩
 |int k =>
  refine aQ (hv.dp) λt aC=>?_;subst aC;by_cases hk:0≤k
  ·obtain rfl:=oi ((if_pos hk).symm.trans e:some (some k.toNat)=some o);have e:fe (some k.toNat)=some k:=congrArg some (Int.toNat_of_nonneg hk);exact⟨e▸.int k t,some (k,t),rfl,e.symm⟩
  ·exact bx ((if_neg hk).symm.trans e)
 |_=>exact bx e
section
variable {prog:Program}{w:World}{A:Around}{E:Value->Shared->Prop}{s:Shared}
theorem CK {v:Value}{o:Option Int}{Q:Option Int->Shared->Prop}(p:IsPart v o)(hq:Q o s):wpAny (model prog w) A (Builtin.Slice.slicePartIndex v) Q E s:=by
 cases p with
 |none=>exact slicePart_none hq
 |int k t=>exact slicePart_int hq
theorem tS {sl:Addr}{vl vu:Value}{lo hi:Option Nat}{n:Nat}{Q:Int×Int×Nat->Shared->Prop}(hs:s.heap.IsSliceOf sl vl vu .none)(pl:IsPart vl (fe lo))(pu:IsPart vu (fe hi))
  (h:Q (((min (lo.getD 0) n:Nat):Int),1,min (hi.getD n) n - min (lo.getD 0) n) s) :
  wpAny (model prog w) A (Builtin.Slice.sliceApplied (.ref sl) (pure (n:Int))) Q E s:=by
 refine bC λnG=>?_;refine dQ (id hs) λos HG hcs HH=>?_;refine nG ?_;unfold Builtin.Slice.sliceApplied Builtin.Slice.sliceFields;refine wpAny_bind (wpAny_bind (wpAny_field HG HH (x:=vl) rfl (wpAny_bind (wpAny_field HG HH (x:=vu) rfl (wpAny_bind (wpAny_field HG HH (x:=.none) rfl (wpAny_pure ?_)))))));refine wpAny_bind (slicePart_none ?_);show wpAny _ _ (if((1:Int)==0)=true then _ else _) _ _ s
 rw[if_neg (by decide)];refine wpAny_bind (CK pl (wpAny_bind (CK pu (wpAny_bind (wpAny_pure ?_)))));show wpAny _ _ (match Builtin.Slice.sliceAdjust (fe lo) (fe hi) 1 (n:Int)with|(lo,hi)=>pure (lo,(1:Int),Builtin.Slice.slicePlaces lo hi 1)) _ _ s
 rw[Sy];exact wpAny_pure (WK _ _▸h)
theorem KJ {lo hi:Option Nat}(items:Array Value):((List.range (min (hi.getD items.size) items.size - min (lo.getD 0) items.size)).filterMap λ(k:Nat)=>items[(((min (lo.getD 0) items.size:Nat):Int)+(k:Int)*1).toNat]?).toArray=(cut items.toList lo hi).toArray:=by
 rw[k8,Array.length_toList,<- Ah items.toList (min (lo.getD 0) items.size) (min (hi.getD items.size) items.size) (Nat.min_le_right _ _)];congr 2
 funext k
 rw[Int.mul_one,Array.getElem?_toList];exact congrArg (λn=>items[n]?) (Int.toNat_natCast _)
theorem KL {lo hi:Option Nat}{items:Array Value}(hw:(cut items.toList lo hi).length<items.size):¬((((min (lo.getD 0) items.size:Nat):Int)==0&&(1:Int)==1&&(min (hi.getD items.size) items.size - min (lo.getD 0) items.size)==items.size)=true):=λhq=>by
 have h:=beq_iff_eq.mp (bk hq).2;rw[k8,List.length_drop,List.length_take,Array.length_toList,Nat.min_eq_left (Nat.min_le_right _ _),h]at hw;exact Nat.lt_irrefl _ hw
theorem Sz {α:Type}(l:List α)(lo hi:Option Nat):(cut l lo hi).length≤l.length:=by
 unfold cut;rw[List.length_drop];exact Nat.le_trans (Nat.sub_le _ _) (List.length_take_le' _ _)
theorem sY {t sl:Addr}{items:Array Value}{vl vu:Value}{lo hi:Option Nat}{Q:Value->Shared->Prop}(ht:IsTup s.heap t items)(hs:s.heap.IsSliceOf sl vl vu .none)(pl:IsPart vl (fe lo))(pu:IsPart vu (fe hi))
  (hw:(cut items.toList lo hi).length<items.size) (h:Q (.ref s.heap.objs.size) {s with heap:=s.heap.push {cls:=.type "tuple",data:=.seq (cut items.toList lo hi).toArray}})
  (xG:items.size≤sizeLine):wpAny (model prog w) A (getItem (.ref t) (.ref sl)) Q E s:=by
 have EO:sizeOk (.seq (cut items.toList lo hi).toArray):=Nat.le_trans (Nat.le_of_lt hw) xG;have hTs:s.TypeIs (.ref sl) "slice":=hs.elim λos x=>⟨os,x.1,x.2.1⟩;unfold getItem
 try with_reducible refine wpAny_holding ?_
 first|refine wpAny_bind (wpAny_pure ?_)|skip
 refine wpAny_bind (wpAny_sequenceKey ht.typeIs (by decide) ?_)
 refine wpAny_bind (wpAny_callSpecial?_slot (name:=Str.ofString "__getitem__") ht.typeIs slot_tuple_getitem
  (wpAny_call_entry slot_tuple_getitem ht.typeIs entry_tuple_getitem ?_ (args_tuple_getitem _ _)))
 show wpAny _ _ (Builtin.Tuple.tupleItemsOf (.ref t)>>=_) _ _ s;refine wpAny_bind (tupleItemsOf_ ht ?_);refine wpAny_bind (wpAny_typeOf hTs ?_);rw[if_pos (by decide)];refine wpAny_bind (tS hs pl pu ?_);show wpAny _ _ (if(((min (lo.getD 0) items.size:Nat):Int)==0&&(1:Int)==1&&(min (hi.getD items.size) items.size - min (lo.getD 0) items.size)==items.size)=true then _ else _) _ _ s
 rw[if_neg (KL hw),KJ]
 first
  |exact wpAny_bind (m:=Builtin.Tuple.tupleExact _) (wpAny_newObj_type (wpAny_pure ⟨_,rfl,wpAny_pure h⟩) EO)
  |exact wpAny_bind (m:=Builtin.Tuple.tupleExact _) (wpAny_newObj_type (wpAny_bind (wpAny_pure (wpAny_pure ⟨_,rfl,wpAny_pure h⟩))) EO)
  |exact wpAny_bind (wpAny_bind (m:=Builtin.Tuple.tupleExact _) (wpAny_newObj_type (wpAny_pure (wpAny_pure ⟨_,rfl,wpAny_pure h⟩)) EO))
  |exact wpAny_bind (wpAny_bind (m:=Builtin.Tuple.tupleExact _) (wpAny_newObj_type (wpAny_pure ⟨_,rfl,wpAny_pure h⟩) EO))
end
end
section
theorem Rep.Ak {n:Nat}(O:C.Ok n)(ae:Rep C i loc hp s){v:V}{a:Value}(x:KD C.w.params s.heap v a):Val C.no i s.heap v a :=
 (x C.no λb hb=>by
  cases q:(K C.w.params).lookup b with
  |none=>rfl
  |some o=>have:=O.dJ b o q;rw[O.noNew b hb]at this;cases this).keep ⟨i,rfl⟩ (bq.refl _ s.heap)
theorem qu (x:List Nat):(eX.map λp=>(p.1,V.str p.2)).lookup x=(eX.lookup x).map V.str:=by
 generalize eX=l
 induction l with
 |nil=>rfl
 |cons p r ih =>
  obtain⟨a,b⟩:=p;simp only[List.map_cons,List.lookup_cons];cases x==a<;>simp[ih]
theorem wz {k:Int}{n j:Nat}(e:tD k n=some j):seqIndex? k n=some j∧-(2 ^ 63)≤k∧k<2 ^ 63:=by
 unfold tD at e;cases hs:dz k with
 |false=>rw[hs]at e;exact bx e
 |true =>
  rw[hs]at e;have hs:k.natAbs<2 ^ 62:=of_decide_eq_true hs;exact⟨e,Int.neg_le_of_neg_le (Int.le_trans (Int.natAbs_neg k▸Int.le_natAbs) (Int.ofNat_le.mpr (Nat.le_trans (Nat.le_of_lt hs) (Nat.le_of_ble_eq_true rfl)))),Int.lt_of_le_of_lt Int.le_natAbs (Int.ofNat_lt.mpr (Nat.lt_of_lt_of_le hs (Nat.le_of_ble_eq_true rfl)))⟩
theorem OP {k:Int}{n j:Nat}(e:seqIndex? k n=some j):0≤(if k<0 then k+n else k)∧j=(if k<0 then k+n else k).toNat:=by
 unfold seqIndex? at e;by_cases h:(decide (0≤(if k<0 then k+(n:Int)else k))&&decide ((if k<0 then k+(n:Int)else k)<n))=true
 ·exact⟨of_decide_eq_true (bk h).1,(oi ((if_pos h).symm.trans e)).symm⟩
 ·exact bx ((if_neg h).symm.trans e)
theorem Int.nL {k:Int}{n:Nat}(h:0≤k+n):-(n:Int)≤k:=by omega
theorem CL {vs:List V}{its:Array Value}(x:Vals no i h vs its.toList){k:Int}{v:V}(e:rn vs k=some v):∃j a,tD k its.size=some j∧its[j]?=some a∧Val no i h v a:=by
 refine aj (bE e) λj hj e=>?_;refine aj (x.get e) λa h1 h2=>?_;exact⟨j,a,by rw[<- Array.length_toList,<- x.length];exact hj,by rw[<- Array.getElem?_toList];exact h1,h2⟩
section
variable {n:Nat}{a b:Value}{value slice:Expr}{v:V}
theorem Xa (ae:Rep C i loc hp s){vs:List V}{k:Int}(hu:Val C.no i s.heap (.tup vs) a)(hw:Val C.no i s.heap (.int k) b)(e:rn vs k=some v)(il:subscripted slice false a b=operate [a,b] (getItem a b)):SV C own i loc s (.ok v hp) (subscriptTail value slice a b):=λ_=>by
 refine aQ (hw.dp) λt' aC=>?_;subst aC;refine tE (hu.fA) λt its bH cT x y=>?_;subst bH;refine cg (CL y e) λj c h1 h2 h3=>?_;refine ke (wz h1) λq1 q3 q4=>?_;exact tail_any (s:=s) x.is.typeIs slot_tuple_getitem.lookup (getItem_tuple x.is q3 q4 q1 h2 (dW ae (aJ.refl ..) h3)) il
theorem Xb (ae:Rep C i loc hp s){l:List Nat}{k:Int}{j c:Nat}(hu:Val C.no i s.heap (.str l) a)(hw:Val C.no i s.heap (.int k) b)(hj:tD k l.length=some j)(hc:l[j]?=some c)(il:subscripted slice false a b=operate [a,b] (getItem a b)):SV C own i loc s (.ok (.str [c]) hp) (subscriptTail value slice a b):=λ_=>by
 refine aQ (hw.dp) λt' aC=>?_;subst aC;refine aQ (hu.cP) λt aC=>?_;subst aC;refine ke (wz hj) λq1 q3 q4=>?_;refine tail_any (s:=s) (typeIs_str s (S l) t) PySem.F.slot_str_getitem.lookup (P.getItem_str (c:=c) ?_ ?_ (dP ae (.str [c] _))) il
 ·rw[decide_eq_false (Int.not_lt.mpr q3),decide_eq_false (Int.not_le.mpr q4)];rfl
 ·rw[dC,q1];show l.toArray[j]?=some c;rw[List.getElem?_toArray];exact hc
theorem Xc (ae:Rep C i loc hp s){m:Nat}{vs:List V}{k:Int}(hu:Val C.no i s.heap (.ref m) a)(hw:Val C.no i s.heap (.int k) b)(q:hp[m]?=some (.list vs))(e:rn vs k=some v)(il:subscripted slice false a b=operate [a,b] (getItem a b)):SV C own i loc s (.ok v hp) (subscriptTail value slice a b):=λ_=>by
 refine aQ (hw.dp) λt' aC=>?_;subst aC;refine aj (hu.cQ) λad aC e1=>?_;subst aC;refine eH (ae.ref e1 q) λits ni h1 h2=>?_;refine cg (CL h2 e) λj c g1 g2 g3=>?_;refine ke (wz g1) λq1 q3 q4=>?_;refine bp (OP q1) λq5 aC=>?_;subst aC;have hl:s.heap.IsList ad its:=⟨_,h1,rfl,_,rfl⟩;refine tail_any (s:=s) hl.typeIs slot_list_getitem.lookup ?_ il;by_cases h0:k<0
 ·rw[if_pos h0]at q5 g2;exact wpAny_getItem_list_neg hl h0 (Int.nL q5) q3 g2 (dW ae (aJ.refl ..) g3)
 ·rw[if_neg h0]at q5 g2;exact wpAny_getItem_list hl q5 q4 g2 (dW ae (aJ.refl ..) g3)
theorem Xd (O:C.Ok n)(F:bU C.w.params)(ae:Rep C i loc hp s){x y:List Nat}(hu:Val C.no i s.heap (.fix (.ref 87)) a)(hw:Val C.no i s.heap (.str x) b)(hy:eX.lookup x=some y)(il:subscripted slice false a b=operate [a,b] (getItem a b)):SV C own i loc s (.ok (.str y) hp) (subscriptTail value slice a b):=λ_=>by
 have ea:=hu.ku;subst ea;refine aQ (hw.cP) λt aC=>?_;subst aC;refine aj (F.eX C.w rfl s.heap (ae.dJ O)) λbI h1 h2=>?_;have g:=h2.get x;rw[qu,hy]at g;refine aj g λc g1 g2=>?_;exact tail_any (s:=s) h1.typeIs slot_dict_getitem.lookup (wpAny_getItem_of (strKind_is pw C.w (S x) t) h1.mapOf g1 (dP ae (ae.Ak O g2))) il
end
theorem HI {n:Nat}(O:C.Ok n)(F:bU C.w.params)(ae:Rep C i loc hp s){u w v:V}{a b:Value}(hu:Val C.no i s.heap u a)(hw:Val C.no i s.heap w b)(e:bh hp u w=some v){value slice:Expr}(il:∀o,subscripted slice false o b=operate [o,b] (getItem o b)) :
  SV C own i loc s (.ok v hp) (subscriptTail value slice a b):=by
 cases u with
 |tup vs =>
  refine aj (bE e) λk hk e=>?_;exact Xa ae hu (iU hk▸hw) e (il _)
 |str l =>
  refine aj (bE e) λk hk e=>?_;refine aj (bE e) λj hj e=>?_;refine aj (Option.map_eq_some_iff.mp e) λc hc bH=>?_;subst bH;exact Xb ae hu (iU hk▸hw) hj hc (il _)
 |ref m =>
  refine aj (bE e) λvs q e=>?_;refine aj (bE e) λk hk e=>?_;exact Xc ae hu (iU hk▸hw) (dE q) e (il _)
 |fix f =>
  refine aj (bE e) λx hx e=>?_;cases h:isRef 87 f with
  |false=>rw[h]at e;exact bx e
  |true =>
   rw[h]at e;refine aj (Option.map_eq_some_iff.mp e) λy hy bH=>?_;subst bH;exact Xd O F ae (oF h▸hu) (fz hx▸hw) hy (il _)
 |_=>exact bx e
theorem EP {n:Nat}(O:C.Ok n)(ae:Rep C i loc hp s){a:Nat}{ad:Addr}{es:List (Key×V)}{k:Key}{v:V}{t:Tok}(e1:i[a]?=some ad)(q:hp[a]?=some (.dict es))(e:eu es k=some v){value slice:Expr}
  (il:subscripted slice false (.ref ad) (.str k.str t)=operate [.ref ad,.str k.str t] (getItem (.ref ad) (.str k.str t))) :
  SV C own i loc s (.ok v hp) (subscriptTail value slice (.ref ad) (.str k.str t)):=by
 intro _;refine dQ (ae.dict e1 q) λbI h1 h2 h3=>?_;refine aj (h2.get e) λc g1 g2=>?_;exact tail_any (s:=s) h1.typeIs slot_dict_getitem.lookup (wpAny_getItem_of (strKind_is pw C.w k.str t) h1.mapOf g1 (dP ae g2)) il
section
variable {u:V}{a b c:Value}{lo hi:Option Nat}{Q:Value->Shared->Prop}{E:Value->Shared->Prop}{h':Heap}{sl:Addr}{pl pu:Option (Int×Tok)}
theorem OQ (l:List Nat)(ep:slicePicked (S l) pl pu none=sliceRange ((min (lo.getD 0) l.length:Nat):Int) ((min (hi.getD l.length) l.length:Nat):Int) 1)(hw:(slicePicked (S l) pl pu none).length=l.length):cut l lo hi=l:=by
 rw[ep,Nf,List.length_map,List.length_range]at hw
 have h2:(cut l lo hi).length=l.length:=by
  rw[k8,List.length_drop,List.length_take,Nat.min_eq_left (Nat.min_le_right _ _)];exact hw
 exact((List.drop_sublist _ _).trans (List.take_sublist _ _)).eq_of_length h2
theorem HJ {l:List Nat}{t:Tok}(q:To C own i s (λ_=>loc) (Val C.no) (.ok (.str (cut l lo hi)) hp) Q E)(ak:Rep C i loc hp s)(Nh:pl.map (·.1)=fe lo)(Ni:pu.map (·.1)=fe hi)(hz:l.length≤sizeLine):(sliceMade (S l) t pl pu none).post Q s:=by
 have ep:slicePicked (S l) pl pu none=sliceRange ((min (lo.getD 0) l.length:Nat):Int) ((min (hi.getD l.length) l.length:Nat):Int) 1:=by
  unfold slicePicked;rw[Nh,Ni,dC];exact EN lo hi l.length
 have ec:(slicePicked (S l) pl pu none).filterMap (λk=>(S l).cps[k]?)=cut l lo hi:=by
  rw[k8,<- uI l _ _ (Nat.min_le_right _ _),<- ep];congr 1;funext k;exact List.getElem?_toArray
 unfold sliceMade;split
 ·rename_i hw;have e:=OQ l ep ((beq_iff_eq.mp (bk hw).2).trans (dC l));exact q.fin ak (e.symm▸.str l t)
 ·rw[ec];exact⟨Nat.le_trans (Nat.le_of_eq (dC _)) (Nat.le_trans (Sz ..) hz),q.toks ak (.str _ _) (Nat.le_add_right _ _)⟩
end
theorem BY {n:Nat}(O:C.Ok n)(ae:Rep C i loc hp s){u x y:V}{a b c:Value}{lo hi:Option Nat}(hu:Val C.no i s.heap u a)(hx:Val C.no i s.heap x b)(hy:Val C.no i s.heap y c)(e1:ia x=some lo)(e2:ia y=some hi){value slice:Expr}
  (il:∀o z,subscripted slice false o z=operate [z,o] (getItem o z)) {Q:Value->Shared->Prop} {E:Value->Shared->Prop} (q:To C [] i s (λ_=>loc) (Val C.no) (gZ hp u lo hi) Q E) :
  wpAny C.M C.A (newFields "slice" [b,c,.none]) (λz ah=>wpAny C.M C.A (subscriptTail value slice a z) Q E ah) E s:=by
 obtain⟨p1,pl,YC,Nh⟩:=sW hx e1;obtain⟨p2,pu,YD,Ni⟩:=sW hy e2;unfold newFields;refine wpAny_newObj_type ?_ (by show _≤_;simp[sizeLine]);have kp:∀b' o,s.heap.get? b'=some o->(s.heap.push {cls:=.type "slice",data:=.fields #[b,c,.none]}).get? b'=some o:=λ_ _ e=>Heap.get?_push_of_some _ e;refine bp (ae.more (own:=[]) (t:=s.toks) (d:=s.drawn) kp) λak k₁=>?_;have hu:=k₁.vl ae hu;have q:=q.up k₁;have hs:=Heap.IsSliceOf.new s.heap b c .none;cases u with
 |str l =>
  refine aQ (hu.cP) λt aC=>?_;subst aC;refine bp (q.rI) λhz q=>?_;exact tail_any (s:=_) (typeIs_str _ (S l) t) PySem.F.slot_str_getitem.lookup (wpAny_getItem_str_slice (l:=pl) (u:=pu) (st:=none) ⟨_,Heap.get?_push_size _ rfl,rfl,by rw[YC,YD];rfl⟩ rfl (HJ q ak Nh Ni (of_decide_eq_true hz))) (il _ _)
 |tup l =>
  refine tE (hu.fA) λt its bH cT x' y'=>?_;subst bH;refine bp (q.rI) λhz q=>?_;refine bp (bk hz) λhz hw=>?_;have hl:l.length=its.size:=y'.length.trans Array.length_toList;have hlen:=(y'.cut lo hi).length;refine tail_any (s:=_) x'.is.typeIs slot_tuple_getitem.lookup (sY x'.is hs p1 p2 (by rw[<- hlen,<- hl];exact of_decide_eq_true hw) ?_ (by rw[<- hl];exact of_decide_eq_true hz)) (il _ _);refine fj (uA (own:=[]) ak (y'.cut lo hi) (t:=s.toks) (d:=s.drawn)) λs' e aV k₂ w=>?_;exact e▸q.at aV k₂ w
 |ref m =>
  refine aj (hu.cQ) λad aC e3=>?_;subst aC;refine aj (q.rB) λl hq q=>?_;refine bp (q.rI) λhz q=>?_;refine eH (ak.ref e3 (dE hq)) λits ni h1 h2=>?_;have hl:l.length=its.size:=h2.length.trans Array.length_toList;have HL:(s.heap.push {cls:=.type "slice",data:=.fields #[b,c,.none]}).IsList ad its:=⟨_,h1,rfl,_,rfl⟩;refine tail_any (s:=_) (Heap.IsList.typeIs (s:={s with heap:=s.heap.push {cls:=.type "slice",data:=.fields #[b,c,.none]}}) HL) slot_list_getitem.lookup (wpAny_getItem_list_slice HL hs p1 p2 .none (by simp) ?_ (by rw[<- hl];exact of_decide_eq_true hz)) (il _ _);rw[pY];refine fj (uB (own:=[]) ak (h2.cut lo hi) (t:=s.toks) (d:=s.drawn)) λs' e aV k₂ w=>?_;exact e▸q.at aV k₂ w
 |_=>exact q.jO
end
section
noncomputable def tT:Expr->Bool
 |.Slice ..=>true
 |_=>false
theorem wA (slice:Expr)(o b:Value):tT slice=true∨subscripted slice false o b=operate [o,b] (getItem o b):=by
 cases slice<;>first|exact .inr rfl|exact .inl rfl
theorem lC {slice:Expr}(h:tT slice=false)(o b:Value):subscripted slice false o b=operate [o,b] (getItem o b) :=
 (wA slice o b).resolve_left (by rw[h];exact nofun)
section
variable {n N:Nat}{d:cy}{c:Ca}(O:C.Ok n)(F:bU C.w.params)(D:c5 n d)
include O F D
theorem HM (ae:Rep C i loc hp s)(o sl:Expr)(pos:Pos)(hs:tT sl=false):SV C [] i loc s (aq (d.ex C.sc o) (d.ex C.sc sl) loc hp) (eval (.Subscript o sl pos) C.env) :=
 sn λq=>Subscript_ (cU (D.ex O F.base ae o) q λa u au aB ah ak k₁ aP q=>cU (D.ex O F.base ak sl) q λb v bJ cm aO aV k₂ cX q=>by
  refine aj (q.oB) λr hv q=>?_;exact(HI O F aV (k₂.vl ak aP) cX hv λo=>lC hs o b).to q)
theorem OR (ae:Rep C i loc hp s)(o:Expr)(x:Str)(k:Key)(q:Nat)(p pos:Pos)(hk:Key.of x=some k):SV C [] i loc s (bO (d.ex C.sc o) k loc hp) (eval (.Subscript o (.Constant (.str x) q p) pos) C.env):=by
 cases Key.nJ hk
 refine sn λq=>Subscript_ (cU (D.ex O F.base ae o) q λa u au aB ah ak k₁ aP q=>wpAny_Constant_str ?_);refine bp (ak.toks (own:=[]) (ah.toks+1)) λaV k₂=>?_;have q:=q.up k₂;refine aj (q.rB) λtR q0 q=>?_;refine aj (q.rB) λes q1 q=>?_;refine aj (q.oB) λr hv q=>?_;refine aj ((gw q0▸aP:Val C.no aB ah.heap (.ref tR) a).cQ) λad aC e3=>?_;subst aC;exact(EP O aV e3 (kr q1) hv (lC rfl _ _)).to q
theorem CM (ae:Rep C i loc hp s)(e:Option Expr):SV C [] i loc s (z5 d C.sc e loc hp) (valueOrNone (evalOpt e C.env)):=by
 cases e with
 |none=>exact sn λq=>wpAny_pure (q.fin ae .none)
 |some e=>exact D.ex O F.base ae e
theorem KN (ae:Rep C i loc hp s)(o:Expr)(lo hi:Option Expr)(p pos:Pos) :
  SV C [] i loc s (cV (d.ex C.sc o) (z5 d C.sc lo) (z5 d C.sc hi) loc hp) (eval (.Subscript o (.Slice lo hi none p) pos) C.env):=by
 refine sn λ{Q E} q=>Subscript_ (cU (D.ex O F.base ae o) q λa u au aB ah ak k₁ aP q=>?_)
 show wpAny _ _ (do
  let l <- valueOrNone (evalOpt lo C.env)
  let u <- holding [l] (valueOrNone (evalOpt hi C.env))
  let s <- holding [l,u] (valueOrNone none)
  newFields "slice" [l,u,s]) _ _ _
 refine wpAny_bind (cU (CM O F D ak lo) q λb x bJ cm aO aV k₂ cX q=>wpAny_bind (wpAny_holding (cU (CM O F D aV hi) q λc y rv KO eR cj cL m8 q=>wpAny_bind (wpAny_holding (wpAny_pure ?_)))));refine aj (q.rB) λqv q1 q=>?_;refine aj (q.rB) λlD q2 q=>?_;exact BY O cj (cL.vl aV (k₂.vl ak aP)) (cL.vl aV cX) m8 q1 q2 (value:=o) (slice:=.Slice lo hi none p) (λ_ _=>rfl) q
end
end
section
set_option backward.match.sparseCases true
theorem wB (k:Int):Str.ofString (toString k)=S (bS k):=Str.ofString_eq_toList _
theorem qw {k:Int}(h:dz k=true):k.natAbs.log2<1920:=by
 have hk:k.natAbs<2 ^ 62:=of_decide_eq_true h;by_cases h0:k.natAbs=0
 ·rw[h0];decide
 ·exact Nat.lt_trans ((Nat.log2_lt h0).mpr hk) (by decide)
theorem OS {es:List (Key×V)}{bI:List (Str×Value)}(x:gK C.no i h es bI):bI.length=es.length:=by
 have:=congrArg List.length x.keys;rwa [List.length_map,List.length_map]at this
inductive KT (P:Expr->Prop):List (Option Expr)->List Key->List Expr->Prop
 |nil:KT P [] [] []
 |cons (k:Key) (q:Nat) (p:Pos) (v:Expr) (hv:P v) {r:List (Option Expr)} {ks:List Key} {vs:List Expr} (h:KT P r ks vs):KT P (some (.Constant (.str k.str) q p)::r) (k::ks) (v::vs)
theorem HN {o:Option Expr}{k:Key}(h:Hq o=some k):∃q p,o=some (.Constant (.str k.str) q p):=by
 refine aj (bE h) λe aC h1=>?_;subst aC;refine aj (bE h1) λx hx h2=>?_;refine jK (tP hx) λq p bH=>?_;subst bH;exact⟨q,p,by rw[Key.nJ h2]⟩
theorem Al {P:Expr->Prop}(l:List (Option Expr)):∀(ks:List Key) (vs:List Expr),ou l=some ks->ks.length=vs.length->(∀e∈vs,P e)->KT P l ks vs∧ks.Nodup:=by
 induction l with
 |nil =>
  intro ks vs e hl _;cases oi e
  rw[List.eq_nil_of_length_eq_zero hl.symm];exact⟨.nil,.nil⟩
 |cons o r ih =>
  intro ks vs e hl hP;refine aj (bE e) λk h1 e=>?_;refine aj (bE e) λYE h2 e=>?_;cases hc:YE.contains k with
  |true=>rw[hc]at e;exact bx e
  |false =>
  rw[hc]at e;cases oi e
  cases vs with
  |nil=>exact absurd hl (Nat.succ_ne_zero _)
  |cons v vs =>
  refine jK (HN h1) λq p bH=>?_;subst bH;have hi:=ih YE vs h2 (Nat.succ.inj hl) λe he=>hP e (.tail _ he);exact⟨.cons k q p v (hP v (.head _)) hi.1,List.nodup_cons.mpr ⟨λhm=>Bool.false_ne_true (hc.symm.trans (List.contains_iff_mem.mpr hm)),hi.2⟩⟩
theorem Am {α:Type}{c:Prop}[Decidable c]{a b:α}(h:(if c then some a else none)=some b):c∧a=b:=by
 by_cases hc:c
 ·exact⟨hc,oi ((if_pos hc).symm.trans h)⟩
 ·exact bx ((if_neg hc).symm.trans h)
noncomputable def pairsOf (pos:Pos) (env:Env):List (Option Expr)->List Expr->List (Sem Value×Sem Value)
 |some k::ks,v::vs=>(eval k env,do let x <- eval v env;standAt pos;pure x)::pairsOf pos env ks vs
 |_,_=>[]
section
variable {n N:Nat}{d:cy}{c:Ca}(O:C.Ok n)(F:bU C.w.params)(D:c5 n d)
include O F D
theorem SA (ae:Rep C i loc hp s)(e:Expr)(pos:Pos):SV C [] i loc s (c7 (d.ex C.sc e) loc hp) (eval (.FormattedValue e (-1) none pos) C.env) :=
 sn λq=>wpAny_FormattedValue_plain (cU (D.ex O F.base ae e) q λa v au aB ah ak k₁ aP q=>by
  refine aj (To.Yy (g:=Ek) q) λl hf q=>?_;cases v with
  |str l =>
   refine aQ (aP.cP) λt aC=>?_;subst aC;refine bp (Am hf) λhz aC=>?_;subst aC;exact wpAny_formatField_str (q.fin ak (.str l t)) (q.toks ak (.str l _) (Nat.le_add_right _ _)) (by rw[dC];exact hz)
  |int k =>
   refine aQ (aP.dp) λt aC=>?_;subst aC;refine bp (Am hf) λhz aC=>?_;subst aC;refine wpAny_formatField_int (qw hz) ?_;rw[wB];exact q.toks ak (.str _ _) (Nat.le_add_right _ 2)
  |_=>exact bx hf)
omit O F D in
theorem xk (e:Sem Value)(r:List (Sem Value))(x:Str):joinParts x (e::r)=(do
   let some y <- asStr? (<- e)|unsupported "internal:joinedstr"
   if x.length+y.length>sizeLine then unsupported "str:memory"
   joinParts (x++y) r):=rfl
theorem An (es:List Expr):∀(out:List Nat) {i loc hp s},Rep C i loc hp s->out.length≤sizeLine->SV C [] i loc s (mK out (es.map (d.ex C.sc)) loc hp) (joinParts (S out) (evalEach es C.env)):=by
 induction es with
 |nil=>exact λout {i loc hp s} ae hz=>sn λq=>wpAny_mkStr' (x:=S out) (q.toks ae (.str out _) (Nat.le_add_right _ _)) (by rw[dC];exact hz)
 |cons e r ih =>
  exact λout {i loc hp s} ae hz=>sn λ{Q E} q=>xk (eval e C.env) (evalEach r C.env) (S out)▸wpAny_bind (cU (D.ex O F.base ae e) q λa v au aB ah ak k₁ aP q=>by
   refine aj (q.rB) λl hl q=>?_;refine bp (q.rI) λhf q=>?_;refine aQ ((fz hl▸aP:Val C.no aB ah.heap (.str l) a).cP) λt aC=>?_;subst aC;have hf:out.length+l.length≤sizeLine:=of_decide_eq_true hf;refine wpAny_bind (wpAny_of_eq (a:=some (S l)) rfl ?_);show wpAny _ _ (if(S out).length+(S l).length>sizeLine then _ else _) _ _ _
   rw[if_neg (by rw[dC,dC];exact Nat.not_lt.mpr hf),Nd];exact(ih (out++l) ak (by rw[List.length_append];exact hf)).to q)
theorem OT (ae:Rep C i loc hp s)(es:List Expr)(pos:Pos):SV C [] i loc s (eP (es.map (d.ex C.sc)) loc hp) (eval (.JoinedStr es pos) C.env):=by
 show SV C [] i loc s _ (joinedStr (evalEach es C.env));cases es with
 |nil=>exact An O F D [] [] ae (Nat.zero_le _)
 |cons e r =>
  cases r with
  |nil =>
   refine sn λ{Q E} q=>?_;show wpAny _ _ (eval e C.env) _ _ _;refine cU (D.ex O F.base ae e) q λa v au aB ah ak k₁ aP q=>?_;refine aj (q.rB) λl hl q=>?_;refine bp (q.rI) λhf q=>?_;exact q.fin ak (fz hl▸aP:Val C.no aB ah.heap (.str l) a)
  |cons e' r=>exact An O F D (e::e'::r) [] ae (Nat.zero_le _)
omit O F D in
theorem BZ (pos:Pos)(env:Env){P:Expr->Prop}{ks:List (Option Expr)}{kk:List Key}{vs:List Expr}(h:KT P ks kk vs) :
  (evalEachOpt ks env).zip ((evalEach vs env).map λv=>do let x <- v;standAt pos;pure x)=(pairsOf pos env ks vs).map (λp=>(some p.1,p.2))∧(pairsOf pos env ks vs).length=vs.length:=by
 induction h with
 |nil=>exact⟨rfl,rfl⟩
 |cons k q p v hv h ih=>exact⟨congrArg (_::·) ih.1,congrArg (·+1) ih.2⟩
end
section
variable {gx:Expr->Ex}{P:Expr->Prop}(Dg:∀{i loc hp s},Rep C i loc hp s->∀e,P e->SV C [] i loc s (gx e loc hp) (eval e C.env))
include Dg
abbrev KVr (no:List Addr)(w:World)(kk:List Key):fK (List (Value×Value)) (List V):=λi h b a=>∃bI,Carries (SK w) a bI∧gK no i h (kk.zip b) bI
omit Dg in
theorem xl (k v:Sem Value)(r:List (Sem Value×Sem Value)):evalPairs ((k,v)::r)=(do
   let kv <- k
   let vv <- holding [kv] v
   return (kv,vv)::(<- holding [kv,vv] (evalPairs r))):=rfl
theorem KP (pos:Pos){ks:List (Option Expr)}{kk:List Key}{vs:List Expr}(h:KT P ks kk vs):∀{i loc hp s},Rep C i loc hp s ->
   eF C [] i s (λ_=>loc) (KVr C.no C.w kk) (xs (vs.map (gx)) loc hp) (evalPairs (pairsOf pos C.env ks vs)):=by
 induction h with
 |nil=>exact λae=>sn λq=>wpAny_pure (q.fin ae ⟨[],trivial,.nil⟩)
 | @cons k q p v hv ks kk vs h ih =>
  intro i loc hp s ae;refine sn λ{Q E} q'=>xl _ _ _▸wpAny_bind (wpAny_Constant_str ?_);refine bp (ae.toks (own:=[]) (s.toks+1)) λak k₁=>?_;refine wpAny_bind (wpAny_holding (wpAny_bind (cU (Dg ak v hv) (q'.up k₁) λa u bJ cm aO aV k₂ cX q'=>wpAny_bind (wpAny_standAt (wpAny_pure (wpAny_bind (wpAny_holding (cU (ih aV) q' λps us rv KO eR cj cL m8 q'=>?_))))))));exact m8.elim λbI x=>wpAny_pure (q'.fin cj ⟨(k.str,a)::bI,⟨strKind_is pw C.w k.str _,rfl,x.1⟩,.cons (cL.vl aV cX) x.2⟩)
omit Dg in
theorem ER (bI:List (Str×Value)):∀acc:List (Str×Value),((acc++bI).map (·.1)).Nodup->merged acc bI=acc++bI:=by
 induction bI with
 |nil=>exact λacc _=>(List.append_nil _).symm
 |cons p r ih =>
  intro acc nd
  have hk:p.1∉acc.map (·.1):=λhm=>by
   rw[List.map_append,List.nodup_append]at nd;exact nd.2.2 p.1 hm p.1 (.head _) rfl
  have e:merged acc (p::r)=merged (stored acc p.1 p.2) r:=rfl;rw[e,G9 hk,ih (acc++[(p.1,p.2)]) (by rw[List.append_assoc];exact nd),List.append_assoc];rfl
omit Dg in
theorem KQ (ks:List Key)(vs:List V)(h:ks.length=vs.length):(ks.zip vs).map (·.1)=ks:=List.map_fst_zip (Nat.le_of_eq h)
theorem CN (ae:Rep C i loc hp s)(ks:List (Option Expr))(kk:List Key)(vs:List Expr)(pos:Pos)(hk:ou ks=some kk)(hl:kk.length=vs.length)(h0:vs≠[])(SE:vs.length≤15)(hP:∀e∈vs,P e) :
  SV C [] i loc s (lI (kk.zip (vs.map (gx))) loc hp) (eval (.Dict ks vs pos) C.env):=by
 have xH:kk.length=(vs.map gx).length:=hl.trans (List.length_map ..).symm
 have ez:lI (kk.zip (vs.map (gx))) loc hp=az (xs (vs.map (gx)) loc hp) (M0 kk):=by
  unfold lI;rw[List.map_snd_zip (Nat.le_of_eq xH.symm),List.map_fst_zip (Nat.le_of_eq xH)]
 rw[ez];refine sn λ{Q E} q=>?_;refine bp (Al ks kk vs hk hl hP) λht nd=>?_;refine bp (BZ pos C.env ht) λsh ln=>?_;refine wpAny_Dict_pairs (knd:=SK C.w) sh (λe=>h0 (List.eq_nil_of_length_eq_zero (ln.symm.trans (congrArg List.length e)))) (Nat.le_trans (Nat.le_of_eq ln) SE) ?_;have Ao:=EF s.heap;refine zQ (ae.fresh Ao) λf1 f2 f3 f4=>?_;refine bp (ae.push (own:=[]) {cls:=.type "dict",data:=.dict #[]}) λak k₁=>?_;have hd:(s.heap.push {cls:=.type "dict",data:=.dict #[]}).get? s.heap.objs.size=some {cls:=.type "dict",data:=.dict #[]}:=Heap.get?_push_size _ rfl;refine Kv (KP Dg pos ht ak) (q.up k₁) λps us bJ cm aO er aV k₂ cX _=>?_;have K:=k₁.trans k₂;refine aj cX λbI c1 c2=>?_;have Nj:=k₂.keep _ _ hd List.not_mem_nil f1;have SH:=k₂.off hd f1;refine⟨bI,c1,⟨_,#[],0,Nj,⟨rfl,rfl,rfl⟩,rfl,λe he=>absurd he (Array.not_mem_empty e),.nil,.nil⟩,λh' hD hS=>?_⟩;have hus:kk.length=us.length:=xH.trans (Af _ _ _ _ _ er).symm;have YF:((kk.zip us).map (·.1)).Nodup:=(KQ kk us hus).symm▸nd
 rw[ER bI [] (c2.nodup YF),List.nil_append]at hD;have Ra:=aV.join (o:=.dict []) SH f2 f3 f4 ⟨[],0,Nj,.nil,.nil⟩
 obtain⟨Rb,Kb⟩:=Ra.put (own:=[]) (n:=bJ.length) (o':=.dict (kk.zip us)) (t:=aO.toks+ps.length) (d:=aO.drawn) (aV.len▸List.getElem?_concat_length) hS (λtk=>by
  obtain⟨ds,nn,HH,Xe⟩:=xE hD (c2.keep (bB.snoc cm _) tk);exact⟨ds,nn,HH,Xe,YF⟩) (Nat.le_add_right _ _)
 rw[show(bJ++[O.dict []]).set bJ.length (O.dict (kk.zip us))=bJ++[O.dict (kk.zip us)]by simp]at Rb;refine q.q _ _ ⟨_,_,_,by rw[er];rfl,Rb,⟨λb o e h1 h2=>Kb.keep b o (K.keep b o e h1 h2) h1 λhm=>?_,λb o e=>(K.live b o e).elim λo' e'=>Kb.live b o' e',?_⟩,.ref _ _ (aV.len▸List.getElem?_concat_length)⟩
 ·exact(List.mem_append.mp hm).elim (K.off e h2) λq=>bx (Ao.symm.trans (List.mem_singleton.mp q▸e))
 ·refine aj (K.grow) λt aC CO=>?_;subst aC;exact⟨t++[s.heap.objs.size],List.append_assoc ..,λa ha=>(List.mem_append.mp ha).elim (CO a) λq=>List.mem_singleton.mp q▸Ao⟩
end
section
variable {n N:Nat}{d:cy}{c:Ca}(O:C.Ok n)(F:bU C.w.params)(D:c5 n d)
include O F D
theorem OU (ae:Rep C i loc hp s)(ks:List (Option Expr))(kk:List Key)(vs:List Expr)(pos:Pos)(hk:ou ks=some kk)(hl:kk.length=vs.length)(h0:vs≠[])(SE:vs.length≤15) :
  SV C [] i loc s (lI (kk.zip (vs.map (d.ex C.sc))) loc hp) (eval (.Dict ks vs pos) C.env):=CN (gx:=d.ex C.sc) (P:=λ_=>True) (λR e _=>D.ex O F.base R e) ae ks kk vs pos hk hl h0 SE λ_ _=>trivial
end
end
noncomputable def eJ (c:Nat):List Nat->Nat->List Nat
 |[],_=>[]
 |x::r,k=>if x=c then k::eJ c r (k+1)else eJ c r (k+1)
theorem iE (c x:Nat)(r:List Nat)(k:Nat):eJ c (x::r) k=if x=c then k::eJ c r (k+1)else eJ c r (k+1):=rfl
theorem wC (c:Nat)(l:List Nat)(n:Nat):∀a:Nat,a+n=l.length+1->(List.range' a n).filter (λk=>l[k]?==some c)=eJ c (l.drop a) a:=by
 induction n with
 |zero=>exact λa h=>by rw[List.drop_of_length_le (show l.length≤a from Nat.le_trans (Nat.le_succ _) (Nat.le_of_eq h.symm))];rfl
 |succ n ih =>
  intro a h;have hs:a+1+n=l.length+1:=(Nat.succ_add_eq_add_succ a n).trans h;rw[List.range'_succ,List.filter_cons,ih (a+1) hs];by_cases ha:a<l.length
  ·rw[List.drop_eq_getElem_cons ha,List.getElem?_eq_getElem ha,iE];by_cases hc:l[a]=c
   ·rw[if_pos hc,if_pos (beq_iff_eq.mpr (congrArg some hc))]
   ·rw[if_neg hc,if_neg λq=>hc (oi (beq_iff_eq.mp q))]
  ·rw[List.drop_of_length_le (Nat.le_succ_of_le (Nat.le_of_not_lt ha)),List.drop_of_length_le (Nat.le_of_not_lt ha),List.getElem?_eq_none (Nat.le_of_not_lt ha)];rfl
theorem SI (l:List Nat)(c limit:Nat)(r:List Nat):∀(st:Array Nat×Nat),(∀k∈r,st.2≤k)->r.Pairwise (·<·) ->
  (forIn r st (StrLaws.occBody (S l) (S [c]) (S l).length limit)).run.fst.toList=st.1.toList++(r.filter (λk=>l[k]?==some c)).take (limit - st.1.size):=by
 induction r with
 |nil=>exact λst _ _=>by rw[List.filter_nil,List.take_nil,List.append_nil];rfl
 |cons k r ih =>
  intro st h1 h2;rw[List.forIn_cons];unfold StrLaws.occBody;have hp:=List.pairwise_cons.mp h2;have key:_↔l[k]?=some c:=StrLaws.subAt_one (S l) c k;by_cases hc:l[k]?=some c
  ·have q:=key.mpr hc;rw[List.filter_cons_of_pos (p:=λk=>l[k]?==some c) (beq_iff_eq.mpr hc)];by_cases hz:st.1.size<limit
   ·rw[if_pos ⟨⟨⟨hz,h1 k (.head _)⟩,q.1⟩,q.2⟩];refine(ih (st.1.push k,k+(S [c]).length) (λj hj=>by rw[dC];exact hp.1 j hj) hp.2).trans ?_;rw[show limit - st.1.size=(limit - (st.1.push k).size)+1 by rw[Array.size_push];exact(Nat.sub_add_cancel (Nat.sub_pos_of_lt hz)).symm,List.take_succ_cons,Array.toList_push,List.append_assoc];rfl
   ·rw[if_neg (λq=>hz q.1.1.1)];refine(ih (st.1,st.2) (λj hj=>h1 j (.tail _ hj)) hp.2).trans ?_;rw[Nat.sub_eq_zero_of_le (Nat.le_of_not_lt hz),List.take_zero,List.take_zero]
  ·rw[List.filter_cons_of_neg (p:=λk=>l[k]?==some c) (λq=>hc (beq_iff_eq.mp q)),if_neg (λq=>hc (key.mp ⟨q.1.2,q.2⟩))];exact ih (st.1,st.2) (λj hj=>h1 j (.tail _ hj)) hp.2
theorem Ap (l:List Nat)(c lo limit:Nat)(HO:lo≤l.length):Builtin.Str.occurrences (S l) (S [c]) lo (S l).length limit=(eJ c (l.drop lo) lo).take limit:=by
 rw[StrLaws.occ_eq,SI l c limit _ (#[],lo) (λk hk=>(List.mem_range'_1.mp hk).1) (List.pairwise_lt_range' ..)];rw[dC,wC c l (l.length+1 - lo) lo (Nat.add_sub_cancel' (Nat.le_succ_of_le HO))];rfl
theorem OV (l:List Nat)(c lo limit:Nat)(HO:l.length<lo):Builtin.Str.occurrences (S l) (S [c]) lo (S l).length limit=[]:=by
 rw[StrLaws.occ_eq,dC,Nat.sub_eq_zero_of_le HO];rfl
theorem KR (c:Nat)(l:List Nat):∀a:Nat,findAt c l a=(eJ c l a).head?:=by
 induction l with
 |nil=>exact λ_=>rfl
 |cons x r ih =>
  intro a;rw[iE];unfold findAt;by_cases h:x=c
  ·rw[if_pos h,if_pos h];rfl
  ·rw[if_neg h,if_neg h];exact ih (a+1)
theorem B7 (c:Nat)(l:List Nat):∀a:Nat,(eJ c l a).length≤l.length:=by
 induction l with
 |nil=>exact λ_=>Nat.le_refl _
 |cons x r ih =>
  intro a;rw[iE];by_cases h:x=c
  ·rw[if_pos h];exact Nat.succ_le_succ (ih _)
  ·rw[if_neg h];exact Nat.le_succ_of_le (ih _)
noncomputable def yO (t:List Nat):List (List Nat)->List Nat
 |[]=>[]
 |x::r=>x++r.flatMap (t++·)
theorem ES (t:List Nat)(ps:List (List Nat)):∀acc:List Nat,(ps.map S).foldl (λacc p=>acc++(S t).cps++p.cps) acc.toArray=(acc++ps.flatMap (t++·)).toArray:=by
 induction ps with
 |nil=>exact λacc=>congrArg List.toArray (List.append_nil acc).symm
 |cons x r ih =>
  intro acc;rw[List.map_cons,List.foldl_cons,List.flatMap_cons,show acc.toArray++(S t).cps++(S x).cps=(acc++t++x).toArray by simp[S],ih,List.append_assoc,List.append_assoc,List.append_assoc]
theorem CP (t:List Nat)(ps:List (List Nat)):Builtin.Str.glued (S t) (ps.map S)=S (yO t ps):=by
 cases ps with
 |nil=>rfl
 |cons x r=>exact congrArg Str.mk (ES t r x)
noncomputable def mN (l:List Nat) (b:Nat) (Aq:List Nat):List (List Nat):=((b::Aq.map (·+1)).zip (Aq++[l.length])).map λp=>(l.take p.2).drop p.1
theorem HQ (l:List Nat)(Aq:List Nat):Builtin.Str.partsBetween (S l) Aq 1=(mN l 0 Aq).map S:=by
 unfold Builtin.Str.partsBetween mN;rw[List.map_map,dC];apply List.map_congr_left;intro p _;show(⟨(S l).cps.extract p.1 p.2⟩:Str)=S _;simp[S,List.drop_take]
theorem ET (l:List Nat)(b a:Nat)(q:List Nat):mN l b (a::q)=(l.take a).drop b::mN l (a+1) q:=rfl
theorem EU (l:List Nat)(b:Nat)(q:List Nat):∃y r,mN l b q=y::r:=by cases q<;>exact⟨_,_,rfl⟩
theorem EV (t x:List Nat)(l:List Nat)(b:Nat)(q:List Nat):yO t (x::mN l b q)=x++t++yO t (mN l b q):=by
 refine jK (EU l b q) λy r e=>?_;rw[e];show x++((t++y)++r.flatMap (t++·))=x++t++(y++r.flatMap (t++·));rw[List.append_assoc,List.append_assoc]
theorem HR (l:List Nat)(c:Nat)(t:List Nat)(d:List Nat):∀(a b:Nat),l.drop a=d->b≤a->yO t (mN l b (eJ c d a))=(l.take a).drop b++ic c t d:=by
 induction d with
 |nil =>
  intro a b hd hb;have ha:l.length≤a:=List.drop_eq_nil_iff.mp hd;rw[List.take_of_length_le ha];show(l.take l.length).drop b++[]=_;rw[List.take_length];rfl
 |cons x r ih =>
  intro a b hd hb;have ha:a<l.length:=Nat.lt_of_not_le λq=>by rw[List.drop_of_length_le q]at hd;cases hd
  have e:=(List.drop_eq_getElem_cons ha).symm.trans hd;have hx:l[a]=x:=(List.cons.inj e).1;have hr:l.drop (a+1)=r:=(List.cons.inj e).2;rw[iE];unfold ic;by_cases hc:x=c
  ·rw[if_pos hc,if_pos hc,ET,EV,ih (a+1) (a+1) hr (Nat.le_refl _),List.drop_of_length_le (List.length_take_le _ _),List.append_assoc];rfl
  ·rw[if_neg hc,if_neg hc,ih (a+1) b hr (Nat.le_succ_of_le hb),List.take_succ,List.drop_append_of_le_length (by rw[List.length_take,Nat.min_eq_left (Nat.le_of_lt ha)];exact hb),List.getElem?_eq_getElem ha,hx,List.append_assoc];rfl
theorem HS (l:List Nat)(c:Nat)(t:List Nat):Builtin.Str.glued (S t) (Builtin.Str.partsBetween (S l) (eJ c l 0) (S [c]).length)=S (ic c t l):=by
 rw[dC];show Builtin.Str.glued (S t) (Builtin.Str.partsBetween (S l) (eJ c l 0) 1)=_;rw[HQ,CP,HR l c t l 0 0 rfl (Nat.le_refl _)];rfl
theorem HT (c:Nat)(t:List Nat)(l:List Nat):∀a:Nat,eJ c l a=[]->ic c t l=l:=by
 induction l with
 |nil=>exact λ_ _=>rfl
 |cons x r ih =>
  intro a e;rw[iE]at e;unfold ic;by_cases h:x=c
  ·rw[if_pos h]at e;cases e
  ·rw[if_neg h]at e;rw[if_neg h,ih (a+1) e]
theorem EW {vs:List V}{as:List Value}(y:Vals C.no i h vs as):∀{x:List Nat},uq vs=some x->∃l:List (Str×Tok),as=strValues l∧∃ls:List (List Nat),l.map (·.1)=ls.map S∧ls.flatten=x :=
 y.ind (P:=λvs as=>∀{x:List Nat},uq vs=some x->∃l:List (Str×Tok),as=strValues l∧∃ls:List (List Nat),l.map (·.1)=ls.map S∧ls.flatten=x)
  (λe=>oi e▸⟨[],rfl,[],rfl,rfl⟩) λ{v vs a as} y _ ih x e=>by
  refine aj (bE e) λl hl e=>?_;refine aj (bE e) λx' e' e=>?_;obtain rfl:=oi e;refine aQ ((fz hl▸y:Val C.no i h (.str l) a).cP) λt aC=>?_;subst aC;obtain⟨q,h1,ls,h2,h3⟩:=ih e';exact⟨(S l,t)::q,by rw[h1];rfl,l::ls,congrArg (List.cons (S l)) h2,congrArg (l++·) h3⟩
theorem HU (ls:List (List Nat)):Builtin.Str.glued (S []) (ls.map S)=S ls.flatten:=by
 rw[CP];cases ls with
 |nil=>rfl
 |cons x r=>exact congrArg (λy=>S (x++y)) List.flatMap_id
section
theorem KS {v:V}{x:Bool}(h:vBool v=some x):v=.bool x:=by cases v<;>first|exact congrArg _ (oi h)|exact bx h
theorem B8 {vs:List V}:∀{as:List Value} {l:List Bool},Vals C.no i h vs as->qi vs=some l->as=l.map Value.bool:=by
 induction vs with
 |nil=>intro as l x e;rw[x.wq,<- oi e];rfl
 |cons v vs ih =>
  intro as l x e;obtain⟨a,bs,rfl,x,y⟩:=x.inv;obtain⟨b,e1,e⟩:=bE e;obtain⟨r,e2,e⟩:=bE e;rw[<- oi e,ih y e2,(KS e1▸x:Val C.no i h (.bool b) a).tM];rfl
theorem EX {vs:List V}:∀{as:List Value} {l:List Int},Vals C.no i h vs as->Er vs=some l->as.length=l.length∧∀(j:Nat) v,as[j]?=some v->∃t,v=.int (l.getD j 0) t:=by
 induction vs with
 |nil=>intro as l x e;rw[x.wq,<- oi e];exact⟨rfl,λj v e=>bx e⟩
 |cons v vs ih =>
  intro as l x e;obtain⟨a,bs,rfl,x,y⟩:=x.inv;obtain⟨k,e1,e⟩:=bE e;obtain⟨r,e2,e⟩:=bE e;cases oi e
  obtain⟨t,rfl⟩:=(iU e1▸x:Val C.no i h (.int k) a).dp;refine⟨congrArg (·+1) (ih y e2).1,λj v e=>?_⟩
  cases j with
  |zero=>exact⟨t,(oi e).symm⟩
  |succ j=>exact(ih y e2).2 j v e
theorem Xf {n:Nat}(h:n≤sizeLine):n<2 ^ 62:=by
 have e:sizeLine=2 ^ 24:=rfl;rw[e]at h;(apply di<;>trivial)
abbrev dS (C:Cx)(g:Fn)(f:Value):Prop:=∀{i loc hp s} {vs:List V} {as:List Value},Rep C i loc hp s->Vals C.no i s.heap vs as->SV C [] i loc s (g vs hp) (call f as)
section
variable {n:Nat}(O:C.Ok n)(F:bU C.w.params)
include O F
theorem SJ:dS C ur (.builtin "len"):=λ{i loc hp s vs as} ae hv=>cH λv e1=>cH λm e2=>iD λh _=>by
 refine aj ((fh e1▸hv:Vals C.no i s.heap [v] as).inv1) λa aC x=>?_;subst aC;have hz:=Xf (of_decide_eq_true h);cases v with
 |tup ws =>
  obtain⟨t,its,rfl,_,⟨q,hq⟩,z⟩:=x.fA;have e:its.size=m:=by rw[<- Array.length_toList,<- z.length];exact oi e2
  exact P.len_tuple hq (by omega) (by rw[e];exact dP ae (.int _ _))
 |str l =>
  refine aQ (x.cP) λt aC=>?_;subst aC;have e:(S l).length=m:=(dC l).trans (oi e2);exact P.len_str (by omega) (by rw[e];exact dP ae (.int _ _))
 |ref k =>
  refine aj (bE e2) λl q e2=>?_;refine aj (x.cQ) λt aC e=>?_;subst aC;refine eH (ae.ref e (dE q)) λits ni h1 h2=>?_;have e:its.size=m:=by rw[<- Array.length_toList,<- h2.length];exact oi e2
  exact len_list ⟨_,h1,rfl,_,rfl⟩ (by omega) (by rw[e];exact dP ae (.int _ _))
 |_=>exact bx e2
omit O F in
theorem KU {v:V}{T:String}(h:M6 v=some T):v=.fix (.type T):=by
 refine aj (bE h) λw h1 h2=>?_;rw[CB h1];cases w<;>first|exact congrArg (λT=>V.fix (.type T)) (oi h2)|exact bx h2
theorem SM:dS C Es (.builtin "isinstance"):=λ{i loc hp s vs as} ae hv=>cH λp e1=>cH λT e2=>iD λhT hb=>by
 refine cg ((ml e1▸hv:Vals C.no i s.heap [p.1,p.2] as).inv2) λa b bH x y=>?_;subst bH;have eb:=(KU e2▸y:Val C.no i s.heap (.fix (.type T)) b).ku;subst eb;have p0:∀b,PN C [] i s (λ_=>loc) (Val C.no) (.ok (.bool b) hp) (.bool b) s:=λb=>dW ae (aJ.refl ..) (.bool b);have p1:∀b,PN C [] i s (λ_=>loc) (Val C.no) (.ok (.bool b) hp) (.bool b) {s with toks:=s.toks+1}:=λb=>dP ae (.bool b);have HV:((T="int"∨T="bool")∨T="str")∨T="tuple":=(Bool.or_eq_true_iff.mp hT).imp (λh=>(Bool.or_eq_true_iff.mp h).imp (λh=>(Bool.or_eq_true_iff.mp h).imp beq_iff_eq.mp beq_iff_eq.mp) beq_iff_eq.mp) beq_iff_eq.mp;obtain⟨v,w⟩:=p;cases v with
 |bool c =>
  have ea:=x.tM;subst ea;rcases HV with((rfl|rfl)|rfl)|rfl
  ·exact IsiPair.bool_int (p0 _)
  ·exact IsiPair.bool_bool (p0 _)
  ·exact IsiPair.bool_str (p1 _)
  ·exact IsiPair.bool_tuple (p1 _)
 |int c =>
  refine aQ (x.dp) λt aC=>?_;subst aC;rcases HV with((rfl|rfl)|rfl)|rfl
  ·exact IsiPair.int_int (p0 _)
  ·exact IsiPair.int_bool (p1 _)
  ·exact IsiPair.int_str (p1 _)
  ·exact IsiPair.int_tuple (p1 _)
 |str c =>
  refine aQ (x.cP) λt aC=>?_;subst aC;rcases HV with((rfl|rfl)|rfl)|rfl
  ·exact IsiPair.str_int (p1 _)
  ·exact IsiPair.str_bool (p1 _)
  ·exact IsiPair.str_str (p0 _)
  ·exact IsiPair.str_tuple (p1 _)
 |tup c =>
  obtain⟨t,its,rfl,_,⟨q,hq⟩,_⟩:=x.fA;rcases HV with((rfl|rfl)|rfl)|rfl
  ·exact IsiPair.tuple_int hq rfl (p1 _)
  ·exact IsiPair.tuple_bool hq rfl (p1 _)
  ·exact IsiPair.tuple_str hq rfl (p1 _)
  ·exact IsiPair.tuple_tuple hq rfl (p0 _)
 |_=>exact absurd rfl hb
theorem HW:dS C tI (.builtin "list.append"):=λ{i loc hp s vs as} ae hv=>cH λp e1=>cH λk e2=>cH λl q=>iD λhz _=>by
 refine cg ((ml e1▸hv:Vals C.no i s.heap [p.1,p.2] as).inv2) λa b bH x x'=>?_;subst bH;refine aj ((gw e2▸x:Val C.no i s.heap (.ref k) a).cQ) λa aC e=>?_;subst aC;refine eH (ae.ref e (dE q)) λits ni h1 h2=>?_;have hz:=of_decide_eq_true hz;have el:its.size=l.length:=by rw[<- Array.length_toList,<- h2.length]
 refine append_at h1 (λh' hs hd=>?_) (by omega);obtain⟨R,kk⟩:=ae.put (own:=[]) (o':=.list (l++[p.2])) (t:=s.toks) (d:=s.drawn) e hs λtk=>⟨_,_,hd,by rw[Array.toList_push];exact(h2.keep (bB.refl i) tk).append (.cons (x'.keep (bB.refl i) tk) .nil)⟩;exact dW R kk .none
theorem SN:dS C yG (.builtin "list.pop"):=λ{i loc hp s vs as} ae hv=>cH λv0 e1=>cH λk e2=>cH λl q=>cH λv hl=>iD λhz _=>by
 refine aj ((fh e1▸hv:Vals C.no i s.heap [v0] as).inv1) λa aC x=>?_;subst aC;refine aj ((gw e2▸x:Val C.no i s.heap (.ref k) a).cQ) λa aC e=>?_;subst aC;refine eH (ae.ref e (dE q)) λits ni h1 h2=>?_;have hz:=of_decide_eq_true hz;have el:its.size=l.length:=by rw[<- Array.length_toList,<- h2.length]
 rw[List.getLast?_eq_getElem?]at hl;refine aj (h2.get hl) λy g1 g2=>?_;refine call_meets PySem.F.slot_list_pop ⟨_,h1,rfl⟩ PySem.F.entry_list_pop (PySem.F.args_list_pop_1 _) (MeetsSeq.list_pop_last a its ni y (by rw[el];simpa using g1) (by omega)) ⟨h1,?_⟩;have hd:=IsL.update (items:=its) (n:=ni) h1 (λxs=>xs.eraseIdxIfInBounds (its.size - 1))
 obtain⟨R,kk⟩:=ae.put (own:=[]) (o':=.list l.dropLast) (t:=s.toks) (d:=s.drawn) e (Heap.SameBut.update s.heap a _) λtk=>⟨_,_,hd,by
  rw[Array.toList_eraseIdxIfInBounds,<- Array.length_toList,List.eraseIdx_length_sub_one];exact(h2.dropLast).keep (bB.refl i) tk⟩
 exact dW R kk (g2.keep (bB.refl i) (kk.tup ae (by simp)))
end
end
section
section
variable {n:Nat}(O:C.Ok n)(F:bU C.w.params)
include O F
omit O F in
theorem rx {no:List Addr}{i:Pl}{h:Heap}{l:List V}{its:Array Value}(x:Vals no i h l its.toList):its.size=l.length:=by rw[<- Array.length_toList,<- x.length]
theorem HX:dS C tJ (.builtin "list.extend"):=λ{i loc hp s vs as} ae hv=>cH λp e1=>cH λk e2=>cH λl q=>cH λws e3=>iD λhz _=>by
 refine cg ((ml e1▸hv:Vals C.no i s.heap [p.1,p.2] as).inv2) λa b bH x x'=>?_;subst bH;refine aj ((gw e2▸x:Val C.no i s.heap (.ref k) a).cQ) λa aC e=>?_;subst aC;obtain⟨t,jd,rfl,_,⟨n2,h3⟩,z'⟩:=(rp e3▸x':Val C.no i s.heap (.tup ws) b).fA;refine eH (ae.ref e (dE q)) λits ni h1 h2=>?_;have hz:l.length+ws.length≤sizeLine:=of_decide_eq_true hz;have el:=rx h2;have SO:=rx z';refine call_meets PySem.F.slot_list_extend ⟨_,h1,rfl⟩ PySem.F.entry_list_extend (PySem.F.args_list_extend_2 _ _) (AutoSeq1.list_extend_list_tuple_0 a its ni t jd n2 (extend_door (by apply MV<;>trivial)) (by apply RC<;>trivial) (by apply RB<;>trivial)) ⟨h1,h3,?_⟩
 obtain⟨R,kk⟩:=ae.put (own:=[]) (o':=.list (l++ws)) (t:=s.toks) (d:=s.drawn) e (Heap.SameBut.update s.heap a _) λtk=>⟨_,_,IsL.update (items:=its) (n:=ni) h1 (λxs=>xs++jd),by
  rw[Array.toList_append];exact(h2.append z').keep (bB.refl i) tk⟩
 exact dW R kk .none
omit O F in
theorem Rk (l:List Nat)(c:Nat){k:Int}(hk:0≤k):Txt.find3 (S l) (S [c]) k=uu c l k:=by
 unfold Txt.find3
 have ef:fromIndex (S l).length k=k.toNat:=by
  unfold fromIndex;rw[if_neg (Int.not_lt.mpr hk)];exact congrArg Int.toNat (Int.max_eq_right hk)
 unfold uu;rw[ef,KR];by_cases hl:k.toNat≤l.length
 ·rw[Ap l c _ 1 hl];cases eJ c (l.drop k.toNat) k.toNat<;>simp
 ·rw[OV l c _ 1 (by apply Nat.lt_of_not_le<;>trivial),List.drop_of_length_le (by apply Nat.le_of_not_le<;>trivial)];rfl
theorem OW:dS C zV (.builtin "str.find"):=λ{i loc hp s vs as} ae hv=>cH λp e1=>cH λl e2=>cH λc e3=>cH λk e4=>iD λhk _=>by
 refine fk ((Hv e1▸hv:Vals C.no i s.heap [p.1,p.2.1,p.2.2] as).Sd) λa b d eQ x y z=>?_;subst eQ;refine aQ ((fz e2▸x:Val C.no i s.heap (.str l) a).cP) λt1 aC=>?_;subst aC;refine aQ ((CD e3▸y:Val C.no i s.heap (.str [c]) b).cP) λt2 aC=>?_;subst aC;refine aQ ((iU e4▸z:Val C.no i s.heap (.int k) d).dp) λt3 aC=>?_;subst aC;exact SC.find3 (by rw[Rk l c (of_decide_eq_true hk)];exact dP ae (.int _ _))
omit O F in
theorem KV (ls:List (List Nat)):∀acc:Nat,(ls.map S).foldl (·+·.length+(S []).length) acc=acc+ls.flatten.length:=by
 induction ls with
 |nil=>intro acc;rfl
 |cons y r ih =>
  intro acc;rw[List.map_cons,List.foldl_cons,ih,dC,dC,List.flatten_cons,List.length_append];exact Nat.add_assoc acc y.length r.flatten.length
theorem OX:dS C zW (.builtin "str.join"):=λ{i loc hp s vs as} ae hv=>cH λp e1=>cH λs0 e2=>iD λe3=>cH λl e4=>cH λx hx=>iD λhz _=>by
 refine cg ((ml e1▸hv:Vals C.no i s.heap [p.1,p.2] as).inv2) λa b bH z z'=>?_;subst bH;have e2:p.1=.str []:=by rw[fz e2,fY e3]
 refine aQ ((e2▸z:Val C.no i s.heap (.str []) a).cP) λt aC=>?_;subst aC;refine aj (nE e4) λk e5 q=>?_;refine aj ((e5▸z':Val C.no i s.heap (.ref k) b).cQ) λa aC e=>?_;subst aC;have hz:x.length≤sizeLine:=of_decide_eq_true hz;refine eH (ae.ref e q) λits ni h1 h2=>?_;obtain⟨ps,e1,ls,e2,e3⟩:=EW h2 hx;have EY:s.heap.IsList a (strValues ps).toArray:=⟨_,h1,rfl,ni,by simp[<- e1]⟩;have hg:Builtin.Str.glued (S []) (ps.map (·.1))=S x:=by rw[e2,HU,e3]
 have SP:Builtin.Str.tooLong ((ps.map (·.1)).toArray.foldl (·+·.length+(S []).length) 0)=false:=by
  rw[show(ps.map (·.1)).toArray.foldl (·+·.length+(S []).length) 0=(ps.map (·.1)).foldl (·+·.length+(S []).length) 0 by simp,e2,KV,e3]
  unfold Builtin.Str.tooLong;exact decide_eq_false (by omega)
 refine call_meets PySem.F.slot_str_join (typeIs_str _ _ _) PySem.F.entry_str_join (PySem.F.args_str_join_2 _ _) (meets_str_join_list (S []) t a ps SP) ⟨EY,?_⟩;have fin:∀t' tk,s.toks≤tk->PN C [] i s (λ_=>loc) (Val C.no) (.ok (.str x) hp) (.str (S x) t') {s with toks:=tk}:=λt' tk SQ=>dP ae (.str x t') SQ;cases ps with
 |nil=>exact⟨by rw[hg,dC];exact hz,by rw[hg];exact fin _ _ (Nat.le_add_right _ _)⟩
 |cons p r =>
  cases r with
  |nil =>
   have:p.1=S x:=by
    rw[<- hg];show p.1=Builtin.Str.glued (S []) [p.1];unfold Builtin.Str.glued;rfl
   show PN C [] i s (λ_=>loc) (Val C.no) (.ok (.str x) hp) (.str p.1 p.2) s;rw[this];exact dW ae (aJ.refl ..) (.str x _)
  |cons p' r=>exact⟨by rw[hg,dC];exact hz,by rw[hg];exact fin _ _ (Nat.le_add_right _ _)⟩
theorem SR:dS C Ey (.builtin "dict.get"):=λ{i loc hp s vs as} ae hv=>cH λp e1=>cH λw e2=>iD λe3=>cH λx e4 _=>by
 refine fk ((Hv e1▸hv:Vals C.no i s.heap [p.1,p.2.1,p.2.2] as).Sd) λa b d eQ z z' z2=>?_;subst eQ;have ea:=(CB e2▸z:Val C.no i s.heap (.fix w) a).ku;rw[oF e3]at ea;subst ea;refine aQ ((fz e4▸z':Val C.no i s.heap (.str x) b).cP) λt aC=>?_;subst aC;refine aj (F.pairs C.w rfl s.heap (ae.dJ O)) λbI h1 h2=>?_;have g:=h2.get x;refine call_meetsIn PySem.F.slot_dict_get h1.typeIs PySem.F.entry_dict_get (PySem.F.args_dict_get_3 _ _ _) (meets_dict_get_default (strKind pw C.w) 89 (strKind_is pw C.w (S x) t) (by decide) _) ⟨_,h1.mapOf,?_⟩;cases hl:pairs.lookup x with
 |none =>
  rw[hl]at g;rw[show valueAt bI (S x)=none from g];exact dP ae z2
 |some v =>
  rw[hl]at g;refine aj g λa g1 g2=>?_;rw[g1];exact dP ae (ae.Ak O g2)
theorem KW:dS C wo (.type "tuple"):=λ{i loc hp s vs as} ae hv=>cH λv e1=>cH λl e2=>iD λhz _=>by
 refine aj ((fh e1▸hv:Vals C.no i s.heap [v] as).inv1) λa aC x=>?_;subst aC;refine aj (nE e2) λk e3 q=>?_;refine aj ((e3▸x:Val C.no i s.heap (.ref k) a).cQ) λa aC e=>?_;subst aC;refine eH (ae.ref e q) λits ni h1 h2=>?_;refine call_tuple_list (l:=a) (items:=its) ⟨_,h1,rfl,_,rfl⟩ (λh' hk=>?_) (by rw[rx h2];exact of_decide_eq_true hz);refine bp (ae.more (own:=[]) (t:=s.toks) (d:=s.drawn) hk) λak k₁=>?_;refine fj (uA (own:=[]) ak (h2.keep (bB.refl i) (bq.of hk)) (t:=s.toks) (d:=s.drawn)) λs' e' R k w=>?_;have:=Yw (lc:=λ_=>loc) (T:=(Val C.no)) R k₁ k w;rw[e']at this
 simpa using this
theorem CQ:dS C zX (.type "list"):=λ{i loc hp s vs as} ae hv=>cH λv e1=>cH λl e2=>iD λhz _=>by
 refine aj ((fh e1▸hv:Vals C.no i s.heap [v] as).inv1) λa aC x=>?_;subst aC;refine aj (nE e2) λk e3 q=>?_;refine aj ((e3▸x:Val C.no i s.heap (.ref k) a).cQ) λa aC e=>?_;subst aC;refine eH (ae.ref e q) λits ni h1 h2=>?_;refine call_list_seq a (T:="list") (items:=its) (n:=ni) (.inl rfl) h1 rfl rfl (λh' c' hk hd=>?_) (by rw[rx h2];exact of_decide_eq_true hz)
 have hn:s.heap.get? s.heap.objs.size=none:=by
  cases q:s.heap.get? s.heap.objs.size with
  |none=>rfl
  |some o=>exact absurd (Heap.lt_size q) (Nat.lt_irrefl _)
 refine bp (ae.alloc (own:=[]) (t:=s.toks) (d:=s.drawn) (a:=s.heap.objs.size) (o:=.list l) hk hn λtk=>⟨its,c',hd,h2.keep (bB.snoc i _) tk⟩) λR k=>?_;exact dW R k (.ref _ _ (by rw[<- ae.len];simp))
theorem SU:dS C Ez (.type "str"):=λ{i loc hp s vs as} ae hv=>cH λv e1 hb=>by
 refine aj ((fh e1▸hv:Vals C.no i s.heap [v] as).inv1) λa aC x=>?_;subst aC;cases v with
 |str l =>
  refine aQ (x.cP) λt aC=>?_;subst aC;by_cases hz:l.length≤sizeLine
  ·have e:ly (.str l)=some l:=if_pos hz;rw[e];exact P.str_of_str (dW ae (aJ.refl ..) (.str l t))
  ·exact absurd (by rw[show ly (.str l)=none from if_neg hz];rfl) hb
 |int k =>
  refine aQ (x.dp) λt aC=>?_;subst aC;by_cases hz:dz k=true
  ·have e:ly (.int k)=some (bS k):=if_pos hz;rw[e];refine P.str_of_int (qw hz) ?_;rw[wB];exact dP ae (.str _ _)
  ·exact absurd (by rw[show ly (.int k)=none from if_neg hz];rfl) hb
 |_=>exact absurd rfl hb
theorem SW:dS C EA (.type "int"):=λ{i loc hp s vs as} ae hv=>cH λv e1=>cH λl e2=>iD λhz hb=>by
 refine aj ((fh e1▸hv:Vals C.no i s.heap [v] as).inv1) λa aC x=>?_;subst aC;refine aQ ((fz e2▸x:Val C.no i s.heap (.str l) a).cP) λt aC=>?_;subst aC;cases hk:PySem.intText? (S l)with
 |none=>rw[hk]at hb;exact absurd rfl hb
 |some k=>exact PySem.W.KIN.call_text hk (by rw[dC];exact of_decide_eq_true hz) (dP ae (.int k _))
end
end
section
theorem Ar (ae:Rep C i loc hp s){o:Obj}{h':Heap}{tk:Nat}(hk:∀b ob,b∉[s.heap.objs.size]->(s.heap.push o).get? b=some ob->h'.get? b=some ob)(ht:s.toks≤tk) :
  Rep C i loc hp {s with heap:=h',toks:=tk}∧aJ own i s i {s with heap:=h',toks:=tk} :=
 ae.more (d:=s.drawn) (λb ob e=>hk b ob (λq=>Nat.ne_of_lt (Heap.lt_size e) (List.mem_singleton.mp q)) (Heap.get?_push_of_some _ e)) ht
theorem JW (bs:List Bool):(List.range bs.length).all (λj=>bs.getD j false)=bs.all id:=by
 induction bs with
 |nil=>rfl
 |cons b r ih =>
  rw[List.length_cons,List.range_succ_eq_map,List.all_cons,List.all_map,List.all_cons,<- ih];rfl
theorem SX {a n:Nat}(h:a<n){b:Addr}(hb:b∈[n,a]):b<n+1:=(List.mem_cons.mp hb).elim (λe=>e▸Nat.lt_succ_self _) λe=>List.mem_singleton.mp e▸Nat.lt_succ_of_lt h
theorem look {P:String->Fn->Prop}{b k:String}{f g:Fn}{l:List (String×Fn)}(h:List.lookup b ((k,f)::l)=some g)(h1:P k f)(h2:List.lookup b l=some g->P b g):P b g:=by
 rw[List.lookup_cons]at h;cases hb:b==k with
 |true=>rw[hb]at h;rw[beq_iff_eq.mp hb];exact oi h▸h1
 |false=>rw[hb]at h;exact h2 h
section
variable {n:Nat}(O:C.Ok n)(F:bU C.w.params)
include O F
theorem SY:dS C Et (.builtin "all"):=λ{i loc hp s vs as} ae hv=>cH λv e1=>cH λl e2=>sn λ{Q E} q=>by
 refine aj ((fh e1▸hv:Vals C.no i s.heap [v] as).inv1) λa aC x=>?_;subst aC;refine aj (nE e2) λk e3 hq=>?_;refine aj ((e3▸x:Val C.no i s.heap (.ref k) a).cQ) λa aC e=>?_;subst aC;refine eH (ae.ref e hq) λits ni h1 h2=>?_;refine aj (q.oB) λy hy q=>?_;refine aj (Option.map_eq_some_iff.mp hy) λb HY bH=>?_;subst bH;refine aj (Option.map_eq_some_iff.mp HY) λbs hbs bH=>?_;subst bH;have S3:its.toList=bs.map Value.bool:=B8 h2 hbs;have hl:s.heap.IsList a its:=⟨_,h1,rfl,_,rfl⟩;have iF:a<s.heap.objs.size:=Heap.lt_size h1;have CR:its.size=bs.length:=Array.length_toList.symm.trans ((congrArg List.length S3).trans (List.length_map ..));refine wpAny_with_toks (Nat.le_refl s.toks) (call_all_walk (wpAny_pyIter_list hl ?_));refine⟨s.heap.objs.size,[s.heap.objs.size,a],[s.heap.objs.size],its.size,_,_,λj=>bs.getD j false,rfl,Walks.list (A:=C.A.in1) O.handled _ a (Nat.ne_of_lt iF) its,⟨⟨_,Heap.get?_push_size _ rfl,rfl,rfl⟩,_,Heap.get?_push_of_some _ h1,rfl,_,rfl⟩,?_,λh' tk hk ht=>?_⟩
 ·intro j v ah Q E hj hQ;rw[<- Array.getElem?_toList,S3,List.getElem?_map]at hj;refine aj (Option.map_eq_some_iff.mp hj) λb jj bH=>?_;subst bH;have hQ:Q (bs.getD j false) ah:=hQ;rw[List.getD_eq_getElem?_getD,jj]at hQ;exact wpAny_truthy_bool hQ
 ·rw[CR,JW bs];refine bp (Ar (own:=[]) ae hk ht) λR kk=>?_;exact q.at R kk (.bool _)
theorem S4:dS C Eu (.builtin "min"):=λ{i loc hp s vs as} ae hv=>cH λv e1=>cH λl e2=>sn λ{Q E} q=>by
 refine aj ((fh e1▸hv:Vals C.no i s.heap [v] as).inv1) λa aC x=>?_;subst aC;refine tE ((rp e2▸x:Val C.no i s.heap (.tup l) a).fA) λt its bH _ z z'=>?_;subst bH;refine aj (q.oB) λy hy q=>?_;refine aj (Option.map_eq_some_iff.mp hy) λw HY bH=>?_;subst bH;refine aj (bE HY) λns hi hw=>?_;refine bp (EX z' hi) λln S5=>?_;have CR:its.size=ns.length:=Array.length_toList.symm.trans ln;refine aQ (id z) λm hq=>?_;have iF:t<s.heap.objs.size:=Heap.lt_size hq;have aak:0<its.size:=CR▸Nat.lt_of_le_of_lt (Nat.zero_le _) (List.getElem?_eq_some_iff.mp hw).1;refine wpAny_with_toks (Nat.le_refl s.toks) (call_min_walk (wpAny_pyIter_tuple z.is ?_))
 refine⟨s.heap.objs.size,[s.heap.objs.size,t],[s.heap.objs.size],its.size,_,_,λi j=>decide (ns.getD i 0<ns.getD j 0),rfl,Walks.tuple (A:=C.A.in1) O.handled _ t (Nat.ne_of_lt iF) its,⟨⟨_,Heap.get?_push_size _ rfl,rfl,rfl⟩,_,Heap.get?_push_of_some _ hq,rfl,_,rfl⟩,λb hb=>?_,aak,
  CmpOf.ints_lt (λj=>ns.getD j 0) (λj v hj=>S5 j v (by rw[Array.getElem?_toList];exact hj)),λv h' tk hP hk ht=>?_⟩
 ·show b<(s.heap.push _).objs.size;rw[Heap.size_push];exact SX iF hb
 ·rw[CR]at hP;obtain⟨tt,rfl⟩:=S5 _ v (by rw[Array.getElem?_toList];exact hP);rw[List.getD_eq_getElem?_getD,hw];refine bp (Ar (own:=[]) ae hk ht) λR kk=>?_;exact q.at R kk (.int _ _)
theorem KY {b:String}{g:Fn}(e:builtins.lookup b=some g):dS C g (.builtin b) :=
 look (P:=λb g=>dS C g (.builtin b)) e (SJ O F) λe=>look (P:=λb g=>dS C g (.builtin b)) e (SM O F) λe=>look (P:=λb g=>dS C g (.builtin b)) e (SY O F) λe=>look (P:=λb g=>dS C g (.builtin b)) e (S4 O F) λe =>
 look (P:=λb g=>dS C g (.builtin b)) e (HW O F) λe=>look (P:=λb g=>dS C g (.builtin b)) e (SN O F) λe=>look (P:=λb g=>dS C g (.builtin b)) e (HX O F) λe=>look (P:=λb g=>dS C g (.builtin b)) e (OW O F) λe =>
 look (P:=λb g=>dS C g (.builtin b)) e (OX O F) λe=>look (P:=λb g=>dS C g (.builtin b)) e (SR O F) λe=>bx e
theorem KZ {b:String}{g:Fn}(e:types.lookup b=some g):dS C g (.type b) :=
 look (P:=λb g=>dS C g (.type b)) e (SU O F) λe=>look (P:=λb g=>dS C g (.type b)) e (SW O F) λe=>look (P:=λb g=>dS C g (.type b)) e (KW O F) λe=>look (P:=λb g=>dS C g (.type b)) e (CQ O F) λe=>bx e
end
end
section
theorem eF.YG {T:fK α β}{lc:β->Loc}{r:R β}{t:Sem α}(h:eF C own i s lc T r t)(hr:r≠.bad):wpAny C.M C.A t (λa s'=>s.toks≤s'.toks∧PN C own i s lc T r a s') (PX C own i s r) s :=
 wpAny_with_toks (Nat.le_refl s.toks) (wpAny_mono (h hr) (λ_ _ x ht=>⟨ht,x⟩) λ_ _ x _=>x)
theorem aal {t:Sem α}{T:fK α β}{T':fK γ δ}{lc:β->Loc}{ql:δ->Loc}{r:R β}{g:β->HP->R δ}{Q:α->Shared->Prop}{Q':γ->Shared->Prop}{E:Value->Shared->Prop}(h:eF C own i s lc T r t)(q:To C own i s ql T' (az r g) Q' E)
  (k:∀a b au aB ah,s.toks≤ah.toks->Rep C aB (lc b) au ah->aJ own i s aB ah->T aB ah.heap b a->To C own aB ah ql T' (g b au) Q' E->Q a ah):wpAny C.M C.A t Q E s :=
 wpAny_mono (h.YG (kY q.nb)) (λa ah x=>by
  obtain⟨ht,b,au,aB,rfl,h1,h2,h3⟩:=x;exact k a b au aB ah ht h1 h2 h3 (To.up (r:=g b au) q h2)) λ_ _ x=>q.e _ _ x.az
theorem YH {t:Sem α}{T:fK α β}{lc:β->Loc}{r:R β}{Q:α->Shared->Prop}{E:Value->Shared->Prop}{b:β}{au:HP}(h:eF C own i s lc T r t)(er:r=.ok b au)
  (k:∀a aB ah,s.toks≤ah.toks->Rep C aB (lc b) au ah->aJ own i s aB ah->T aB ah.heap b a->Q a ah):wpAny C.M C.A t Q E s:=by
 subst er;refine wpAny_mono (h.YG Si) (λa ah x=>?_) λ_ _ x=>x.elim λ_ y=>Sh y.1;obtain⟨ht,b',hp',aB,e,h1,h2,h3⟩:=x;injection e with e1 e2;subst e1 e2;exact k a aB ah ht h1 h2 h3
theorem OY {l t:List Nat}{c:Nat}:Txt.replace (S l) (S [c]) (S t)=S (ic c t l):=by
 unfold Txt.replace
 have ho:Builtin.Str.occurrences (S l) (S [c]) 0 (S l).length ((S l).length+1)=eJ c l 0:=by
  rw[Ap l c 0 _ (Nat.zero_le _),List.drop_zero,List.take_of_length_le];rw[dC];exact Nat.le_succ_of_le (B7 c l 0)
 rw[ho,show((S [c]).length==0)=false by rw[dC];rfl];simp only[Bool.false_and,Bool.or_false];split
 ·rename_i hq;rw[HT c t l 0 (List.isEmpty_iff.mp hq)]
 ·exact HS l c t
section
variable {n N:Nat}{d:cy}{c:Ca}(O:C.Ok n)(F:bU C.w.params)(D:c5 n d)
include O F D
theorem OZ (ae:Rep C i loc hp s)(o:Expr)(y:Str)(m:Nat)(q0:Nat)(p:Pos)(f x:Str)(pf px pc apos pos:Pos)(hy:y.cps.toList=[m])(hf:f=("str":Str))(hfg:C.sc.lookup f=some .globalImplicit)
  (h0:jC o=false) (ay:(apos.endLine==pos.line)=true) :
  SV C [] i loc s (jN m (d.ex C.sc o) (gQ C.sc x) loc hp) (eval (.Call (.Attribute o "replace" apos) [.Constant (.str y) q0 p,.Call (.Name f pf) [.Name x px] [] pc] [] pos) C.env):=by
 obtain rfl:y=S [m]:=by
  cases y with
  |mk cps=>exact congrArg Str.mk (by rw[<- hy])
 refine sn λ{Q E} q=>?_
 show wpAny _ _ (do
  let ov <- attributeBase o "replace" C.env (eval o C.env)
  standAt apos.atName
  methodCall o "replace" apos pos C.env ov 2 (backTo pos (starEach [.Constant (.str (S [m])) q0 p,.Call (.Name f pf) [.Name x px] [] pc] C.env)) (backToKw pos (keywordEach [] C.env))) _ _ _
 rw[lJ h0];refine wpAny_bind (cU (D.ex O F.base ae o) q λa u au aB ah ak k₁ aP q=>wpAny_bind (wpAny_standAt ?_));refine aj (q.rB) λl hl q=>?_;refine aQ ((fz hl▸aP:Val C.no aB ah.heap (.str l) a).cP) λtl aC=>?_;subst aC;unfold methodCall;rw[show methodCallForm 2 (backTo pos (starEach [.Constant (.str (S [m])) q0 p,.Call (.Name f pf) [.Name x px] [] pc] C.env)) (backToKw pos (keywordEach [] C.env))=true from xD [.Constant (.str (S [m])) q0 p,.Call (.Name f pf) [.Name x px] [] pc] pos C.env rfl (show 2<20 by decide)]
 show wpAny _ _ (do
  let(g,first) <- holding [.str (S l) tl] (getMethod (.str (S l) tl) "replace" (do return (<- importBound o C.env).getD true))
  let iX <- methodCallPos true o C.env apos pos
  callWith iX g first (backTo pos (starEach [.Constant (.str (S [m])) q0 p,.Call (.Name f pf) [.Name x px] [] pc] C.env)) []) _ _ _
 refine wpAny_bind (wpAny_holding (getMethod_builtin (typeIs_str ah (S l) tl) PySem.F.plainAttrs_str PySem.F.slot_str_replace PySem.F.type_str_replace (λa' q=>Value.noConfusion q) ?_))
 have ep:methodCallPos true o C.env apos pos=pure pos:=by
  unfold methodCallPos;rw[ay];rfl
 show wpAny _ _ (methodCallPos true o C.env apos pos>>=λiX=>callWith iX (.builtin "str.replace") [.str (S l) tl] (backTo pos (starEach [.Constant (.str (S [m])) q0 p,.Call (.Name f pf) [.Name x px] [] pc] C.env)) []) _ _ _;rw[ep];refine wpAny_bind (wpAny_pure (callWith_of (P:=λh=>(K C.w.params).In h) rfl (λh X=>k7 (P:=C.w.params) (f:=.builtin "str.replace") rfl h X) ?_));show wpAny _ _ (evalArgs (.builtin "str.replace") true ((false,eval (.Constant (.str (S [m])) q0 p) C.env)::[(false,eval (.Call (.Name f pf) [.Name x px] [] pc) C.env)]) []) _ _ _;refine evalArgs_plain (Calls.spliced_cons (wpAny_Constant_str (Calls.spliced_cons ?_)));refine bp (ak.toks (own:=[]) (ah.toks+1)) λaV k₂=>?_;have q:=q.up k₂;show wpAny _ _ (do callWith pc (<- eval (.Name f pf) C.env) [] (backTo pc (starEach [.Name x px] C.env)) []) _ _ _
 have hfv:gQ C.sc f loc au=.ok (.fix (.type "str")) au:=by
  unfold gQ;rw[hfg,hf];exact congrArg (λo=>xo o xC loc au) (show iT.lookup ("str":Str)=some (.fix (.type "str"))by kernel_rfl)
 refine wpAny_bind (YH (hR (own:=[]) O aV (pos:=pf) (F.base.iT f)) hfv λfv KO eR aam cj cL m8=>?_);have q:=q.up cL;obtain rfl:=m8.ku;refine callWith_of (P:=λh=>(K C.w.params).In h) rfl (λh X=>k7 (P:=C.w.params) (f:=.type "str") rfl h X) ?_;show wpAny _ _ (evalArgs (.type "str") true ((false,eval (.Name x px) C.env)::[]) []) _ _ _;refine evalArgs_plain (Calls.spliced_cons (aal (hR (own:=[]) O cj (x:=x) (pos:=px) (F.base.iT x)) q λxv v ry tU fG aan fH iG oJ q=>?_));refine aj (q.rB) λk hk q=>?_;refine bp (q.rI) λhz q=>?_;refine aQ ((iU hk▸oJ:Val C.no tU fG.heap (.int k) xv).dp) λtk aC=>?_;subst aC;refine bp (bk hz) λz1 z=>?_;refine bp (bk z) λz2 z=>?_;refine bp (bk z) λz3 z4=>?_;refine Calls.spliced_nil ⟨fH.dJ O,P.str_of_int (qw z2) (Calls.spliced_nil ?_)⟩;refine bp (fH.toks (own:=[]) (fG.toks+1)) λAs EZ=>?_;refine⟨As.dJ O,?_⟩;show wpAny _ _ (call (.builtin "str.replace") [.str (S l) tl,.str (S [m]) ah.toks,.str (toString k) fG.toks]) _ _ _;rw[wB];have lt:ah.toks<fG.toks:=Nat.lt_of_lt_of_le aam aan;refine wpAny_with_toks (Nat.le_refl (fG.toks+1)) (SC.replace (λe=>absurd ak.pos (e▸Nat.lt_irrefl _)) (λe=>absurd fH.pos (e▸Nat.lt_irrefl _)) (λe=>absurd lt (e▸Nat.lt_irrefl _)) ?_ ?_ (λt' xI ht=>?_))
 ·exact beq_eq_false_iff_ne.mpr λe=>by rw[<- EG e]at z4;exact ft ((congrArg Bool.not (beq_self_eq_true [m])).symm.trans z4)
 ·rw[dC,dC];have:(l.length+1)*(bS k).length≤(l.length+1)*20:=Nat.mul_le_mul_left _ (of_decide_eq_true z3);have:=of_decide_eq_true z1;omega
 ·rw[OY];exact q.toks fH (.str _ t') (Nat.le_trans (Nat.le_succ _) ht)
end
end
theorem Rep.ownStep (ae:Rep C i loc hp s){b:Addr}(hb:b∈C.own){h':Heap}{t:Nat}(ht:s.toks≤t)(hs:Heap.SameBut b s.heap h')(ho:∃o,h'.get? b=some o∧(∀vs,o.data≠.fields vs)∧∀its n,o.data≠.seq its n)
  (Ao:C.hb.get? b=none) {loc':Loc} (pZ:loc'.length=loc.length)
  (ns:bq C.no s.heap h'->∃m,h'.Ns C.L m∧∀(n:Nat) v,loc'[n]?=some v->∃x k,C.names[n]?=some x∧C.sc.lookup x=some k∧dO C i h' m x k v) :
  Rep C i loc' hp {s with heap:=h',toks:=t}∧aJ C.own i s i {s with heap:=h',toks:=t}:=by
 have qm:=(ae.own b hb).1
 have tk:bq C.no s.heap h':=λa its _ x=>by
  have h1:=(ae.lW x).1;refine aQ x λm e=>?_;exact⟨m,(hs.2 a (λq=>h1 (q▸hb))).trans e⟩
 refine⟨⟨ns tk,ae.len,λn o e=>?_,ae.nd,ae.new,λb' jj=>?_,λb' o e=>?_,?_,ae.gens,ae.os,Nat.lt_of_lt_of_le ae.pos ht,pZ.trans ae.ll,λb' jj=>by
  obtain⟨h1,o,e⟩:=ae.ej b' jj;refine⟨h1,?_⟩;by_cases q:b'=b
  ·subst q;obtain⟨o',e',_⟩:=ho;exact⟨o',e'⟩
  ·exact⟨o,(hs.2 b' q).trans e⟩⟩,⟨λb' o e h1 _=>(hs.2 b' (λq=>h1 (q▸hb))).trans e,λb' o e=>?_,[],by simp,by simp⟩⟩
 ·refine aj (ae.objs n o e) λa e1 q=>?_;refine aj (q.some) λob eo _=>?_;have:a≠b:=λq'=>qm (q'▸List.mem_of_getElem? e1);exact⟨a,e1,q.keep (bB.refl i) tk (hs.2 a this)⟩
 ·by_cases q:b'=b
  ·subst q;exact⟨qm,ho⟩
  ·obtain⟨h1,o,e,r⟩:=ae.own b' jj;exact⟨h1,o,(hs.2 b' q).trans e,r⟩
 ·exact(hs.2 b' (λq=>by rw[q,Ao]at e;exact absurd e nofun)).trans (ae.base b' o e)
 ·refine FunFrames.uy (λb' o e hn=>?_) ae.fR;by_cases q:b'=b
  ·subst q;obtain⟨o',e',h1,_⟩:=ho;exact⟨o',e',h1⟩
  ·exact⟨o,(hs.2 b' q).trans e,hn⟩
 ·by_cases q:b'=b
  ·subst q;obtain⟨o',e',_⟩:=ho;exact⟨o',e'⟩
  ·exact⟨o,(hs.2 b' q).trans e⟩
theorem iH {sc:Sc}{x:Str}{n:Nat}(e:slot sc x=some n):(bW sc)[n]?=some x:=xn e
theorem dO.upd {h h':Heap}{m m':Str->Option Value}{y:Str}{ky:NameKind}{w:Option V}(tk:bq C.no h h')(hl:∀a,m y=some a->m' y=some a)(hc:∀c b,C.env.cells.lookup y=some c->h.IsCell c b->h'.IsCell c b)(x:dO C i h m y ky w):dO C i h' m' y ky w:=by
 have cell:(∃c a,C.env.cells.lookup y=some c∧h.IsCell c a∧∀u,w=some u->∃b,a=some b∧Val C.no i h u b)->∃c a,C.env.cells.lookup y=some c∧h'.IsCell c a∧∀u,w=some u->∃b,a=some b∧Val C.no i h' u b:=λx=>by
  refine cg x λc a h1 h2 h3=>?_;exact⟨c,a,h1,hc _ _ h1 h2,λu e=>(h3 u e).elim λb q=>⟨b,q.1,q.2.keep (bB.refl i) tk⟩⟩
 cases ky with
 | «local»=>exact λu e=>(x u e).elim λa q=>⟨a,hl _ q.1,q.2.keep (bB.refl i) tk⟩
 |_=>exact cell x
theorem CS {k:Nat}(O:C.Ok k){h h':Heap}{m m':Str->Option Value}{x:Str}{kd:NameKind}{n:Nat}{v:V}(hk:C.sc.lookup x=some kd)(hs:slot C.sc x=some n)(mine:dO C i h' m' x kd (some v))
  (others:∀y ky w,¬y=x->dO C i h m y ky w->dO C i h' m' y ky w) (kz:∀(n:Nat) v,loc[n]?=some v->∃x k,C.names[n]?=some x∧C.sc.lookup x=some k∧dO C i h m x k v) (j:Nat) (w:Option V) (e:(loc.set n (some v))[j]?=some w) :
  ∃x k,C.names[j]?=some x∧C.sc.lookup x=some k∧dO C i h' m' x k w:=by
 have hj:=(List.getElem?_eq_some_iff.mp e).1;rw[List.length_set]at hj;refine cg (kz j loc[j] (List.getElem?_eq_getElem hj)) λy ky e1 e2 e3=>?_;by_cases q:n=j
 ·subst q;obtain rfl:x=y:=oi ((iH hs).symm.trans e1);obtain rfl:=oi (hk.symm.trans e2);rw[List.getElem?_set_self hj]at e;exact⟨x,kd,e1,e2,oi e▸mine⟩
 ·rw[List.getElem?_set_ne q]at e;exact⟨y,ky,e1,e2,oi ((List.getElem?_eq_getElem hj).symm.trans e)▸others y ky _ (λr=>q (z8 (BW O.nd) (iH hs) (r▸e1))) e3⟩
theorem xJ {k:Nat}(O:C.Ok k)(ae:Rep C i loc hp s){x:Str}{kd:NameKind}{n:Nat}{v:V}{a:Value}(hk:C.sc.lookup x=some kd)(fi:kd=.local∨kd=.cell)(hs:slot C.sc x=some n)(hv:Val C.no i s.heap v a)
  {Q:Unit->Shared->Prop} {E:Value->Shared->Prop} (hQ:∀s',Rep C i (loc.set n (some v)) hp s'->aJ C.own i s i s'->Q () s'):wpAny C.M C.A (bindName C.env x a) Q E s:=by
 have YI:=(O.names x kd hk).1;refine aj (ae.ns) λm hm kz=>?_;rcases fi with rfl|rfl
 ·refine wpAny_bindName (wpAny_storeName_local YI hm (λh' hn xK=>?_) (by rw[O.kind];rfl));refine m7 (id hn) λo' YA ep' qk HZ _=>?_
  obtain⟨R,K⟩:=ae.ownStep (loc':=loc.set n (some v)) (t:=s.toks+1) (.head _) (Nat.le_add_right _ _) xK ⟨o',qk,by rw[HZ];exact λ_=>Data.noConfusion,by rw[HZ];exact λ_ _=>Data.noConfusion⟩ (O.nF _ (.head _)) (List.length_set ..) λtk=>⟨_,hn,
   CS O hk hs (λu hu=>⟨a,by simp,oi hu▸hv.keep (bB.refl i) tk⟩) (λy ky w q=>dO.upd tk (λb g=>by simp[q,g]) λc b _ g=>by
    refine aj g λo1 q1 q2=>?_;refine⟨o1,(xK.2 c λq'=>?_).trans q1,q2⟩;refine m7 hm λo2 es ep q3 q4 _=>?_;rw[q',q3]at q1;obtain rfl:=oi q1;rw[q4]at q2;cases q2) kz⟩
  exact hQ _ R K
 ·obtain⟨S6,c,hc,Nk,hcL⟩:=YI;have hn:n<loc.length:=ae.ll▸(List.getElem?_eq_some_iff.mp (iH hs)).1;refine cg (kz n loc[n] (List.getElem?_eq_getElem hn)) λy ky f1 f2 f3=>?_;obtain rfl:x=y:=oi ((iH hs).symm.trans f1);obtain rfl:=oi (hk.symm.trans f2);refine cg f3 λc' b g1 kN _=>?_;obtain rfl:=oi (hc.symm.trans g1);refine wpAny_bindName (wpAny_storeName_cell O.kind S6 hc kN (λh' hn xK=>?_));refine aj (id hn) λo' qk HZ=>?_
  obtain⟨R,K⟩:=ae.ownStep (loc':=loc.set n (some v)) (t:=s.toks) Nk (Nat.le_refl _) xK ⟨o',qk,by rw[HZ];exact λ_=>Data.noConfusion,by rw[HZ];exact λ_ _=>Data.noConfusion⟩ (O.nF c Nk) (List.length_set ..) λtk=>⟨m,hm.sameBut xK (Ne.symm hcL),
   CS O hk hs ⟨c,some a,hc,hn,λu hu=>⟨a,rfl,oi hu▸hv.keep (bB.refl i) tk⟩⟩ (λy ky w q=>dO.upd tk (λ_ g=>g) λc' b g1 g2=>by
    refine aj g2 λo1 q1 q2=>?_;exact⟨o1,(xK.2 c' λq'=>q (O.cells y x c' g1 (q'▸hc))).trans q1,q2⟩) kz⟩
  exact hQ _ R K
section
inductive d0 (C:Cx):List Expr->List Nat->Prop
 |nil:d0 C [] []
 |cons {x:Str} {p:Pos} {n:Nat} {es:List Expr} {is:List Nat} {kd:NameKind} (hk:C.sc.lookup x=some kd) (fi:kd=.local∨kd=.cell) (hs:slot C.sc x=some n) (hn:n∉is) (r:d0 C es is):d0 C (.Name x p::es) (n::is)
theorem K0 {o:Option NameKind}(h:M7 o=true):∃k,o=some k∧(k=.local∨k=.cell):=by
 cases o with
 |none=>exact ft h
 |some k=>exact⟨k,rfl,(Bool.or_eq_true_iff.mp h).imp beq_iff_eq.mp beq_iff_eq.mp⟩
theorem wD {α:Type}{b:Bool}{o:Option α}{a:α}(h:cond b o none=some a):b=true∧o=some a:=by
 cases b with
 |true=>exact⟨rfl,h⟩
 |false=>exact bx h
theorem K1 {α:Type}{b:Bool}{o:Option α}{a:α}(h:cond b none o=some a):b=false∧o=some a:=by
 cases b with
 |false=>exact⟨rfl,h⟩
 |true=>exact bx h
theorem K2 {e:Expr}{l:List Expr}(h:EB e=some l):∃q p,e=.Tuple l q p:=by cases e<;>first|exact oi h▸⟨_,_,rfl⟩|exact bx h
theorem tV {sc:Sc}{e:Expr}{n:Nat}(h:yK sc e=some n):∃x p kd,e=.Name x p∧sc.lookup x=some kd∧(kd=.local∨kd=.cell)∧slot sc x=some n:=by
 refine aj (bE h) λx hx h=>?_;refine aQ (jD hx) λp e1=>?_;refine bp (wD h) λho h=>?_;refine aj (K0 ho) λkd h1 h2=>?_;exact⟨x,p,kd,e1,h1,h2,h⟩
theorem tn (es:List Expr):∀(is:List Nat),mh C.sc es=some is->d0 C es is:=by
 induction es with
 |nil=>exact λis e=>oi e▸.nil
 |cons aao r ih =>
  intro is e;refine aj (bE e) λm h1 e=>?_;refine aj (bE e) λis' h2 e=>?_;refine bp (K1 e) λhc e=>?_;obtain rfl:=oi e;refine fk (tV h1) λx p kd eQ q1 q2 q3=>?_;subst eQ;exact .cons q1 q2 q3 (λhm=>Bool.false_ne_true (hc.symm.trans (List.contains_iff_mem.mpr hm))) (ih is' h2)
theorem CT {sc:Sc}{t:Expr}{tg:Tg}(h:lz sc t=some tg):(∃es q p is,t=.Tuple es q p∧mh sc es=some is∧tg=.many is)∨∃m,yK sc t=some m∧tg=.one m:=by
 unfold lz at h;cases ht:EB t with
 |some es =>
  rw[ht]at h;refine aj (mJ h) λis h1 h2=>?_;refine jK (K2 ht) λq p e=>?_;exact .inl ⟨es,q,p,is,e,h1,h2.symm⟩
 |none =>
  rw[ht]at h;refine aj (mJ h) λm h1 h2=>?_;exact .inr ⟨m,h1,h2.symm⟩
theorem d0.stores {es:List Expr}{is:List Nat}(h:d0 C es is):(assignEach es C.env).map (·.2)=es.map λe=>assign e C.env:=by
 induction h with
 |nil=>rfl
 |cons _ _ _ _ _ ih=>exact congrArg (List.cons _) ih
theorem d0.uJ {es:List Expr}{is:List Nat}(h:d0 C es is):(assignEach es C.env).findIdx? (·.1)=none∧(assignEach es C.env).length=es.length:=by
 induction h with
 |nil=>exact⟨rfl,rfl⟩
 |cons _ _ _ _ _ ih=>exact⟨(List.findIdx?_cons ..).trans (congrArg (Option.map (·+1)) ih.1),congrArg (·+1) ih.2⟩
theorem d0.len {es:List Expr}{is:List Nat}(h:d0 C es is):es.length=is.length:=by
 induction h with
 |nil=>rfl
 |cons _ _ _ _ _ ih=>exact congrArg (·+1) ih
section
variable {n N:Nat}{d:cy}{c:Ca}(O:C.Ok n)(F:bU C.w.params)(D:c5 n d)
include O
theorem jk (ae:Rep C i loc hp s){x:Str}{p:Pos}{kd:NameKind}{n:Nat}{v:V}{a:Value}(hk:C.sc.lookup x=some kd)(fi:kd=.local∨kd=.cell)(hs:slot C.sc x=some n)(hv:Val C.no i s.heap v a)
  {Q:Unit->Shared->Prop} {E:Value->Shared->Prop} (hQ:∀s',Rep C i (loc.set n (some v)) hp s'->aJ C.own i s i s'->Q () s'):wpAny C.M C.A (assign (.Name x p) C.env a) Q E s:=by
 rw[PySem.assign_Name];exact wpAny_bind (wpAny_standAt (xJ O ae hk fi hs hv hQ))
theorem xM {es:List Expr}{is:List Nat}(hn:d0 C es is):∀(vs:List V) (as:List Value) {loc:Loc} {s:Shared} (ae:Rep C i loc hp s),Vals C.no i s.heap vs as->∀{loc'},dX is vs loc=some loc' ->
  ∀{Q:Unit->Shared->Prop} {E:Value->Shared->Prop},(∀s',Rep C i loc' hp s'->aJ C.own i s i s'->Q () s')->wpAny C.M C.A (assignInOrder (es.map λe=>assign e C.env) as) Q E s:=by
 induction hn with
 |nil =>
  intro vs as loc s ae hv loc' e Q E hQ;cases vs with
  |nil=>rw[hv.wq];exact wpAny_pure (hQ s (oi e▸ae) (aJ.refl ..))
  |cons x y=>exact bx e
 | @cons x p n es is kd hk fi hs hn r ih =>
  intro vs as loc s ae hv loc' e Q E hQ;cases vs with
  |nil=>exact bx e
  |cons v vs =>
   obtain⟨a,as,rfl,hv,xN⟩:=hv.inv;show wpAny _ _ (assignInOrder (assign (.Name x p) C.env::es.map λe=>assign e C.env) (a::as)) _ _ _;rw[assignInOrder];exact wpAny_bind (wpAny_holding (jk O ae hk fi hs hv λah ak k₁=>ih vs as ak (xN.keep (bB.refl i) (k₁.tup ae (λ_ h=>h))) e λs' R' k'=>hQ s' R' (k₁.trans k')))
omit O in
theorem B9 (is:List Nat):∀(vs:List V) (n:Nat) (v:V) (loc:Loc),n∉is->dX is vs (loc.set n (some v))=(dX is vs loc).map (·.set n (some v)):=by
 induction is with
 |nil=>intro vs n v loc _;cases vs<;>rfl
 |cons k is ih =>
  intro vs n v loc hn;cases vs with
  |nil=>rfl
  |cons u vs =>
   have hn:=not_or.mp λh=>hn (List.mem_cons.mpr h);show dX is vs ((loc.set n (some v)).set k (some u))=_;rw[List.set_comm _ _ hn.1];exact ih vs n v _ hn.2
omit O in
theorem Cb (is:List Nat):∀(vs:List V) (n:Nat) (v:V) (loc:Loc),is.length=vs.length->dX (is++[n]) (vs++[v]) loc=(dX is vs loc).map (·.set n (some v)):=by
 induction is with
 |nil =>
  intro vs n v loc h;rw[List.eq_nil_of_length_eq_zero h.symm];rfl
 |cons k is ih =>
  intro vs n v loc h;cases vs with
  |nil=>exact absurd h (Nat.succ_ne_zero _)
  |cons u vs=>exact ih vs n v _ (Nat.succ.inj h)
omit O in
theorem E0 (is:List Nat):∀(vs:List V) (loc:Loc),is.Nodup->is.length=vs.length->dX is.reverse vs.reverse loc=dX is vs loc:=by
 induction is with
 |nil =>
  intro vs loc _ h;rw[List.eq_nil_of_length_eq_zero h.symm];rfl
 |cons n is ih =>
  intro vs loc nd h;cases vs with
  |nil=>exact absurd h (Nat.succ_ne_zero _)
  |cons v vs =>
   have nd:=List.nodup_cons.mp nd;have h:=Nat.succ.inj h;rw[List.reverse_cons,List.reverse_cons,Cb _ _ _ _ _ (by rw[List.length_reverse,List.length_reverse];exact h),ih vs loc nd.2 h];exact(B9 is vs n v loc nd.1).symm
omit O in
theorem uK (is:List Nat):∀(vs:List V) (loc:Loc) {loc'},dX is vs loc=some loc'->is.length=vs.length:=by
 induction is with
 |nil =>
  intro vs loc loc' e;cases vs with
  |nil=>rfl
  |cons v vs=>exact bx e
 |cons n is ih =>
  intro vs loc loc' e;cases vs with
  |nil=>exact bx e
  |cons v vs=>exact congrArg (·+1) (ih vs _ e)
omit O in
theorem d0.nodup {es:List Expr}{is:List Nat}(h:d0 C es is):is.Nodup:=by
 induction h with
 |nil=>exact .nil
 |cons _ _ _ hn _ ih=>exact List.nodup_cons.mpr ⟨hn,ih⟩
inductive fI (C:Cx):List Str->List Nat->Prop
 |nil:fI C [] []
 |cons {x:Str} {n:Nat} {xs:List Str} {is:List Nat} {kd:NameKind} (hk:C.sc.lookup x=some kd) (fi:kd=.local∨kd=.cell) (hs:slot C.sc x=some n) (r:fI C xs is):fI C (x::xs) (n::is)
omit O in
theorem fI.app {xs ys:List Str}{is js:List Nat}(a:fI C xs is)(b:fI C ys js):fI C (xs++ys) (is++js):=by
 induction a with
 |nil=>exact b
 |cons hk fi hs _ ih=>exact .cons hk fi hs ih
omit O in
theorem fI.rev {xs:List Str}{is:List Nat}(a:fI C xs is):fI C xs.reverse is.reverse:=by
 induction a with
 |nil=>exact .nil
 |cons hk fi hs _ ih=>rw[List.reverse_cons,List.reverse_cons];exact ih.app (.cons hk fi hs .nil)
theorem K3 {xs:List Str}{is:List Nat}(hn:fI C xs is):∀(vs:List V) (as:List Value) {loc:Loc} {s:Shared} (ae:Rep C i loc hp s),Vals C.no i s.heap vs as->∀{loc'},dX is vs loc=some loc' ->
  ∀{Q:Unit->Shared->Prop} {E:Value->Shared->Prop},(∀s',Rep C i loc' hp s'->aJ C.own i s i s'->Q () s')->wpAny C.M C.A (assignInOrder (xs.map λn=>bindName C.env n) as) Q E s:=by
 induction hn with
 |nil =>
  intro vs as loc s ae hv loc' e Q E hQ;cases vs with
  |nil=>rw[hv.wq];exact wpAny_pure (hQ s (oi e▸ae) (aJ.refl ..))
  |cons x y=>exact bx e
 | @cons x n xs is kd hk fi hs r ih =>
  intro vs as loc s ae hv loc' e Q E hQ;cases vs with
  |nil=>exact bx e
  |cons v vs =>
   obtain⟨a,as,rfl,hv,xN⟩:=hv.inv;show wpAny _ _ (assignInOrder (bindName C.env x::xs.map λn=>bindName C.env n) (a::as)) _ _ _;rw[assignInOrder];exact wpAny_bind (wpAny_holding (xJ O ae hk fi hs hv λah ak k₁=>ih vs as ak (xN.keep (bB.refl i) (k₁.tup ae (λ_ h=>h))) e λs' R' k'=>hQ s' R' (k₁.trans k')))
def YJ (env:Env)(line:Nat)(f:Expr->Option Str):Prop:=∀x p,f (.Name x p)=if(env.kindOf x==some .local&&p.line==line)=true then some x else none
omit O in
theorem Cc {es:List Expr}{is:List Nat}{f:Expr->Option Str}{line:Nat}(hf:YJ C.env line f)(h:d0 C es is):(es.filterMap f).length=es.length->fI C (es.filterMap f) is:=by
 induction h with
 |nil=>intro _;exact .nil
 | @cons x p n es is kd hk fi hs hn r ih =>
  intro e;rw[List.filterMap_cons]at e ⊢;have hd:=hf x p;by_cases hq:(C.env.kindOf x==some .local&&p.line==line)=true
  ·rw[if_pos hq]at hd;rw[hd]at e ⊢;exact .cons hk fi hs (ih (Nat.succ.inj e))
  ·rw[if_neg hq]at hd;rw[hd]at e;have hle:(es.filterMap f).length≤es.length:=List.length_filterMap_le ..;exact absurd (Nat.le_trans (Nat.le_of_eq e.symm) hle) (Nat.not_succ_le_self _)
omit O in
theorem H0 (es vs:List Expr)(q q':Nat)(p p':Pos)(env:Env):∃(c1 c2 c4:Bool) (f:Expr->Option Str),YJ env ((es.head?.map (·.pos.line)).getD 0) f∧swappedStores [.Tuple es q p] (.Tuple vs q' p') env=(if c1=true then pure none else if c2=true then pure none else
  if((es.filterMap f).length != es.length||(es.filterMap f).eraseDups.length != (es.filterMap f).length)=true then pure none else
  if c4=true then pure none else if vs.all (constantsAlone 8)=true then unsupported "assign.tuple-of-constant-expressions:order-of-the-stores" else pure (some (es.filterMap f)):Sem (Option (List Str))):=by
 refine⟨_,_,_,_,?_,rfl⟩;exact λ_ _=>rfl
omit O in
theorem E1 {es:List Expr}{is:List Nat}(h:d0 C es is)(e:Expr)(q:Nat)(p:Pos)(hc:oE e=false) :
  ∃o:Option (List Str),swappedStores [.Tuple es q p] e C.env=pure o∧(o=none∨∃names,o=some names∧fI C names is):=by
 by_cases ht:∃vs q' p',e=.Tuple vs q' p'
 ·refine ow ht λvs q' p' eQ=>?_;subst eQ;refine ZR (H0 es vs q q' p p' C.env) λc1 c2 c4 f hf ee=>?_;rw[ee,show vs.all (constantsAlone 8)=false from hc];clear ee;generalize hn:es.filterMap f=nm;cases c1 with
  |true=>exact⟨none,rfl,.inl rfl⟩
  |false=>cases c2 with
   |true=>exact⟨none,rfl,.inl rfl⟩
   |false =>
    by_cases hl:(nm.length != es.length||nm.eraseDups.length != nm.length)=true
    ·exact⟨none,if_pos hl,.inl rfl⟩
    ·cases c4 with
     |true=>exact⟨none,(if_neg hl).trans rfl,.inl rfl⟩
     |false=>exact⟨_,(if_neg hl).trans rfl,.inr ⟨_,rfl,hn▸Cc hf h (hn.symm▸by
       have hl:=(Bool.or_eq_false_iff.mp (Bool.not_eq_true _▸hl)).1;exact bne_eq_false_iff_eq.mp hl)⟩⟩
 ·refine⟨none,?_,.inl rfl⟩;cases e<;>first|rfl|(exact absurd ⟨_,_,_,rfl⟩ ht)
end
end
section
abbrev SS (C:Cx)(i:Pl)(s:Shared)(r:R (Fl×Loc))(t:Sem Flow):Prop:=eF C C.own i s (·.2) (tO C.no) r t
theorem eF.jv {T:fK α β}{lc:β->Loc}{r:R β}{t:Sem α}(h:eF C [] i s lc T r t):eF C C.own i s lc T r t:=h.weaken (by simp)
theorem K4 (e:Expr)(t:Option Expr)(line:Nat)(env:Env):fE e=true∨swapsWith e t line env=pure false:=by
 cases e<;>first|exact .inr rfl|exact .inl rfl
theorem jl {e:Expr}(h:fE e=false)(t:Option Expr)(line:Nat)(env:Env):swapsWith e t line env=pure false :=
 (K4 e t line env).resolve_left (h▸Bool.false_ne_true)
theorem E2 (e:Expr)(x:Str)(p:Pos)(line:Nat)(env:Env):∃b,swapsWith e (some (.Name x p)) line env=pure b:=by
 cases e<;>exact⟨_,rfl⟩
theorem uL (e:Expr)(x:Str)(p:Pos)(line:Nat)(env:Env):∃b,swapsWith e (some (.Name x p)) line env=pure b∧(fE e=false->b=false):=by
 cases h:fE e with
 |false=>exact⟨false,jl h ..,λ_=>rfl⟩
 |true=>exact(E2 e x p line env).imp λ_ e=>⟨e,nofun⟩
theorem gB (t value:Expr)(pos:Pos)(env:Env):exec (.Assign [t] value pos) env=(do
  standAt pos
  if <- swapsWith value (some t) pos.line env then do
   evalThenUse value env λv=>assignAll v ((assignEach [t] env).map (·.2))
   pure .next
  else do
   let v <- eval value env
   assignStores env v (<- swappedStores [t] value env) ((assignEach [t] env).map (·.2))):=rfl
theorem wF {n:Nat}(O:C.Ok n):interactive C.env=false:=by
 unfold interactive;rw[O.kind];rfl
section
variable {n N:Nat}{d:cy}{c:Ca}(O:C.Ok n)(F:bU C.w.params)(D:c5 n d)
include O F D
theorem S7 (ae:Rep C i loc hp s)(e:Expr)(pos:Pos):SS C i s (aW (d.ex C.sc e) loc hp) (exec (.Return (some e) pos) C.env) :=
 sn λq=>wpAny_Return_some (cU (D.ex O F.base ae e).jv q λa v au aB ah ak k₁ aP q=>q.fin ak aP)
theorem O0 (ae:Rep C i loc hp s)(pos:Pos):SS C i s (aW (xC .none) loc hp) (exec (.Return none pos) C.env) :=
 sn λq=>wpAny_Return_none (To.fin (b:=(Fl.ret V.none,loc)) q ae .none)
theorem O1 (ae:Rep C i loc hp s)(e:Expr)(pos:Pos)(hc:fE e=false):SS C i s (bo (d.ex C.sc e) loc hp) (exec (.Expr e pos) C.env):=by
 refine sn λ{Q E} q=>?_
 show wpAny _ _ (do
  standAt pos
  if interactive C.env then printExpr (eval e C.env)
  else if <- swapsWith e none pos.line C.env then do evalThenUse e C.env λ_=>point;pure .next
  else do dropValue e pos (<- eval e C.env)) _ _ _
 rw[wF O,jl hc];refine wpAny_bind (wpAny_standAt ?_);show wpAny _ _ (eval e C.env>>=λv=>dropValue e pos v) _ _ _;exact wpAny_bind (cU (D.ex O F.base ae e).jv q λa v au aB ah ak k₁ aP q=>wpAny_dropValue (To.fin (b:=(Fl.next,loc)) q ak trivial))
theorem nM (eS:∃outer,C.d9=C.env::outer)(ss:List Stmt):∀{i loc hp s},Rep C i loc hp s->SS C i s (aF (ss.map (d.st C.sc)) loc hp) (execs ss C.env):=by
 induction ss with
 |nil=>exact λae=>sn λq=>wpAny_execs_nil (To.fin (b:=(Fl.next,_)) q ae trivial)
 |cons st ss ih =>
  exact λ{i loc hp s} ae=>sn λ{Q E} q=>wpAny_execs_cons (cU (D.st O F.base eS ae st) q λf p au aB ah ak k₁ aP q=>by
   obtain⟨fl,qx⟩:=p;cases fl with
   |next =>
    cases f with
    |next=>exact(ih ak).to q
    |_=>exact aP.elim
   |ret v =>
    cases f with
    |ret a=>exact q.fin ak aP
    |_=>exact aP.elim)
theorem Xg (eS:∃outer,C.d9=C.env::outer)(ae:Rep C i loc hp s)(t:Expr)(a b:List Stmt)(pos:Pos):SS C i s (bc (d.te C.sc t) (a.map (d.st C.sc)) (b.map (d.st C.sc)) loc hp) (exec (.If t a b pos) C.env) :=
 sn λq=>wpAny_If (cU (D.te O F.base ae t).jv q λx y au aB ah ak k₁ aP q=>by
  subst aP;cases x
  ·exact(nM O F D eS b ak).to q
  ·exact(nM O F D eS a ak).to q)
omit O F D in
theorem E3 (e:Expr)(x:Str)(p:Pos)(env:Env):swappedStores [.Name x p] e env=pure none:=rfl
omit O F D in
theorem fI.len {xs:List Str}{is:List Nat}(h:fI C xs is):xs.length=is.length:=by
 induction h with
 |nil=>rfl
 |cons _ _ _ _ ih=>exact congrArg (·+1) ih
omit O F D in
theorem Vals.rev {no:List Addr}{i:Pl}{h:Heap}{vs:List V}{as:List Value}(x:Vals no i h vs as):Vals no i h vs.reverse as.reverse :=
 x.ind (P:=λvs as=>Vals no i h vs.reverse as.reverse) .nil λx _ ih=>by rw[List.reverse_cons,List.reverse_cons];exact ih.append (.cons x .nil)
theorem tW (ae:Rep C i loc hp s){x:Str}{p:Pos}{kd:NameKind}{m:Nat}(e:Expr){ex:Ex}(hx:SV C [] i loc s (ex loc hp) (eval e C.env))(pos:Pos)(hk:C.sc.lookup x=some kd)(fi:kd=.local∨kd=.cell)(hs:slot C.sc x=some m)
  (nN:swapsWith e (some (.Name x p)) pos.line C.env=pure false):SS C i s (aR m ex loc hp) (exec (.Assign [.Name x p] e pos) C.env):=by
 refine sn λ{Q E} q=>?_;rw[gB,nN];refine wpAny_bind (wpAny_standAt ?_);show wpAny _ _ (do let v <- eval e C.env;assignStores C.env v (<- swappedStores [.Name x p] e C.env) ((assignEach [.Name x p] C.env).map (·.2))) _ _ _
 rw[E3];refine wpAny_bind (cU hx.jv q λa v au aB ah ak k₁ aP q=>wpAny_bind (wpAny_pure ?_));show wpAny _ _ (assign (.Name x p) C.env a>>=λ_=>pure Flow.next) _ _ _;exact wpAny_bind (jk O ak hk fi hs aP λaO aV k₂=>wpAny_pure (To.at (b:=(Fl.next,loc.set m (some v))) q aV k₂ trivial))
theorem O3 (ae:Rep C i loc hp s){es:List Expr}{is:List Nat}(hn:d0 C es is)(q:Nat)(p:Pos)(e:Expr)(pos:Pos)(hc:oE e=false)(Xh:fE e=false) :
  SS C i s (eI is (d.ex C.sc e) loc hp) (exec (.Assign [.Tuple es q p] e pos) C.env):=by
 refine aj (E1 hn e q p hc) λo ho hoo=>?_;refine sn λ{Q E} qq=>?_;rw[gB,jl Xh];refine wpAny_bind (wpAny_standAt ?_);show wpAny _ _ (do let v <- eval e C.env;assignStores C.env v (<- swappedStores [.Tuple es q p] e C.env) ((assignEach [.Tuple es q p] C.env).map (·.2))) _ _ _
 rw[ho];refine wpAny_bind (cU (D.ex O F.base ae e).jv qq λa v au aB ah ak k₁ aP qq=>wpAny_bind (wpAny_pure ?_));refine aj (qq.rB) λvs hv qq=>?_;refine aj (qq.rB) λqx gR qq=>?_;refine tE ((rp hv▸aP:Val C.no aB ah.heap (.tup vs) a).fA) λt its bH cT x y=>?_;subst bH;have uM:=uK is vs loc gR;have CU:its.size=es.length:=Array.length_toList.symm.trans (y.length.symm.trans (uM.symm.trans hn.len.symm));have more:∀h':Heap,(∀b ob,b≠ah.heap.objs.size->ah.heap.get? b=some ob->h'.get? b=some ob)->_:=λh' tY=>ak.more (own:=C.own) (t:=ah.toks) (d:=ah.drawn) (h':=h') λb ob eb=>tY b ob (Nat.ne_of_lt (Heap.lt_size eb)) eb;rcases hoo with rfl|⟨names,rfl,qy⟩
 ·show wpAny _ _ (do (do standAt p;unpack (.ref t) (assignEach es C.env));pure Flow.next) _ _ _
  refine wpAny_bind (wpAny_bind (wpAny_standAt ?_));unfold unpack;rw[hn.uJ.1,hn.uJ.2,hn.stores,<- CU];refine wpAny_bind (wpAny_holding (wpAny_unpackItems_tuple O.handled x.is λh' tY=>?_));refine bp (more h' tY) λaV k₂=>?_;exact xM O hn vs its.toList aV (y.keep (bB.refl _) (k₂.tup ak (λb hb=>hb))) gR λeR cj cL=>wpAny_pure (To.at (b:=(Fl.next,qx)) qq cj (k₂.trans cL) trivial)
 ·show wpAny _ _ (do rule "assign.swapped-stores";let items <- unpackItems (.ref t) names.length none;assignInOrder (names.reverse.map λn=>bindName C.env n) items.reverse;pure Flow.next) _ _ _
  rw[qy.len.trans (hn.len.symm.trans CU.symm)];refine wpAny_bind (wpAny_rule (wpAny_bind (wpAny_unpackItems_tuple O.handled x.is λh' tY=>?_)));refine bp (more h' tY) λaV k₂=>?_;exact wpAny_bind (K3 O qy.rev vs.reverse its.toList.reverse aV (y.keep (bB.refl _) (k₂.tup ak (λb hb=>hb))).rev ((E0 is vs loc hn.nodup uM).trans gR) λeR cj cL=>wpAny_pure (To.at (b:=(Fl.next,qx)) qq cj (k₂.trans cL) trivial))
end
end
section
noncomputable def K5 (hb:Heap) (L dx:Addr) (h:Heap):List (Addr×Obj):=(List.range h.objs.size).filterMap λb=>if b=L∨b=dx∨(hb.get? b).isSome=true then none else(h.get? b).map λo=>(b,o)
theorem K6 {hb h:Heap}{L dx b:Addr}{o:Obj}(e:h.get? b=some o)(h1:b≠L)(h2:b≠dx)(h3:hb.get? b=none):(b,o)∈K5 hb L dx h:=by
 refine List.mem_filterMap.mpr ⟨b,List.mem_range.mpr (Heap.lt_size e),?_⟩;rw[if_neg (λq=>q.elim h1 λq=>q.elim h2 λq=>by rw[h3]at q;exact ft q),e];rfl
theorem rA {hb h:Heap}{L dx:Addr}(p:Addr×Obj)(hp:p∈K5 hb L dx h):h.get? p.1=some p.2∧p.1≠L∧p.1≠dx∧hb.get? p.1=none:=by
 refine aj (List.mem_filterMap.mp hp) λb _ e=>?_;by_cases hn:b=L∨b=dx∨(hb.get? b).isSome=true
 ·exact bx ((if_pos hn).symm.trans e)
 ·refine aj (Option.map_eq_some_iff.mp ((if_neg hn).symm.trans e)) λo eo bH=>?_;subst bH;exact⟨eo,λq=>hn (.inl q),λq=>hn (.inr (.inl q)),Option.not_isSome_iff_eq_none.mp λz=>hn (.inr (.inr z))⟩
theorem Rep.Xi (ae:Rep C i loc hp s){hp':HP}{s':Shared}(kp:∀b o,s.heap.get? b=some o->b∉i->b≠C.L->s'.heap.get? b=some o)(kL:∀m,s.heap.Ns C.L m->s'.heap.Ns C.L m)
  (lv:∀a∈i,∃o,s'.heap.get? a=some o∧∀vs,o.data≠.fields vs)
  (len:i.length=hp'.length) (objs:bq C.no s.heap s'.heap->∀(n:Nat) o,hp'[n]?=some o->∃a,i[n]?=some a∧fM C.no i C.w.params s'.heap a o) (hg:s'.gens=s.gens) (ho:s'.os=s.os) (ht:s.toks≤s'.toks) (uN:C.hb.get? C.L=none) :
  Rep C i loc hp' s'∧aJ C.own i s i s':=by
 refine aj (ae.ns) λm hm hl=>?_;have nO:=kL m hm;have S8:∃o,s'.heap.get? C.L=some o∧(∀vs,o.data≠.fields vs)∧∀its n,o.data≠.seq its n:=nO.elim λo x=>x.elim λ_ x=>x.elim λ_ x=>⟨o,x.1,by rw[x.2.1];exact λ_=>Data.noConfusion,by rw[x.2.1];exact λ_ _=>Data.noConfusion⟩
 have tk:bq C.no s.heap s'.heap:=λa its _ x=>by
  have h:=ae.lW x;exact x.elim λn e=>⟨n,kp a _ e h.2 λq=>h.1 (q▸.head _)⟩
 have Xj:∀c v,s.heap.IsCell c v->s'.heap.IsCell c v:=λc v x=>by
  refine aj x λo e hd=>?_;refine⟨o,kp c o e (λhm=>?_) (λq=>?_),hd⟩
  ·refine cg (ae.gy hm) λ_ _ _ _ q=>?_;refine fj (q.some) λo' e' _ _ q4=>?_;rw[e]at e';obtain rfl:=oi e';exact q4 _ hd
  ·subst q;refine m7 hm λo2 es ep q3 q4 _=>?_;rw[e]at q3;obtain rfl:=oi q3;rw[hd]at q4;cases q4
 have live:∀b o,s.heap.get? b=some o->∃o',s'.heap.get? b=some o':=λb o e=>by
  by_cases hm:b∈i
  ·exact(lv b hm).imp λ_ x=>x.1
  ·by_cases q:b=C.L
   ·exact q▸S8.imp λ_ x=>x.1
   ·exact⟨o,kp b o e hm q⟩
 refine⟨⟨⟨m,nO,λn v e=>(hl n v e).imp λx y=>y.imp λk z=>⟨z.1,z.2.1,dO.keep (bB.refl i) tk Xj z.2.2⟩⟩,len,objs tk,ae.nd,ae.new,λb hb=>?_,λb o e=>?_,?_,hg.trans ae.gens,ho.trans ae.os,Nat.lt_of_lt_of_le ae.pos ht,ae.ll,
  λb hb=>⟨(ae.ej b hb).1,(ae.ej b hb).2.elim (live b)⟩⟩,⟨λb o e h1 h2=>kp b o e h2 λq=>h1 (q▸.head _),live,[],(List.append_nil _).symm,λa h=>absurd h List.not_mem_nil⟩⟩
 ·have h:=ae.own b hb;by_cases q:b=C.L
  ·exact⟨h.1,q▸S8⟩
  ·exact⟨h.1,h.2.imp λo x=>⟨kp b o x.1 h.1 q,x.2⟩⟩
 ·exact kp b o (ae.base b o e) (λhm=>bx ((ae.new b hm).symm.trans e)) λq=>bx (uN.symm.trans (q▸e))
 ·refine FunFrames.uy (λb o e hn=>?_) ae.fR;by_cases hm:b∈i
  ·exact lv b hm
  ·by_cases q:b=C.L
   ·exact q▸S8.imp λ_ x=>⟨x.1,x.2.1⟩
   ·exact⟨o,kp b o e hm q,hn⟩
section
variable {n N:Nat}{d:cy}{c:Ca}(O:C.Ok n)(F:bU C.w.params)(D:c5 n d)
include O F
omit O F in
theorem S9 {h:Heap}{a:Addr}{m m':Str->Option Value}(x:h.Ns a m)(y:h.Ns a m'):m=m':=by
 refine fk x λo1 es1 ep1 x1 x2 x3 x4=>?_;refine fk y λo2 es2 ep2 y1 y2 y3 y4=>?_;rw[x1]at y1;obtain rfl:=oi y1;rw[x2]at y2;injection y2 with y2;subst y2
 funext z;rw[<- x4,<- y4]
theorem yy (ae:Rep C i loc hp s){u v:V}{a b:Value}{k:Key}(hu:Val C.no i s.heap u a)(hv:Val C.no i s.heap v b)(e:dn hp u k v=some hp'){Q:Unit->Shared->Prop}{E:Value->Shared->Prop}
  (hQ:∀s',Rep C i loc hp' s'->aJ C.own i s i s'->Q () s'):wpAny C.M C.A (setAttr a k.str b) Q E s:=by
 refine aj (bE e) λtR q0 e=>?_;refine aj (bE e) λq q1 e=>?_;refine aj (bE e) λes q2 e=>?_;refine bp (wD e) λjb e=>?_;refine bp (bk jb) λjb hlen=>?_;obtain rfl:=oi e;refine aj ((gw q0▸hu:Val C.no i s.heap (.ref tR) a).cQ) λad aC e1=>?_;subst aC;refine fk (ae.inst e1 (tK q1) (kr q2)) λdx ds n e2 h3 h2 I=>?_;have cf:=F.cls q.1 (qt jb);refine aj (ae.ns) λm hm _=>?_;have K7:dx∈i:=List.mem_of_getElem? e2;have CV:C.L∉i:=(ae.own _ (.head _)).1;have Xk:Fr C.hb C.L s.heap m:=⟨hm,ae.base,O.above⟩;have aap:News C.hb C.L s.heap ((dx,dictOf ds n)::K5 C.hb C.L dx s.heap):=λp hp=>(List.mem_cons.mp hp).elim (λe=>e▸⟨h2,λq=>CV (q▸K7),ae.new dx K7⟩) λhp=>⟨(rA p hp).1,(rA p hp).2.1,(rA p hp).2.2.2⟩;have hp':=h3.1.put k v b (s.toks+1) hv;refine set_dict Xk O.dJ aap I rfl cf.sa cf.over (cf.attr k jb).2 cf.dict ?_ rfl (.head λp hp=>(rA p hp).2.2.1) ?_ λh' F' N'=>?_
 ·cases hg:eu es k with
  |none=>rw[(h3.1.get k).1 hg];rfl
  |some v'=>exact((h3.1.get k).2 v' hg).elim λa' g=>g.1▸rfl
 ·have h5:=hp'.length;have h6:=KA es k v;have h7:=of_decide_eq_true hlen;omega
 ·have Ta:h'.get? dx=some (dictOf (putL k.str (PyData.keyHash C.w.params k.str) (.str k.str (s.toks+1)) b ds) (putN k.str ds n)):=(N' _ (.head _)).1
  have kp:∀b' o,s.heap.get? b'=some o->b'≠dx->b'≠C.L->h'.get? b'=some o:=λb' o eo h1 h2=>by
   cases z:C.hb.get? b' with
   |some o'=>rw[oi (eo.symm.trans (ae.base b' o' z))];exact F'.keep b' o' z
   |none=>exact(N' _ (.tail _ (K6 eo h2 h1 z))).1
  have jc:∀a'∈i,a'≠C.L:=λa' ha q=>CV (q▸ha)
  obtain⟨R,K⟩:=ae.Xi (s':={s with heap:=h',toks:=s.toks+2}) (hp':=hp.set q.2 (.dict (dput es k v))) (λb' o eo h1 h2=>kp b' o eo (λq=>h1 (q▸K7)) h2) (λm' nO=>S9 hm nO▸F'.ns)
   (λa' ha=>by
    by_cases q:a'=dx
    ·exact⟨_,q▸Ta,λ_=>Data.noConfusion⟩
    ·refine cg (ae.gy ha) λ_ _ _ _ q'=>?_;exact q'.some.imp λo' x=>⟨kp a' o' x.1 q (jc a' ha),x.2.2.1⟩)
   (by rw[List.length_set];exact ae.len) (λtk j o eo=>by
    by_cases hj:q.2=j
    ·subst hj;rw[List.getElem?_set_self (List.getElem?_eq_some_iff.mp (kr q2)).1]at eo;obtain rfl:=oi eo;exact⟨dx,e2,_,_,Ta,hp'.keep (bB.refl i) tk,uF es k v h3.2⟩
    ·rw[List.getElem?_set_ne hj]at eo;refine aj (ae.objs j o eo) λa' e' q'=>?_;refine aj (q'.some) λo' YK _=>?_;exact⟨a',e',q'.keep (bB.refl i) tk ((kp a' o' YK (λq=>hj (z8 ae.nd e2 (q▸e'))) (jc a' (List.mem_of_getElem? e'))).trans YK.symm)⟩) rfl rfl (Nat.le_add_right _ _) (O.nF _ (.head _))
  exact hQ _ R K
include D
theorem K8 (ae:Rep C i loc hp s)(o:Expr)(m:Str)(k:Key)(p:Pos)(e:Expr)(pos:Pos)(hk:Key.of m=some k)(hc:fE e=false):SS C i s (cI (d.ex C.sc o) k (d.ex C.sc e) loc hp) (exec (.Assign [.Attribute o m p] e pos) C.env):=by
 obtain rfl:=Key.nJ hk;refine sn λ{Q E} q=>?_;rw[gB,jl hc];refine wpAny_bind (wpAny_standAt ?_);show wpAny _ _ (do let v <- eval e C.env;assignStores C.env v (<- swappedStores [.Attribute o k.str p] e C.env) ((assignEach [.Attribute o k.str p] C.env).map (·.2))) _ _ _
 rw[show swappedStores [.Attribute o k.str p] e C.env=pure none from rfl];refine wpAny_bind (cU (D.ex O F.base ae e).jv q λb v au aB ah ak k₁ aP q=>wpAny_bind (wpAny_pure ?_))
 show wpAny _ _ ((do
  let ov <- holding [b] (eval o C.env)
  standAt p.atName
  holding [b,ov] (setAttr ov k.str b)
  release [b,ov] [])>>=λ_=>pure Flow.next) _ _ _
 refine wpAny_bind (wpAny_bind (wpAny_holding (cU (D.ex O F.base ak o).jv q λa u bJ cm aO aV k₂ cX q=>wpAny_bind (wpAny_standAt (wpAny_bind (wpAny_holding ?_))))));refine aj (q.rB) λrv hp q=>?_;exact yy O F aV cX (aP.keep k₂.g (k₂.tup ak (λ_ h=>h))) hp λeR cj cL=>wpAny_release' (wpAny_pure (To.at (b:=(Fl.next,loc)) q cj cL trivial))
theorem K9 (ae:Rep C i loc hp s)(o:Expr)(x:Str)(q:Nat)(px:Pos)(k:Key)(p:Pos)(e:Expr)(pos:Pos)(hk:Key.of x=some k)(hc:fE e=false):SS C i s (iS (d.ex C.sc o) k (d.ex C.sc e) loc hp) (exec (.Assign [.Subscript o (.Constant (.str x) q px) p] e pos) C.env):=by
 obtain rfl:=Key.nJ hk;refine sn λ{Q E} qq=>?_;rw[gB,jl hc];refine wpAny_bind (wpAny_standAt ?_);show wpAny _ _ (do let v <- eval e C.env;assignStores C.env v (<- swappedStores [.Subscript o (.Constant (.str k.str) q px) p] e C.env) ((assignEach [.Subscript o (.Constant (.str k.str) q px) p] C.env).map (·.2))) _ _ _
 rw[show swappedStores [.Subscript o (.Constant (.str k.str) q px) p] e C.env=pure none from rfl];refine wpAny_bind (cU (D.ex O F.base ae e).jv qq λb v au aB ah ak k₁ aP qq=>wpAny_bind (wpAny_pure ?_))
 show wpAny _ _ ((do
  let ov <- holding [b] (eval o C.env)
  let iv <- holding [b,ov] (eval (.Constant (.str k.str) q px) C.env)
  standAt p
  holding [b,ov,iv] (setItem ov iv b)
  release [b,ov,iv] [])>>=λ_=>pure Flow.next) _ _ _
 refine wpAny_bind (wpAny_bind (wpAny_holding (cU (D.ex O F.base ak o).jv qq λa u bJ cm aO aV k₂ cX qq=>wpAny_bind (wpAny_holding (wpAny_Constant_str (wpAny_bind (wpAny_standAt (wpAny_bind (wpAny_holding ?_)))))))));refine bp (aV.toks (own:=C.own) (aO.toks+1)) λcj cL=>?_;have qq:=qq.up cL;have Xl:=aP.keep k₂.g (k₂.tup ak (λ_ h=>h));refine aj (qq.rB) λrv hp qq=>?_;refine aj (bE hp) λtR q0 hp=>?_;refine aj (bE hp) λes q3 hp=>?_;refine bp (wD hp) λhlen hp=>?_;obtain rfl:=oi hp;refine aj ((gw q0▸cX:Val C.no cm aO.heap (.ref tR) a).cQ) λad aC e1=>?_;subst aC;refine dQ (cj.dict e1 (kr q3)) λbI h1 h2 h3=>?_;refine wpAny_setItem_pairs (strKind_is pw C.w k.str _) h1 (λh' hD hS=>?_) (by rw[OS h2];exact of_decide_eq_true hlen)
 obtain⟨fH,iG⟩:=cj.put (own:=C.own) (o':=.dict (dput es k v)) (t:=aO.toks+1+1) (d:=aO.drawn) e1 hS (λtk=>by
  refine eH (xE hD ((h2.put h3 Xl).keep (bB.refl _) tk)) λds nn g1 g2=>?_;exact⟨ds,nn,g1,g2,uF es k v h3⟩) (Nat.le_add_right _ _)
 exact wpAny_release' (wpAny_pure (To.at (b:=(Fl.next,loc)) qq fH iG trivial))
end
end
section
def fP (h h':Heap):Prop:=∀b o,h.get? b=some o->∃o',h'.get? b=some o'∧o'.cls=o.cls∧o'.dict=o.dict∧((∀vs,o.data≠.fields vs)->o'.data=o.data)∧∀vs,o.data=.fields vs->∃H3,o'.data=.fields H3∧H3.size=vs.size
theorem fP.refl (h:Heap):fP h h:=λb o e=>⟨o,e,rfl,rfl,λ_=>rfl,λvs q=>⟨vs,q,rfl⟩⟩
theorem fP.trans (x:fP h dR)(y:fP dR ie):fP h ie:=λb o e=>(x b o e).elim λE5 p=>(y b E5 p.1).elim λaaq q=>⟨aaq,q.1,q.2.1.trans p.2.1,q.2.2.1.trans p.2.2.1,
 λhn=>(q.2.2.2.1 (p.2.2.2.1 hn▸hn)).trans (p.2.2.2.1 hn),λvs e=>(p.2.2.2.2 vs e).elim λyP e1=>(q.2.2.2.2 yP e1.1).elim λXm e2=>⟨Xm,e2.1,e2.2.trans e1.2⟩⟩
theorem fP.push (h:Heap)(o:Obj):fP h (h.push o):=λb o' e=>⟨o',Heap.get?_push_of_some _ e,rfl,rfl,λ_=>rfl,λvs q=>⟨vs,q,rfl⟩⟩
theorem fP.slots {S:List Addr}(x:Heap.SlotsOnly S h h'):fP h h':=λb o e=>by
 refine aQ (x.2.2 b o e) λsl e'=>?_;exact⟨_,e',rfl,rfl,λ_=>rfl,λvs q=>⟨vs,q,rfl⟩⟩
theorem xj {a:Addr}{o:Obj}{vs:Array Value}{k:Nat}{x:Value}(ho:h.get? a=some o)(hd:o.data=.fields vs) :
  (h.update a (Obj.mapFields (·.setIfInBounds k x))).get? a=some {o with data:=.fields (vs.setIfInBounds k x)}:=by
 have:=Heap.get?_update_self (Obj.mapFields (·.setIfInBounds k x)) ho (Obj.isFreed_of_fields (Obj.data_mapFields hd _))
 rw[this];obtain⟨c,d,dt,sl⟩:=o;simp only at hd;subst hd;rfl
theorem fP.set {a:Addr}{o:Obj}{vs:Array Value}(k:Nat)(x:Value)(ho:h.get? a=some o)(hd:o.data=.fields vs):fP h (h.update a (Obj.mapFields (·.setIfInBounds k x))):=λb ob e=>by
 by_cases q:b=a
 ·subst q;rw[ho]at e;obtain rfl:=oi e;refine⟨_,xj ho hd,rfl,rfl,λhn=>absurd hd (hn vs),λH3 q=>?_⟩;rw[hd]at q;injection q with q;subst q;exact⟨_,rfl,by simp⟩
 ·exact⟨ob,(Heap.get?_update_other _ _ (Ne.symm q)).trans e,rfl,rfl,λ_=>rfl,λvs q=>⟨vs,q,rfl⟩⟩
theorem fP.nf (x:fP h h'){hb:Heap}{l:List Env}(f:h.FunFrames hb l):h'.FunFrames hb l:=FunFrames.uy (λb o e hn=>(x b o e).elim λo' p=>⟨o',p.1,λvs=>(p.2.2.2.1 hn).symm▸hn vs⟩) f
theorem H4 {o o':Obj}(c:o'.cls=o.cls)(d:o'.dict=o.dict)(e:o'.data=o.data):o'={o with slots:=o'.slots}:=by
 obtain⟨c1,d1,dt1,sl1⟩:=o';obtain⟨c2,d2,dt2,sl2⟩:=o;cases c;cases d;cases e;rfl
theorem fP.kx (x:fP s.heap s'.heap)(own:List Addr)(i:Pl):fT own i s s':=λb o e hn _ _=>(x b o e).elim λo' p=>⟨o'.slots,p.1.trans (congrArg some (H4 p.2.1 p.2.2.1 (p.2.2.2.1 hn)))⟩
theorem Cd {x:Str}{o o':Obj}(e:o'.data=o.data)(c:o'.cls=o.cls)(d:o'.dict=o.dict):lookIn x o'=lookIn x o:=by
 obtain⟨c1,d1,dt1,sl1⟩:=o';obtain⟨c2,d2,dt2,sl2⟩:=o;simp only at e c d;subst e c d;rfl
theorem mu.Au {k:Int}{e:Value}(f:mu C k e s){h':Heap}(x:fP s.heap h')(hb:∀b o,C.hb.get? b=some o->h'.get? b=some o)(tr:∀ea,e=.ref ea->Trace C ea h'):mu C k e {s with heap:=h'}:=by
 refine⟨?_,hb,x.nf f.fR,f.gens,f.os⟩;obtain⟨ea,d,oe,od,t,e0,e1,e2,e3,e4,e5,e6,c6,d6,e7,e8,e9⟩:=f.obj;refine zR (x ea oe e1) λxO q1 q2 q3 _ _=>?_;refine zR (x d od e6) λTb r1 r2 r3 r4 _=>?_;exact⟨ea,d,xO,Tb,t,e0,q1,q2.trans e2,q3.trans e3,e4,tr ea e0,r1,r2.trans c6,r3.trans d6,λvs=>r4 e7▸e7 vs,(Cd (r4 e7) r2 r3).trans e8,e9⟩
inductive Nl (C:Cx)(ea:Addr)(h:Heap)(x:Value):Prop
 |mk (oe:Obj) (vs:Array Value) (T:Addr) (oT:Obj) (ts:Array Value) (h1:h.get? ea=some oe) (h2:oe.data=.fields vs) (h3:1<vs.size) (h4:vs[1]?=some (.ref T)) (h5:C.hb.get? T=none) (h6:T≠ea) (h7:h.get? T=some oT) (h8:oT.data=.fields ts) (h9:3<ts.size) (ux:ts[3]?=some x)
inductive Av (C:Cx)(ea:Addr)(h:Heap):Prop
 |mk (F:Addr) (hF:C.env.frame=some F) (x:Nl C ea h (rawInt F))
theorem Av.trace {ea:Addr}(x:Av C ea h):Trace C ea h:=by
 obtain⟨F,ux,oe,vs,T,oT,ts,h1,h2,h3,h4,h5,h6,h7,h8,h9,Sf⟩:=x;exact⟨oe,vs,h1,h2,h3,.inr ⟨T,oT,ts,_,h4,h5,h6,h7,h8,h9,Sf,.inr ⟨F,ux,rfl⟩⟩⟩
theorem O4 {ea F:Addr}{E5:Obj}{yP ts:Array Value}(tb:Obj)(htb:tb.isFreed=false)(e4:C.hb.get? ea=none)(hF:C.env.frame=some F)(a1:dR.get? ea=some E5)(a2:E5.data=.fields yP)(a3:1<yP.size)(htd:tb.data=.fields ts)(ht3:3<ts.size)(htF:ts[3]?=some (rawInt F))
  (kb:∀b o,C.hb.get? b=some o->dR.get? b=some o):∃h2,(dR.push tb).update ea (Obj.mapFields (·.setIfInBounds 1 (Value.ref dR.objs.size)))=h2∧fP dR h2∧Av C ea h2∧∀b o,C.hb.get? b=some o->h2.get? b=some o:=by
 have b1:=Heap.get?_push_of_some (h:=dR) tb a1
 refine⟨_,rfl,(fP.push _ _).trans (fP.set 1 _ b1 a2),⟨F,hF,_,_,dR.objs.size,tb,ts,xj b1 a2,rfl,(Array.size_setIfInBounds ..).symm▸a3,Array.getElem?_setIfInBounds_self_of_lt a3,?_,Nat.ne_of_gt (Heap.lt_size a1),
  (Heap.get?_update_other _ _ (Ne.symm (Nat.ne_of_gt (Heap.lt_size a1)))).trans (Heap.get?_push_size dR htb),htd,ht3,htF⟩,λb o qz=>(Heap.get?_update_other _ _ (Ne.symm λq=>bx (e4.symm.trans (q▸qz)))).trans (Heap.get?_push_of_some _ (kb b o qz))⟩
 cases z:C.hb.get? dR.objs.size with
 |none=>rfl
 |some o=>exact absurd (Heap.lt_size (kb _ _ z)) (Nat.lt_irrefl _)
section
variable {n:Nat}(O:C.Ok n)
include O
theorem tZ {outer:List Env}(eS:C.d9=C.env::outer){k:Int}{e:Value}(f:mu C k e s){Q:Unit->Shared->Prop}{E:Value->Shared->Prop}
  (hQ:∀h',mu C k e {s with heap:=h'}->fP s.heap h'->(∀ea,e=.ref ea->Av C ea h')->Q () {s with heap:=h'}):wpAny C.M C.A (noteFrame e C.env) Q E s:=by
 refine bC λnG=>?_;refine m7 (O.frame) λF outer' aao hF _ _=>?_;obtain⟨ea,d,oe,od,t,rfl,e1,e2,e3,e4,e5,_⟩:=id f.obj;obtain⟨xO,vs,g1,g2,g3,g4⟩:=e5;obtain rfl:=oi (e1.symm.trans g1);have hA:C.A.frames=some (C.env::outer):=O.frames.trans (congrArg some eS);have Tc:s.heap.FunFrames C.hb (C.env::outer):=eS▸f.fR
 have entry:∀(h₀:Heap) (head:Value) (hadNext:Bool),fP s.heap h₀->(∃yQ E6,h₀.get? ea=some yQ∧yQ.data=.fields E6∧1<E6.size)->(∀b o,C.hb.get? b=some o->h₀.get? b=some o) ->
   wpAny C.M C.A (do let a <- frameOf C.env;let pl <- entryPlaceOf F hadNext;let b <- EntryCells.newEntry head a .none (rawInt F) .none pl;setField (.ref ea) 1 b) Q E {s with heap:=h₀}:=by
  intro h₀ head hadNext ev x kb;refine cg x λyQ E6 a1 a2 a3=>?_;refine wpAny_bind (wpAny_frameOf_fun hA (ev.nf Tc) hF λdR E7=>wpAny_bind (wpAny_entryPlaceOf λpl hpl=>?_));unfold EntryCells.newEntry newFields;refine wpAny_bind (wpAny_newObj_type ?_ (hpl.sizeOk5 _ _ _ _ _));refine aQ (E7.2.2 ea yQ a1) λsl H5=>?_
  obtain⟨h2,eh,ev2,held,kb2⟩:=O4 (C:=C) {cls:=.type "traceback",dict:=none,data:=.fields ([head,.ref F,.none,rawInt F,.none]++(if pl.isEmpty then List.replicate 6 Value.none else pl)).toArray} rfl e4 hF H5 a2 a3 rfl (by simp) rfl λb o qz =>
   (E7.2.1 b (λhm=>bx (((ev.nf Tc).mem hm).1.symm.trans qz))).trans (kb b o qz)
  refine wpAny_setField (Heap.get?_push_of_some _ H5) a2 a3 ?_;have YL:=(ev.trans (fP.slots E7)).trans ev2;rw[eh];exact hQ h2 (f.Au YL kb2 λNm q=>by cases q;exact held.trace) YL λNm q=>by cases q;exact held
 refine nG ?_;unfold noteFrame;simp only[hF];rcases g4 with g4|⟨T,oT,ts,fl,g4,g5,g6,g7,g8,g9,YM,g11⟩
 ·refine wpAny_bind (wpAny_field e1 g2 g4 ?_);rw[if_neg (by decide)];exact entry s.heap .none _ (fP.refl _) ⟨oe,vs,e1,g2,g3⟩ f.base
 ·refine wpAny_bind (wpAny_field e1 g2 g4 ?_);rw[if_pos (show(Value.ref T != Value.none)=true from rfl)];refine wpAny_bind (wpAny_field g7 g8 YM ?_);rcases g11 with rfl|⟨F',hF',rfl⟩
  ·rw[if_neg (show ¬((Value.none==rawInt F)=true)from Bool.false_ne_true)];refine wpAny_bind (wpAny_setField g7 g8 g9 ?_);exact entry _ (.ref T) _ (fP.set 3 Value.none g7 g8) ⟨oe,vs,(Heap.get?_update_other _ _ g6).trans e1,g2,g3⟩ λb o qz=>(Heap.get?_update_other _ _ (Ne.symm λq=>bx (g5.symm.trans (q▸qz)))).trans (f.base b o qz)
  ·obtain rfl:=oi (hF.symm.trans hF');rw[if_pos (beq_self_eq_true _)];exact wpAny_pure (hQ s.heap f (fP.refl _) λNm q=>by injection q with q;subst q;exact⟨F,hF,oe,vs,T,oT,ts,e1,g2,g3,g4,g5,g6,g7,g8,g9,YM⟩)
theorem oK {k:Int}{e:Value}(f:mu C k e s)(hh:∀ea,e=.ref ea->Av C ea s.heap)(fr:Option Addr)(eS:fr=none∨fr=C.env.frame){Q:Unit->Shared->Prop}{E:Value->Shared->Prop}
  (hQ:∀h',mu C k e {s with heap:=h'}->fP s.heap h'->(∀ea,e=.ref ea->Nl C ea h' (fr.elim .none λf=>rawInt f))->Q () {s with heap:=h'}) :
  wpAny C.M C.A (setFlight e fr) Q E s:=by
 refine bC λnG=>?_;obtain⟨ea,d,oe,od,t,rfl,e1,_⟩:=id f.obj;obtain⟨F,ux,xO,vs,T,oT,ts,h1,h2,h3,h4,h5,h6,h7,h8,h9,Sf⟩:=hh ea rfl;obtain rfl:=oi (e1.symm.trans h1);have ev:=fP.set 3 (fr.elim Value.none λf=>rawInt f) h7 h8
 have z:∃h',s.heap.update T (Obj.mapFields (·.setIfInBounds 3 (fr.elim Value.none λf=>rawInt f)))=h'∧fP s.heap h'∧h'.get? ea=some oe∧h'.get? T=some {oT with data:=.fields (ts.setIfInBounds 3 (fr.elim Value.none λf=>rawInt f))}∧∀b o,C.hb.get? b=some o->h'.get? b=some o :=
  ⟨_,rfl,ev,(Heap.get?_update_other _ _ h6).trans e1,xj h7 h8,λb o qz=>(Heap.get?_update_other _ _ (Ne.symm λq=>bx (h5.symm.trans (q▸qz)))).trans (f.base b o qz)⟩
 refine zR z λh' eh ev z1 z2 z3=>?_;refine nG ?_;unfold setFlight;refine wpAny_bind (wpAny_field e1 h2 h4 ?_);rw[if_pos (show(Value.ref T != Value.none)=true from rfl)];refine wpAny_setField h7 h8 h9 ?_;rw[eh];have s3:3<(ts.setIfInBounds 3 (fr.elim Value.none λf=>rawInt f)).size:=(Array.size_setIfInBounds ..).symm▸h9;have s4:=Array.getElem?_setIfInBounds_self_of_lt (a:=(fr.elim Value.none λf=>rawInt f)) h9;refine hQ h' (f.Au ev z3 λNm q=>?_) ev λNm q=>by injection q with q;subst q;exact⟨oe,vs,T,_,_,z1,h2,h3,h4,h5,h6,z2,rfl,s3,s4⟩
 injection q with q;subst q;exact⟨oe,vs,z1,h2,h3,.inr ⟨T,_,_,_,h4,h5,h6,z2,rfl,s3,s4,eS.elim (λq=>.inl (q▸rfl)) λq=>.inr ⟨F,ux,by rw[q,ux];rfl⟩⟩⟩
end
end
section
theorem fT.Au (k:fT own i s s'){h':Heap}(x:fP s'.heap h'):fT own i s {s' with heap:=h'}:=λb o e hn h1 h2 =>
 (k b o e hn h1 h2).elim λsl e'=>(x b _ e').elim λo' q=>⟨o'.slots,q.1.trans (congrArg some (H4 (o:=o) q.2.1 q.2.2.1 (q.2.2.2.1 hn)))⟩
theorem Td {t:Sem α}{T:fK α β}{T':fK γ δ}{lc:β->Loc}{ql:δ->Loc}{r:R β}{g:β->HP->R δ}{Q:α->Shared->Prop}{Q':γ->Shared->Prop}{E E':Value->Shared->Prop}(h:eF C own i s lc T r t)(q:To C own i s ql T' (az r g) Q' E)
  (k:∀a b au aB ah,Rep C aB (lc b) au ah->aJ own i s aB ah->T aB ah.heap b a->To C own aB ah ql T' (g b au) Q' E->Q a ah) (hE:∀e s',PX C own i s (az r g) e s'->E' e s'):wpAny C.M C.A t Q E' s :=
 wpAny_mono (h (kY q.nb)) (λa ah x=>by
  refine fk x λb au aB eQ h1 h2 h3=>?_;subst eQ;exact k a b au aB ah h1 h2 h3 (To.up (r:=g b au) q h2)) λ_ _ x=>hE _ _ x.az
section
variable {n N:Nat}{d:cy}{c:Ca}(O:C.Ok n)(F:bU C.w.params)(D:c5 n d)
include O
theorem t4 {outer:List Env}(eS:C.d9=C.env::outer){r:R β}{e:Value}{E:Value->Shared->Prop}(x:PX C own i s r e s')(hE:∀e s',PX C own i s r e s'->E e s'):notedBy C.M C.A C.env (λe xP=>cameBackBy C.M C.A C.env E e xP) e s':=by
 refine dQ x λk er f kx=>?_;show wpAny _ _ (noteFrame e C.env) _ _ s';refine tZ O eS f λh' f' ev held=>?_
 show wpAny _ _ (do
  if(<- field e 1)==.none then unsupported "frame.own-activation:exception-without-traceback"
  setFlight e C.env.frame) _ _ _
 obtain⟨ea,d,oe,od,t,rfl,e1,_⟩:=id f'.obj;obtain⟨F,hF,xO,vs,T,oT,ts,h1,h2,h3,h4,_⟩:=held ea rfl;refine wpAny_bind (wpAny_field (s:={s' with heap:=h'}) h1 h2 h4 ?_);rw[if_neg (show ¬((Value.ref T==Value.none)=true)from Bool.false_ne_true)];exact oK O f' held C.env.frame (.inr rfl) λdH Aw Te _=>hE _ _ ⟨k,er,Aw,(kx.Au ev).Au Te⟩
include F D
theorem La {outer:List Env}(eS:C.d9=C.env::outer)(ae:Rep C i loc hp s)(t:Expr)(b:List Stmt)(pos:Pos):SS C i s (fC N (d.te C.sc t) (b.map (d.st C.sc)) loc hp) (exec (.While t b [] pos) C.env):=by
 refine sn λ{Q E} q=>wpAny_While (codeAny_whileLoop (λm s'=>∃loc' hp' i',Rep C i' loc' hp' s'∧To C C.own i' s' (·.2) (tO C.no) (dI (d.te C.sc t) (aF (b.map (d.st C.sc))) m loc' hp') Q E) (λm s' hI=>?_) N ⟨loc,hp,i,ae,q⟩)
 refine lr hI λloc' hp' i' R' q=>?_;cases m with
 |zero=>exact q.jO
 |succ m =>
  refine Td (D.te O F.base R' t).jv q (λx y au aB ah ak k₁ aP q=>?_) λe xP z=>t4 O eS z q.e;subst aP;cases x with
  |false=>exact wpAny_execs_nil (To.fin (b:=(Fl.next,loc')) q ak trivial)
  |true =>
   refine Td (nM O F D ⟨_,eS⟩ b ak) q (λf p bJ cm aO aV k₂ cX q=>?_) λe xP z=>t4 O eS z q.e;obtain⟨fl,c9⟩:=p;cases fl with
   |next =>
    cases f with
    |next=>exact⟨m,Nat.lt_succ_self m,c9,bJ,cm,aV,q⟩
    |_=>exact cX.elim
   |ret v =>
    cases f with
    |ret a=>exact q.fin aV cX
    |_=>exact cX.elim
end
end
noncomputable abbrev Cx.cY (C:Cx) (l:List Addr):Cx:={C with no:=l}
theorem Val.re {no':List Addr}(ht:∀{a:Addr} {its:Array Value},a∉no->mj h a its->a∉no'){v:V}{a:Value}(x:Val no i h v a):Val no' i h v a :=
 Val.rec (motive_1:=λv a _=>Val no' i h v a) (motive_2:=λvs as _=>Vals no' i h vs as) .none .bool .int .str (λhn x _ y=>.tup (ht hn x) x y) .ref .fix .nil (λ_ _ x y=>.cons x y) x
theorem Vals.map {no':List Addr}{i':Pl}{h':Heap}(f:∀v a,Val no i h v a->Val no' i' h' v a){vs:List V}{as:List Value}(x:Vals no i h vs as):Vals no' i' h' vs as:=x.ind .nil λx _ y=>.cons (f _ _ x) y
theorem Val.sub {no':List Addr}(hs:∀b∈no',b∈no){v:V}{a:Value}(x:Val no i h v a):Val no' i h v a:=x.re λhn _ q=>hn (hs _ q)
theorem Vals.sub {no':List Addr}(hs:∀b∈no',b∈no){vs:List V}{as:List Value}(x:Vals no i h vs as):Vals no' i h vs as:=x.map λ_ _ x=>x.sub hs
theorem Val.fresh {wr:List Addr}(hs:∀b∈wr,h.get? b=Option.none){v:V}{a:Value}(x:Val no i h v a):Val (wr++no) i h v a :=
 x.re λhn x q=>(List.mem_append.mp q).elim (λq=>x.elim λn e=>bx ((hs _ q).symm.trans e)) hn
theorem Vals.fresh {wr:List Addr}(hs:∀b∈wr,h.get? b=none){vs:List V}{as:List Value}(x:Vals no i h vs as):Vals (wr++no) i h vs as:=x.map λ_ _ x=>x.fresh hs
theorem fc.map {P:Params}{no':List Addr}{i':Pl}{h':Heap}(f:∀v a,Val no i h v a->Val no' i' h' v a){es:List (Key×V)}{ds:List DictEntry}(x:fc no i P h es ds):fc no' i' P h' es ds:=by
 induction x with
 |nil=>exact .nil
 |cons x _ ih=>exact .cons (f _ _ x) ih
theorem fM.map {P:Params}{a:Addr}{o:O}{no':List Addr}{h':Heap}(x:fM no i P h a o)(f:∀v a,Val no i h v a->Val no' i h' v a)(e:h'.get? a=h.get? a):fM no' i P h' a o:=by
 cases o with
 |list xs=>obtain⟨its,n,h1,h2⟩:=x;exact⟨its,n,e.trans h1,h2.map f⟩
 |dict es=>obtain⟨ds,n,h1,h2,h3⟩:=x;exact⟨ds,n,e.trans h1,h2.map f,h3⟩
 |inst C d=>obtain⟨da,h1,h2⟩:=x;exact⟨da,h1,e.trans h2⟩
structure Apart (C:Cx)(wr:List Addr):Prop where
 own:∀b∈C.own,b∉wr
 d9:∀e∈C.d9,∀L,e.frame=some L->L∉wr
 cells:∀x∈C.names,∀k,C.sc.lookup x=some k->k≠.local->∀c,C.env.cells.lookup x=some c->c∉wr
theorem dO.cell {m:Str->Option Value}{x:Str}{k:NameKind}{v:Option V}{c:Addr}(mx:k≠.local)(hc:C.env.cells.lookup x=some c)(e3:dO C i h m x k v):∃a,h.IsCell c a:=by
 have z:(∃c a,C.env.cells.lookup x=some c∧h.IsCell c a∧∀u,v=some u->∃b,a=some b∧Val C.no i h u b)->∃a,h.IsCell c a:=λy=>by
  refine cg y λc' a h1 h2 _=>?_;obtain rfl:=oi (hc.symm.trans h1);exact⟨a,h2⟩
 cases k with
 | «local»=>exact absurd rfl mx
 |_=>exact z e3
theorem dO.map {m:Str->Option Value}{x:Str}{k:NameKind}{v:Option V}{no':List Addr}(vk:∀v a,Val C.no i h v a->Val no' i' h' v a)(kc:k≠.local->∀c a,C.env.cells.lookup x=some c->h.IsCell c a->h'.IsCell c a)(e3:dO C i h m x k v):dO (C.cY no') i' h' m x k v:=by
 have z:k≠.local->(∃c a,C.env.cells.lookup x=some c∧h.IsCell c a∧∀u,v=some u->∃b,a=some b∧Val C.no i h u b)->∃c a,C.env.cells.lookup x=some c∧h'.IsCell c a∧∀u,v=some u->∃b,a=some b∧Val no' i' h' u b:=λhk y =>
  y.imp λc y=>y.imp λa y=>⟨y.1,kc hk c a y.1 y.2.1,λu hu=>(y.2.2 u hu).imp λb r=>⟨r.1,vk _ _ r.2⟩⟩
 cases k with
 | «local»=>exact λu hu=>(e3 u hu).imp λa q=>⟨q.1,vk _ _ q.2⟩
 |_=>exact z (by decide) e3
theorem Rep.cell (R:Rep C i loc hp s){x:Str}(hx:x∈C.names){k:NameKind}(hk:C.sc.lookup x=some k)(mx:k≠.local){c:Addr}(hc:C.env.cells.lookup x=some c):∃a,s.heap.IsCell c a:=by
 refine aQ (List.mem_iff_getElem?.mp hx) λn hn=>?_;have hl:n<loc.length:=R.ll▸(List.getElem?_eq_some_iff.mp hn).1;refine aj (R.ns) λm _ kz=>?_;refine cg (kz n loc[n] (List.getElem?_eq_getElem hl)) λy ky e1 e2 e3=>?_;obtain rfl:=oi (hn.symm.trans e1);obtain rfl:=oi (hk.symm.trans e2);exact e3.cell mx hc
theorem Rep.apart (R:Rep C i loc hp s){wr:List Addr}(hf:∀b∈wr,s.heap.get? b=none):Apart C wr:=by
 refine⟨λb hb hm=>(R.own b hb).2.elim λo e=>bx ((hf b hm).symm.trans e.1),λe he L hL hm=>?_,λx hx k hk mx c hc hm=>(R.cell hx hk mx hc).elim λa y=>y.elim λo e=>bx ((hf c hm).symm.trans e.1)⟩;refine eH (funFrames_in R.fR e he) λL' o h1 h2=>?_;obtain rfl:=oi (hL.symm.trans h1);exact bx ((hf L hm).symm.trans h2)
theorem Apart.cY (x:Apart C own)(l:List Addr):Apart (C.cY l) own:=⟨x.own,x.d9,x.cells⟩
theorem Rep.E8 {k:Nat}(O:C.Ok k)(R:Rep C i loc hp s){no' wr:List Addr}{h':Heap}{t:Nat}{d:Drawn}(ht:s.toks≤t)(vk:∀v a,Val C.no i s.heap v a->Val no' i h' v a)(ko:∀b o,b∉wr->s.heap.get? b=some o->h'.get? b=some o)
  (ap:Apart C wr) (hi:∀b∈wr,b∉i∧C.hb.get? b=none) (cT:∀b∈no',b∉i∧∃o,h'.get? b=some o):Rep (C.cY no') i loc hp {heap:=h',gens:=s.gens,drawn:=d,toks:=t,os:=s.os}:=by
 have kw:∀b∈i,∀o,s.heap.get? b=some o->h'.get? b=some o:=λb hb o e=>ko b o (λhm=>(hi b hm).1 hb) e
 refine⟨R.ns.imp λm x=>⟨?_,λn v e=>(x.2 n v e).imp λy' z=>z.imp λk w=>⟨w.1,w.2.1,w.2.2.map vk λhk c a hc y=>y.elim λo w'=>⟨o,ko c o (ap.cells y' (List.mem_of_getElem? w.1) k w.2.1 hk c hc) w'.1,w'.2⟩⟩⟩,R.len,λn o e=>?_,R.nd,R.new,λb hb=>⟨(R.own b hb).1,(R.own b hb).2.imp λo x=>⟨ko b o (ap.own b hb) x.1,x.2⟩⟩,
  λb o e=>ko b o (λhm=>bx ((hi b hm).2.symm.trans e)) (R.base b o e),?_,R.gens,R.os,Nat.lt_of_lt_of_le R.pos ht,R.ll,cT⟩
 ·refine lr (x.1) λo es ep e r=>?_;exact⟨o,es,ep,ko _ o (ap.own _ (.head _)) e,r⟩
 ·refine aj (R.objs n o e) λa e1 q=>?_;refine aj (q.some) λob e2 _=>?_;exact⟨a,e1,q.map vk ((kw a (List.mem_of_getElem? e1) ob e2).trans e2.symm)⟩
 ·have go:∀l:List Env,(∀e∈l,∀L,e.frame=some L->L∉wr)->s.heap.FunFrames C.hb l->h'.FunFrames C.hb l:=by
   intro l
   induction l with
   |nil=>intro _ _;trivial
   |cons e r ih=>exact λhl z=>⟨z.1,z.2.1.imp λL w=>w.imp λo q=>⟨q.1,q.2.1,ko L o (hl e (.head _) L q.1) q.2.2.1,q.2.2.2⟩,ih (λe he=>hl e (.tail _ he)) z.2.2⟩
  exact go _ ap.d9 R.fR
theorem Rep.enter {k:Nat}(O:C.Ok k)(R:Rep C i loc hp s){wr:List Addr}{h':Heap}{t:Nat}{d:Drawn}(ht:s.toks≤t)(kp:∀b o,s.heap.get? b=some o->h'.get? b=some o)(hf:∀b∈wr,s.heap.get? b=none)(hw:∀b∈wr,∃o,h'.get? b=some o) :
  Rep (C.cY (wr++C.no)) i loc hp {heap:=h',gens:=s.gens,drawn:=d,toks:=t,os:=s.os}:=by
 refine R.E8 O (wr:=[]) ht (λv a x=>(x.fresh hf).keep (bB.refl i) (bq.of kp)) (λb o _ e=>kp b o e) ⟨by simp,by simp,by simp⟩ (by simp) λb hb=>?_;rcases List.mem_append.mp hb with q|q
 ·refine⟨λhm=>?_,hw b q⟩;refine cg (R.gy hm) λ_ _ _ _ x=>?_;refine aj (x.some) λo e _=>?_;rw[hf b q]at e;exact(Option.some_ne_none _ e.symm).elim
 ·obtain⟨h1,o,e⟩:=R.ej b q;exact⟨h1,o,kp b o e⟩
theorem Cx.Ok.cY {k:Nat}(O:C.Ok k){l:List Addr}(h:∀b∈l,C.hb.get? b=none):(C.cY l).Ok k :=
 ⟨O.frames,O.depth,O.units,O.handled,O.dJ,O.top,O.kind,O.globals,O.builtins,λx kd e=>by
  refine bp (O.names x kd e) λh1 h2=>?_;refine⟨?_,h2⟩;cases kd<;>exact h1,O.nd,O.cells,O.nF,O.above,h,O.frame,O.func⟩
theorem Rep.leave {k:Nat}(O:C.Ok k){l:List Addr}(hs:∀b∈C.no,b∈l)(hl:∀b∈l,C.hb.get? b=none){wr:List Addr}(uO:∀b∈wr,b∈l)(ap:Apart C wr)(R:Rep (C.cY l) i loc hp s)(hd:∀b∈C.no,b∉wr){h':Heap}{t:Nat}{d:Drawn}(ht:s.toks≤t)
  (ko:∀b o,b∉wr->s.heap.get? b=some o->h'.get? b=some o):Rep C i loc hp {heap:=h',gens:=s.gens,drawn:=d,toks:=t,os:=s.os}:=by
 have:=Rep.E8 (C:=C.cY l) (no':=C.no) (wr:=wr) (d:=d) (O.cY hl) R ht (λv a x=>(x.keep (bB.refl i) (λb its hb ⟨n,e⟩=>⟨n,ko b _ (λq=>hb (uO b q)) e⟩)).sub hs) ko (ap.cY l) (λb hb=>⟨(R.ej b (uO b hb)).1,hl b (uO b hb)⟩) λb hb=>by
  obtain⟨h1,o,e⟩:=R.ej b (hs b hb);exact⟨h1,o,ko b o (hd b hb) e⟩
 exact this
theorem Rep.turn {k:Nat}(O:C.Ok k){wr:List Addr}(uO:∀b∈wr,b∈C.no)(ap:Apart C wr)(R:Rep C i loc hp s){h':Heap}{t:Nat}{d:Drawn}(ht:s.toks≤t)
  (ko:∀b o,b∉wr->s.heap.get? b=some o->h'.get? b=some o) (hw:∀b∈wr,∃o,h'.get? b=some o):Rep C i loc hp {heap:=h',gens:=s.gens,drawn:=d,toks:=t,os:=s.os}:=by
 have:=Rep.E8 (C:=C) (no':=C.no) (wr:=wr) (d:=d) O R ht (λv a x=>x.keep (bB.refl i) (λb its hb ⟨n,e⟩=>⟨n,ko b _ (λq=>hb (uO b q)) e⟩)) ko ap (λb hb=>⟨(R.ej b (uO b hb)).1,O.noNew b (uO b hb)⟩) λb hb=>by
  obtain⟨h1,o,e⟩:=R.ej b hb;refine⟨h1,?_⟩;by_cases q:b∈wr
  ·exact hw b q
  ·exact⟨o,ko b o q e⟩
 exact this
theorem aJ.turn (k:aJ own i s i' s'){wr:List Addr}(hf:∀b∈wr,s.heap.get? b=none){h':Heap}{t:Nat}{d:Drawn}(ko:∀b o,b∉wr->s'.heap.get? b=some o->h'.get? b=some o){aO:Shared}(e:aO.heap=h'):aJ own i s i' aO:=by
 have nw:∀b o,s.heap.get? b=some o->b∉wr:=λb o e hm=>bx ((hf b hm).symm.trans e);subst e;exact⟨λb o eb h1 h2=>ko b o (nw b o eb) (k.keep b o eb h1 h2),λb o eb=>(k.live b o eb).imp λo' e'=>ko b o' (nw b o eb) e',k.grow⟩
def jQ (tg:Expr):Prop:=(∃x p,tg=.Name x p)∨∃es k p,tg=.Tuple es k p
def oM (tg:Expr):Prop:=∃es k p,tg=.Tuple es k p
def Off (wr:List Addr)(h h':Heap):Prop:=∀b o,b∉wr->h.get? b=some o->h'.get? b=some o
def t5 (wr:List Addr)(h:Heap):Prop:=∀b∈wr,∃o,h.get? b=some o
structure Iter (C:Cx)(wr:List Addr)(I:Addr)(P:Expr->Prop)(at_:List Addr->It->Pl->Heap->Prop):Prop where
 sub:∀b∈wr,b∈C.no
 keep:∀{it:It} {i i':Pl} {h h':Heap},at_ C.no it i h->bB i i'->bq C.no h h'->(∀b∈wr,∀o,h.get? b=some o->h'.get? b=some o)->at_ C.no it i' h'
 fresh:∀{no x:List Addr} {it:It} {i:Pl} {h:Heap},at_ no it i h->(∀b∈x,h.get? b=none)->at_ (x++no) it i h
 self:∀{it:It} {i:Pl} {s:Shared},at_ C.no it i s.heap->∀{Q:Value->Shared->Prop} {E:Value->Shared->Prop},Q (.ref I) s->wpAny C.M C.A (pyIter (.ref I)) Q E s
 next:∀{it:It} {i:Pl} {loc:Loc} {hp:HP} {s:Shared} {r:Option (V×It)},Rep C i loc hp s->at_ C.no it i s.heap->it.next hp=some r->∀{Q:Option Value->Shared->Prop} {E:Value->Shared->Prop},
  (r=none->∀h' t,Off wr s.heap h'->s.toks≤t->Q none {s with heap:=h',toks:=t}) ->
  (∀v gb,r=some (v,gb)->∀a h' t,Off wr s.heap h'->t5 wr h'->s.toks≤t->Val C.no i h' v a ->
   (∀{tg:Expr} {Q:Unit->Shared->Prop} {E:Value->Shared->Prop},P tg->(∀dH,Off wr h' dH->t5 wr dH->at_ C.no gb i dH->Q () {s with heap:=dH,toks:=t})->wpAny C.M C.A (letOwnedTupleGo tg (.ref I) a) Q E {s with heap:=h',toks:=t})->Q (some a) {s with heap:=h',toks:=t}) ->
  wpAny C.M C.A (pyNext (.ref I)) Q E s
def Hb (n:Nat)(wr:List Addr)(I:Addr)(P:Expr->Prop)(at_:List Addr->It->Pl->Heap->Prop):Prop:=∀{C:Cx},C.Ok n->(∀b∈wr,b∈C.no)->Iter C wr I P at_
theorem oN {M:Model}{A:Around}{Q:Unit->Shared->Prop}{E:Value->Shared->Prop}{I:Addr}{o:Obj}{cls:String}{vs:Array Value}{tg:Expr}{a:Value}(ho:s.heap.get? I=some o)(hc:o.cls=.type cls)(hd:o.data=.fields vs)
  (hn:(["enumerate","zip","dict_itemiterator","dict_reverseitemiterator","odict_iterator","itertools.zip_longest","itertools.pairwise"].contains cls)=false) (hP:jQ tg) (hQ:Q () s):wpAny M A (letOwnedTupleGo tg (.ref I) a) Q E s:=by
 rcases hP with⟨x,p,rfl⟩|⟨es,k,p,rfl⟩
 ·exact wpAny_pure hQ
 ·unfold letOwnedTupleGo;cases a with
  |ref t =>
   refine wpAny_bind (wpAny_load ho ?_);rw[hc,hd];show wpAny _ A (if(["enumerate","zip","dict_itemiterator","dict_reverseitemiterator","odict_iterator","itertools.zip_longest","itertools.pairwise"].contains cls&&vs[0]?==some (rawInt t))=true then _ else _) Q E s
   rw[hn,Bool.false_and,if_neg (by simp)];exact wpAny_pure hQ
  |_=>exact wpAny_pure hQ
section
theorem Off.tk {no wr:List Addr}(k:Off wr h h')(hs:∀b∈wr,b∈no):bq no h h':=λb its hb ⟨n,e⟩=>⟨n,k b _ (λq=>hb (hs b q)) e⟩
theorem Off.of {a:Addr}{wr:List Addr}(k:Heap.SameBut a h h')(ha:a∈wr):Off wr h h':=λb o hb e=>(k.2 b (λq=>hb (q▸ha))).trans e
theorem Off.ext {a:Addr}{wr:List Addr}(k:Heap.ExtBut a h h')(ha:a∈wr):Off wr h h':=λb o hb e=>k b o (λq=>hb (q▸ha)) e
theorem Off.refl (wr:List Addr)(h:Heap):Off wr h h:=λ_ _ _ e=>e
section
variable {n:Nat}(O:C.Ok n)
include O
omit O in
theorem jw {a:Addr}{o:Obj}(e:h.get? a=some o):t5 [a] h:=λb hb=>⟨o,List.mem_singleton.mp hb▸e⟩
omit O in
theorem jR {a:Addr}{l:List Addr}{o:Obj}(e:h.get? a=some o)(x:t5 l h):t5 (a::l) h:=λb hb=>(List.mem_cons.mp hb).elim (λq=>⟨o,q▸e⟩) (x b)
omit O in
theorem wG {a:Addr}{l:List Addr}(e:a∈l):∀b∈[a],b∈l:=λb hb=>List.mem_singleton.mp hb▸e
omit O in
theorem Ax {α:Type}{l r:List α}{k:Nat}{v:α}(e:l.drop k=v::r):l[k]?=some v∧l.drop (k+1)=r:=by
 have h:=List.getElem?_drop (xs:=l) (i:=k) (j:=0);rw[e]at h;exact⟨h.symm,by rw[<- List.drop_drop,e];rfl⟩
inductive Tf (I:Addr)(no:List Addr)(it:It)(i:Pl)(h:Heap):Prop
 |mk (n k:Nat) (a:Addr) (e:it=.lst n k) (e1:i[n]?=some a) (e2:h.IsListIter I a k)
theorem Iter.list {I:Addr}(hI:I∈C.no):Iter C [I] I jQ (Tf I) where
 sub:=wG hI
 keep:=by
  rintro _ _ _ _ _ ⟨n,k,a,e,e1,e2⟩ g tk kw;exact⟨n,k,a,e,g.get e1,e2.at λo e=>kw I (.head _) o e⟩
 fresh:=λx _=>x.casesOn λn k a e e1 e2=>⟨n,k,a,e,e1,e2⟩
 self:=by
  rintro _ _ _ ⟨n,k,a,e,e1,e2⟩ _ _ hQ;exact wpAny_pyIter_listiter e2 hQ
 next:=by
  intro it i loc hp s r R zz hr Q E h0 h1;obtain⟨n,k,a,rfl,e1,e2⟩:=zz;refine aj (bE hr) λl q hr=>?_;refine eH (R.ref e1 (dE q)) λits nn hl hv=>?_;have hL:s.heap.IsList a its:=⟨_,hl,rfl,nn,rfl⟩;cases nP:l[k]? with
  |some v =>
   rw[nP]at hr;obtain rfl:=oi hr;refine aj (hv.get nP) λx hx Ay=>?_;refine wpAny_pyNext_list_item e2 hL (x:=x) (by rw[<- Array.getElem?_toList];exact hx) λh' hit hs=>?_;have off:=Off.of (wr:=[I]) hs (.head _);refine dQ (id hit) λoI Az Th Ti=>?_
   exact h1 v _ rfl x h' s.toks off (jw Az) (Nat.le_refl _) (Ay.keep (bB.refl i) (off.tk (wG hI))) λhP hQ =>
    oN (s:={s with heap:=h',toks:=s.toks}) Az Th Ti (by decide) hP (hQ h' (Off.refl _ _) (jw Az) ⟨n,k+1,a,rfl,e1,hit⟩)
  |none =>
   rw[nP]at hr;obtain rfl:=oi hr;refine wpAny_pyNext_list_end O.handled e2 hL ?_ λh' he=>h0 rfl h' s.toks (Off.ext he (.head _)) (Nat.le_refl _);rw[Array.getElem?_eq_none_iff,<- Array.length_toList,<- hv.length];exact List.getElem?_eq_none_iff.mp nP
inductive Xn (I:Addr)(no:List Addr)(it:It)(i:Pl)(h:Heap):Prop
 |mk (k:Nat) (t:Addr) (its:Array Value) (vs:List V) (e:it=.vals (vs.drop k)) (e1:t∉no) (e2:mj h t its) (e3:Vals no i h vs its.toList) (e4:h.IsTupleIter I t k)
theorem Iter.tup {I:Addr}(hI:I∈C.no):Iter C [I] I jQ (Xn I) where
 sub:=wG hI
 keep:=by
  rintro _ _ _ _ _ ⟨k,t,its,vs,e,e1,e2,e3,⟨o,e4,r⟩⟩ g tk kw;exact⟨k,t,its,vs,e,e1,tk _ _ e1 e2,e3.keep g tk,⟨o,kw I (.head _) o e4,r⟩⟩
 fresh:=λx hf=>x.casesOn λk t its vs e e1 e2 e3 e4=>⟨k,t,its,vs,e,λq=>(List.mem_append.mp q).elim (λq=>e2.elim λm e5=>bx ((hf _ q).symm.trans e5)) e1,e2,e3.fresh hf,e4⟩
 self:=by
  rintro _ _ _ ⟨k,t,its,vs,e,e1,e2,e3,e4⟩ _ _ hQ;exact wpAny_pyIter_tupleiter e4 hQ
 next:=by
  intro it i loc hp s r R zz hr Q E h0 h1;obtain⟨k,t,its,vs,rfl,e1,e2,e3,e4⟩:=zz;have hT:s.heap.IsTuple t its:=e2.elim λn e=>⟨_,e,rfl,n,rfl⟩;cases hd:vs.drop k with
  |nil =>
   rw[hd]at hr;obtain rfl:=oi hr;refine wpAny_pyNext_tuple_end O.handled e4 hT ?_ λh' he=>h0 rfl h' s.toks (Off.ext he (.head _)) (Nat.le_refl _);rw[Array.getElem?_eq_none_iff,<- Array.length_toList,<- e3.length];exact List.drop_eq_nil_iff.mp hd
  |cons v l =>
   rw[hd]at hr;obtain rfl:=oi hr;refine bp (Ax hd) λnP aC=>?_;subst aC;refine aj (e3.get nP) λx hx Ay=>?_;refine wpAny_pyNext_tuple_item e4 hT (x:=x) (by rw[<- Array.getElem?_toList];exact hx) λh' hit hs=>?_;have off:=Off.of (wr:=[I]) hs (.head _);have tk:=off.tk (wG hI);refine dQ (id hit) λoI Az Th Ti=>?_
   exact h1 v _ rfl x h' s.toks off (jw Az) (Nat.le_refl _) (Ay.keep (bB.refl i) tk) λhP hQ =>
    oN (s:={s with heap:=h',toks:=s.toks}) Az Th Ti (by decide) hP (hQ h' (Off.refl _ _) (jw Az) ⟨k+1,t,its,vs,rfl,e1,tk _ _ e1 e2,e3.keep (bB.refl i) tk,hit⟩)
inductive O5 (I:Addr)(no:List Addr)(it:It)(i:Pl)(h:Heap):Prop
 |mk (k m:Nat) (e:it=.vals ((List.range' k m).map λ(j:Nat)=>V.int j)) (e1:IsRangeIter h I k m 1)
theorem Iter.range {I:Addr}(hI:I∈C.no):Iter C [I] I jQ (O5 I) where
 sub:=wG hI
 keep:=by
  rintro _ _ _ _ _ ⟨k,m,e,e1⟩ g tk kw;exact⟨k,m,e,kw I (.head _) _ e1⟩
 fresh:=λx _=>x.casesOn λk m e e1=>⟨k,m,e,e1⟩
 self:=by
  rintro _ _ _ ⟨k,m,e,e1⟩ _ _ hQ;exact wpAny_pyIter_rangeiter e1 hQ
 next:=by
  intro it i loc hp s r R zz hr Q E h0 h1;obtain⟨k,m,rfl,e1⟩:=zz;cases m with
  |zero =>
   cases hr
   exact wpAny_pyNext_range_end O.handled e1 (by simp) λh' he=>h0 rfl h' s.toks (Off.ext he (.head _)) (Nat.le_refl _)
  |succ m =>
   rw[List.range'_succ]at hr;cases hr
   refine wpAny_pyNext_range_item e1 (Int.ofNat_lt.mpr (Nat.succ_pos m)) λh' hit hs=>?_
   exact h1 _ _ rfl _ h' (s.toks+1) (Off.of hs (.head _)) (jw hit) (Nat.le_succ _) (.int _ _) λhP hQ =>
    oN (s:={s with heap:=h',toks:=s.toks+1}) hit rfl rfl (by decide) hP (hQ h' (Off.refl _ _) (jw hit) ⟨k+1,m,rfl,Int.add_sub_cancel (m:Int) 1▸hit⟩)
inductive Tj (e it:Addr)(cls:String)(l:List Nat)(t:Tok)(no:List Addr)(YN:It)(i:Pl)(h:Heap):Prop
 |mk (k:Nat) (old:Value) (h1:YN=.vals (fb k (l.drop k))) (h4:k≤l.length) (h2:IsEnum h e it k old) (h3:h.IsStrIter it cls (S l) t k)
theorem Iter.enum {e it:Addr}{cls:String}{l:List Nat}{t:Tok}(DD:∀(w:World) (A:Around),A.handled=none->Draws pw w A it [it] (S l).cps.size (λi v=>∃c u,(S l).cps[i]?=some c∧v=.str ⟨#[c]⟩ u) (λi h=>h.IsStrIter it cls (S l) t i))
  (he:e∈C.no) (hi:it∈C.no) (jc:e≠it):Iter C [e,it] e oM (Tj e it cls l t) where
 sub:=λb hb=>(List.mem_cons.mp hb).elim (λq=>q▸he) (wG hi b)
 keep:=by
  rintro _ _ _ _ _ ⟨k,old,h1,h4,h2,⟨o,h3,r⟩⟩ g tk kw;exact⟨k,old,h1,h4,kw e (.head _) _ h2,⟨o,kw it (.tail _ (.head _)) o h3,r⟩⟩
 fresh:=λx _=>x.casesOn λk old h1 h4 h2 h3=>⟨k,old,h1,h4,h2,h3⟩
 self:=by
  rintro _ _ _ ⟨k,old,h1,h4,h2,h3⟩ _ _ hQ;exact wpAny_pyIter_enum h2 hQ
 next:=by
  intro YN i loc hp s r R zz hr Q E h0 h1;obtain⟨k,old,rfl,hk,e1,e2⟩:=zz;have D:=DD C.w C.A.in1 O.handled;have xG:(S l).cps.size=l.length:=List.size_toArray;cases hd:l.drop k with
  |nil =>
   rw[hd]at hr;obtain rfl:=oi hr;have Tn:k=(S l).cps.size:=(Nat.le_antisymm hk (List.drop_eq_nil_iff.mp hd)).trans xG.symm;rw[Tn]at e2;exact wpAny_pyNext_enum_endD D e1 e2 λh' he=>h0 rfl h' s.toks (Off.ext he (.tail _ (.head _))) (Nat.le_refl _)
  |cons c r' =>
   rw[hd]at hr;obtain rfl:=oi hr;refine bp (Ax hd) λhc hdr=>?_;have iF:k<l.length:=(List.getElem?_eq_some_iff.mp hc).1;refine wpAny_with_toks (Nat.le_refl s.toks) ?_;refine wpAny_pyNext_enum_itemD D e1 e2 (by rw[xG];exact iF) jc (by simp[jc]) λx h' tk hP ho hst hT hz hko SQ=>?_;refine eH hP λc' u qa eQ=>?_;subst eQ;obtain rfl:c=c':=oi (hc.symm.trans (List.getElem?_toArray.symm.trans qa));have off:Off [e,it] s.heap h':=λb o hb eb=>hko b o (λq=>hb (q▸.head _)) (λq=>hb (q▸.tail _ (.head _))) eb;refine aj (id hst) λo2 H6 r2=>?_;refine h1 _ _ rfl _ h' (tk+1) off (jR ho (jw H6)) (by exact SQ) (.tup (R.wu) ⟨_,hT⟩ (.cons (.int _ _) (.cons (.str [c] u) .nil))) λhP hQ=>?_;refine ow hP λes k' p eQ=>?_;subst eQ;exact wpAny_letOwnedTupleGo_enum (s:={s with heap:=h',toks:=tk+1}) ho λdH Tp oO=>hQ dH (Off.of oO (.head _)) (jR Tp (jw ((oO.2 it (Ne.symm jc)).trans H6))) ⟨k+1,.str ⟨#[c]⟩ u,by rw[hdr],iF,Tp,o2,(oO.2 it (Ne.symm jc)).trans H6,r2⟩
structure Tq (z TI TO i1 i2:Addr):Prop where
 TIz:TI≠z
 TOz:TO≠z
 i1z:i1≠z
 i2z:i2≠z
 TITO:TI≠TO
 TIi1:TI≠i1
 TIi2:TI≠i2
 TOi1:TO≠i1
 TOi2:TO≠i2
 i12:i1≠i2
inductive Xo (z TI TO i1 i2:Addr)(no:List Addr)(it:It)(i:Pl)(h:Heap):Prop
 |mk (n1 n2 k:Nat) (l1 l2:Addr) (a b:Value) (e:it=.zip n1 n2 k) (e1:i[n1]?=some l1) (e2:i[n2]?=some l2) (hz:IsZip h z TI TO .none) (qA:IsPair h TI (.ref i1) (.ref i2)) (tp:IsPair h TO a b) (CW:h.IsListIter i1 l1 k) (CX:h.IsListIter i2 l2 k)
theorem Iter.zip {z TI TO i1 i2:Addr}(V:Tq z TI TO i1 i2)(hn:∀b∈[z,TI,TO,i1,i2],b∈C.no):Iter C [z,TI,TO,i1,i2] z oM (Xo z TI TO i1 i2) where
 sub:=hn
 keep:=by
  rintro _ _ _ _ _ ⟨n1,n2,k,l1,l2,a,b,e,e1,e2,hz,qA,tp,h1,h2⟩ g tk kw;exact⟨n1,n2,k,l1,l2,a,b,e,g.get e1,g.get e2,kw z (.head _) _ hz,kw TI (.tail _ (.head _)) _ qA,kw TO (.tail _ (.tail _ (.head _))) _ tp,h1.at λo e=>kw i1 (.tail _ (.tail _ (.tail _ (.head _)))) o e,h2.at λo e=>kw i2 (.tail _ (.tail _ (.tail _ (.tail _ (.head _))))) o e⟩
 fresh:=λx _=>x.casesOn λn1 n2 k l1 l2 a b e e1 e2 hz qA tp h1 h2=>⟨n1,n2,k,l1,l2,a,b,e,e1,e2,hz,qA,tp,h1,h2⟩
 self:=by
  rintro _ _ _ ⟨n1,n2,k,l1,l2,a,b,e,e1,e2,hz,_⟩ _ _ hQ;exact wpAny_pyIter_zip hz hQ
 next:=by
  intro it i loc hp s r R zz hr Q E h0 h1;obtain⟨n1,n2,k,l1,l2,a,b,rfl,e1,e2,hz,qA,tp,CW,CX⟩:=zz;refine aj (bE hr) λl q1 hr=>?_;refine aj (bE hr) λm q2 hr=>?_;refine eH (R.ref e1 (dE q1)) λxs nx hx Ay=>?_;refine eH (R.ref e2 (dE q2)) λys ny hy YO=>?_;have hX:s.heap.IsList l1 xs:=⟨_,hx,rfl,nx,rfl⟩;have hY:s.heap.IsList l2 ys:=⟨_,hy,rfl,ny,rfl⟩;have Nn:∀b∈[z,TI,TO,i1,i2],l1≠b:=λb hb q=>(R.ej b (hn b hb)).1 (q▸List.mem_of_getElem? e1);have Np:∀b∈[z,TI,TO,i1,i2],l2≠b:=λb hb q=>(R.ej b (hn b hb)).1 (q▸List.mem_of_getElem? e2);have m1:TO∈[z,TI,TO,i1,i2]:=.tail _ (.tail _ (.head _));have m2:i1∈[z,TI,TO,i1,i2]:=.tail _ (.tail _ (.tail _ (.head _)));have m3:i2∈[z,TI,TO,i1,i2]:=.tail _ (.tail _ (.tail _ (.tail _ (.head _))));have D:ZipApart z TI TO i1 i2 l1 l2:=⟨V.TIz,V.TOz,V.i1z,V.i2z,V.TITO,V.TIi1,V.TIi2,V.TOi1,V.TOi2,V.i12,Nn _ (by simp),Nn _ (by simp),Nn _ (by simp),Nn _ (by simp),Np _ (by simp),Np _ (by simp),Np _ (by simp),Np _ (by simp)⟩;have Nq:∀{h':Heap},(∀c o,c≠z->c≠TO->c≠i1->c≠i2->s.heap.get? c=some o->h'.get? c=some o)->Off [z,TI,TO,i1,i2] s.heap h':=λhk c o hc e=>hk c o (λq=>hc (q▸.head _)) (λq=>hc (q▸m1)) (λq=>hc (q▸m2)) (λq=>hc (q▸m3)) e;cases nP:l[k]? with
  |some v =>
   cases CY:m[k]? with
   |none=>rw[nP,CY]at hr;exact bx hr
   |some u =>
    rw[nP,CY]at hr;obtain rfl:=oi hr;refine aj (Ay.get nP) λx YQ hxv=>?_;refine aj (YO.get CY) λy HY hyv=>?_;refine wpAny_pyNext_zip_item D hz qA tp CW CX hX hY (x:=x) (y:=y) (by rw[<- Array.getElem?_toList];exact YQ) (by rw[<- Array.getElem?_toList];exact HY) λh' a1 a2 a3 a4 a5 a6 hk=>?_;have off:=Nq hk;have tk:=off.tk hn;have Ts:IsPair h' TI (.ref i1) (.ref i2):=hk TI _ V.TIz V.TITO V.TIi1 V.TIi2 qA
    have live:∀{dH:Heap} {f:Value},IsZip dH z TI TO f->IsPair dH TI (.ref i1) (.ref i2)->IsPair dH TO x y->dH.IsListIter i1 l1 (k+1)->dH.IsListIter i2 l2 (k+1)->t5 [z,TI,TO,i1,i2] dH:=λq1 q2 q3 q4 q5 =>
     q4.elim λo4 q4=>q5.elim λo5 q5=>jR q1 (jR q2 (jR q3 (jR q4.1 (jw q5.1))))
    refine h1 _ _ rfl _ h' s.toks off (live a1 Ts a2 a3 a4) (Nat.le_refl _) (.tup (R.wu) ⟨_,a5⟩ (.cons (hxv.keep (bB.refl i) tk) (.cons (hyv.keep (bB.refl i) tk) .nil))) λhP hQ=>?_;refine ow hP λes k' p eQ=>?_;subst eQ;refine wpAny_letOwnedTupleGo_zip (s:={s with heap:=h',toks:=s.toks}) a1 λdH Tt oO=>?_;have b2:IsPair dH TI (.ref i1) (.ref i2):=(oO.2 TI V.TIz).trans Ts;have b3:IsPair dH TO x y:=(oO.2 TO V.TOz).trans a2;have b4:=a3.extBut oO.extBut V.i1z;have b5:=a4.extBut oO.extBut V.i2z;exact hQ dH (Off.of oO (.head _)) (live Tt b2 b3 b4 b5) ⟨n1,n2,k+1,l1,l2,x,y,rfl,e1,e2,Tt,b2,b3,b4,b5⟩
  |none =>
   cases CY:m[k]? with
   |some u=>rw[nP,CY]at hr;exact bx hr
   |none =>
    rw[nP,CY]at hr;obtain rfl:=oi hr;refine wpAny_pyNext_zip_end O.handled D hz qA tp CW CX hX hY (.inl ?_) λh' hk=>h0 rfl h' s.toks (Nq hk) (Nat.le_refl _);rw[Array.getElem?_eq_none_iff,<- Array.length_toList,<- Ay.length];exact List.getElem?_eq_none_iff.mp nP
end
end
section
section
variable {n N:Nat}{d:cy}{c:Ca}(O:C.Ok n)(F:bU C.w.params)(D:c5 n d)
include O F D
omit D in
theorem mO (ae:Rep C i loc hp s){x:Str}{v:Value}(pos:Pos)(hk:C.sc.lookup x=some .globalImplicit)(hg:iT.lookup x=some (.fix v)){Q:Value->Shared->Prop}{E:Value->Shared->Prop}(hQ:∀aB ah,Rep C aB loc hp ah->aJ [] i s aB ah->Q v ah):wpAny C.M C.A (eval (.Name x pos) C.env) Q E s :=
 YH (hR (own:=[]) (pos:=pos) O ae (x:=x) λw hw=>F.base.iT x w hw) (show gQ C.sc x loc hp=.ok (.fix v) hp by unfold gQ;rw[hk,hg];rfl) λa aB ah _ ak k₁ aP=>aP.ku▸hQ aB ah ak k₁
omit F D in
theorem jE (ae:Rep C i loc hp s){b:Addr}(e:s.heap.get? b=none):C.hb.get? b=none:=by
 cases z:C.hb.get? b with
 |none=>rfl
 |some o=>rw[ae.base b o z]at e;exact(Option.some_ne_none _ e).elim
omit O F D in
theorem aJ.none (k:aJ own i s i' s'){b:Addr}(e:s'.heap.get? b=none):s.heap.get? b=none:=by
 cases z:s.heap.get? b with
 |none=>rfl
 |some o=>obtain⟨o',e'⟩:=k.live b o z;rw[e]at e';exact(Option.some_ne_none _ e'.symm).elim
omit O F D in
theorem eV (h:Heap)(k:Nat):h.get? (h.objs.size+k)=none:=by
 cases q:h.get? (h.objs.size+k)with
 |none=>rfl
 |some o=>exact absurd (Heap.lt_size q) (Nat.not_lt.mpr (Nat.le_add_right _ _))
omit O F D in
theorem jm {z a b:Nat}(h:a≠b):z+a≠z+b:=λq=>h (Nat.add_left_cancel q)
omit O F D in
theorem O6 (z:Nat):Tq (z+4) (z+2) (z+3) z (z+1) :=
 ⟨jm (by decide),jm (by decide),jm (a:=0) (by decide),jm (by decide),jm (by decide),jm (b:=0) (by decide),jm (by decide),jm (b:=0) (by decide),jm (by decide),jm (a:=0) (by decide)⟩
def nQ (iter tg:Expr):Prop:=jQ tg∧(km iter=true->oM tg)
inductive Ha (C:Cx)(n:Nat)(i:Pl)(loc:Loc)(s:Shared)(tg:Expr)(it:It)(au:HP)(aB:Pl)(ah:Shared)(I:Addr):Prop
 |mk (wr:List Addr) (P:Expr->Prop) (at_:List Addr->It->Pl->Heap->Prop) (hf:∀b∈wr,s.heap.get? b=none) (mk:Hb n wr I P at_) (hP:P tg) (R:Rep (C.cY (wr++C.no)) aB loc au ah) (k:aJ [] i s aB ah) (a:at_ (wr++C.no) it aB ah.heap) (ap:Apart C wr) (O:(C.cY (wr++C.no)).Ok n) (hI:I∈wr)
structure jF (C:Cx)(n:Nat)(i:Pl)(loc:Loc)(s:Shared)(tg:Expr)(r:R It)(Q:Value->Shared->Prop)(E:Value->Shared->Prop):Prop where
 nb:r≠.bad
 q:∀{it au aB I ah},r=.ok it au->Ha C n i loc s tg it au aB ah I->Q (.ref I) ah
 e:∀{x s'},PX C [] i s r x s'->E x s'
structure lA (C:Cx)(n:Nat)(i:Pl)(loc:Loc)(s:Shared)(tg:Expr)(r:R It)(iter:Expr):Prop where
 go:∀{Q:Value->Shared->Prop} {E:Value->Shared->Prop},jF C n i loc s tg r Q E->wpAny C.M C.A (eval iter C.env) (λx ah=>wpAny C.M C.A (pyIter x) Q E ah) E s
section
variable {tg:Expr}{it:It}{I:Addr}{P:Expr->Prop}{at_:List Addr->It->Pl->Heap->Prop}
omit O F D in
theorem E9 (h:Heap):∀b∈[h.objs.size],h.get? b=none:=λb hb=>List.mem_singleton.mp hb▸eV _ 0
omit F D in
theorem wH (ak:Rep C i loc hp s){wr:List Addr}{h':Heap}(hf:∀b∈wr,s.heap.get? b=none)(kp:∀b o,s.heap.get? b=some o->h'.get? b=some o)(hl:t5 wr h')(hI:I∈wr)(mk:Hb n wr I P at_)(hP:P tg)
  (ha:at_ (wr++C.no) it i h'):Ha C n i loc s tg it hp i {s with heap:=h'} I :=
 ⟨wr,P,at_,hf,mk,hP,ak.enter O (wr:=wr) (t:=s.toks) (d:=s.drawn) (Nat.le_refl _) kp hf hl,(ak.more (own:=[]) (t:=s.toks) (d:=s.drawn) kp).2,ha,ak.apart hf,
  O.cY λb hb=>(List.mem_append.mp hb).elim (λq=>jE O ak (hf b q)) (O.noNew b),hI⟩
omit F D in
theorem qB (ak:Rep C i loc hp s){ob:Obj}(e:(s.heap.push ob).get? s.heap.objs.size=some ob)(mk:Hb n [s.heap.objs.size] s.heap.objs.size P at_)(hP:P tg)
  (ha:at_ (s.heap.objs.size::C.no) it i (s.heap.push ob)):Ha C n i loc s tg it hp i {s with heap:=s.heap.push ob} s.heap.objs.size :=
 wH O ak (E9 _) (λ_ _ e=>Heap.get?_push_of_some _ e) (jw e) (List.mem_singleton.mpr rfl) mk hP ha
variable {a:Value}{Q:Value->Shared->Prop}{Q':α->Shared->Prop}{E:Value->Shared->Prop}
omit O F D in
theorem jF.up {r:R It}(q:jF C n i loc s tg r Q E)(k:aJ [] i s aB ah):jF C n aB loc ah tg r Q E :=
 ⟨q.nb,λe m=>q.q e (m.casesOn λwr P at_ hf mk hP R k' a ap O hI=>⟨wr,P,at_,λb hb=>k.none (hf b hb),mk,hP,R,k.trans k',a,ap,O,hI⟩),λx=>q.e (x.up k)⟩
omit O F D in
theorem jF.jO (q:jF C n i loc s tg .bad Q E){P:Prop}:P:=absurd rfl q.nb
omit O F D in
theorem jF.rB {κ:Type}{o:Option κ}{f:κ->R It}(q:jF C n i loc s tg (Internal.rB o f) Q E):∃k,o=some k∧jF C n i loc s tg (f k) Q E:=by
 cases o with
 |none=>exact q.jO
 |some k=>exact⟨k,rfl,q⟩
omit O F D in
theorem jF.rI {c:Bool}{r:R It}(q:jF C n i loc s tg (Internal.rI c r) Q E):c=true∧jF C n i loc s tg r Q E:=by
 cases c with
 |false=>exact q.jO
 |true=>exact⟨rfl,q⟩
omit O F D in
theorem AA {t:Sem α}{T:fK α β}{r:R β}{g:β->HP->R It}(h:eF C [] i s (λ_=>loc) T r t)(q:jF C n i loc s tg (az r g) Q E)
  (k:∀a b au aB ah,Rep C aB loc au ah->aJ [] i s aB ah->T aB ah.heap b a->jF C n aB loc ah tg (g b au) Q E->Q' a ah):wpAny C.M C.A t Q' E s :=
 wpAny_mono (h (kY q.nb)) (λa ah x=>by
  refine fk x λb au aB eQ h1 h2 h3=>?_;subst eQ;exact k a b au aB ah h1 h2 h3 (jF.up (r:=g b au) q h2)) λ_ _ x=>q.e x.az
omit F D in
theorem Lb (ak:Rep C i loc hp s){vs:List V}(aP:Val C.no i s.heap (.tup vs) a)(hP:jQ tg)(q:jF C n i loc s tg (.ok (.vals vs) hp) Q E):wpAny C.M C.A (pyIter a) Q E s:=by
 have cX:=aP.fresh (E9 s.heap);refine tE (aP.fA) λt its bH _ x _=>?_;subst bH;refine dQ ((cX.keep (bB.refl i) (bq.of (h':=s.heap.push {cls:=.type "tuple_iterator",data:=.fields #[.ref t,.int 0 0]}) λ_ _ e=>Heap.get?_push_of_some _ e)).Ks) λits' hn x' y'=>?_;exact wpAny_pyIter_tuple x.is (q.q rfl (qB O ak (Heap.get?_push_size _ rfl) (λO' hw=>Iter.tup O' (hw _ (.head _))) hP ⟨0,t,_,vs,rfl,hn,x',y',⟨_,Heap.get?_push_size _ rfl,rfl,rfl⟩⟩))
omit F D in
theorem Lc (ak:Rep C i loc hp s){k:Nat}(aP:Val C.no i s.heap (.ref k) a)(hP:jQ tg){l:List V}(hk:hp[k]?=some (.list l))(q:jF C n i loc s tg (.ok (.lst k 0) hp) Q E):wpAny C.M C.A (pyIter a) Q E s:=by
 refine aj (aP.cQ) λb aC ea=>?_;subst aC;refine eH (ak.ref ea hk) λits nn hl hv=>?_;exact wpAny_pyIter_list ⟨_,hl,rfl,nn,rfl⟩ (q.q rfl (qB O ak (Heap.get?_push_size _ rfl) (λO' hw=>Iter.list O' (hw _ (.head _))) hP ⟨k,0,b,rfl,ea,⟨_,Heap.get?_push_size _ rfl,rfl,rfl⟩⟩))
theorem Tu (ae:Rep C i loc hp s)(iter:Expr)(hP:jQ tg):lA C n i loc s tg (cx (d.ex C.sc iter) loc hp) iter:=.mk λq =>
 AA (D.ex O F.base ae iter) q λa v au aB ah ak k₁ aP q=>by
  cases v with
  |tup vs=>exact Lb O ak aP hP q
  |ref k =>
   cases hl:eO au k with
   |none=>exact absurd (show bQ (oB (eO au k) λ_=>some (It.lst k 0)) au=.bad by rw[hl];rfl) q.nb
   |some l =>
    have e:M3 (.ref k) au=.ok (.lst k 0) au:=by show bQ (oB (eO au k) λ_=>some (It.lst k 0)) au=_;rw[hl];rfl
    exact Lc O ak aP hP (dE hl) (e▸q)
  |_=>exact q.jO
omit F D in
theorem Fb {fa:Value}(hk:kA C.w.params fa=true)(e:Expr)(es:List Expr)(pos:Pos)(hs:(e::es).all noStar=true)(key:wpAny C.M C.A (spliced ((false,eval e C.env)::backTo pos (starEach es C.env))) (λas ah=>(K C.w.params).In ah.heap∧wpAny C.M C.A (call fa as) Q E ah) E s) :
  wpAny C.M C.A (callWith pos fa [] (backTo pos (starEach (e::es) C.env)) []) Q E s:=by
 refine callWith_of (P:=λh=>(K C.w.params).In h∧kA C.w.params fa=true) (by rw[iW (e::es) pos C.env hs];rfl) (λh X=>k7 X.2 h X.1) ?_;rw[gJ (bk hs).1 es pos C.env];exact evalArgs_plain (wpAny_mono key (λas ah x=>⟨⟨x.1,hk⟩,x.2⟩) λ_ _ x=>x)
omit F D in
theorem Fc (ak:Rep C i loc hp s){v:V}(aP:Val C.no i s.heap v a)(hP:jQ tg)(q:jF C n i loc s tg (M4 v hp) Q E):wpAny C.M C.A (call (.type "range") [a]) (λx ah=>wpAny C.M C.A (pyIter x) Q E ah) E s:=by
 refine aj (q.rB) λn' hv q=>?_;refine bp (q.rI) λhn q=>?_;refine aQ ((iU hv▸aP:Val C.no i s.heap (.int n') a).dp) λt aC=>?_;subst aC;have hn1:n'≤1000:=of_decide_eq_true (bk hn).1;have hn2:n'.natAbs<2 ^ 62:=of_decide_eq_true (bk hn).2;refine call_range_1 ?_;refine bp (ak.more (own:=[]) (t:=s.toks+1+1) (d:=s.drawn) (h':=s.heap.push {cls:=.type "range",data:=.fields #[.int 0 s.toks,.int n' t,.int 1 (s.toks+1)]}) (λ_ _ e=>Heap.get?_push_of_some _ e) (Nat.le_add_right _ 2)) λaV k₂=>?_;have hr:IsRange (s.heap.push {cls:=.type "range",data:=.fields #[.int 0 s.toks,.int n' t,.int 1 (s.toks+1)]}) s.heap.objs.size 0 n' 1 s.toks t (s.toks+1):=IsRange.new ..;have q:=q.up k₂;generalize s.heap.push {cls:=.type "range",data:=.fields #[.int 0 s.toks,.int n' t,.int 1 (s.toks+1)]}=ie at aV k₂ hr q ⊢
 have e0:Builtin.Range.rangeSize 0 n' 1=(n'.toNat:Int):=by
  rw[rangeSize_one];split
  ·rw[Int.sub_zero];exact(Int.toNat_of_nonneg (Int.le_of_lt (by assumption))).symm
  ·exact(congrArg Int.ofNat (Int.toNat_of_nonpos (Int.not_lt.mp (by assumption)))).symm
 refine wpAny_pyIter_range hr (small_one (by decide) (by decide) (Int.neg_le_of_neg_le (Int.le_trans (Int.natAbs_neg n'▸Int.le_natAbs) (Int.ofNat_le.mpr (Nat.le_of_lt hn2)))) (Int.lt_of_le_of_lt hn1 (by decide))) (q.q rfl (qB O aV (Heap.get?_push_size _ rfl) (λO' hw=>Iter.range O' (hw _ (.head _))) hP ⟨0,n'.toNat,by rw[List.range_eq_range'],?_⟩));rw[e0];exact Heap.get?_push_size _ rfl
theorem Ld (ae:Rep C i loc hp s)(e:Expr)(p p2:Pos)(hs:noStar e=true)(jG:C.sc.lookup ("range":Str)=some .globalImplicit)(hP:jQ tg):lA C n i loc s tg (mf (d.ex C.sc e) loc hp) (.Call (.Name "range" p) [e] [] p2):=.mk λq =>
 wpAny_bind (mO O F ae (v:=.type "range") p jG (by kernel_rfl) λwI m9 ae AB=>Fb O rfl e [] p2 (by unfold List.all;rw[hs];rfl) (Calls.spliced_cons (AA (D.ex O F.base ae e) (q.up AB) λx v au aB ah ak k₁ aP q=>Calls.spliced_nil ⟨ak.dJ O,Fc O ak aP hP q⟩)))
omit F D in
theorem H7 (ak:Rep C i loc hp s){v:V}(aP:Val C.no i s.heap v a)(hP:oM tg)(q:jF C n i loc s tg (M5 v hp) Q E) :
  wpAny C.M C.A (call (.type "enumerate") [a]) (λx ah=>wpAny C.M C.A (pyIter x) Q E ah) E s:=by
 refine aj (q.rB) λl hv q=>?_;refine aQ ((fz hv▸aP:Val C.no i s.heap (.str l) a).cP) λt aC=>?_;subst aC;refine call_enumerate_str λh' he hit xG hk=>wpAny_pyIter_enum he ?_;refine aj (id hit) λoi hoi _=>?_
 have fin:∀{cls:String},h'.IsStrIter s.heap.objs.size cls (S l) t 0->(∀(w:World) (A:Around),A.handled=none->Draws pw w A s.heap.objs.size [s.heap.objs.size] (S l).cps.size (λi v=>∃c u,(S l).cps[i]?=some c∧v=.str ⟨#[c]⟩ u) (λi h=>h.IsStrIter s.heap.objs.size cls (S l) t i))->Q (.ref (s.heap.objs.size+1)) {s with heap:=h'}:=λaar D' =>
  q.q rfl (wH O ak (wr:=[s.heap.objs.size+1,s.heap.objs.size]) (λb hb=>(List.mem_cons.mp hb).elim (λe=>e▸eV _ 1) (E9 _ b)) hk (jR he (jw hoi)) (.head _)
   (λO' hw=>Iter.enum O' D' (hw _ (.head _)) (hw _ (.tail _ (.head _))) (Nat.succ_ne_self _)) hP ⟨0,.none,rfl,Nat.zero_le _,he,aar⟩)
 cases ha:(S l).cps.all (·<128)
 ·exact fin (by simpa [strIterType,ha]using hit) (λ_ _ hh=>Draws.strWide hh _ _ _)
 ·exact fin (by simpa [strIterType,ha]using hit) (λ_ _ hh=>Draws.strAscii hh _ _ _)
theorem O7 (ae:Rep C i loc hp s)(e:Expr)(p p2:Pos)(hs:noStar e=true)(jG:C.sc.lookup ("enumerate":Str)=some .globalImplicit)(hP:oM tg):lA C n i loc s tg (ro (d.ex C.sc e) loc hp) (.Call (.Name "enumerate" p) [e] [] p2):=.mk λq =>
 wpAny_bind (mO O F ae (v:=.type "enumerate") p jG (by kernel_rfl) λwI m9 ae AB=>Fb O rfl e [] p2 (by unfold List.all;rw[hs];rfl) (Calls.spliced_cons (AA (D.ex O F.base ae e) (q.up AB) λx v au aB ah ak k₁ aP q=>Calls.spliced_nil ⟨ak.dJ O,H7 O ak aP hP q⟩)))
omit F D in
theorem Le (ak:Rep C i loc hp s){u v:V}{b:Value}(aas:Val C.no i s.heap u a)(aP:Val C.no i s.heap v b)(hP:oM tg)(q:jF C n i loc s tg (Em u v hp) Q E) :
  wpAny C.M C.A (call (.type "zip") [a,b]) (λx ah=>wpAny C.M C.A (pyIter x) Q E ah) E s:=by
 refine aj (q.rB) λj hj q=>?_;refine aj (q.rB) λk hk q=>?_;refine aj (q.rB) λl hl q=>?_;refine aj (q.rB) λm hm q=>?_;refine aj ((gw hj▸aas:Val C.no i s.heap (.ref j) a).cQ) λl1 aC YR=>?_;subst aC;refine aj ((gw hk▸aP:Val C.no i s.heap (.ref k) b).cQ) λl2 aC SO=>?_;subst aC;refine eH (ak.ref YR (dE hl)) λxs1 nx hx Ay=>?_;refine eH (ak.ref SO (dE hm)) λys1 ny hy YO=>?_;refine call_zip_2 ⟨_,hx,rfl,nx,rfl⟩ ⟨_,hy,rfl,ny,rfl⟩ λh' hz qA tp CW CX xG hk=>wpAny_pyIter_zip hz ?_;refine aj (id CW) λo1 ho1 _=>?_;refine aj (id CX) λo2 H6 _=>?_
 exact q.q rfl (wH O ak (wr:=[s.heap.objs.size+4,s.heap.objs.size+2,s.heap.objs.size+3,s.heap.objs.size,s.heap.objs.size+1])
  (List.forall_mem_cons.mpr ⟨eV _ 4,List.forall_mem_cons.mpr ⟨eV _ 2,List.forall_mem_cons.mpr ⟨eV _ 3,List.forall_mem_cons.mpr ⟨eV _ 0,List.forall_mem_singleton.mpr (eV _ 1)⟩⟩⟩⟩) hk
  (jR hz (jR qA (jR tp (jR ho1 (jw H6))))) (.head _) (λO' hw=>Iter.zip O' (O6 _) hw) hP ⟨j,k,0,l1,l2,_,_,rfl,YR,SO,hz,qA,tp,CW,CX⟩)
theorem Tv (ae:Rep C i loc hp s)(e oH:Expr)(p p2:Pos)(hs:noStar e=true)(Nr:noStar oH=true)(jG:C.sc.lookup ("zip":Str)=some .globalImplicit)(hP:oM tg):lA C n i loc s tg (wm (d.ex C.sc e) (d.ex C.sc oH) loc hp) (.Call (.Name "zip" p) [e,oH] [] p2):=.mk λq =>
 wpAny_bind (mO O F ae (v:=.type "zip") p jG (by kernel_rfl) λwI m9 ae AB=>Fb O rfl e [oH] p2 (by unfold List.all;rw[hs];unfold List.all;rw[Nr];rfl) (Calls.spliced_cons (AA (D.ex O F.base ae e) (q.up AB) λx v au aB ah ak k₁ aP q =>
  gJ Nr [] p2 C.env▸Calls.spliced_cons (AA (D.ex O F.base ak oH) q λy w bJ cm aO aV k₂ cX q=>Calls.spliced_nil ⟨aV.dJ O,Le O aV (k₂.vl ak aP) cX hP q⟩))))
omit O F D in
theorem AD {b:Bool}{f:Ix}{iter:Expr}(h:b=true->lA C n i loc s tg (f loc hp) iter):lA C n i loc s tg (xi b f loc hp) iter:=by
 cases b with
 |true=>exact h rfl
 |false=>exact .mk λq=>q.jO
omit O F D in
theorem Tw {κ:Type}{o:Option κ}{f:κ->Ix}{iter:Expr}(h:∀k,o=some k->lA C n i loc s tg (f k loc hp) iter):lA C n i loc s tg (xo o f loc hp) iter:=by
 cases o with
 |some k=>exact h k rfl
 |none=>exact .mk λq=>q.jO
omit O F D in
theorem qC {sc:Sc}{f w:Str}(h:oA sc f w=true):f=w∧sc.lookup w=some .globalImplicit:=by
 have h1:f=w:=beq_iff_eq.mp (bk h).1;exact⟨h1,h1▸beq_iff_eq.mp (bk h).2⟩
theorem Lf (ae:Rep C i loc hp s)(f:Str)(a:Expr)(p p':Pos)(fy:nQ (.Call (.Name f p') [a] [] p) tg):lA C n i loc s tg (EC d C.sc f a loc hp) (.Call (.Name f p') [a] [] p):=by
 unfold EC;refine AD λhs=>?_;cases h1:oA C.sc f "range" with
 |true =>
  refine bp (qC h1) λnI h2=>?_;subst nI;exact Ld O F D ae a p' p hs h2 fy.1
 |false =>
  refine AD λh3=>?_;refine bp (qC h3) λnI h4=>?_;subst nI;exact O7 O F D ae a p' p hs h4 (fy.2 rfl)
theorem Lg (ae:Rep C i loc hp s)(f:Str)(a b:Expr)(p p':Pos)(fy:nQ (.Call (.Name f p') [a,b] [] p) tg):lA C n i loc s tg (yL d C.sc f a b loc hp) (.Call (.Name f p') [a,b] [] p):=by
 unfold yL;refine AD λh3=>?_;refine bp (bk h3) λh3 h5=>?_;refine bp (qC h3) λnI h4=>?_;subst nI;exact Tv O F D ae a b p' p (bk h5).1 (bk h5).2 h4 (fy.2 rfl)
theorem Lh (ae:Rep C i loc hp s)(f:Str)(as:List Expr)(p p':Pos)(fy:nQ (.Call (.Name f p') as [] p) tg):lA C n i loc s tg (M8 d C.sc f as loc hp) (.Call (.Name f p') as [] p):=by
 cases as with
 |nil=>exact .mk λq=>q.jO
 |cons a r =>
  cases r with
  |nil=>exact Lf O F D ae f a p p' fy
  |cons b r =>
   refine AD (b:=r.isEmpty) (f:=yL d C.sc f a b) λh=>?_;obtain rfl:=fY h;exact Lg O F D ae f a b p p' fy
theorem Fe (ae:Rep C i loc hp s)(iter:Expr)(fy:nQ iter tg):lA C n i loc s tg (eY d C.sc iter loc hp) iter:=by
 unfold eY;cases hp:iC iter with
 |true=>exact Tu O F D ae iter fy.1
 |false =>
  refine Tw λq hq=>Tw λf hf=>AD λhk=>?_;refine aQ (mM hq) λp aC=>?_;subst aC;refine aQ (jD hf) λp' e'=>?_;have ek:=fY hk;rw[e',ek]at fy ⊢;exact Lh O F D ae f _ p p' fy
theorem xQ (ae:Rep C i loc hp s)(iter:Expr)(fy:nQ iter tg)(nb:eY d C.sc iter loc hp≠.bad)(hQ:∀{it au aB I ah},eY d C.sc iter loc hp=.ok it au->Ha C n i loc s tg it au aB ah I->Q (.ref I) ah)
  (hE:∀{x s'},PX C [] i s (eY d C.sc iter loc hp) x s'->E x s'):wpAny C.M C.A (eval iter C.env) (λx ah=>wpAny C.M C.A (pyIter x) Q E ah) E s:=(Fe O F D ae iter fy).go ⟨nb,hQ,hE⟩
end
end
end
section
def kFg (tg:Tg)(b:Sx)(n:Nat)(it:It)(p:Fl×Loc)(hp:HP):R (Fl×Loc):=match p.1 with
 |.next=>cJ tg b n it p.2 hp
 |.ret _=>.ok p hp
section
variable {tg:Tg}{b:Sx}{m:Nat}{it gb:It}{loc:Loc}{hp:HP}{r:R (Fl×Loc)}{v:V}
theorem Ff (h:cJ tg b m it loc hp=r)(hr:r≠.bad):∃r',it.next hp=some r':=by
 cases m with
 |zero=>exact absurd h.symm hr
 |succ m =>
  cases hn:it.next hp with
  |none=>unfold cJ at h;rw[hn]at h;exact absurd h.symm hr
  |some r'=>exact⟨r',rfl⟩
theorem H8 (h:cJ tg b m it loc hp=r)(hr:r≠.bad)(hn:it.next hp=some none):.ok (.next,loc) hp=r:=by
 cases m with
 |zero=>exact absurd h.symm hr
 |succ m=>unfold cJ at h;rw[hn]at h;exact h
theorem Fg (h:cJ tg b m it loc hp=r)(hr:r≠.bad)(hn:it.next hp=some (some (v,gb))):∃m' c9,m=m'+1∧tg.put v loc=some c9∧az (b c9 hp) (kFg tg b m' gb)=r:=by
 cases m with
 |zero=>exact absurd h.symm hr
 |succ m =>
  unfold cJ at h;rw[hn]at h;dsimp only at h;cases hq:tg.put v loc with
  |none=>rw[hq]at h;exact absurd h.symm hr
  |some l=>rw[hq]at h;exact⟨m,l,rfl,rfl,h⟩
end
section
variable {n N:Nat}{d:cy}{c:Ca}(O:C.Ok n)(F:bU C.w.params)(D:c5 n d)
theorem mu.cY {l:List Addr}{k:Int}{e:Value}(f:mu (C.cY l) k e s):mu C k e s:=⟨f.obj,f.base,f.fR,f.gens,f.os⟩
theorem PX.cY {l:List Addr}{r:R β}{e:Value}(x:PX (C.cY l) own i s r e s'):PX C own i s r e s':=x.elim λk y=>⟨k,y.1,y.2.1.cY,y.2.2⟩
theorem PX.wide {r:R β}{e:Value}(x:PX C [] i s r e s'):PX C own i s r e s':=x.elim λk y=>⟨k,y.1,y.2.1,y.2.2.weaken λ_ h=>absurd h List.not_mem_nil⟩
theorem To.ok {r:R β}{g:β->HP->R δ}{T:fK γ δ}{lc:δ->Loc}{Q:γ->Shared->Prop}{E:Value->Shared->Prop}{b:β}(q:To C own i s lc T (az r g) Q E)(e:r=.ok b au):To C own i s lc T (g b au) Q E:=by
 subst e;exact q
theorem AE {sc:Sc}{t:Expr}{tg:Tg}(fy:lz sc t=some tg):jQ t:=by
 rcases CT fy with⟨es,q,p,is,rfl,_,_⟩|⟨m,h,_⟩
 ·exact .inr ⟨_,_,_,rfl⟩
 ·refine lr (tV h) λx p _ eQ _=>?_;subst eQ;exact .inl ⟨_,_,rfl⟩
theorem Li {t iter:Expr}{tg:Tg}(fy:lz C.sc t=some tg)(hn:¬(km iter&&!zZ t)=true):nQ iter t:=by
 refine⟨AE fy,λh=>?_⟩;rw[h]at hn;rcases AE fy with⟨x,p,rfl⟩|h
 ·exact absurd rfl hn
 ·exact h
include O
theorem xR {t:Expr}{tg:Tg}(fy:lz C.sc t=some tg)(ae:Rep C i loc hp s){v:V}{a:Value}(hv:Val C.no i s.heap v a)(oP:tg.put v loc=some loc'){Q:Unit->Shared->Prop}{E:Value->Shared->Prop}
  (hQ:∀s',Rep C i loc' hp s'->aJ C.own i s i s'->Q () s'):wpAny C.M C.A (assign t C.env a) Q E s:=by
 rcases CT fy with⟨es,q,p,is,rfl,Tz,rfl⟩|⟨m,h,rfl⟩
 ·have hn:=tn es is Tz;cases v with
  |tup vs =>
   refine tE (hv.fA) λt its bH cT x y=>?_;subst bH;have gR:dX is vs loc=some loc':=oP;have uM:=uK is vs loc gR;have CU:its.size=es.length:=Array.length_toList.symm.trans (y.length.symm.trans (uM.symm.trans hn.len.symm));show wpAny _ _ (do standAt p;unpack (.ref t) (assignEach es C.env)) _ _ _
   refine wpAny_bind (wpAny_standAt ?_);unfold unpack;rw[hn.uJ.1,hn.uJ.2,hn.stores,<- CU];refine wpAny_bind (wpAny_holding (wpAny_unpackItems_tuple O.handled x.is λh' tY=>?_));refine bp (ae.more (own:=C.own) (t:=s.toks) (d:=s.drawn) (h':=h') λb ob eb=>tY b ob (Nat.ne_of_lt (Heap.lt_size eb)) eb) λaV k₂=>?_;exact xM O hn vs its.toList aV (y.keep (bB.refl _) (k₂.tup ae (λb hb=>hb))) gR λeR cj cL=>hQ eR cj (k₂.trans cL)
  |_=>exact bx oP
 ·refine fk (tV h) λx p kd eQ e1 e2 e3=>?_;subst eQ;obtain rfl:=oi oP;exact jk O ae e1 e2 e3 hv hQ
include F D
theorem Lj (eS:∃outer,C.d9=C.env::outer){l:List Addr}(O':(C.cY l).Ok n)(ss:List Stmt)(ae:Rep (C.cY l) i loc hp s):SS (C.cY l) i s (aF (ss.map (d.st C.sc)) loc hp) (execs ss C.env):=nM (C:=C.cY l) O' F D eS ss ae
omit O F D in
theorem xT (iter:Expr)(h:eY d C.sc iter loc hp≠.bad):∀x,foldedSetIterable iter C.env x=pure x:=by
 have:eY d C.sc iter loc hp=.bad∨∀x,foldedSetIterable iter C.env x=pure x:=by
  cases iter<;>first|exact .inr λ_=>rfl|exact .inl rfl
 exact this.resolve_left h
theorem TA (eS:∃outer,C.d9=C.env::outer)(ae:Rep C i loc hp s)(t iter:Expr)(b:List Stmt)(pos:Pos){tg:Tg}(fy:lz C.sc t=some tg)(hnt:¬(km iter&&!zZ t)=true) :
  SS C i s (ib N tg (eY d C.sc iter) (b.map (d.st C.sc)) loc hp) (exec (.For t iter b [] pos) C.env):=by
 refine sn λ{Q E} q=>?_;have nb:eY d C.sc iter loc hp≠.bad:=kY q.nb;refine wpAny_For (xQ O F D ae iter (Li fy hnt) nb (λ{it au aB I ah} er m=>?_) λz=>q.e _ _ z.az.wide) (xT iter nb);refine bC λnG=>?_;obtain⟨wr,P,at_,hf,mk,hP,ak,k₁,Lk,ap,O',hIw⟩:=m;have q:To C C.own i s (·.2) (tO C.no) (cJ tg (aF (b.map (d.st C.sc))) N it loc au) Q E:=To.ok (g:=G8 N tg (b.map (d.st C.sc)) loc) q er
 generalize hr:cJ tg (aF (b.map (d.st C.sc))) N it loc au=r at q;have hI:=mk O' λb hb=>List.mem_append_left _ hb;have cT:∀b∈wr++C.no,C.hb.get? b=none:=O'.noNew;have inl:∀b∈wr,b∈wr++C.no:=λb hb=>List.mem_append_left _ hb;have aat:∀b∈C.no,b∉wr:=λb hb hw=>(ae.ej b hb).2.elim λ_ e=>bx ((hf b hw).symm.trans e);refine nG (codeAny_forLoop_any (λm s'=>∃gb loc' hp' i',cJ tg (aF (b.map (d.st C.sc))) m gb loc' hp'=r∧Rep (C.cY (wr++C.no)) i' loc' hp' s'∧aJ C.own i s i' s'∧at_ (wr++C.no) gb i' s'.heap) (λm s' TB=>?_) N ⟨it,loc,au,aB,hr,ak,k₁.weaken λ_ h=>absurd h List.not_mem_nil,Lk⟩);refine bC λnG=>?_;refine kg TB λgb loc' hp' i' er R' K' a'=>?_;refine aQ (Ff er q.nb) λr' mL=>?_;refine nG (hI.next R' a' mL (λqD h' t' off ht=>?_) λv AF qD a h' t' off live ht hv TC=>?_)
 ·have er:=H8 er q.nb (qD▸mL);have aV:=Rep.leave (wr:=wr) (d:=s'.drawn) O (λb hb=>List.mem_append_right _ hb) cT inl ap R' aat ht off;have gS:aJ C.own i s i' {s' with heap:=h',toks:=t'}:=K'.turn hf (d:=s'.drawn) (t:=t') off rfl;exact wpAny_execs_nil (q.q _ _ ⟨(Fl.next,loc'),hp',i',er.symm,aV,gS,trivial⟩)
 ·refine cg (Fg er q.nb (qD▸mL)) λm' c9 hm oP er=>?_;refine TC hP λdH AG Fh at2=>?_;have oQ:Off wr s'.heap dH:=λb o hb e=>AG b o hb (off b o hb e);have aV:=Rep.turn (C:=C.cY (wr++C.no)) (wr:=wr) (d:=s'.drawn) O' inl (ap.cY _) R' ht oQ Fh;have gS:aJ C.own i s i' {s' with heap:=dH,toks:=t'}:=K'.turn hf (d:=s'.drawn) (t:=t') oQ rfl;refine xR (C:=C.cY (wr++C.no)) O' fy aV (hv.keep (bB.refl _) (AG.tk inl)) oP λeR cj cL=>?_;have at3:at_ (wr++C.no) AF i' eR.heap:=hI.keep at2 (bB.refl _) (cL.tup aV (λb hb=>hb)) λb hb o e=>cL.keep b o e (λq=>ap.own b q hb) (aV.ej b (inl b hb)).1;refine uz (C:=C.cY (wr++C.no)) (Lj O F D eS O' b cj) (λh=>q.nb (er.symm.trans h)) (λf p ry tU fG q4 fH iG oJ uP=>?_) λe xP z=>eS.elim λouter Ll=>t4 O Ll (PX.up (gS.trans cL) (PX.cY z)) λx s z=>q.e x s (er▸z);have q4:=er.symm.trans q4;obtain⟨fl,H9⟩:=p;have Nt:at_ (wr++C.no) AF tU fG.heap:=hI.keep at3 iG.g (iG.tup cj (λb hb=>hb)) λb hb o e=>iG.keep b o e (λq=>ap.own b q hb) (cj.ej b (inl b hb)).1;cases fl with
  |next =>
   cases f with
   |next=>exact⟨m',hm▸Nat.lt_succ_self m',AF,H9,ry,tU,q4.symm,fH,(gS.trans cL).trans iG,Nt⟩
   |_=>exact oJ.elim
  |ret v =>
   cases f with
   |ret a =>
    have As:=Rep.leave (wr:=[]) (d:=fG.drawn) (t:=fG.toks) O (λb hb=>List.mem_append_right _ hb) cT (λ_ h=>absurd h List.not_mem_nil) ⟨λ_ _=>List.not_mem_nil,λ_ _ _ _=>List.not_mem_nil,λ_ _ _ _ _ _ _=>List.not_mem_nil⟩ fH (λ_ _=>List.not_mem_nil) (Nat.le_refl _) (h':=fG.heap) (λ_ _ _ e=>e);exact q.q _ _ ⟨(Fl.ret v,H9),ry,tU,q4,As,(gS.trans cL).trans iG,Val.sub (λb hb=>List.mem_append_right _ hb) oJ⟩
   |_=>exact oJ.elim
end
end
theorem Rep.back {A':Around}{aau:Env}{aav:List Env}{AH:List Addr}{pX:Sc}{no':List Addr}(R:Rep C i loc hp s)(R':Rep {C with A:=A',env:=aau,d9:=aav,oc:=AH,sc:=pX,no:=no'} i' loc' hp' s'){X:List Addr}(K:aJ X i s i' s')(ap:Apart C X)
  (vk:∀v a,Val C.no i s.heap v a->Val no' i' s'.heap v a) (hf:s'.heap.FunFrames C.hb C.d9) (hci:∀x∈C.names,∀k,C.sc.lookup x=some k->k≠.local->∀c,C.env.cells.lookup x=some c->c∉i):Rep (C.cY no') i' loc hp' s':=by
 refine⟨R.ns.imp λm x=>⟨?_,λn v e=>(x.2 n v e).imp λy' z=>z.imp λk w=>⟨w.1,w.2.1,w.2.2.map vk λhk c a hc y=>y.elim λo w'=>⟨o,K.keep c o w'.1 (ap.cells y' (List.mem_of_getElem? w.1) k w.2.1 hk c hc) (hci y' (List.mem_of_getElem? w.1) k w.2.1 hk c hc),w'.2⟩⟩⟩,
  R'.len,R'.objs,R'.nd,R'.new,λb hb=>?_,R'.base,hf,R'.gens,R'.os,R'.pos,R.ll,R'.ej⟩
 ·refine lr (x.1) λo es ep e r=>?_;exact⟨o,es,ep,K.keep _ o e (ap.own _ (.head _)) (R.own _ (.head _)).1,r⟩
 ·obtain⟨h1,o,e,r⟩:=R.own b hb;exact⟨K.off e h1,o,K.keep b o e (ap.own b hb) h1,r⟩
theorem Rep.xU (R:Rep C i loc hp s)(x:Str)(hx:x∈C.names)(k:NameKind)(hk:C.sc.lookup x=some k)(mx:k≠.local)(c:Addr)(hc:C.env.cells.lookup x=some c):c∉i:=λhm=>by
 refine eH (R.cell hx hk mx hc) λa o q2 hd=>?_;refine cg (R.gy hm) λ_ _ _ _ q=>?_;refine fj (q.some) λo' e' _ _ q4=>?_;obtain rfl:=oi (q2.symm.trans e');exact q4 _ hd
theorem Val.Nu {wr:List Addr}{X:List Addr}(R:Rep C i loc hp s)(hf:∀b∈wr,s.heap.get? b=Option.none)(K:aJ X i s i' s')(hX:∀b∈X,s.heap.get? b=Option.none){v:V}{a:Value}(x:Val C.no i s.heap v a):Val (wr++C.no) i' s'.heap v a :=
 (x.fresh hf).keep K.g λb its hb y=>y.elim λn e=>⟨n,K.keep b _ e (λq=>bx ((hX b q).symm.trans e)) (R.lW ⟨n,e⟩).2⟩
theorem Rep.adopt {l no':List Addr}{D:Addr}(R:Rep (C.cY l) i loc hp s)(hD:D∈l)(cT:∀b∈no',b∈l∧b≠D)(ap:D∉C.own)(hb:C.hb.get? D=none){its:Array Value}{n:Nat}{vs:List V}(ho:s.heap.get? D=some (listOf its n))(hv:Vals l i s.heap vs its.toList) :
  Rep (C.cY no') (i++[D]) loc (hp++[.list vs]) s:=by
 have vk:∀v a,Val l i s.heap v a->Val no' i s.heap v a:=λv a x=>x.sub λb hb=>(cT b hb).1;have R':Rep (C.cY no') i loc hp s:=⟨R.ns.imp λm x=>⟨x.1,λn v e=>(x.2 n v e).imp λy z=>z.imp λk w=>⟨w.1,w.2.1,dO.map (C:=C.cY l) vk (λ_ _ _ _ h=>h) w.2.2⟩⟩,R.len,λn o e=>(R.objs n o e).imp λa q=>⟨q.1,q.2.map vk rfl⟩,R.nd,R.new,R.own,R.base,R.fR,R.gens,R.os,R.pos,R.ll,λb hb=>R.ej b (cT b hb).1⟩;exact R'.join (o:=.list vs) (R.ej D hD).1 ap hb (λh=>(cT D h).2 rfl) ⟨its,n,ho,(hv.map vk).keep (bB.snoc i D) (bq.refl _ _)⟩
theorem aJ.drop (K:aJ own i s i' s')(hf:∀b∈own,s.heap.get? b=Option.none):aJ [] i s i' s':=⟨λb o e _ h2=>K.keep b o e (λq=>by rw[hf b q]at e;exact(Option.some_ne_none _ e.symm).elim) h2,K.live,K.grow⟩
theorem aJ.adopt (K:aJ own i s i' s'){D:Addr}(hf:s.heap.get? D=Option.none):aJ own i s (i'++[D]) s':=by
 refine aj (K.grow) λt e ht=>?_;exact⟨K.keep,K.live,t++[D],by rw[e,List.append_assoc],λa ha=>(List.mem_append.mp ha).elim (ht a) λq=>List.mem_singleton.mp q▸hf⟩
noncomputable def jS (env:Env):List (Str×NameKind)->List (Str×Addr)->List (Str×Addr)
 |[],acc=>acc
 |(n,k)::r,acc=>if k==.free then jS env r ((n,(env.cells.lookup n).getD 0)::acc)else jS env r acc
theorem Fj (env:Env)(names:List (Str×NameKind)):∀(acc:List (Str×Addr)),(∀x,(x,NameKind.free)∈names->∃c,env.cells.lookup x=some c) ->
  (forIn names acc λ(p:Str×NameKind) cs=>match p with|(name,kind)=>(if kind==NameKind.free then do let a <- cellOf env name;pure (ForInStep.yield ((name,a)::cs))else pure (ForInStep.yield cs):Sem (ForInStep (List (Str×Addr)))))=pure (jS env names acc):=by
 induction names with
 |nil=>exact λ_ _=>rfl
 |cons p r ih =>
  intro acc h;obtain⟨n,k⟩:=p;have ih:=λa=>ih a λx hx=>h x (.tail _ hx);rw[List.forIn_cons];unfold jS;by_cases hk:(k==NameKind.free)=true
  ·obtain rfl:k=.free:=beq_iff_eq.mp hk;refine aQ (h n (.head _)) λc hc=>?_;have e1:cellOf env n=pure c:=by unfold cellOf;rw[hc]
   dsimp only;rw[if_pos hk,if_pos hk,e1,hc];exact ih ((n,c)::acc)
  ·dsimp only;rw[if_neg hk,if_neg hk];exact ih acc
theorem Fm {scope:Scope}{env:Env}(h:∀x,(x,NameKind.free)∈scope.names->∃c,env.cells.lookup x=some c):closureFor scope env=pure (jS env scope.names []):=by
 have:=Fj env scope.names [] h;exact(congrArg (λm=>m>>=λcs=>(pure cs:Sem (List (Str×Addr)))) this).trans rfl
theorem kP (env:Env)(x:Str)(names:List (Str×NameKind)):∀(acc:List (Str×Addr)),(∀x,(x,NameKind.free)∈names->∃c,env.cells.lookup x=some c) ->
  ((x,NameKind.free)∈names->(jS env names acc).lookup x=env.cells.lookup x)∧((x,NameKind.free)∉names->(jS env names acc).lookup x=acc.lookup x):=by
 induction names with
 |nil=>exact λacc _=>⟨λh=>absurd h List.not_mem_nil,λ_=>rfl⟩
 |cons p r ih =>
  intro acc h;obtain⟨n,k⟩:=p;have ih:=λa=>ih a λy hy=>h y (.tail _ hy);unfold jS;by_cases hk:(k==NameKind.free)=true
  ·obtain rfl:k=.free:=beq_iff_eq.mp hk;rw[if_pos hk];refine aQ (h n (.head _)) λc hc=>?_;rw[hc];by_cases hx:(x,NameKind.free)∈r
   ·exact⟨λ_=>(ih _).1 hx,λq=>absurd (.tail _ hx) q⟩
   ·rw[(ih ((n,(some c).getD 0)::acc)).2 hx,List.lookup_cons];refine⟨λq=>(List.mem_cons.mp q).elim (λq=>?_) λq=>absurd q hx,λq=>?_⟩
    ·rw[(Prod.mk.inj q).1,beq_self_eq_true];exact hc.symm
    ·cases z:x==n with
     |false=>rfl
     |true=>rw[beq_iff_eq.mp z]at q;exact absurd (.head _) q
  ·rw[if_neg hk];exact⟨λq=>(ih acc).1 ((List.mem_cons.mp q).elim (λq=>absurd (beq_iff_eq.mpr (Prod.mk.inj q).2.symm) hk) id),λq=>(ih acc).2 λq'=>q (.tail _ q')⟩
theorem wJ {env:Env}{names:List (Str×NameKind)}{x:Str}{k:NameKind}(h:names.lookup x=some k) :
  (names.map λ(n,k)=>if(k==NameKind.free&&env.scope.kind==.function&&env.kindOf n==some .cell)then(n,NameKind.cell)else(n,k)).lookup x=some (if(k==NameKind.free&&env.scope.kind==.function&&env.kindOf x==some .cell)then .cell else k):=by
 induction names with
 |nil=>exact bx h
 |cons p r ih =>
  obtain⟨n,k'⟩:=p;show List.lookup x ((if(k'==NameKind.free&&env.scope.kind==.function&&env.kindOf n==some .cell)=true then(n,NameKind.cell)else(n,k'))::_)=_
  rw[List.lookup_cons]at h;cases hx:x==n with
  |true =>
   rw[hx]at h;obtain rfl:=oi h;rw[beq_iff_eq.mp hx];by_cases hc:(k'==NameKind.free&&env.scope.kind==.function&&env.kindOf n==some .cell)=true
   ·rw[if_pos hc,if_pos hc,List.lookup_cons,beq_self_eq_true]
   ·rw[if_neg hc,if_neg hc,List.lookup_cons,beq_self_eq_true]
  |false =>
   rw[hx]at h;by_cases hc:(k'==NameKind.free&&env.scope.kind==.function&&env.kindOf n==some .cell)=true
   ·rw[if_pos hc,List.lookup_cons,hx];exact ih h
   ·rw[if_neg hc,List.lookup_cons,hx];exact ih h
section
theorem bP {A:Type}{x:Str}{k:A}{l:List (Str×A)}(h:l.lookup x=some k):(x,k)∈l:=by
 induction l with
 |nil=>exact bx h
 |cons p r ih =>
  rw[List.lookup_cons]at h;cases hx:x==p.1 with
  |true=>rw[hx]at h;obtain rfl:=oi h;rw[beq_iff_eq.mp hx];exact .head _
  |false=>rw[hx]at h;exact .tail _ (ih h)
theorem fS {x:Str}{k:NameKind}{l:Sc}(nd:(l.map (·.1)).Nodup)(h:(x,k)∈l):l.lookup x=some k:=by
 induction l with
 |nil=>exact absurd h List.not_mem_nil
 |cons p r ih =>
  have nd:=List.nodup_cons.mp nd;rw[List.lookup_cons];rcases List.mem_cons.mp h with h|h
  ·rw[<- h,beq_self_eq_true]
  ·cases z:x==p.1 with
   |false=>exact ih nd.2 h
   |true=>exact absurd (List.mem_map.mpr ⟨_,h,beq_iff_eq.mp z⟩) nd.1
theorem jT {sc pX:Sc}(h:oC sc pX=true) :
  (∀p∈pX,p.2=.local∨p.2=.globalImplicit∨(p.2=.free∧(slot sc p.1).isSome=true∧(sc.lookup p.1=some .cell∨sc.lookup p.1=some .free)))∧(pX.map (·.1)).Nodup∧∀p∈pX,(p.1==("__debug__":Str))=false:=by
 refine bp (bk h) λh h3=>?_;refine bp (bk h) λh1 h2=>?_;refine⟨λp hp=>?_,of_decide_eq_true h2,λp hp=>?_⟩
 ·have:=List.all_eq_true.mp h1 p hp;simp only[Bool.or_eq_true,Bool.and_eq_true,beq_iff_eq]at this;exact this.elim (λq=>q.elim .inl λq=>.inr (.inl q)) λq=>.inr (.inr ⟨q.1.1,q.1.2,q.2⟩)
 ·have:=List.all_eq_true.mp h3 p hp;exact(Bool.not_eq_true' _).mp this
abbrev Cx.ka (C:Cx)(scope:Scope)(L:Addr)(no':List Addr):Cx:={C with env:=compEnvC scope (jS C.env scope.names []) L C.env,d9:=C.d9,oc:=[],sc:=scope.names,no:=no'}
section
variable {n N:Nat}{d:cy}{c:Ca}{scope:Scope}(O:C.Ok n)(hm:oC C.sc scope.names=true)
include O hm
theorem yR:∀x,(x,NameKind.free)∈scope.names->∃c,C.env.cells.lookup x=some c:=λx hx=>by
 refine ke (jT hm) λh1 _ _=>?_;rcases h1 _ hx with q|q|⟨_,_,q⟩
 ·cases q
 ·cases q
 ·refine(q).elim (λq=>?_) λq=>?_
  ·obtain⟨⟨_,c,hc,_⟩,_⟩:=O.names x _ q;exact⟨c,hc⟩
  ·obtain⟨⟨_,c,hc⟩,_⟩:=O.names x _ q;exact⟨c,hc⟩
theorem TG (ae:Rep C i loc hp s)(hk:scope.kind=.function)(hg:scope.isGenerator=false∧scope.isCoroutine=false){L:Addr}(hL:s.heap.get? L=none)(hL2:C.L≤L){no':List Addr}(cT:∀b∈no',C.hb.get? b=none):(C.ka scope L no').Ok n:=by
 refine ke (jT hm) λh1 h2 h3=>?_;have Ia:=yR O hm;have yS:(relabel scope C.env).kind=.function:=hk;refine⟨O.frames,O.depth,O.units,O.handled,O.dJ,O.top,hk,O.globals,O.builtins,λx k e=>?_,h2,λx y c ex ey=>?_,λb hb=>?_,?_,cT,O.frame,hg⟩
 ·have ng:=bP e;refine⟨?_,h3 _ ng⟩;have hr:=wJ (env:=C.env) e;rcases h1 _ ng with q|q|⟨q,_,q2⟩
  ·subst q;exact hr
  ·subst q;exact hr
  ·simp only at q q2;subst q;refine aQ (Ia x ng) λc hc=>?_;have nR:(jS C.env scope.names []).lookup x=some c:=((kP C.env x scope.names [] Ia).1 ng).trans hc;refine⟨?_,c,nR⟩;have qD:(C.ka scope L no').env.kindOf x=some (if(NameKind.free==NameKind.free&&C.env.scope.kind==.function&&C.env.kindOf x==some .cell)then .cell else .free):=hr
   rw[O.kind]at qD;by_cases hx:C.env.kindOf x=some .cell
   ·left;rw[qD,hx];rfl
   ·refine(q2).elim (λq2=>?_) λq2=>?_
    ·obtain⟨⟨q3,_⟩,_⟩:=O.names x _ q2;exact absurd q3 hx
    ·obtain⟨⟨q3,_⟩,_⟩:=O.names x _ q2;rcases q3 with q3|⟨q3,q4⟩
     ·exact absurd q3 hx
     ·right;rw[qD,q3];exact⟨rfl,q4⟩
 ·have ex':(jS C.env scope.names []).lookup x=some c:=ex;have ey':(jS C.env scope.names []).lookup y=some c:=ey
  have jU:∀z,(jS C.env scope.names []).lookup z=some c->C.env.cells.lookup z=some c:=λz ez=>by
   have:=kP C.env z scope.names [] Ia;by_cases hz:(z,NameKind.free)∈scope.names
   ·rw[<- this.1 hz];exact ez
   ·rw[this.2 hz]at ez;exact(Option.some_ne_none _ ez.symm).elim
  exact O.cells x y c (jU x ex') (jU y ey')
 ·rw[List.mem_singleton.mp hb];exact jE O ae hL
 ·exact Nat.le_trans O.above hL2
theorem Rep.ka {no':List Addr}(R:Rep (C.cY no') i loc hp s){L:Addr}{m:Str->Option Value}(qy:s.heap.Ns L m)(CV:L∉i) :
  Rep (C.ka scope L no') i (kM (mapOf C.sc scope.names) loc) hp s:=by
 refine ke (jT hm) λh1 h2 h3=>?_;have Ia:=yR O hm;refine aj (R.ns) λm' nO kz=>?_;refine⟨⟨m,qy,λk v e=>?_⟩,R.len,R.objs,R.nd,R.new,λb hb=>?_,R.base,R.fR,R.gens,R.os,R.pos,?_,R.ej⟩
 ·replace e:((mapOf C.sc scope.names).map λo=>match o with|some k=>(loc[k]?).getD none|none=>none)[k]?=some v:=e
  unfold mapOf at e;rw[List.map_map,List.getElem?_map]at e;refine aj (Option.map_eq_some_iff.mp e) λp hp e=>?_;have hp':(bW scope.names)[k]?=some p.1:=by unfold bW;rw[List.getElem?_map,hp];rfl
  have ng:=(List.mem_filter.mp (List.mem_of_getElem? hp));refine⟨p.1,p.2,hp',fS h2 ng.1,?_⟩;rcases h1 _ ng.1 with q|q|⟨q,q1,q2⟩
  ·simp only[Function.comp,q]at e;rw[q];subst e;intro u hu;exact(Option.some_ne_none _ hu.symm).elim
  ·rw[q]at ng;exact absurd ng.2 (by simp[uv])
  ·rw[q];simp only[Function.comp,q]at e;refine aQ (Option.isSome_iff_exists.mp q1) λj hj=>?_;simp only[hj,beq_self_eq_true,if_true]at e;have hn:=iH hj;have YS:j<loc.length:=by rw[R.ll];exact(List.getElem?_eq_some_iff.mp hn).1
   rw[List.getElem?_eq_getElem YS]at e;refine cg (kz j loc[j] (List.getElem?_eq_getElem YS)) λy ky e1 e2 e3=>?_;have TH:(C.cY no').names[j]?=some p.1:=hn;rw[TH]at e1;obtain rfl:=oi e1
   have:∃c a,C.env.cells.lookup p.1=some c∧s.heap.IsCell c a∧∀u,loc[j]=some u->∃b,a=some b∧Val no' i s.heap u b:=by
    refine(q2).elim (λq2=>?_) λq2=>?_
    ·have lE:C.sc.lookup p.1=some ky:=e2;rw[q2]at lE;obtain rfl:=oi lE;exact e3
    ·have lE:C.sc.lookup p.1=some ky:=e2;rw[q2]at lE;obtain rfl:=oi lE;exact e3
   refine cg this λc a r1 r2 r3=>?_;have Xp:(p.1,NameKind.free)∈scope.names:=by rw[<- q];exact ng.1
   refine⟨c,a,((kP C.env p.1 scope.names [] Ia).1 Xp).trans r1,r2,λu hu=>r3 u ?_⟩;rw[<- hu,<- e];rfl
 ·rw[List.mem_singleton.mp hb];refine m7 (id qy) λo es ep ho hd _=>?_;exact⟨CV,o,ho,by rw[hd];simp,by rw[hd];simp⟩
 ·show((mapOf C.sc scope.names).map _).length=_;unfold mapOf Cx.names bW;simp
end
section
variable {prog:Program}{w:World}{A:Around}{R:Result->Shared->Prop}
def Xq (M:Model)(A:Around)(R:Result->Shared->Prop)(elt target:Expr)(ifs:List Expr)(env:Env)(it acc:Value)(J:Shared->Prop)(s:Shared):Prop :=
 wpAny M A (pyNext it) (λr ah=>match r with
   |none=>R (.ok .next) ah
   |some v=>wpAny M A (letOwnedTupleGo target it v) (λ_ Nv=>wpAny M A (assign target env v) (λ_ aO =>
     wpAny M A (forIn ifs true λc r=>if r=true then do let ok <- isTrue c env (eval c env);pure (ForInStep.yield ok)else pure (ForInStep.yield r)) (λok eR =>
      if ok=true then wpAny M A (eval elt env) (λx fG =>
       wpAny M A (call (.builtin "list.append") [acc,x]) (λ_ dF=>J dF) (notedBy M A env λe s'=>R (.error e) s') fG) (notedBy M A env λe s'=>R (.error e) s') eR
      else J eR) (notedBy M A env λe s'=>R (.error e) s') aO) (notedBy M A env λe s'=>R (.error e) s') Nv) (notedBy M A env λe s'=>R (.error e) s') ah) (notedBy M A env λe s'=>R (.error e) s') s
theorem oR {elt target iter:Expr}{ifs:List Expr}{scope:Scope}{pos:Pos}{it acc:Value}{env:Env}(I:Nat->Shared->Prop)
  (turn:∀n s,I n s->Xq (model prog w) A R elt target ifs env it acc (λs=>∃m,m<n∧I m s) s)
  (n:Nat) (h:I n s) :
  codeAny (model prog w) A (.compLoop (.ListComp elt [⟨target,iter,ifs,0⟩] scope pos) 0 it acc env) R s:=by
 refine codeAny_loop rfl I (λn s hI=>?_) n h;show wpAny _ A ((compTurn (.ListComp elt [⟨target,iter,ifs,0⟩] scope pos) 0 it acc env).onRaise (λx=>do noteFrame x env;theTreesLotGoes x)) _ _ s
 refine wpAny_noted ?_;rw[compTurn_list];refine wpAny_bind (wpAny_standAt (wpAny_bind (wpAny_mono (turn n s hI) (λr ah dR=>?_) λ_ _ h'=>h')));cases r with
 |none=>exact wpAny_pure dR
 |some v =>
  refine wpAny_bind (wpAny_mono dR (λ_ Nv Xr=>?_) λ_ _ h'=>h');refine wpAny_bind (wpAny_mono Xr (λ_ aO ie=>wpAny_bind (wpAny_mono ie (λok eR TJ=>?_) λ_ _ h'=>h')) λ_ _ h'=>h');cases ok with
  |false=>exact wpAny_pure ⟨rfl,TJ⟩
  |true =>
   exact wpAny_bind (wpAny_bind (wpAny_mono TJ (λx fG qE=>wpAny_bind (wpAny_mono qE (λ_ dF TK=>wpAny_pure (wpAny_pure ⟨rfl,TK⟩)) λ_ _ h'=>h')) λ_ _ h'=>h'))
end
theorem Ce (env:Env)(ifs:List Expr):(forIn ifs false λc r=>if r=true then do let ok <- isTrue c env (eval c env);pure (ForInStep.yield ok)else pure (ForInStep.yield r):Sem Bool)=pure false:=by
 induction ifs with
 |nil=>rfl
 |cons _ r ih=>rw[List.forIn_cons];exact ih
section
variable {n N:Nat}{d:cy}{c:Ca}(O:C.Ok n)(F:bU C.w.params)(D:c5 n d)
include O F D
theorem Lm (ifs:List Expr):∀{i loc hp s},Rep C i loc hp s->SB C [] i loc s (aS true (ifs.map (d.te C.sc)) loc hp) (forIn ifs true λc r=>if r=true then do let ok <- isTrue c C.env (eval c C.env);pure (ForInStep.yield ok)else pure (ForInStep.yield r)):=by
 induction ifs with
 |nil=>exact λae=>sn λq=>wpAny_pure (q.fin ae rfl)
 |cons e r ih =>
  intro i loc hp s ae;rw[List.forIn_cons];refine sn λ{Q E} q=>wpAny_bind (wpAny_bind (cU (D.te O F.base ae e) q λa b au aB ah ak k₁ aP q=>wpAny_pure ?_));subst aP;cases a with
  |true=>exact(ih ak).to q
  |false =>
   show wpAny _ _ (forIn r false λc r=>if r=true then do let ok <- isTrue c C.env (eval c C.env);pure (ForInStep.yield ok)else pure (ForInStep.yield r)) _ _ _
   rw[Ce];exact wpAny_pure (q.fin ak rfl)
end
end
section
section
variable {tg:Tg}{ifs:Tx}{elt:Ex}{m:Nat}{it gb:It}{acc:List V}{loc:Loc}{hp:HP}{r:R (List V)}{v:V}
theorem Cf (h:cS tg ifs elt m it acc loc hp=r)(hr:r≠.bad):∃r',it.next hp=some r':=by
 cases m with
 |zero=>exact absurd h.symm hr
 |succ m =>
  cases hn:it.next hp with
  |none=>unfold cS at h;rw[hn]at h;exact absurd h.symm hr
  |some r'=>exact⟨r',rfl⟩
theorem Fo (h:cS tg ifs elt m it acc loc hp=r)(hr:r≠.bad)(hn:it.next hp=some none):.ok acc hp=r:=by
 cases m with
 |zero=>exact absurd h.symm hr
 |succ m=>unfold cS at h;rw[hn]at h;exact h
theorem Cg (h:cS tg ifs elt m it acc loc hp=r)(hr:r≠.bad)(hn:it.next hp=some (some (v,gb))):∃m' c9,m=m'+1∧tg.put v loc=some c9∧az (ifs c9 hp) (λb hp=>if b then az (elt c9 hp) λx hp=>(if acc.length≤1000 then cS tg ifs elt m' gb (acc++[x]) c9 hp else .bad)else cS tg ifs elt m' gb acc c9 hp)=r:=by
 cases m with
 |zero=>exact absurd h.symm hr
 |succ m =>
  unfold cS at h;rw[hn]at h;dsimp only at h;cases hq:tg.put v loc with
  |none=>rw[hq]at h;exact absurd h.symm hr
  |some l=>rw[hq]at h;exact⟨m,l,rfl,rfl,h⟩
end
theorem Cj {iter:Expr}(h:iC iter=true):km iter=false:=by
 unfold km;cases hc:iB iter with
 |none=>rfl
 |some q =>
  refine aQ (mM hc) λp aC=>?_;subst aC;show(match asName q.1 with|some f=>_|none=>false)=false
  cases hf:asName q.1 with
  |none=>rfl
  |some x =>
   refine aQ (jD hf) λp' e=>?_;rw[e]at h;exact(Bool.or_eq_false_iff.mp ((Bool.not_eq_true' _).mp h)).2
theorem Apart.sub {wr YT:List Addr}(x:Apart C wr)(h:∀b∈YT,b∈wr):Apart C YT:=⟨λb hb q=>x.own b hb (h b q),λe he L hL q=>x.d9 e he L hL (h L q),λy hy k hk mx c hc q=>x.cells y hy k hk mx c hc (h c q)⟩
section
variable {n N:Nat}{d:cy}{c:Ca}(O:C.Ok n)(F:bU C.w.params)(D:c5 n d)
include O F D
omit O F in
theorem Ib {Ci:Cx}(Oi:Ci.Ok n)(Fi:bU Ci.w.params){ifs:List Expr}{elt t:Expr}{wr:List Addr}{P:Expr->Prop}{at_:List Addr->It->Pl->Heap->Prop}{I DD:Addr}(hI:Iter Ci wr I P at_)(my:∀b∈wr,b∈Ci.no)(apD:Apart Ci [DD])(Ic:DD∈Ci.no)
  (Dw:DD∉wr) (Down:DD∉Ci.own) (Lw:∀b∈wr,b∉Ci.own) {tg:Tg} (fy:lz Ci.sc t=some tg) {go:Nat->It->List V->Loc->HP->R (List V)} {m:Nat} {it:It} {acc:List V} {c9:Loc} {r:R (List V)}
  (er:az (aS true (ifs.map (d.te Ci.sc)) c9 hp) (λb hp=>if b=true then az (d.ex Ci.sc elt c9 hp) (λx hp=>if acc.length≤1000 then go m it (acc++[x]) c9 hp else .bad)else go m it acc c9 hp)=r) (CZ:r≠.bad) (YU:∀k,r≠.gI k)
  {m9:Shared} {wI:Pl} (aV:Rep Ci i loc hp s) (gS:aJ Ci.own wI m9 i s) (fD:m9.heap.get? DD=none) {v:V} {a:Value} (hv:Val Ci.no i s.heap v a) (oP:tg.put v loc=some c9) (at2:at_ Ci.no it i s.heap) {its:Array Value} {k:Nat} (eD:s.heap.get? DD=some (listOf its k)) (vD:Vals Ci.no i s.heap acc its.toList)
  {J:Shared->Prop} {E:Value->Shared->Prop} (hJ:∀acc hp' i' its k s',go m it acc c9 hp'=r->Rep Ci i' c9 hp' s'->aJ Ci.own wI m9 i' s'->at_ Ci.no it i' s'.heap->s'.heap.get? DD=some (listOf its k)->Vals Ci.no i' s'.heap acc its.toList->J s') :
  wpAny Ci.M Ci.A (assign t Ci.env a) (λ_ aO=>wpAny Ci.M Ci.A (forIn ifs true λc r=>if r=true then do let ok <- isTrue c Ci.env (eval c Ci.env);pure (ForInStep.yield ok)else pure (ForInStep.yield r)) (λok eR =>
   if ok=true then wpAny Ci.M Ci.A (eval elt Ci.env) (λx fG=>wpAny Ci.M Ci.A (call (.builtin "list.append") [.ref DD,x]) (λ_ dF=>J dF) E fG) E eR else J eR) E aO) E s:=by
 have kD:∀{aB cm:Pl} {a b:Shared},aJ Ci.own aB a cm b->DD∉aB->∀{o},a.heap.get? DD=some o->b.heap.get? DD=some o:=λK qm o e=>K.keep DD o e Down qm;have kW:∀{aB cm:Pl} {a b:Shared},aJ Ci.own aB a cm b->(∀b∈wr,b∉aB)->∀b'∈wr,∀o,a.heap.get? b'=some o->b.heap.get? b'=some o:=λK qm b' hb o e=>K.keep b' o e (Lw b' hb) (qm b' hb);have tk:∀{aB cm:Pl} {l:Loc} {p:HP} {a b:Shared},aJ Ci.own aB a cm b->Rep Ci aB l p a->bq Ci.no a.heap b.heap:=λK R=>K.tup R λb hb=>hb;have tN:∀b∈([]:List Addr),b∈Ci.own:=λ_ h=>absurd h nofun;refine xR Oi fy aV hv oP λeR cj cL=>?_;have eD3:=kD cL (aV.ej DD Ic).1 eD;have vD3:=vD.keep cL.g (tk cL aV);refine uz (C:=Ci) (Lm Oi Fi D ifs cj) (by rw[er];exact CZ) (λok b ry tU fG q4 fH iG oJ uP=>?_) λe xP z=>z.elim λk y=>absurd (er.symm.trans y.1) (YU k);rw[er]at q4;subst oJ;have rC:=iG.weaken tN;have Nt:=hI.keep (hI.keep at2 (bB.refl _) (tk cL aV) (kW cL λb hb=>(aV.ej b (my b hb)).1)) iG.g (tk rC cj) (kW rC λb hb=>(cj.ej b (my b hb)).1);have YV:=kD rC (cj.ej DD Ic).1 eD3;have YW:=vD3.keep iG.g (tk rC cj);cases ok with
 |false=>exact hJ acc ry tU its k fG q4.symm fH ((gS.trans cL).trans rC) Nt YV YW
 |true =>
  have q4:r=az (d.ex Ci.sc elt c9 ry) (λx hp=>if acc.length≤1000 then go m it (acc++[x]) c9 hp else .bad):=q4
  refine uz (C:=Ci) (D.ex Oi Fi.base fH elt) uP (λx v Fp Ln dF q5 As EZ aaw Xs=>?_) λe xP z=>z.elim λk y=>absurd (q4.trans y.1) (YU k);rw[<- q4]at q5;have uQ:=EZ.weaken tN;have YX:=YW.keep EZ.g (tk uQ fH);by_cases hlen:acc.length≤1000
  ·rw[if_pos hlen]at q5
   refine append_at (kD uQ (fH.ej DD Ic).1 YV) (λh6 hs6 C0=>?_) (by
    have h2:sizeLine=2 ^ 24:=rfl;rw[<- Array.length_toList,<- (YX.length),h2];(apply aI<;>trivial))
   have Fq:Off [DD] dF.heap h6:=Off.of hs6 (.head _);have TL:bq Ci.no dF.heap h6:=Fq.tk λb hb=>List.mem_singleton.mp hb▸Ic
   refine hJ (acc++[v]) Fp Ln (its.push x) _ _ q5.symm (Rep.turn (wr:=[DD]) (d:=dF.drawn) (t:=dF.toks) Oi (λb hb=>List.mem_singleton.mp hb▸Ic) apD As (Nat.le_refl _) Fq (λb hb=>by rw[List.mem_singleton.mp hb];exact⟨_,C0⟩)) ((((gS.trans cL).trans rC).trans uQ).turn (wr:=[DD]) (λb hb=>List.mem_singleton.mp hb▸fD) (d:=dF.drawn) (t:=dF.toks) Fq rfl)
    (hI.keep (hI.keep Nt EZ.g (tk uQ fH) (kW uQ λb hb=>(fH.ej b (my b hb)).1)) (bB.refl _) TL (λb hb o e=>Fq b o (λq=>Dw (List.mem_singleton.mp q▸hb)) e)) C0 ?_
   rw[Array.toList_push];exact(YX.keep (bB.refl _) TL).append (.cons (aaw.keep (bB.refl _) TL) .nil)
  ·exact absurd (if_neg hlen) Xs
omit F D in
theorem Fs {scope:Scope}(hm:oC C.sc scope.names=true){wr no':List Addr}{DD:Addr}(Lw:DD+1∉wr)(mP:Apart C ([DD+1,DD]++wr)):Apart (C.ka scope (DD+1) no') (DD::wr):=by
 refine bC λnG=>?_;refine ke (jT hm) λAI TM hm3=>?_;refine nG ?_;have mem:∀b∈DD::wr,b∈[DD+1,DD]++wr:=λb q=>.tail _ q;refine⟨λb hb q=>?_,λe he L hL q=>mP.d9 e he L hL (mem L q),λx hx k xV mx c hc q=>?_⟩
 ·have jj:b=DD+1:=List.mem_singleton.mp hb;subst jj;exact(List.mem_cons.mp q).elim (Nat.succ_ne_self _) Lw
 ·refine aj (qj (List.mem_iff_getElem?.mp hx).choose_spec) λkk hk1 hk2=>?_;rcases AI _ (bP xV)with q'|q'|⟨q',q1',Ie⟩
  ·exact mx q'
  ·have q':k=.globalImplicit:=q';rw[q',fS TM hk1]at xV;cases oi xV;exact absurd hk2 nofun
  ·have q':k=.free:=q';subst q';refine aQ (Option.isSome_iff_exists.mp q1') λj hj=>?_;have YY:C.env.cells.lookup x=some c:=((kP C.env x scope.names [] (yR O hm)).1 (bP xV)).symm.trans hc;exact Ie.elim (λIe=>mP.cells x (List.mem_of_getElem? (iH hj)) _ Ie (by simp) c YY (mem c q)) λIe=>mP.cells x (List.mem_of_getElem? (iH hj)) _ Ie (by simp) c YY (mem c q)
theorem xW (ae:Rep C i loc hp s)(elt t iter:Expr)(ifs:List Expr)(scope:Scope)(pos:Pos){tg:Tg}(fy:lz scope.names t=some tg)(hm:oC C.sc scope.names=true)(hk:scope.kind=.function)(hg:scope.isGenerator=false∧scope.isCoroutine=false)
  (Ig:iC iter=true) (hb:cq N (eY d C.sc iter) (mapOf C.sc scope.names) tg (aS true (ifs.map (d.te scope.names))) (d.ex scope.names elt) loc hp≠.bad) {use:Option (Value->Sem Unit)} {pos':Pos} {Q:Value->Shared->Prop} {E:Value->Shared->Prop}
  (hQ:∀vs hp' i' s' DD L,cq N (eY d C.sc iter) (mapOf C.sc scope.names) tg (aS true (ifs.map (d.te scope.names))) (d.ex scope.names elt) loc hp=.ok (.ref hp'.length) (hp'++[.list vs])->Rep (C.cY (L::C.no)) (i'++[DD]) loc (hp'++[.list vs]) s'->aJ [] i s (i'++[DD]) s' ->
   (∃m,s'.heap.Ns L m)->s.heap.get? L=none->Apart C [L]->(C.cY (L::C.no)).Ok n->i'.length=hp'.length->compPost C.M C.A E use Q (.ref DD) L (.ok .next) s')
  (hE:∀e s',PX C [] i s (cq N (eY d C.sc iter) (mapOf C.sc scope.names) tg (aS true (ifs.map (d.te scope.names))) (d.ex scope.names elt) loc hp) e s'->E e s') :
  wpAny C.M C.A (comprehension (.ListComp elt [⟨t,iter,ifs,0⟩] scope pos) scope C.env pos' (newList []) false (eval iter C.env) use) Q E s:=by
 refine bC λnG=>?_;refine ke (jT hm) λAI TM hm3=>?_;refine nG ?_;have gR:∀x,foldedSetIterable iter C.env x=pure x:=xT iter λe=>hb (by unfold cq;rw[e];rfl)
 have kN:∀x∈scope.names,x.2≠.cell:=λx hx q=>by
  rcases AI x hx with q'|q'|⟨q',_⟩<;>rw[q]at q'<;>cases q'
 have nb:eY d C.sc iter loc hp≠.bad:=kY hb;have hb:az (eY d C.sc iter loc hp) (En N (mapOf C.sc scope.names) tg (aS true (ifs.map (d.te scope.names))) (d.ex scope.names elt) loc)≠.bad:=hb;refine wpAny_comprehension_free (cl:=jS C.env scope.names []) rfl gR (Fm (yR O hm)) hk (λx hx q=>by rw[<- q];exact fS TM hx) (xQ O F D ae iter ⟨AE fy,λq=>ft ((Cj Ig).symm.trans q)⟩ nb (λ{it au aB I ah} er m=>?_) λz=>hE _ _ z.az);refine bC λnG=>?_;obtain⟨wr,P,at_,hf,mk,hP,ak,k₁,Lk,ap,O',hIw⟩:=m;refine nG ?_;have eq0:cq N (eY d C.sc iter) (mapOf C.sc scope.names) tg (aS true (ifs.map (d.te scope.names))) (d.ex scope.names elt) loc hp=En N (mapOf C.sc scope.names) tg (aS true (ifs.map (d.te scope.names))) (d.ex scope.names elt) loc it au:=(congrArg (az · _) er).trans rfl;rw[er]at hb;rw[eq0]at hQ;have rD:az (yF (cS tg (aS true (ifs.map (d.te scope.names))) (d.ex scope.names elt) N it [] (kM (mapOf C.sc scope.names) loc) au)) oy≠.bad:=hb
 have hQ:∀vs hp' i' s' DD L,az (yF (cS tg (aS true (ifs.map (d.te scope.names))) (d.ex scope.names elt) N it [] (kM (mapOf C.sc scope.names) loc) au)) oy=.ok (.ref hp'.length) (hp'++[.list vs])->Rep (C.cY (L::C.no)) (i'++[DD]) loc (hp'++[.list vs]) s'->aJ [] i s (i'++[DD]) s' ->
   (∃m,s'.heap.Ns L m)->s.heap.get? L=none->Apart C [L]->(C.cY (L::C.no)).Ok n->i'.length=hp'.length->compPost C.M C.A E use Q (.ref DD) L (.ok .next) s':=hQ
 generalize hr:cS tg (aS true (ifs.map (d.te scope.names))) (d.ex scope.names elt) N it [] (kM (mapOf C.sc scope.names) loc) au=r at rD;rw[hr]at hQ;clear hE;refine wpAny_newObj_type (hd:=by size_fits) (wpAny_newFunctionEnv kN (by intro y hy;simp at hy) (λdR qF qG=>?_) hk);have xG:(ah.heap.push {cls:=.type "list",dict:=none,data:=.seq ([]:List Value).toArray}).objs.size=ah.heap.objs.size+1:=Heap.size_push ..;dsimp only at qF qG ⊢;rw[xG]at qF qG ⊢;generalize Ih:ah.heap.objs.size=DD at qF qG ⊢;have eD:ah.heap.get? DD=none:=by rw[<- Ih];exact eV _ 0
 have eL:ah.heap.get? (DD+1)=none:=by rw[<- Ih];exact eV _ 1
 have YZ:(DD+1:Addr)≠DD:=Nat.succ_ne_self _
 have old:∀b o,ah.heap.get? b=some o->dR.get? b=some o:=λb o e=>by
  have iF:=Heap.lt_size e;rw[Ih]at iF;exact qG.extBut b o (Nat.ne_of_lt (Nat.lt_succ_of_lt iF)) (Heap.get?_push_of_some _ (Heap.get?_push_of_some _ e))
 have TN:dR.get? DD=some (listOf #[] 0):=qG.extBut _ _ (Nat.ne_of_lt (Nat.lt_succ_self _)) (Heap.get?_push_of_some _ (by rw[<- Ih];exact Heap.get?_push_size _ rfl));refine bC λnG=>?_;refine m7 (id qF) λoL esL epL qH mQ _=>?_;refine nG ?_;have fL:s.heap.get? (DD+1)=none:=k₁.none eL;have fD:s.heap.get? DD=none:=k₁.none eD
 have Nw:∀b∈[DD+1,DD],ah.heap.get? b=none:=by
  intro b hb;rcases List.mem_cons.mp hb with rfl|hb
  ·exact eL
  ·rw[List.mem_singleton.mp hb];exact eD
 have Y0:∀b∈[DD+1,DD]++wr,s.heap.get? b=none:=λb hb=>by
  rcases List.mem_append.mp hb with q|q
  ·exact k₁.none (Nw b q)
  ·exact hf b q
 have fH:Rep ((C.cY (wr++C.no)).cY ([DD+1,DD]++(wr++C.no))) aB loc au {heap:=dR,gens:=ah.gens,drawn:=ah.drawn,toks:=ah.toks+0,os:=ah.os}:=ak.enter O' (wr:=[DD+1,DD]) (d:=ah.drawn) (Nat.le_refl _) old Nw (by
  intro b hb;rcases List.mem_cons.mp hb with rfl|hb
  ·exact⟨_,qH⟩
  ·rw[List.mem_singleton.mp hb];exact⟨_,TN⟩)
 have Lo:∀b∈[DD+1,DD]++(wr++C.no),C.hb.get? b=none:=λb hb=>by
  rcases List.mem_append.mp hb with q|q
  ·exact jE O ae (k₁.none (Nw b q))
  ·exact O'.noNew b q
 have Oi:=TG O hm (no':=[DD+1,DD]++(wr++C.no)) (L:=DD+1) (s:=s) ae hk hg fL (by
  obtain⟨_,o,e,_⟩:=ae.own _ (.head _);refine aQ (k₁.live _ _ e) λo' e'=>?_;have iF:=Heap.lt_size e';rw[Ih]at iF;exact Nat.le_of_lt (Nat.lt_succ_of_lt iF)) Lo
 have CZ:r≠.bad:=λq=>by rw[q]at rD;exact rD rfl
 have Nx:∀b∈wr,∃o,ah.heap.get? b=some o:=λb hb=>(ak.ej b (List.mem_append_left _ hb)).2;have Lw:DD+1∉wr:=λq=>by obtain⟨o,e⟩:=Nx _ q;rw[eL]at e;cases e
 have Dw:DD∉wr:=λq=>by obtain⟨o,e⟩:=Nx _ q;rw[eD]at e;cases e
 have Rin:=Rep.ka (scope:=scope) (loc:=loc) (C:=C) O hm (no':=[DD+1,DD]++(wr++C.no)) fH qF (λq=>by
  refine cg (ak.gy q) λ_ _ _ _ x=>?_;refine aj (x.some) λo e _=>?_;rw[eL]at e;cases e)
 have my:∀b∈wr,b∈[DD+1,DD]++(wr++C.no):=λb hb=>List.mem_append_right _ (List.mem_append_left _ hb);have hI:=mk Oi my;have TP:=hI.keep (h':=dR) (hI.fresh Lk Nw) (bB.refl _) (bq.of old) (λb _ o e=>old b o e);have aax:aJ [DD+1] i s aB {heap:=dR,gens:=ah.gens,drawn:=ah.drawn,toks:=ah.toks+0,os:=ah.os}:=(k₁.trans (ak.more (own:=[]) (t:=ah.toks+0) (d:=ah.drawn) old).2).weaken (by simp);have mP:Apart C ([DD+1,DD]++wr):=ae.apart Y0;have C1:Apart (C.ka scope (DD+1) ([DD+1,DD]++(wr++C.no))) (DD::wr):=Fs O hm Lw mP;have Y1:∀b∈[DD+1],s.heap.get? b=none:=λb hb=>by rw[List.mem_singleton.mp hb];exact fL
 have loop:codeAny C.M C.A (.compLoop (.ListComp elt [⟨t,iter,ifs,0⟩] scope pos) 0 (.ref I) (.ref DD) (C.ka scope (DD+1) ([DD+1,DD]++(wr++C.no))).env) (compPost C.M C.A E use Q (.ref DD) (DD+1)) {heap:=dR,gens:=ah.gens,drawn:=ah.drawn,toks:=ah.toks+0,os:=ah.os}:=by
  refine oR (λm s'=>∃gb acc loc' hp' i' its k,cS tg (aS true (ifs.map (d.te scope.names))) (d.ex scope.names elt) m gb acc loc' hp'=r∧Rep (C.ka scope (DD+1) ([DD+1,DD]++(wr++C.no))) i' loc' hp' s'∧aJ [DD+1] i s i' s'∧at_ ([DD+1,DD]++(wr++C.no)) gb i' s'.heap∧s'.heap.get? DD=some (listOf its k)∧Vals ([DD+1,DD]++(wr++C.no)) i' s'.heap acc its.toList) (λm s' TB=>?_) N ⟨it,[],_,au,aB,#[],0,hr,Rin,aax,TP,TN,.nil⟩;refine bC λnG=>?_;refine ZV TB λgb acc loc' hp' i' its k er R' K' a' Y2 vD=>?_;refine aQ (Cf er CZ) λr' mL=>?_;refine nG ?_;refine hI.next R' a' mL (λqD h' t' off ht=>?_) λv AF qD a h' t' off live ht hv TC=>?_
  ·have er:=Fo er CZ (qD▸mL);show compPost C.M C.A E use Q (.ref DD) (DD+1) (.ok .next) {s' with heap:=h',toks:=t'}
   have Lp:∀b∈(DD+1)::DD::C.no,b∈[DD+1,DD]++(wr++C.no):=λb hb=>by
    simp only[List.mem_cons,List.mem_append,List.not_mem_nil,or_false]at hb ⊢;rcases hb with q|q|q
    ·exact .inl (.inl q)
    ·exact .inl (.inr q)
    ·exact .inr (.inr q)
   have aay:∀b∈C.no,b∉wr:=λb hb hw=>by
    obtain⟨_,o,e⟩:=ae.ej b hb;rw[hf b hw]at e;cases e
   have Rl:=Rep.leave (C:=C.cY ((DD+1)::DD::C.no)) (l:=[DD+1,DD]++(wr++C.no)) (wr:=wr) (d:=s'.drawn) (O.cY λb hb=>Lo b (Lp b hb)) Lp Lo my (ap.cY _) (Rep.back (C:=C) (no':=[DD+1,DD]++(wr++C.no)) ae R' K' (mP.sub (by simp)) (λv a x=>Val.Nu (wr:=[DD+1,DD]++wr) ae Y0 K' Y1 x) R'.fR ae.xU) (λb hb=>by
    rcases List.mem_cons.mp hb with q|hb
    ·rw[q];exact Lw
    ·rcases List.mem_cons.mp hb with q|hb
     ·rw[q];exact Dw
     ·exact aay b hb) ht off
   have vDl:Vals ((DD+1)::DD::C.no) i' h' acc its.toList:=(vD.keep (bB.refl i') (off.tk my)).sub Lp
   have Ra:=Rep.adopt (C:=C) (l:=(DD+1)::DD::C.no) (no':=(DD+1)::C.no) (D:=DD) Rl (by simp) (λb hb=>by
    rcases List.mem_cons.mp hb with q|q
    ·rw[q];exact⟨by simp,YZ⟩
    ·refine⟨List.mem_cons_of_mem _ (List.mem_cons_of_mem _ q),λz=>?_⟩;obtain⟨_,o,e⟩:=ae.ej b q;rw[z,fD]at e;cases e) (λq=>mP.own _ q (by simp)) (jE O ae fD) (off DD _ Dw Y2) vDl
   have Kf:aJ [DD+1] i s i' {s' with heap:=h',toks:=t'}:=K'.turn hf (d:=s'.drawn) (t:=t') off rfl;refine aj (R'.ns) λmI hmI _=>?_;refine hQ acc hp' i' _ DD (DD+1) (by rw[<- er];rfl) Ra ((Kf.drop Y1).adopt fD) ⟨mI,?_⟩ fL (mP.sub (by simp)) (O.cY λb hb=>?_) R'.len
   ·refine lr hmI λo es ep e r=>?_;exact⟨o,es,ep,off _ o Lw e,r⟩
   ·rcases List.mem_cons.mp hb with q|q
    ·rw[q];exact jE O ae fL
    ·exact O.noNew b q
  ·refine cg (Cg er CZ (qD▸mL)) λm' c9 hm oP er=>?_;refine TC hP λdH AG Fh at2=>?_;have oQ:Off wr s'.heap dH:=λb o hb e=>AG b o hb (off b o hb e);have gS:aJ [DD+1] i s i' {s' with heap:=dH,toks:=t'}:=K'.turn hf (d:=s'.drawn) (t:=t') oQ rfl;exact Ib D Oi (Ci:=C.ka scope (DD+1) ([DD+1,DD]++(wr++C.no))) F hI my (⟨λb hb q=>C1.own b hb (by rw[List.mem_singleton.mp q];exact .head _),λe he L hL q=>C1.d9 e he L hL (by rw[List.mem_singleton.mp q];exact .head _),λx hx k hk mx c hc q=>C1.cells x hx k hk mx c hc (by rw[List.mem_singleton.mp q];exact .head _)⟩) (.tail _ (.head _)) Dw (λq=>YZ (List.mem_singleton.mp q).symm) (λb hb q=>Lw ((List.mem_singleton.mp q:b=DD+1)▸hb)) fy er CZ (λk q=>by rw[q]at rD;exact rD rfl) (Rep.turn (C:=C.ka scope (DD+1) ([DD+1,DD]++(wr++C.no))) (wr:=wr) (d:=s'.drawn) Oi my (⟨λb hb q=>C1.own b hb (.tail _ q),λe he L hL q=>C1.d9 e he L hL (.tail _ q),λx hx k hk mx c hc q=>C1.cells x hx k hk mx c hc (.tail _ q)⟩) R' ht oQ Fh) gS fD (hv.keep (bB.refl _) (AG.tk my)) oP at2 (oQ DD _ Dw Y2) (vD.keep (bB.refl i') (oQ.tk my)) λacc Fp Ln its k dF g1 g2 g3 g4 g5 g6=>⟨m',hm▸Nat.lt_succ_self m',AF,acc,c9,Fp,Ln,its,k,g1,g2,g3,g4,g5,g6⟩
 exact codeAny_compStart_list loop (hI.self (s:={heap:=dR,gens:=ah.gens,drawn:=ah.drawn,toks:=ah.toks+0,os:=ah.os}) TP loop)
end
end
section
section
variable {n N:Nat}{d:cy}{c:Ca}(O:C.Ok n)(F:bU C.w.params)(D:c5 n d)
include O F D
theorem O8 (ae:Rep C i loc hp s)(elt t iter:Expr)(ifs:List Expr)(scope:Scope)(pos:Pos){tg:Tg}(fy:lz scope.names t=some tg)(hm:oC C.sc scope.names=true)(hk:scope.kind=.function)(hg:scope.isGenerator=false∧scope.isCoroutine=false)
  (Ig:iC iter=true):SV C [] i loc s (cq N (eY d C.sc iter) (mapOf C.sc scope.names) tg (aS true (ifs.map (d.te scope.names))) (d.ex scope.names elt) loc hp) (eval (.ListComp elt [⟨t,iter,ifs,0⟩] scope pos) C.env):=by
 intro hb;rw[eval_ListComp];refine xW O F D ae elt t iter ifs scope pos fy hm hk hg Ig hb (use:=none) (λvs hp' i' s' DD L er R K qy fL ap O2 hlen=>?_) λ_ _ z=>z;refine aQ qy λm nO=>?_;refine⟨m,nO,λh' tq=>?_⟩
 have Rl:=Rep.leave (C:=C) (l:=L::C.no) (wr:=[L]) (d:=s'.drawn) (t:=s'.toks) O (λb hb=>.tail _ hb) O2.noNew (by simp) ap R (λb hb q=>by
  rw[List.mem_singleton.mp q]at hb;obtain⟨_,o,e⟩:=ae.ej L hb;rw[fL]at e;cases e) (Nat.le_refl _) (Off.of tq (.head _))
 rw[er];exact dW Rl (K.turn (wr:=[L]) (λb hb=>by rw[List.mem_singleton.mp hb];exact fL) (d:=s'.drawn) (t:=s'.toks) (Off.of tq (.head _)) rfl) (.ref _ _ (by rw[<- hlen];simp))
theorem Lq (ae:Rep C i loc hp s){x:Str}{p:Pos}{kd:NameKind}{m:Nat}(elt t iter:Expr)(ifs:List Expr)(scope:Scope)(pos nh:Pos){tg:Tg}(fy:lz scope.names t=some tg)(hm:oC C.sc scope.names=true)(hk:scope.kind=.function)(hg:scope.isGenerator=false∧scope.isCoroutine=false)
  (Ig:iC iter=true) (xV:C.sc.lookup x=some kd) (fi:kd=.local∨kd=.cell) (hs:slot C.sc x=some m) (nN:swapsWith (.ListComp elt [⟨t,iter,ifs,0⟩] scope pos) (some (.Name x p)) nh.line C.env=pure true) :
  SS C i s (aR m (cq N (eY d C.sc iter) (mapOf C.sc scope.names) tg (aS true (ifs.map (d.te scope.names))) (d.ex scope.names elt)) loc hp) (exec (.Assign [.Name x p] (.ListComp elt [⟨t,iter,ifs,0⟩] scope pos) nh) C.env):=by
 intro hb;unfold aR at hb ⊢;have jj:cq N (eY d C.sc iter) (mapOf C.sc scope.names) tg (aS true (ifs.map (d.te scope.names))) (d.ex scope.names elt) loc hp≠.bad:=λq=>by rw[q]at hb;exact hb rfl
 rw[exec_Assign_Name_used _ _ _ _ nN];refine wpAny_bind (wpAny_standAt (wpAny_bind ?_));show wpAny _ _ (do let _ <- comprehension (.ListComp elt [⟨t,iter,ifs,0⟩] scope pos) scope C.env _ (newList []) false (eval iter C.env) (some (assign (.Name x p) C.env))) _ _ s
 refine wpAny_bind (xW O F D ae elt t iter ifs scope pos fy hm hk hg Ig jj (use:=some (assign (.Name x p) C.env)) (Q:=λ_ s'=>wpAny C.M C.A (pure ():Sem Unit) (λ_ s'=>wpAny C.M C.A (return Flow.next:Sem Flow) _ _ s') _ s') (λvs hp' i' s' DD L er R K qy fL ap O2 hlen=>?_) λe s' z=>?_)
 ·refine aQ qy λmm nO=>?_;have hv:Val (L::C.no) (i'++[DD]) s'.heap (.ref hp'.length) (.ref DD):=.ref _ _ (by rw[<- hlen];simp);have R':Rep (C.cY (L::C.no)) (i'++[DD]) loc (hp'++[.list vs]) s':=R;show wpAny _ _ (assign (.Name x p) C.env (.ref DD)) _ _ _;refine jk (C:=C.cY (L::C.no)) O2 R' xV fi hs hv λaO aV k₂=>?_;have CV:L∉i'++[DD]:=(R'.ej L (.head _)).1
  have TQ:aO.heap.Ns L mm:=by
   refine lr nO λo es ep e r=>?_;exact⟨o,es,ep,k₂.keep L o e (λq=>ap.own L q (by simp)) CV,r⟩
  refine⟨mm,TQ,λh' tq=>wpAny_pure (wpAny_pure ?_)⟩
  have Rl:=Rep.leave (C:=C) (l:=L::C.no) (wr:=[L]) (d:=aO.drawn) (t:=aO.toks) O (λb hb=>.tail _ hb) O2.noNew (by simp) ap aV (λb hb q=>by
   rw[List.mem_singleton.mp q]at hb;obtain⟨_,o,e⟩:=ae.ej L hb;rw[fL]at e;cases e) (Nat.le_refl _) (Off.of tq (.head _))
  rw[er];exact dW (lc:=λp:Fl×Loc=>p.2) Rl (((K.weaken (own':=C.own) (by simp)).trans k₂).turn (wr:=[L]) (λb hb=>by rw[List.mem_singleton.mp hb];exact fL) (d:=aO.drawn) (t:=aO.toks) (Off.of tq (.head _)) rfl) trivial
 ·refine dQ z λk ek f kx=>?_;exact⟨k,by rw[ek];rfl,f,kx.weaken (by simp)⟩
end
end
noncomputable def k9 (a:Arguments):Bool:=a.posonlyargs.isEmpty&&a.kwonlyargs.isEmpty&&a.vararg.isNone&&a.kwarg.isNone&&decide ((a.args.map (·.arg)).Nodup)
theorem mR {α:Type}:∀{ps:List Str} {vs:List α},ps.length=vs.length->∀{x:Str},x∈ps->((ps.zip vs).lookup x).isSome=true
 |[],_,_,_,h=>by simp at h
 |p::ps,[],hl,_,_=>by simp at hl
 |p::ps,v::vs,hl,x,h=>by
  simp only[List.zip_cons_cons,List.lookup_cons];cases hx:x==p with
  |true=>rfl
  |false =>
   simp only;rcases List.mem_cons.mp h with q|q
   ·rw[q]at hx;simp at hx
   ·exact mR (Nat.succ.inj hl) q
theorem Lr {α:Type}:∀(pre:List Str) (ps:List Str) (vs:List α) (sl:List (Str×α)),ps.length=vs.length->ps.Nodup->(∀x∈ps,sl.lookup x=(ps.zip vs).lookup x)->ps.filterMap (λn=>(sl.lookup n).map (n,·))=ps.zip vs:=by
 intro pre ps
 induction ps with
 |nil=>intro vs sl _ _ _;simp
 |cons p ps ih =>
  intro vs sl hl nd h;cases vs with
  |nil=>simp at hl
  |cons v vs =>
   have xX:=List.nodup_cons.mp nd;have h0:=h p (.head _);simp only[List.zip_cons_cons,List.lookup_cons,beq_self_eq_true]at h0;rw[List.filterMap_cons,h0];simp only[Option.map_some,List.zip_cons_cons];rw[ih vs sl (by simpa using hl) xX.2 λx hx=>?_];have:=h x (.tail _ hx);simp only[List.zip_cons_cons,List.lookup_cons]at this
   have jc:(x==p)=false:=by
    cases z:x==p with
    |false=>rfl
    |true=>rw[beq_iff_eq.mp z]at hx;exact absurd hx xX.1
   rw[jc]at this;exact this
theorem TU {α β:Type}(a:α)(f:α->Sem β):((pure a:Sem α)>>=f)=f a:=rfl
theorem Ls:seqItems? Value.none=pure none:=rfl
theorem Lu {c d:Prop}[Decidable c][Decidable d]{x y z:α}(hc:¬c)(hd:¬d):ite c x (ite d y z)=z:=by rw[if_neg hc,if_neg hd]
theorem Lv {name qual:Str}{as:List Arg}{kd:List (Option Expr)}{df:List Expr}{body:FuncBody}{sc:Scope}{g:Addr}{cl:List (Str×Addr)}{kw dc pm code ct:Value}{an:Option Addr}{b:Addr}{vs:List Value}(hl:(as.map (·.arg)).length=vs.length)(nd:(as.map (·.arg)).Nodup) :
  bindArgs {name:=name,qualname:=qual,params:=⟨[],as,none,[],kd,none,df⟩,body:=body,scope:=sc,globals:=g,closure:=cl,defaults:=.none,kwdefaults:=kw,doc:=dc,pyModule:=pm,annotations:=an,code:=code,closureTuple:=ct,builtins:=b} ⟨vs,[]⟩=pure ((as.map (·.arg)).zip vs):=by
 have Xu:((as.map (·.arg)).take (as.map (·.arg)).length).filter (λn=>(((as.map (·.arg)).zip vs).lookup n).isNone)=[] :=
  List.filter_eq_nil_iff.mpr λx hx=>by
   have:=mR hl (List.mem_of_mem_take hx);rw[Option.isNone_eq_false_iff.mpr this];exact nofun
 unfold bindArgs;dsimp only[List.map_nil,List.nil_append,List.forIn_nil,List.append_nil,Ls,TU,Option.getD_none,List.drop_nil,List.length_nil,Nat.sub_zero];refine(Lu ?_ ?_).trans ?_
 ·show ¬(decide (vs.length>(as.map (·.arg)).length)&&true)=true
  rw[hl,decide_eq_false (Nat.lt_irrefl _)];exact nofun
 ·rw[List.drop_nil];show ¬(!(((as.map (·.arg)).take (as.map (·.arg)).length).filter λn=>(((as.map (·.arg)).zip vs).lookup n).isNone).isEmpty)=true
  rw[Xu];exact nofun
 rw[List.drop_nil,List.zip_nil_right];have hz:=Lr [] (as.map (·.arg)) vs ((as.map (·.arg)).zip vs) hl nd λ_ _=>rfl
 show(pure (List.filterMap (λn=>Option.map (λx=>(n,x)) (List.lookup n ((as.map (·.arg)).zip vs))) ((as.map (·.arg))++[])):Sem _)=_
 rw[List.append_nil,hz]
theorem oS {name qual:Str}{st:Stmt}{cl:List (Str×Addr)}{pm code ct:Value}(hp:k9 (bf st)=true){vs:List Value}(hl:((bf st).args.map (·.arg)).length=vs.length) :
  bindArgs (qg name qual st cl pm code ct) ⟨vs,[]⟩=pure (((bf st).args.map (·.arg)).zip vs):=by
 unfold qg;unfold k9 at hp;generalize bf st=p at hp hl ⊢;obtain⟨po,as,va,ko,kd,kw,df⟩:=p;have a1:=Bool.and_eq_true_iff.mp hp;have a2:=Bool.and_eq_true_iff.mp a1.1;have a3:=Bool.and_eq_true_iff.mp a2.1;have a4:=Bool.and_eq_true_iff.mp a3.1;have h1:po=[]:=fY a4.1;have h2:ko=[]:=fY a4.2;have h3:va=none:=l8 a3.2;have h4:kw=none:=l8 a2.2;subst h1 h2 h3 h4;exact Lv hl (of_decide_eq_true a1.2)
def t9 (st:Stmt)(cl:List (Str×Addr)):Bool :=
 (aw st).kind==.function&&!(aw st).isGenerator&&!(aw st).isCoroutine&&k9 (bf st)&&decide (((aw st).names.map (·.1)).Nodup)&&(aw st).names.all (λp=>!(p.1==("__debug__":Str))) &&
 (bf st).args.all (λa=>(aw st).names.lookup a.arg==some .local||(aw st).names.lookup a.arg==some .cell) &&
 (aw st).names.all (λp=>!(p.2==.free)||((cl.lookup p.1).isSome&&!(p.1==("__classdict__":Str))))&&(cl.isEmpty||(aw st).names.all (λp=>!(p.2==.cell)))&&decide ((cl.map (·.2)).Nodup)
structure ua (st:Stmt)(cl:List (Str×Addr)):Prop where
 kind:(aw st).kind=.function
 gen:(aw st).isGenerator=false
 co:(aw st).isCoroutine=false
 plain:k9 (bf st)=true
 nd:((aw st).names.map (·.1)).Nodup
 Y3:∀p∈(aw st).names,(p.1==("__debug__":Str))=false
 args:∀x∈(bf st).args.map (·.arg),(aw st).names.lookup x=some .local∨(aw st).names.lookup x=some .cell
 free:∀x,(x,NameKind.free)∈(aw st).names->(∃c,cl.lookup x=some c)∧(x==("__classdict__":Str))=false
 cells:cl=[]∨∀p∈(aw st).names,p.2≠.cell
 aaz:(cl.map (·.2)).Nodup
theorem gM {st:Stmt}{cl:List (Str×Addr)}(h:t9 st cl=true):ua st cl:=by
 unfold t9 at h;simp only[Bool.and_eq_true]at h;obtain⟨⟨⟨⟨⟨⟨⟨⟨⟨h1,h2⟩,h3⟩,h4⟩,h5⟩,h6⟩,h7⟩,h8⟩,h9⟩,ux⟩:=h;refine⟨by simpa using h1,by simpa using h2,by simpa using h3,h4,of_decide_eq_true h5,λp hp=>?_,λx hx=>?_,λx hx=>?_,?_,of_decide_eq_true ux⟩
 ·have:=List.all_eq_true.mp h6 p hp
  simpa using this
 ·refine aj (List.mem_map.mp hx) λa ha bH=>?_;subst bH;have:=List.all_eq_true.mp h7 a ha
  simpa using this
 ·have:=List.all_eq_true.mp h8 _ hx;simp only[beq_self_eq_true,Bool.not_true,Bool.false_or,Bool.and_eq_true,Bool.not_eq_true']at this;exact⟨Option.isSome_iff_exists.mp this.1,this.2⟩
 ·rcases(Bool.or_eq_true_iff.mp h9)with q|q
  ·left;simpa using q
  ·right
   intro p hp;have:=List.all_eq_true.mp q p hp
   simpa using this
structure gY (s:Shared)(f:Addr)(code:Value)(scope:Scope)(cl:List (Str×Addr))(bs:List (Str×Value))(env:Env)(oc:List Addr)(ah:Shared):Prop where
 sc:env.scope=scope
 func:env.func=some f
 code:env.code=code
 globals:env.globals=mainGlobals
 builtins:env.builtins=builtinsNs
 frame:env.frame=some env.locals
 above:s.heap.objs.size≤env.locals
 same:∃h' t,ah={s with heap:=h',toks:=t}
 toks:s.toks≤ah.toks
 keep:∀b o,s.heap.get? b=some o->ah.heap.get? b=some o
 ns:∃m,ah.heap.Ns env.locals m∧∀x,scope.names.lookup x=some .local->m x=bs.lookup x
 cell:∀x,scope.names.lookup x=some .cell->∃c,env.cells.lookup x=some c∧c∈oc∧ah.heap.IsCell c (bs.lookup x)
 free:∀x,(x,NameKind.free)∈scope.names->env.cells.lookup x=cl.lookup x
 inj:∀x y c,env.cells.lookup x=some c->env.cells.lookup y=some c->x=y
 oc:∀b∈oc,s.heap.get? b=none∧b≠env.locals∧∃v,ah.heap.IsCell b v
theorem Ii {k:Str->Option NameKind}:∀(bs:List (Str×Value)) (m:Str->Option Value),(bs.map (·.1)).Nodup->∀x,k x=some .local->bindL k bs m x=(bs.lookup x).or (m x):=by
 intro bs
 induction bs with
 |nil=>exact λm _ x _=>rfl
 |cons p r ih =>
  intro m nd x hx;obtain⟨n,v⟩:=p;have xX:=List.nodup_cons.mp nd;unfold bindL;rw[ih _ xX.2 x hx];cases hq:x==n with
  |true =>
   have:x=n:=beq_iff_eq.mp hq;subst this
   have TV:r.lookup x=none:=by
    cases z:r.lookup x with
    |none=>rfl
    |some w=>exact absurd (List.mem_map.mpr ⟨(x,w),bP z,rfl⟩) xX.1
   simp[TV,hx,List.lookup_cons]
  |false =>
   have jc:x≠n:=λq=>by rw[q]at hq;simp at hq
   simp only[List.lookup_cons,hq];congr 1;split
   ·simp[jc]
   ·rfl
theorem Ij {k:Str->Option NameKind}:∀(bs:List (Str×Value)) (m:Str->Option Value),(bs.map (·.1)).Nodup->∀x,k x≠some .local->bindC k bs m x=(bs.lookup x).or (m x):=by
 intro bs
 induction bs with
 |nil=>exact λm _ x _=>rfl
 |cons p r ih =>
  intro m nd x hx;obtain⟨n,v⟩:=p;have xX:=List.nodup_cons.mp nd;unfold bindC;rw[ih _ xX.2 x hx];cases hq:x==n with
  |true =>
   have:x=n:=beq_iff_eq.mp hq;subst this
   have TV:r.lookup x=none:=by
    cases z:r.lookup x with
    |none=>rfl
    |some w=>exact absurd (List.mem_map.mpr ⟨(x,w),bP z,rfl⟩) xX.1
   simp[TV,hx,List.lookup_cons]
  |false =>
   have jc:x≠n:=λq=>by rw[q]at hq;simp at hq
   simp only[List.lookup_cons,hq];congr 1;split
   ·rfl
   ·simp[jc]
theorem ja {x:Str}:∀(names:List (Str×NameKind)) (n:Nat) (acc:List (Str×Addr)),((x,NameKind.cell)∈names∨(acc.lookup x).isSome=true)->((cellsFrom n names acc).lookup x).isSome=true
 |[],n,acc,h=>by
  rcases h with h|h
  ·simp at h
  ·exact h
 |(y,k)::r,n,acc,h=>by
  unfold cellsFrom;split
  ·rename_i hk;refine ja r (n+1) _ ?_;by_cases hx:x==y
   ·right;simp[List.lookup_cons,hx]
   ·rcases h with h|h
    ·refine(List.mem_cons.mp h).elim (λq=>?_) λq=>?_
     ·injection q with q;subst q;simp at hx
     ·left;exact q
    ·right;simp only[List.lookup_cons];simp[hx,h]
  ·rename_i hk;refine ja r n _ ?_;rcases h with h|h
   ·refine(List.mem_cons.mp h).elim (λq=>?_) λq=>?_
    ·injection q with q z9;subst q z9;simp at hk
    ·left;exact q
   ·right;exact h
theorem Ft {x:Str}:∀{bs:List (Str×Value)},(bs.map (·.1)).Nodup->bs.reverse.lookup x=bs.lookup x:=by
 intro bs nd
 have mem:∀{l:List (Str×Value)} {w:Value},l.lookup x=some w->(x,w)∈l:=by
  intro l
  induction l with
  |nil=>intro w h;exact(Option.some_ne_none _ h.symm).elim
  |cons p l ih =>
   intro w h;obtain⟨a,b⟩:=p;simp only[List.lookup_cons]at h;cases hh:x==a with
   |true=>rw[hh]at h;obtain rfl:=oi h;rw[beq_iff_eq.mp hh];exact .head _
   |false=>rw[hh]at h;exact .tail _ (ih h)
 have of:∀{l:List (Str×Value)} {w:Value},(l.map (·.1)).Nodup->(x,w)∈l->l.lookup x=some w:=by
  intro l
  induction l with
  |nil=>intro w _ h;simp at h
  |cons p l ih =>
   intro w nd h;obtain⟨a,b⟩:=p;simp only[List.map_cons,List.nodup_cons]at nd;rcases List.mem_cons.mp h with h|h
   ·injection h with h z9;subst h z9;simp[List.lookup_cons]
   ·have hx:(x==a)=false:=by
     cases z:x==a with
     |false=>rfl
     |true=>rw[beq_iff_eq.mp z]at h;exact absurd (List.mem_map.mpr ⟨_,h,rfl⟩) nd.1
    simp only[List.lookup_cons,hx];exact ih nd.2 h
 have ndr:(bs.reverse.map (·.1)).Nodup:=by rw[List.map_reverse];exact List.pairwise_reverse.mpr (nd.imp λh=>Ne.symm h)
 cases h1:bs.lookup x with
 |some w=>exact of ndr (List.mem_reverse.mpr (mem h1))
 |none =>
  cases h2:bs.reverse.lookup x with
  |none=>rfl
  |some w=>rw[of nd (List.mem_reverse.mp (mem h2))]at h1;exact absurd h1 nofun
theorem tu {st:Stmt}(ok:ua st []){qual:Str}{f:Addr}{code:Value}{bs:List (Str×Value)}(Ik:(bs.map (·.1)).Nodup){env:Env}(he:env=newEnv (aw st) s.heap.objs.size mainGlobals (cellsFrom (s.heap.objs.size+1) (aw st).names []) qual (some f) code none builtinsNs)
  {s':Shared} (X:InCallC s env.locals (bindL env.kindOf bs λ_=>none) env.cells (bindC env.kindOf bs λ_=>none) s') (ht:s.toks≤s'.toks) :
  gY s f code (aw st) [] bs env ((aw st).names.filterMap λp=>if p.2==.cell then env.cells.lookup p.1 else none) s':=by
 have ek:∀x,env.kindOf x=(aw st).names.lookup x:=λx=>by rw[he];rfl
 have ec:env.cells=cellsFrom (s.heap.objs.size+1) (aw st).names []:=by rw[he];rfl
 have eL:env.locals=s.heap.objs.size:=by rw[he];rfl
 have kN:∀x,(aw st).names.lookup x=some .cell->∃c,env.cells.lookup x=some c∧s'.heap.IsCell c (bs.lookup x):=λx hx=>by
  have hs:=ja (aw st).names (s.heap.objs.size+1) [] (.inl (bP hx));rw[<- ec]at hs;refine aQ (Option.isSome_iff_exists.mp hs) λc hc=>?_;refine⟨c,hc,?_⟩;have:=X.cell x c hc;rw[Ij _ _ Ik x (by rw[ek,hx];simp)]at this
  simpa using this
 refine⟨by rw[he];rfl,by rw[he];rfl,by rw[he];rfl,by rw[he];rfl,by rw[he];rfl,by rw[he];rfl,Nat.le_of_eq eL.symm,X.toInCall.same,ht,X.toInCall.keep,⟨_,X.toInCall.ns,λx hx=>?_⟩,λx hx=>?_,λx hx=>?_,λx y c hx hy=>?_,λb hb=>?_⟩
 ·rw[Ii _ _ Ik x (by rw[ek];exact hx)];simp
 ·refine aj (kN x hx) λc hc hi=>?_;exact⟨c,hc,List.mem_filterMap.mpr ⟨_,bP hx,by simpa using hc⟩,hi⟩
 ·obtain⟨⟨c,hc⟩,_⟩:=ok.free x hx;exact(Option.some_ne_none _ hc.symm).elim
 ·exact name_of_addr X.apart (mem_of_lookup_some hx) (mem_of_lookup_some hy)
 ·obtain⟨⟨x,k⟩,hm,e⟩:=List.mem_filterMap.mp hb;split at e
  ·rename_i hk;have Tn:k=.cell:=by simpa using hk
   subst Tn;refine aj (kN x (fS ok.nd hm)) λc hc hi=>?_;rw[hc]at e;cases e
   have uH:=X.above x b (mem_of_lookup_some hc);rw[eL]at uH;refine⟨?_,by rw[eL];exact Nat.ne_of_gt uH,_,hi⟩;cases z:s.heap.get? b with
   |none=>rfl
   |some o=>exact absurd (Heap.lt_size z) (Nat.not_lt.mpr (Nat.le_of_lt uH))
  ·exact absurd e nofun
theorem AJ {M:Model}{A:Around}{st:Stmt}{cl:List (Str×Addr)}(ok:ua st cl){qual:Str}{f:Addr}{code:Value}{as:List Value}(hl:((bf st).args.map (·.arg)).length=as.length){Q:Env->Shared->Prop}{E:Value->Shared->Prop}
  (hQ:∀env oc ah,gY s f code (aw st) cl (((bf st).args.map (·.arg)).zip as) env oc ah->Q env ah):wpAny M A (newFunctionEnv (aw st) mainGlobals cl (((bf st).args.map (·.arg)).zip as) qual (some f) code none builtinsNs) Q E s:=by
 have hpn:((bf st).args.map (·.arg)).Nodup:=by
  have:=ok.plain;unfold k9 at this;simp only[Bool.and_eq_true]at this;exact of_decide_eq_true this.2
 have TX:(((bf st).args.map (·.arg)).zip as).map (·.1)=(bf st).args.map (·.arg):=by
  rw[List.map_fst_zip];(apply Nat.le_of_eq<;>trivial)
 have Ik:((((bf st).args.map (·.arg)).zip as).map (·.1)).Nodup:=by rw[TX];exact hpn
 have Ny:∀x∈((bf st).args.map (·.arg)).zip as,x.1∈(bf st).args.map (·.arg):=λx hx=>by rw[<- TX];exact List.mem_map.mpr ⟨x,hx,rfl⟩
 rcases ok.cells with nR|AK
 ·subst nR;refine wpAny_with_toks (Nat.le_refl s.toks) (wpAny_newFunctionEnv_cells ok.kind (λx hx=>?_) λenv he s' X ht=>?_)
  ·rcases ok.args x.1 (Ny x hx)with q|q
   ·exact .inl q
   ·exact .inr ⟨q,ja _ _ _ (.inl (bP q))⟩
  ·exact hQ env _ s' (tu ok Ik he X ht)
 ·refine wpAny_with_toks (Nat.le_refl s.toks) (wpAny_newFunctionEnv AK (λx hx=>?_) (λh' qy xK ht=>?_) ok.kind)
  ·refine(ok.args x.1 (Ny x hx)).elim (λq=>?_) λq=>?_
   ·exact q
   ·exact absurd rfl (AK _ (bP q))
  ·refine hQ _ [] _ ⟨rfl,rfl,rfl,rfl,rfl,rfl,Nat.le_refl _,⟨_,_,rfl⟩,ht,λb o e=>xK.extBut b o (Nat.ne_of_lt (Heap.lt_size e)) (Heap.get?_push_of_some _ e),⟨_,qy,λx _=>Ft Ik⟩,λx hx=>absurd rfl (AK _ (bP hx)),λx _=>rfl,λx y c hx hy=>?_,by simp⟩;have nd:=ok.aaz;have hx':cl.lookup x=some c:=hx;have hy':cl.lookup y=some c:=hy;have pw:cl.Pairwise λx y=>x.2≠y.2:=List.pairwise_map.mp nd;exact name_of_addr pw (mem_of_lookup_some hx') (mem_of_lookup_some hy')
section
theorem yT {a n l k m:Nat}(h:Nat.ble k l=true)(q:a+l*(n+1)≤m):a+k+l*n≤m:=by
 refine Nat.le_trans ?_ q;rw[Nat.add_assoc,Nat.mul_succ,Nat.add_comm (l*n)];exact Nat.add_le_add_left (Nat.add_le_add_right (Nat.le_of_ble_eq_true h) _) _
def oU (C:Cx)(i:Pl)(loc:Loc)(s:Shared)(r:R V):Result->Shared->Prop:=λq s'=>match q with
 |.ok (.ret v)=>PN C [] i s (λ_=>loc) (Val C.no) r v s'
 |.ok _=>False
 |.error e=>PX C [] i s r e s'
def Ly (P:Params)(f:Addr)(st:Stmt):Prop:=∃oc od nS name qual cl pm code ct,(K P).lookup f=some ⟨oc,od,.func (qg name qual st cl pm code ct),nS⟩∧codeIn (K P) code qual=true∧t9 st cl=true∧∀x c,cl.lookup x=some c->∃co v,(K P).lookup c=some co∧co.data=.cell v
theorem rE {vs:List V}:∀{as:List Value},Vals no i h vs as->∀{ps:List Str} {x:Str} {u:V},(ps.zip vs).lookup x=some u->∃a,(ps.zip as).lookup x=some a∧Val no i h u a:=by
 induction vs with
 |nil=>intro as _ ps x u e;simp at e
 |cons v vs ih =>
  intro as hh ps x u e;refine cg hh.inv λa bs rz hv xN=>?_;subst rz;cases ps with
  |nil=>exact bx e
  |cons p ps =>
   simp only[List.zip_cons_cons,List.lookup_cons]at e ⊢;cases hx:x==p with
   |true=>rw[hx]at e;obtain rfl:=oi e;exact⟨_,rfl,hv⟩
   |false=>rw[hx]at e;exact ih xN e
theorem C2 {α:Type}{x:Str}:∀{ps:List Str} {vs:List α},x∉ps->(ps.zip vs).lookup x=none
 |[],_,_=>by simp
 |p::ps,[],_=>by simp
 |p::ps,v::vs,h=>by
  simp only[List.mem_cons,not_or]at h;simp only[List.zip_cons_cons,List.lookup_cons];have:(x==p)=false:=by simpa using h.1
  rw[this];exact C2 h.2
theorem fT.drop (k:fT own i s s')(hf:∀b∈own,s.heap.get? b=Option.none):fT [] i s s':=λb o e hn _ h2=>k b o e hn (λq=>by rw[hf b q]at e;exact(Option.some_ne_none _ e.symm).elim) h2
noncomputable def flv (fl:Flow):Value:=match fl with
 |.ret v=>v
 |_=>.none
def TY (r:R (Fl×Loc)):R V:=az r λp hp=>match p.1 with
 |.ret v=>.ok v hp
 |.next=>.ok .none hp
noncomputable abbrev Cx.fn (C:Cx) (env:Env) (oc:List Addr) (sc:Sc):Cx:={C with A:=C.A.deeper env,env:=env,d9:=env::C.d9,oc:=oc,sc:=sc}
section
variable {n N:Nat}{d:cy}{c:Ca}{st:Stmt}{cl:List (Str×Addr)}{as:List Value}{vs:List V}{env:Env}{oc:List Addr}{f:Addr}{code:Value}(O:C.Ok (n+1))
include O
theorem oV (ae:Rep C i loc hp s)(T:gY s f code (aw st) cl (((bf st).args.map (·.arg)).zip as) env oc ah):∀b∈(C.fn env oc (aw st).names).own,s.heap.get? b=none:=λb hb=>by
 rcases List.mem_cons.mp hb with q|q
 ·rw[q];cases z:s.heap.get? env.locals with
  |none=>rfl
  |some o=>exact absurd (Heap.lt_size z) (Nat.not_lt.mpr T.above)
 ·exact(T.oc b q).1
theorem Fu (ae:Rep C i loc hp s)(ok:ua st cl)(T:gY s f code (aw st) cl (((bf st).args.map (·.arg)).zip as) env oc ah):(C.fn env oc (aw st).names).Ok n:=by
 have ek:∀x,env.kindOf x=(aw st).names.lookup x:=λx=>by show env.scope.names.lookup x=_;rw[T.sc]
 refine⟨Around.frames_deeper O.frames,?_,?_,O.handled,O.dJ,O.top,?_,T.globals,T.builtins,λx k e=>⟨?_,ok.Y3 _ (bP e)⟩,ok.nd,T.inj,λb hb=>jE (n:=n+1) O ae (oV O ae T b hb),?_,O.noNew,⟨env.locals,C.d9,env,T.frame,rfl,T.frame⟩,?_⟩
 ·exact yT (l:=10) (show Nat.ble 1 10=true from rfl) O.depth
 ·exact yT (l:=40) (show Nat.ble 3 40=true from rfl) O.units
 ·show env.scope.kind=_;rw[T.sc];exact ok.kind
 ·cases k with
  | «local»=>exact(ek x).trans e
  |cell =>
   refine dQ (T.cell x e) λc hc ho _=>?_;exact⟨(ek x).trans e,c,hc,.tail _ ho,(T.oc c ho).2.1⟩
  |free =>
   have hm:=bP e;refine bC λnG=>?_;obtain⟨⟨c,hc⟩,hd⟩:=ok.free x hm;refine nG ?_;exact⟨.inr ⟨(ek x).trans e,hd⟩,c,(T.free x hm).trans hc⟩
  |globalImplicit=>exact(ek x).trans e
  |globalExplicit=>trivial
 ·refine bC λnG=>?_;obtain⟨_,o,e,_⟩:=ae.own _ (.head _);refine nG ?_;exact Nat.le_trans O.above (Nat.le_trans (Nat.le_of_lt (Heap.lt_size e)) T.above)
 ·show env.scope.isGenerator=false∧env.scope.isCoroutine=false;rw[T.sc];exact⟨ok.gen,ok.co⟩
theorem Il (ae:Rep C i loc hp s)(ok:ua st cl)(nR:∀x c,cl.lookup x=some c->∃co v,(K C.w.params).lookup c=some co∧co.data=.cell v)(T:gY s f code (aw st) cl (((bf st).args.map (·.arg)).zip as) env oc ah)(hv:Vals C.no i s.heap vs as) :
  Rep (C.fn env oc (aw st).names) i (cG (bW (aw st).names) ((bf st).args.map (·.arg)) vs) hp ah∧aJ [] i s i ah:=by
 refine bC λnG=>?_;refine jK (T.same) λh' t Fv=>?_;have hk:=T.keep;have ht:=T.toks;subst Fv;have z9:=ae.more (own:=[]) (t:=t) (d:=s.drawn) (h':=h') hk ht;have ak:=z9.1;have k₁:=z9.2;have Nz:Vals C.no i h' vs as:=hv.keep (bB.refl i) (bq.of hk);refine aj (T.ns) λm hm qb=>?_;refine m7 (id hm) λoL es ep qH mQ TZ=>?_;refine nG ?_;have uN:s.heap.get? env.locals=none:=oV O ae T _ (.head _)
 have T4:∀b,s.heap.get? b=none->b∉i:=λb hb hm=>by
  refine cg (ae.gy hm) λ_ _ _ _ x=>?_;refine aj (x.some) λo e _=>?_;rw[hb]at e;exact(Option.some_ne_none _ e.symm).elim
 refine⟨⟨⟨m,hm,λk v e=>?_⟩,ak.len,ak.objs,ak.nd,ak.new,λb hb=>?_,ak.base,⟨?_,⟨env.locals,oL,T.frame,jE (n:=n+1) O ae uN,qH,by rw[mQ];simp⟩,ak.fR⟩,ak.gens,ak.os,ak.pos,by simp[cG],ak.ej⟩,k₁⟩
 ·unfold cG at e;rw[List.getElem?_map]at e;refine aj (Option.map_eq_some_iff.mp e) λx hx e=>?_;refine aj (qj hx) λkd fi il=>?_;have gN:=fS ok.nd fi;refine⟨x,kd,hx,gN,?_⟩;cases kd with
  | «local» =>
   intro u hu;subst hu;refine aj (rE Nz e) λa ha uR=>?_;exact⟨a,(qb x gN).trans ha,uR⟩
  |cell =>
   refine dQ (T.cell x gN) λc hc _ hi=>?_;refine⟨c,_,hc,hi,λu hu=>?_⟩;subst hu;refine aj (rE Nz e) λa ha uR=>?_;exact⟨a,ha,uR⟩
  |free =>
   obtain⟨⟨c,hc⟩,_⟩:=ok.free x fi;refine eH (nR x c hc) λco v0 Nk mz=>?_;refine⟨c,v0,(T.free x fi).trans hc,⟨co,hk _ _ (ae.base _ _ (O.dJ _ _ Nk)),mz⟩,λu hu=>?_⟩;subst hu
   have hnp:x∉(bf st).args.map (·.arg):=λq=>by
    rcases ok.args x q with z|z<;>rw[gN]at z<;>cases z
   rw[C2 hnp]at e;exact absurd e nofun
  |globalImplicit=>cases il
  |globalExplicit=>cases il
 ·rcases List.mem_cons.mp hb with q|q
  ·rw[q];exact⟨T4 _ uN,oL,qH,by rw[mQ];simp,by rw[mQ];simp⟩
  ·refine bC λnG=>?_;obtain⟨h1,_,v,o,ho,hd⟩:=T.oc b q;refine nG ?_;exact⟨T4 _ h1,o,ho,by rw[hd];simp,by rw[hd];simp⟩
 ·rw[T.sc,ok.kind];simp
theorem C3 (ae:Rep C i loc hp s)(T:gY s f code (aw st) cl (((bf st).args.map (·.arg)).zip as) env oc ah)(k₁:aJ [] i s i ah){r:R (Fl×Loc)}{fl:Flow}{aO:Shared}
  (x:PN (C.fn env oc (aw st).names) (C.fn env oc (aw st).names).own i ah (·.2) (tO C.no) r fl aO):oU C i loc s (TY r) (.ok (.ret (flv fl))) aO:=by
 have fresh:=oV (n:=n) O ae T;refine fk x λp bJ cm er aV k₂ cX=>?_;have gS:aJ (C.fn env oc (aw st).names).own i s cm aO:=(k₁.weaken (by simp)).trans k₂;have Rb:Rep C cm loc bJ aO:=Rep.back (C:=C) (no':=C.no) ae aV gS (ae.apart fresh) (λv a x=>Val.Nu (wr:=[]) ae (by simp) gS fresh x) aV.fR.2.2 ae.xU;have Lz:=gS.drop fresh;obtain⟨fp,lp⟩:=p;subst er;cases fp with
 |next =>
  cases fl with
  |next=>exact dW Rb Lz .none
  |_=>exact cX.elim
 |ret v =>
  cases fl with
  |ret a=>exact dW Rb Lz cX
  |_=>exact cX.elim
theorem Im (ae:Rep C i loc hp s)(ok:ua st cl)(T:gY s f code (aw st) cl (((bf st).args.map (·.arg)).zip as) env oc ah)(k₁:aJ [] i s i ah){r:R (Fl×Loc)}{e:Value}{aO:Shared}{E:Value->Shared->Prop}
  (x:PX (C.fn env oc (aw st).names) (C.fn env oc (aw st).names).own i ah r e aO):wpAny C.M (C.A.deeper env) (leaving env e) (λ_ xP=>oU C i loc s (TY r) (.error e) xP) E aO:=by
 have fresh:=oV (n:=n) O ae T;have jz:=Fu O ae ok T;refine dQ x λk er fly kx=>?_;unfold leaving;refine wpAny_bind (tZ jz (outer:=C.d9) rfl fly λh' f' ev held=>oK jz f' held none (.inl rfl) λdH Aw Te tr=>?_);show PX C [] i s _ e _;refine⟨k,by rw[er];rfl,⟨?_,Aw.base,Aw.fR.2.2,Aw.gens,Aw.os⟩,?_⟩
 ·refine bC λnG=>?_;obtain⟨ea,dd,oe,Tb,t,e0,e1,e2,e3,e4,_,r1,r2,r3,r4,r5,r6⟩:=Aw.obj;subst e0;obtain⟨xO,H3,T',oT,ts,a1,a2,a3,a4,a5,a6,a7,a8,a9,Y4⟩:=tr ea rfl;refine nG ?_;exact⟨ea,dd,oe,Tb,t,rfl,e1,e2,e3,e4,⟨xO,H3,a1,a2,a3,.inr ⟨T',oT,ts,_,a4,a5,a6,a7,a8,a9,Y4,.inl rfl⟩⟩,r1,r2,r3,r4,r5,λv hv=>r6 v (.tail _ hv)⟩
 ·exact fT.drop ((k₁.weaken (own':=(C.fn env oc (aw st).names).own) (by simp)).z7 (fT.Au (fT.Au kx ev) Te)) fresh
end
section
variable {n N:Nat}{d:cy}{c:Ca}{st:Stmt}(O:C.Ok (n+1))(F:bU C.w.params)(D:c5 n d)
include O F D
theorem O9 (ae:Rep C i loc hp s){f:Addr}(hf:Ly C.w.params f st){vs:List V}{as:List Value}(hv:Vals C.no i s.heap vs as) :
  (if((bf st).args.map (·.arg)).length==vs.length then bj (aF ((dj st).map (d.st (aw st).names))) (cG (bW (aw st).names) ((bf st).args.map (·.arg)) vs) hp else .bad)≠.bad ->
  codeAny C.M C.A (.call (.ref f) ⟨as,[]⟩) (oU C i loc s (if((bf st).args.map (·.arg)).length==vs.length then bj (aF ((dj st).map (d.st (aw st).names))) (cG (bW (aw st).names) ((bf st).args.map (·.arg)) vs) hp else .bad)) s:=by
 intro hb;by_cases hlen:(((bf st).args.map (·.arg)).length==vs.length)=true
 ·rw[if_pos hlen]at hb;simp only[if_pos hlen];have yU:((bf st).args.map (·.arg)).length=as.length:=by rw[<- hv.length];simpa using hlen
  refine bC λnG=>?_;obtain⟨AH,od,nS,name,qual,cl,pm,code,ct,gN,mz,jb,nR⟩:=hf;have ok:=gM jb;refine wi (O.top) λp loose mg mb TR=>?_;refine nG ?_;have T5:=O.depth;have hX:(K C.w.params).In s.heap:=ae.dJ O;refine codeAny_call_function (fd:=qg name qual st cl pm code ct) (body:=dj st) (by have:recursionLimit=1000:=rfl;(apply uo<;>trivial)) (hX _ _ gN) rfl ok.co ok.gen rfl (codeRec_of hX mz) ?_;rw[oS ok.plain yU];refine wpAny_pure (AJ ok yU λenv oc ah T=>⟨(TR.nolimit.keeps ae.base).keeps T.keep,codeAny_func ?_⟩);have z9:=Il O ae ok nR T hv;have ak:=z9.1;have k₁:=z9.2;have jz:=Fu O ae ok T;have jj:aF ((dj st).map (d.st (aw st).names)) (cG (bW (aw st).names) ((bf st).args.map (·.arg)) vs) hp≠.bad:=λq=>by unfold bj at hb;rw[q]at hb;exact hb rfl
  exact wpAny_mono (nM (C:=C.fn env oc (aw st).names) jz F D ⟨C.d9,rfl⟩ (dj st) ak jj) (λfl aO x=>by have:=C3 O ae T k₁ x;cases fl<;>exact this) λe aO x=>Im O ae ok T k₁ x
 ·rw[if_neg hlen]at hb;exact absurd rfl hb
end
end
section
def qI (n:Nat)(c:Ca):Prop:=∀{C:Cx},C.Ok n->bU C.w.params->∀{i loc hp s},Rep C i loc hp s->∀{f:Addr} {vs:List V} {as:List Value},isClass f=false->Vals C.no i s.heap vs as->c (.fix (.ref f)) vs hp≠.bad ->
 codeAny C.M C.A (.call (.ref f) ⟨as,[]⟩) (oU C i loc s (c (.fix (.ref f)) vs hp)) s
theorem Rep.T6 (ae:Rep C i loc hp s){a b:Addr}{o o':O}{h':Heap}{t:Nat}{d:Drawn}(k:∀b o,s.heap.get? b=some o->h'.get? b=some o)(hn:s.heap.get? a=none)(hm:s.heap.get? b=none)(uH:a≠b)
  (ho:bq C.no s.heap h'->fM C.no (i++[a,b]) C.w.params h' a o) (qk:bq C.no s.heap h'->fM C.no (i++[a,b]) C.w.params h' b o') (ht:s.toks≤t) :
  Rep C (i++[a,b]) loc (hp++[o,o']) {heap:=h',gens:=s.gens,drawn:=d,toks:=t,os:=s.os}∧aJ own i s (i++[a,b]) {heap:=h',gens:=s.gens,drawn:=d,toks:=t,os:=s.os}:=by
 have qm:∀x,s.heap.get? x=none->x∉i:=λx hx hm=>by
  refine cg (ae.gy hm) λ_ _ _ _ q=>?_;refine aj (q.some) λob e _=>?_;rw[hx]at e;exact(Option.some_ne_none _ e.symm).elim
 have gr:bB i (i++[a,b]):=⟨[a,b],rfl⟩;refine ae.step (λb o e _=>k b o e) ⟨[a,b],rfl,by simp[hn,hm]⟩ (λb hb=>?_) (by simp[ae.len]) ?_ (λtk n ob e=>?_) rfl rfl ht
 ·refine cg (ae.gy hb) λ_ _ _ _ q=>?_;refine fj (q.some) λo e _ h2 _=>?_;exact⟨o,k b o e,h2⟩
 ·rw[List.nodup_append];refine⟨ae.nd,by simp[uH],λx hx y hy=>?_⟩;simp at hy;rcases hy with rfl|rfl
  ·rintro rfl;exact qm _ hn hx
  ·rintro rfl;exact qm _ hm hx
 ·by_cases hl:n<hp.length
  ·rw[List.getElem?_append_left hl]at e;refine aj (ae.objs n ob e) λc e1 q=>?_;refine aj (q.some) λob' e2 _=>?_;exact⟨c,gr.get e1,q.keep gr tk ((k c ob' e2).trans e2.symm)⟩
  ·refine aQ (Nat.exists_eq_add_of_le (Nat.le_of_not_lt hl)) λm rz=>?_;subst rz;rw[List.getElem?_append_right (Nat.le_add_right _ _),Nat.add_sub_cancel_left]at e;have ei:∀m,(i++[a,b])[hp.length+m]?=[a,b][m]?:=λm=>by rw[<- ae.len,List.getElem?_append_right (Nat.le_add_right _ _),Nat.add_sub_cancel_left]
   cases m with
   |zero=>obtain rfl:=oi e;exact⟨a,ei 0,ho tk⟩
   |succ m =>
    cases m with
    |zero=>obtain rfl:=oi e;exact⟨b,ei 1,qk tk⟩
    |succ m=>exact bx e
theorem Rep.under (R:Rep C i loc hp s)(A':Around):Rep {C with A:=A'} i loc hp s:=⟨R.ns,R.len,R.objs,R.nd,R.new,R.own,R.base,R.fR,R.gens,R.os,R.pos,R.ll,R.ej⟩
theorem Rep.above {A':Around}(R:Rep {C with A:=A'} i loc hp s):Rep C i loc hp s:=⟨R.ns,R.len,R.objs,R.nd,R.new,R.own,R.base,R.fR,R.gens,R.os,R.pos,R.ll,R.ej⟩
theorem mu.above {A':Around}{k:Int}{e:Value}(f:mu {C with A:=A'} k e s):mu C k e s:=⟨f.obj,f.base,f.fR,f.gens,f.os⟩
theorem Cx.Ok.under {n:Nat}(O:C.Ok (n+1)){A':Around}(hf:A'.frames=C.A.frames)(hd:A'.depth≤C.A.depth+10)(hu:A'.units≤C.A.units+40)(hh:A'.handled=C.A.handled):Cx.Ok {C with A:=A'} n :=
 ⟨hf.trans O.frames,Nat.le_trans (Nat.add_le_add_right hd _) (yT (l:=10) (Nat.ble_self_eq_true _) O.depth),Nat.le_trans (Nat.add_le_add_right hu _) (yT (l:=40) (Nat.ble_self_eq_true _) O.units),hh.trans O.handled,O.dJ,O.top,O.kind,O.globals,O.builtins,λx kd e=>by
  refine bp (O.names x kd e) λh1 h2=>?_;refine⟨?_,h2⟩;cases kd<;>exact h1,O.nd,O.cells,O.nF,O.above,O.noNew,O.frame,O.func⟩
theorem AL (C:Addr)(rest:List Value)(kw:List (Str×Value)):(Code.builtin "type.__call__" ⟨.ref C::rest,kw⟩).cUnits=1:=by rfl
theorem yz (C:Addr)(rest:List Value)(kw:List (Str×Value)):(Code.builtin "type.__call__" ⟨.ref C::rest,kw⟩).weight=1:=by rfl
theorem Ck (C:Addr)(rest:List Value)(kw:List (Str×Value)):(Code.builtin "type.__call__" ⟨.ref C::rest,kw⟩).envs=[]:=by rfl
theorem AM (CC:Addr)(as:List Value)(A:Around):(A.under (.builtin "type.__call__" ⟨.ref CC::as,[]⟩)).frames=A.frames:=by
 unfold Around.under;rw[Ck];rfl
theorem tw (CC:Addr)(as:List Value)(A:Around):(A.under (.builtin "type.__call__" ⟨.ref CC::as,[]⟩)).depth≤A.depth+10:=by
 unfold Around.under;rw[yz];exact Nat.add_le_add_left (by decide) _
theorem Cm (CC:Addr)(as:List Value)(A:Around):(A.under (.builtin "type.__call__" ⟨.ref CC::as,[]⟩)).units≤A.units+40:=by
 unfold Around.under;rw[AL];exact Nat.add_le_add_left (by decide) _
section
variable {n N:Nat}{d:cy}{c:Ca}(O:C.Ok (n+1))(F:bU C.w.params)(Y5:∀CC,isClass CC=true->makesIn (K C.w.params) CC=true)(cF:qI n c)
include O F Y5 cF
theorem LA (ae:Rep C i loc hp s){CC:Addr}(hC:isClass CC=true){vs:List V}{as:List Value}(hv:Vals C.no i s.heap vs as)(hnf:∀f,fg (d7 CC) .init=some f->isClass f=false)(hb:m6 c CC vs hp≠.bad) :
  codeAny C.M C.A (.call (.ref CC) ⟨as,[]⟩) (oU C i loc s (m6 c CC vs hp)) s:=by
 unfold m6 at hb ⊢;cases hk:fg (d7 CC) .init with
 |none=>rw[hk]at hb;exact absurd rfl hb
 |some f =>
  rw[hk]at hb;simp only at hb ⊢;refine bp ((F.cls CC hC).bA .init f hk) λh1 h2=>?_;have X:(K C.w.params).In s.heap:=ae.dJ O;obtain⟨hh,g,dd,t,os⟩:=s;have sz:(hh.push emptyDict).objs.size=hh.objs.size+1:=Heap.size_push ..;refine make_core (makes_of X (Y5 CC hC)) (looks_findIn X h1) (λself=>bind_fn X self h2) (.inl rfl) ?_;have kp:∀b o,hh.get? b=some o->((hh.push emptyDict).push (instObj CC hh.objs.size)).get? b=some o:=λb o e=>Heap.get?_push_of_some _ (Heap.get?_push_of_some _ e);have gd:((hh.push emptyDict).push (instObj CC hh.objs.size)).get? hh.objs.size=some emptyDict:=Heap.get?_push_of_some _ (Heap.get?_push_size _ rfl);have gx:((hh.push emptyDict).push (instObj CC hh.objs.size)).get? (hh.objs.size+1)=some (instObj CC hh.objs.size):=by rw[<- sz];exact Heap.get?_push_size _ rfl
  obtain⟨aV,gS⟩:=ae.T6 (own:=[]) (a:=hh.objs.size+1) (b:=hh.objs.size) (o:=.inst CC (hp.length+1)) (o':=.dict []) (d:=dd) (t:=t) kp (eV _ 1) (eV _ 0) (Nat.succ_ne_self _)
   (λtk=>⟨hh.objs.size,by
    rw[<- ae.len,List.getElem?_append_right (Nat.le_add_right _ _)];have e0:i.length+1 - i.length=1:=by apply yA<;>trivial
    rw[e0];rfl,gx⟩) (λtk=>⟨[],_,gd,.nil,by simp⟩) (Nat.le_refl _)
  have aaA:=O.under (A':=C.A.under (.builtin "type.__call__" ⟨.ref CC::as,[]⟩)) (AM CC as C.A) (tw CC as C.A) (Cm CC as C.A) rfl;have lK:(i++[hh.objs.size+1,hh.objs.size])[hp.length]?=some (hh.objs.size+1):=by rw[<- ae.len];simp
  have Xv:Vals C.no (i++[hh.objs.size+1,hh.objs.size]) ((hh.push emptyDict).push (instObj CC hh.objs.size)) (.ref hp.length::vs) (.ref (hh.objs.size+1)::as):=.cons (.ref _ _ lK) (hv.keep gS.g (bq.of kp));have jj:c (.fix (.ref f)) (.ref hp.length::vs) (hp++[.inst CC (hp.length+1),.dict []])≠.bad:=λq=>by rw[q]at hb;exact hb rfl
  refine codeAny_mono (cF (C:={C with A:=C.A.under (.builtin "type.__call__" ⟨.ref CC::as,[]⟩)}) aaA F (aV.under _) (hnf f hk) Xv jj) λr s' z=>?_;rcases r with e|(_|_|_|v)
  ·refine dQ z λk er f' kx=>?_;exact⟨k,by rw[er];rfl,f'.above,gS.z7 kx⟩
  all_goals first|exact z.elim|skip
  refine fk z λb hp' i' er R' K' NA=>?_;rw[er]at hb;simp only[az]at hb;split at hb
  ·cases NA with
   |none =>
    refine⟨rfl,?_⟩;show PN C [] i _ _ _ _ _ _;rw[er];exact dW (C:=C) R'.above (gS.trans K') (.ref _ _ (K'.g.get lK))
  ·exact absurd rfl hb
end
end
section
structure la (P:Params):Prop where
 two:bU P
 fns:∀a st,table.lookup a=some st->Ly P a st
 made:∀CC,isClass CC=true->makesIn (K P) CC=true
 keep:∀a,(isClass a=true∨(table.lookup a).isSome=true)->keepIn (K P) (.ref a)=true
 get:∀{M:Model} {A:Around} (pl:Sem Bool) (Q:Value×List Value->Shared->Prop) (E:Value->Shared->Prop) (s:Shared),(K P).In s.heap->Q (.builtin "dict.get",[.ref 89]) s->wpAny M A (getMethod (.ref 89) "get" pl) Q E s
section
variable {n N:Nat}{d:cy}(O:C.Ok n)(FA:∀P,la P)(D:c5 n d)
include O FA D
omit O FA D in
theorem iY {b:Bool}(h:(!b)=true):b=false:=(Bool.not_eq_true' b).mp h
theorem AN (ae:Rep C i loc hp s)(elt:Expr)(scope:Scope)(g:Comprehension)(pos:Pos):SV C [] i loc s (ED N d C.sc elt scope g loc hp) (eval (.ListComp elt [g] scope pos) C.env):=by
 obtain⟨tg,it,ifs,a⟩:=g;refine ew λt ht=>fZ λhc=>?_;have h0:=bk hc;have h1:=bk h0.2;have h2:=bk h1.2;have h3:=bk h2.2;have h4:=bk h3.2;have ha:a=0:=beq_iff_eq.mp h0.1;subst ha;exact O8 O (FA C.w.params).two D ae elt tg it ifs scope pos ht h1.1 (beq_iff_eq.mp h2.1) ⟨iY h3.1,iY h4.1⟩ h4.2
theorem Io (ae:Rep C i loc hp s)(e:Expr):SV C [] i loc s (z0 N d C.sc e loc hp) (eval e C.env):=by
 refine ew λq hq=>ew λg hg=>?_;obtain⟨elt,gs,scope⟩:=q;refine aQ (xu hq) λp aC=>?_;subst aC;have eg:gs=[g]:=fh hg;subst eg;exact AN O FA D ae elt scope g p
omit O FA D in
theorem Fw {κ:Type}{o:Option κ}{f:κ->Ex}{m:Nat}{t:Sem Flow}(h:∀k,o=some k->SS C i s (aR m (f k) loc hp) t):SS C i s (aR m (xo o f) loc hp) t:=by
 cases o with
 |none=>exact λhb=>absurd rfl hb
 |some k=>exact h k rfl
omit O FA D in
theorem Xw {b:Bool}{f:Ex}{m:Nat}{t:Sem Flow}(h:b=true->SS C i s (aR m f loc hp) t):SS C i s (aR m (xi b f) loc hp) t:=by
 cases b with
 |false=>exact λhb=>absurd rfl hb
 |true=>exact h rfl
theorem Fx (ae:Rep C i loc hp s){x:Str}{p:Pos}{kd:NameKind}{m:Nat}(e:Expr)(nh:Pos)(xV:C.sc.lookup x=some kd)(fi:kd=.local∨kd=.cell)(hs:slot C.sc x=some m)(nN:swapsWith e (some (.Name x p)) nh.line C.env=pure true) :
  SS C i s (aR m (z0 N d C.sc e) loc hp) (exec (.Assign [.Name x p] e nh) C.env):=by
 refine Fw λq hq=>?_;refine aQ (xu hq) λpos aC=>?_;subst aC;refine Fw λg hg=>?_;obtain⟨elt,gs,scope⟩:=q;obtain rfl:gs=[g]:=fh hg;obtain⟨tg,it,ifs,a⟩:=g;refine Fw λt ht=>Xw λhc=>?_;have h0:=bk hc;have h1:=bk h0.2;have h2:=bk h1.2;have h3:=bk h2.2;have h4:=bk h3.2;obtain rfl:a=0:=beq_iff_eq.mp h0.1;exact Lq O (FA C.w.params).two D ae elt tg it ifs scope pos nh ht h1.1 (beq_iff_eq.mp h2.1) ⟨iY h3.1,iY h4.1⟩ h4.2 xV fi hs nN
end
section
variable {n N:Nat}{d:cy}{c:Ca}(O:C.Ok n)(FA:∀P,la P)(D:c5 n d)(cO:kZ n c)(kO:nK C.w.params c)
include O FA D cO kO
omit cO kO in
theorem LB (ae:Rep C i loc hp s)(o:Expr)(as:List Expr)(apos pos:Pos)(h0:jC o=false)(h3:(apos.endLine==pos.line)=true):SV C [] i loc s (M9 d C.sc o as loc hp) (eval (.Call (.Attribute o "replace" apos) as [] pos) C.env):=by
 refine ew λq1 e1=>ew λy e2=>ew λnn e3=>ew λq4 e4=>ew λf e5=>ew λx e6=>ew λx' e7=>fZ λe8=>?_;refine jK (tP e2) λq p h2=>?_;refine aQ (mM e4) λpc h4=>?_;refine aQ (jD e5) λpf h5=>?_;refine aQ (jD e7) λpx h7=>?_;refine bp (qC (bk e8).2) λC4 C5=>?_;rw[ml e1,h2,h4,h5,fh e6,h7,fY (bk e8).1,C4];exact OZ O (FA C.w.params).two D ae o y nn q p "str" x' pf px pc apos pos (fh e3) rfl C5 h0 h3
theorem LC (ae:Rep C i loc hp s)(f:Expr)(as:List Expr)(pos:Pos)(h1:as.all noStar=true)(h2:as.length<20):SV C [] i loc s (Na c d C.sc f as pos loc hp) (eval (.Call f as [] pos) C.env):=by
 have F:=(FA C.w.params).two;cases f with
 |Attribute o m apos =>
  refine fZ λhc=>?_;have h3:=(bk hc).1;have h0:=iY (bk hc).2;by_cases hm:(m==("replace":Str))=true
  ·rw[if_pos hm];have nO:m=("replace":Str):=beq_iff_eq.mp hm;subst nO;exact LB O FA D ae o as apos pos h0 h3
  ·rw[if_neg hm];exact ew λk hk=>ON O F D cO kO (λpl Q E s hX hq=>(FA C.w.params).get pl Q E s hX hq) ae o m k as apos pos hk h1 h2 h0 h3
 |Name x p=>exact OL O F D cO kO ae _ as pos h1 ⟨_,_,rfl⟩
 |_=>exact λhb=>absurd rfl hb
omit cO kO in
theorem Pa (ae:Rep C i loc hp s)(o sl:Expr)(pos:Pos):SV C [] i loc s (R8 d C.sc o sl loc hp) (eval (.Subscript o sl pos) C.env):=by
 have F:=(FA C.w.params).two;cases sl with
 |Slice lo hi st p=>exact fZ λh=>by rw[l8 h];exact KN O F D ae o lo hi p pos
 |Constant k q p =>
  cases k with
  |str x=>exact ew λk hk=>OR O F D ae o x k q p pos hk
  |_=>exact HM O F D ae o _ pos rfl
 |_=>exact HM O F D ae o _ pos rfl
theorem Pb (ae:Rep C i loc hp s)(e:Expr):SV C [] i loc s (Hr c N d C.sc e loc hp) (eval e C.env):=by
 have F:=(FA C.w.params).two;have z:∀{es:List Expr},EE es=true->es.all noStar=true∧es.length≤sizeLine:=λh=>⟨(bk h).1,Nat.le_trans (of_decide_eq_true (bk h).2) (by decide)⟩;cases e with
 |Constant k q p=>exact ta O F.base ae k q p
 |Name x p=>exact hR O ae (λv hv=>F.base.iT _ v hv)
 |BoolOp op es pos=>exact OJ O F.base D op pos es ae
 |BinOp a op b p=>exact Sk O F.base D ae a op b p
 |UnaryOp op e p =>
  cases op with
  |USub=>exact Sl O F.base D ae e p
  |Not=>exact Sm O F.base D ae e p
  |_=>exact λhb=>absurd rfl hb
 |IfExp t a b p=>exact W8 O F.base D ae t a b p
 |Dict ks vs pos =>
  refine ew λkk hkk=>fZ λhc=>?_;have h1:=bk hc;have h2:=bk h1.2;exact OU O F D ae ks kk vs pos hkk (beq_iff_eq.mp h1.1) (λq=>by rw[q]at h2;exact absurd h2.1 nofun) (of_decide_eq_true h2.2)
 |List es p=>exact fZ λh=>Su O F.base D ae es p (z h).1 (z h).2
 |Tuple es q p=>exact fZ λh=>Ss O F.base D ae es q p (z h).1 (z h).2
 |ListComp elt gs scope p=>exact ew λg hg=>by rw[fh hg];exact AN O FA D ae elt scope g p
 |Compare e ops es p=>exact fZ λh=>Sq O F.base D ae e ops es p (beq_iff_eq.mp (bk h).1) (iY (bk h).2)
 |Call f as ks p=>exact fZ λh=>by rw[fY (bk h).1];exact LC O FA D cO kO ae f as p (bk (bk h).2).1 (of_decide_eq_true (bk (bk h).2).2)
 |FormattedValue e k fs p=>exact fZ λh=>by rw[l8 (bk h).2,show k=-1 from beq_iff_eq.mp (bk h).1];exact SA O F D ae e p
 |JoinedStr es p=>exact OT O F D ae es p
 |Attribute o m p=>exact fZ λh=>ew λk hk=>OO O F D cO kO ae o m k p hk (iY h)
 |Subscript o sl p=>exact Pa O FA D ae o sl p
 |_=>exact λhb=>absurd rfl hb
end
end
section
section
variable {n N:Nat}{d:cy}{c:Ca}(O:C.Ok n)(FA:∀P,la P)(D:c5 n d)
include O FA D
theorem Pc (ae:Rep C i loc hp s)(e:Expr):SB C [] i loc s (Hs d C.sc e loc hp) (isTrue e C.env (eval e C.env)):=by
 have F:=(FA C.w.params).two;cases e with
 |UnaryOp op a p =>
  cases op with
  |Not=>exact So O F.base D ae a p
  |_=>exact HA O F.base D ae _ rfl
 |BoolOp op es p=>exact Sn O F.base D op es ae
 |IfExp a b c p=>exact W9 O F.base D ae a b c p
 |Compare e ops es p=>exact fZ λh=>Sr O F.base D ae e ops es p (beq_iff_eq.mp (bk h).1) (iY (bk h).2)
 |_=>exact HA O F.base D ae _ rfl
end
end
section
def wK (n:Nat):Prop:=∀{C:Cx},C.Ok n->∀{d:cy},c5 n d->∀{i loc hp s},Rep C i loc hp s->∀(p q r:Pos) (a b:Expr),C.sc.lookup ("TextFault":Str)=some .globalImplicit->noStar a=true->noStar b=true ->
 SS C i s (c8 (d.ex C.sc a) (d.ex C.sc b) loc hp) (exec (.Raise (some (.Call (.Name "TextFault" p) [a,b] [] q)) none r) C.env)
section
variable {n N:Nat}{d:cy}{c:Ca}(O:C.Ok n)(FA:∀P,la P)(D:c5 n d)(rO:wK n)
include O FA D rO
omit rO in
theorem Ip (ae:Rep C i loc hp s)(t e:Expr)(pos:Pos):SS C i s (Sa N d C.sc e t loc hp) (exec (.Assign [t] e pos) C.env):=by
 have F:=(FA C.w.params).two;cases t with
 |Name x p =>
  refine fZ λh1=>ew λm h2=>?_;have h1:C.sc.lookup x=some .local:=beq_iff_eq.mp h1;refine aj (uL e x p pos.line C.env) λb nN T7=>?_;cases hc:fE e with
  |true =>
   cases b with
   |true=>exact Fx O FA D ae e pos h1 (.inl rfl) h2 nN
   |false=>exact tW O F D ae e (Io O FA D ae e) pos h1 (.inl rfl) h2 nN
  |false =>
   rw[T7 hc]at nN;exact tW O F D ae e (D.ex O F.base ae e) pos h1 (.inl rfl) h2 nN
 |Attribute o m p=>exact fZ λh=>ew λk hk=>K8 O F D ae o m k p e pos hk (iY (bk h).2)
 |Subscript o sl p =>
  refine fZ λh=>ew λx hx=>ew λk hk=>?_;refine jK (tP hx) λq px bH=>?_;subst bH;exact K9 O F D ae o x q px k p e pos hk (iY h)
 |Tuple ts q p =>
  refine fZ λh=>ew λis Tz=>?_;have h:=Bool.or_eq_false_iff.mp (iY h);exact O3 O F D ae (tn ts is Tz) q p e pos h.1 h.2
 |_=>exact λhb=>absurd rfl hb
omit FA in
theorem Cn (ae:Rep C i loc hp s)(e:Expr)(r:Pos):SS C i s (Ht d C.sc e loc hp) (exec (.Raise (some e) none r) C.env):=by
 refine ew λq1 e1=>ew λx e2=>ew λq3 e3=>fZ λe4=>?_;obtain⟨f,as,ks⟩:=q1;obtain⟨a,b⟩:=q3;refine aQ (mM e1) λq aC=>?_;subst aC;refine aQ (jD e2) λp h2=>?_;have h3:as=[a,b]:=ml e3;have h4:ks=[]:=fY (bk e4).1;have h5:=bk (bk e4).2;refine bp (qC h5.1) λnI h6=>?_;subst nI;have h2:f=.Name "TextFault" p:=h2;subst h2 h3 h4;exact rO O D ae p q r a b h6 (bk h5.2).1 (bk h5.2).2
theorem Pe (eS:∃outer,C.d9=C.env::outer)(ae:Rep C i loc hp s)(st:Stmt):SS C i s (Hu N d C.sc st loc hp) (exec st C.env):=by
 have F:=(FA C.w.params).two;cases st with
 |Expr e pos=>exact fZ λh=>O1 O F D ae e pos (iY h)
 |Return e pos =>
  cases e with
  |none=>exact O0 O F D ae pos
  |some e=>exact S7 O F D ae e pos
 |Assign ts e pos=>exact ew λt ht=>by rw[fh ht];exact Ip O FA D ae t e pos
 |If t a b pos=>exact Xg O F D eS ae t a b pos
 |While t a b pos =>
  refine fZ λh=>?_;refine aQ eS λouter Ll=>?_;rw[fY h];exact La O F D Ll ae t a pos
 |For t it a b pos=>exact fZ λh=>ew λtg hk=>by rw[fY (bk h).1];exact TA O F D eS ae t it a pos hk (iY (bk h).2▸Bool.false_ne_true)
 |Raise e r pos =>
  refine fZ λh=>?_;rw[l8 h];cases e with
  |none=>exact λhb=>absurd rfl hb
  |some e=>exact Cn O D rO ae e pos
 |_=>exact λhb=>absurd rfl hb
end
theorem uS {n N:Nat}{c:Ca}(FA:∀P,la P)(cO:kZ n c)(kO:∀P,nK P c)(rO:wK n)(m:Nat):c5 n (gv c N m):=by
 induction m with
 |zero=>exact⟨λ_ _ _ _ _ _ _ _ hb=>absurd rfl hb,λ_ _ _ _ _ _ _ _ hb=>absurd rfl hb,λ_ _ _ _ _ _ _ _ _ hb=>absurd rfl hb⟩
 |succ m ih=>exact⟨λO _ _ _ _ _ R e=>Pb O FA ih cO (kO _) R e,λO _ _ _ _ _ R e=>Pc O FA ih R e,λO _ hf _ _ _ _ R st=>Pe O FA ih rO hf R st⟩
end
section
theorem qJ {K:Frag}{h:Heap}{C:Addr}{cd:ClassData}(X:K.In h)(e:clsIn K C=some cd):∃c d sl,h.get? C=some ⟨c,d,.cls cd,sl⟩:=by
 unfold clsIn at e;cases ho:K.lookup C with
 |none=>rw[ho]at e;exact bx e
 |some o =>
  rw[ho]at e;cases o with|mk c d x sl =>
  cases x with
  |cls cd'=>exact⟨c,d,sl,oi e▸X _ _ ho⟩
  |_=>exact bx e
theorem xY {o:Expr}{name:Str}{apos pos:Pos}{args:List Expr}{env:Env}(hs:args.all noStar=true)(hl:args.length<20)(ay:(apos.endLine==pos.line)=true) :
  eval (.Call (.Attribute o name apos) args [] pos) env=(do
   let ov <- attributeBase o name env (eval o env)
   standAt apos.atName
   let(f,first) <- holding [ov] (getMethod ov name (do return (<- importBound o env).getD true))
   callWith pos f first (backTo pos (starEach args env)) []):=by
 show(do
  let ov <- attributeBase o name env (eval o env)
  standAt apos.atName
  methodCall o name apos pos env ov (args.length+0) (backTo pos (starEach args env)) (backToKw pos (keywordEach [] env)))=_
 have few:methodCallForm (args.length+0) (backTo pos (starEach args env)) (backToKw pos (keywordEach [] env))=true:=by
  have h1:(backTo pos (starEach args env)).all (λx=>!x.1)=true:=by
   have:=iW args pos env hs;rw[List.any_eq_false]at this;rw[List.all_eq_true];intro x hx
   simpa using this x hx
  show((backTo pos (starEach args env)).all (λx=>!x.1)&&([]:List (Option Str×Sem Value)).all (λx=>x.1.isSome)&&decide (args.length+0+0<30))=true;rw[h1];simp;(apply aI<;>trivial)
 have ep:methodCallPos true o env apos pos=pure pos:=by
  unfold methodCallPos;rw[ay];rfl
 congr 1;funext ov;congr 1;funext _;unfold methodCall;rw[few]
 show(do
   let(f,first) <- holding [ov] (getMethod ov name (do return (<- importBound o env).getD true))
   let iX <- methodCallPos true o env apos pos
   callWith iX f first (backTo pos (starEach args env)) [])=_
 rw[ep];congr 1
section
variable {w:World}{A:Around}{E:Value->Shared->Prop}{f:Addr}{st:Stmt}{name qual:Str}{cl:List (Str×Addr)}{pm code ct:Value}{oc:Value}{od:Option Addr}{nS:Array (Option Value)}
theorem ub (gN:(K w.params).lookup f=some ⟨oc,od,.func (qg name qual st cl pm code ct),nS⟩)(mz:codeIn (K w.params) code qual=true)(jb:t9 st cl=true)(X:(K w.params).In s.heap)(nl:s.heap.NoLimit)(hd:A.depth<recursionLimit)
  {as:List Value} (hl:((bf st).args.map (·.arg)).length=as.length) {R:Result->Shared->Prop}
  (h:∀env oc ah,gY s f code (aw st) cl (((bf st).args.map (·.arg)).zip as) env oc ah->codeAny (model pw w) A (.func (dj st) env) R ah) :
  codeAny (model pw w) A (.call (.ref f) ⟨as,[]⟩) R s:=by
 have ok:=gM jb;refine codeAny_call_function (fd:=qg name qual st cl pm code ct) (body:=dj st) hd (X _ _ gN) rfl ok.co ok.gen rfl (codeRec_of X mz) ?_;rw[oS ok.plain hl];exact wpAny_pure (AJ ok hl λenv oc ah T=>⟨nl.keeps T.keep,h env oc ah T⟩)
end
structure lL (P:Params)(f:Addr)(st:Stmt)(D C cc mA:Addr):Prop where
 fn:∃oc od nS name qual pm ct,(K P).lookup f=some ⟨oc,od,.func (qg name qual st [("__class__",cc)] pm (.ref mA) ct),nS⟩∧codeIn (K P) (.ref mA) qual=true
 ok:t9 st [("__class__",cc)]=true
 arg:∃ar,((bf st).posonlyargs++(bf st).args).head?=some ar∧ar.arg=("self":Str)
 qK:(aw st).names.lookup ("super":Str)=some .globalImplicit
 nT:(aw st).names.lookup ("__class__":Str)=some .free
 lM:(aw st).names.lookup ("self":Str)=some .local
 code:∃Y6 Y7 vs Y8 file tf,(K P).lookup mA=some ⟨Y6,Y7,.fields vs,Y8⟩∧vs[2]?=some (.str file tf)∧((pw.main.file:Str)==file)=true
 cell:∃c d sl,(K P).lookup cc=some ⟨c,d,.cell (some (.ref D)),sl⟩
 cls:∃cd,clsIn (K P) D=some cd
 sub:mroIn (K P) C (.ref D)=some true
 glob:nsIn (K P) mainGlobals "super"=some none
section
variable {w:World}{A:Around}{E:Value->Shared->Prop}{f D CC cc mA x:Addr}{st:Stmt}{bs:List (Str×Value)}{env:Env}{oc:List Addr}{ox:Obj}{p:Program}{loose:List Str}{mg mb:Str->Option Value}{hb:Heap}
theorem AO (S:lL w.params f st D CC cc mA)(ok:ua st [("__class__",cc)])(X:(K w.params).In ah.heap)(T:gY s f (.ref mA) (aw st) [("__class__",cc)] bs env oc ah)
  (TR:TopRead p loose mg mb hb) (jU:(K w.params).In hb) (kb:∀b o,hb.get? b=some o->ah.heap.get? b=some o) (hv:bs.lookup ("self":Str)=some (.ref x)) (hx:ah.heap.get? x=some ox) (hxc:ox.cls=.ref CC) (Iq:∀c,ox.data≠.cls c)
  {body:List Stmt} {p0 p1:Pos} {whole:Sem Value} {Q:Value->Shared->Prop}
  (h:∀h',h'.get? ah.heap.objs.size=some (ks_superObj D x CC)->(∀y o,ah.heap.get? y=some o->h'.get? y=some o)->Q (.ref ah.heap.objs.size) {ah with heap:=h'}) :
  _root_.PySem.wpAt (model pw w) A (.func body env) (attributeBase (.Call (.Name "super" p0) [] [] p1) "__init__" env whole) Q E ah:=by
 obtain⟨AH,od,nS,name,qual,pm,ct,gN,mz⟩:=S.fn;refine aj (S.arg) λar har aaB=>?_;refine ZU (S.code) λY6 Y7 vs Y8 file tf C6 uT hc3=>?_;refine ow (S.cell) λc d sl kN=>?_;refine aQ (S.cls) λcd hD=>?_
 obtain⟨oD,Y9,Za⟩:∃oD,ah.heap.get? D=some oD∧oD.data=.cls cd:=by
  refine ow (qJ X hD) λc d sl ho=>?_;exact⟨_,ho,rfl⟩
 have ek:∀y,env.kindOf y=(aw st).names.lookup y:=λy=>by
  show env.scope.names.lookup y=_;rw[T.sc]
 have yS:env.scope.kind=.function:=by rw[T.sc];exact ok.kind
 refine aj (T.ns) λm hm qb=>?_;have lK:=(qb _ S.lM).trans hv;refine ks_wpAt_super_base (env:=env) ((ek _).trans S.qK) ((ek _).trans S.nT) rfl T.func (X _ _ gN) rfl har T.code (X _ _ C6) rfl uT hc3 (by kernel_rfl) ?_;refine ks_loadName_global yS ((ek _).trans S.qK) (loadGlobal_builtin (mg:=mg) (mb:=mb) (by rw[T.globals];exact TR.g.keeps kb) (mg_none_of jU TR.g S.glob) (by rw[T.builtins];exact TR.b.keeps kb) ((TR.builtins _ (by decide +kernel)).trans (by kernel_rfl)) ⟨rfl,?_⟩)
 have nR:env.cells.lookup ("__class__":Str)=some cc:=by
  rw[T.free _ (bP S.nT)];rfl
 refine wpAny_loadName_free yS ((ek _).trans S.nT) nR ⟨_,X _ _ kN,rfl⟩ ?_;rw[aaB];refine wpAny_loadName_local yS ((ek _).trans S.lM) hm lK ?_;obtain⟨hh,g,dr,t,os⟩:=ah;refine ks_wpAny_isType_cls Y9 Za ⟨rfl,?_⟩;exact ks_wpAny_call_super Y9 Za hx hxc Iq (looks_mroIn X S.sub) λh' e k=>h h' e k
end
end
section
theorem tx:Slot "wrapper_descriptor" "__get__" "wrapper_descriptor.__get__":=.of (owner:="wrapper_descriptor") (n:="__get__") (by rw[typeLookup_type,builtinLookup_eq_fast];kernel_rfl) (by decide +kernel) (by decide +kernel) (by decide +kernel)
 (by first|exact .inl (by decide +kernel)|exact .inr (by decide +kernel)) (by rw[isSubtype_type];kernel_rfl)
theorem AP:entryFor PySem.table "wrapper_descriptor.__get__"=some Builtin.«wrapper_descriptor.__get__»:=entryFor_of_tree (by kernel_rfl)
theorem Co (a b c:Value):argsOk "wrapper_descriptor.__get__" ⟨[a,b,c],[]⟩:=by unfold argsOk;kernel_rfl
theorem Pg:typeOf (.builtin "Exception.__init__")=pure (.type "wrapper_descriptor"):=by kernel_rfl
theorem Ph (x C:Addr):∃err:Sem Unit,Builtin.«wrapper_descriptor.__get__» ⟨[.builtin "Exception.__init__",.ref x,.ref C],[]⟩ =
  ((do if !(<- isInstance (.ref x) (.type "Exception"))then err)>>=λ_=>newFields "method-wrapper" [.builtin "Exception.__init__",.ref x]>>=λv=>ret v):=⟨_,by rfl⟩
noncomputable abbrev rF (x:Addr):Obj:={cls:=.type "method-wrapper",dict:=none,data:=.fields #[.builtin "Exception.__init__",.ref x],slots:=#[]}
theorem xZ {P:Params}{h:Heap}{x C:Addr}{ox:Obj}{cd:ClassData}(X:(K P).In h)(hx:h.get? x=some ox)(Iq:∀c,ox.data≠.cls c)(hc:clsIn (K P) C=some cd):x≠C:=by
 rintro rfl;refine ow (qJ X hc) λc d sl ho=>?_;exact Iq cd (oi (hx.symm.trans ho)▸rfl)
section
variable {w:World}{A:Around}{E:Value->Shared->Prop}{h:Heap}{g:Array GenState}{d:Drawn}{t:Nat}{os:OsState}
theorem T8 {x C:Addr}{Q:Fin->Shared->Prop}(jU:Looks (model pw w) h (isInstance (.ref x) (.type "Exception")) true)(hq:Q (.done (.ret (.ref h.objs.size))) ⟨h.push (rF x),g,d,t,os⟩) :
  wpAny (model pw w) A (Builtin.«wrapper_descriptor.__get__» ⟨[.builtin "Exception.__init__",.ref x,.ref C],[]⟩) Q E ⟨h,g,d,t,os⟩:=by
 refine aQ (Ph x C) λerr e=>?_;rw[e];refine wpAny_bind (wpAny_bind (jU.here ?_));refine wpAny_pure (wpAny_bind ?_);unfold newFields;refine wpAny_newObj_type (wpAny_pure ?_) (by size_fits);exact hq
theorem Fy {so D x C:Addr}{l₀ l:List Value}{P:Params}{name:Str}{tk:Tok}{Q:Fin->Shared->Prop}
  (qd:h.get? so=some (ks_superObj D x C)) (cT:Looks (model pw w) h (opaqueClassAbove (.ref C)) none)
  (hC:Looks (model pw w) h (mroOf (.ref C)) l₀) (hl:(l₀.dropWhile (· != .ref D)).drop 1=l) (X:(K P).In h)
  (hf:alongIn (K P) name l=some (some (.builtin "Exception.__init__"))) (hxC:x≠C) (hn:(name==("__class__":Str))=false) (jU:Looks (model pw w) h (isInstance (.ref x) (.type "Exception")) true)
  (hq:Q (.done (.ret (.ref h.objs.size))) ⟨h.push (rF x),g,d,t,os⟩) :
  wpAny (model pw w) A (Builtin.«super.__getattribute__» ⟨[.ref so,.str name tk],[]⟩) Q E ⟨h,g,d,t,os⟩:=by
 have gN:=tx.lookup;have jc:(Value.ref x==Value.ref C)=false:=by simp[hxC]
 have T9:(ks_superObj D x C).data=.fields #[.ref D,.ref x,.ref C]:=rfl;have f0:(#[.ref D,.ref x,.ref C]:Array Value)[0]?=some (.ref D):=rfl;have f1:(#[.ref D,.ref x,.ref C]:Array Value)[1]?=some (.ref x):=rfl;have f2:(#[.ref D,.ref x,.ref C]:Array Value)[2]?=some (.ref C):=rfl;have Zb:∀s:Shared,s.TypeIs (.builtin "Exception.__init__") "wrapper_descriptor":=λs=>Pg;unfold Builtin.«super.__getattribute__»
 repeat (first
  |(with_reducible refine wpAny_field qd T9 f0 ?_)|(with_reducible refine wpAny_field qd T9 f1 ?_)|(with_reducible refine wpAny_field qd T9 f2 ?_)
  |(with_reducible refine ks_wpAny_notOpaque cT ?_)
  |(with_reducible refine T8 jU ?_)
  |(with_reducible refine Looks.at hC ?_;rw[hl])
  |(refine ks_forIn_along X (λ_ _=>rfl) rfl ?_ hf)
  |(with_reducible refine wpAny_typeOf (Zb _) ?_)
  |(with_reducible refine wpAny_call_entry tx (Zb _) AP ?_ (Co _ _ _))
  |(with_reducible refine⟨_,rfl,?_⟩)
  |(simp only[hn,jc,Bool.or_false,Bool.false_eq_true,if_false])
  |wp_step
  |dsimp only)
 all_goals exact hq
end
end
section
noncomputable abbrev eK (dd:Option Addr) (t:Addr):Obj:={cls:=.ref 81,dict:=dd,data:=.fields #[.ref t,.none,.none,.none,.bool false,.none],slots:=#[]}
inductive Zc (P:Params):Prop
 |mk:∀nm q N bs hdct sn sub ab col dd k0 k1 k2 k3 k5,(K P).lookup 81=some (excClassObj nm q 81 N bs [.ref 69,.ref 40,.type "Exception",.type "BaseException",.type "object"] hdct sn sub ab col dd k0 k1 k2 k3 k5 "Exception.__new__")->Zc P
structure jV (P:Params):Prop where
 cls:∃cd,clsIn (K P) 81=some cd∧cd.mro=[.ref 81,.ref 69,.ref 40,.type "Exception",.type "BaseException",.type "object"]∧cd.hasDict=true
 sa:findIn (K P) (.ref 81) "__setattr__"=some (some (.builtin "object.__setattr__"))
 init:findIn (K P) (.ref 81) "__init__"=some (some (.ref 59))
 t1:takerIn (K P) 81 "what"=some none
 t2:takerIn (K P) 81 "spot"=some none
 sup:ks_superIn (K P) 81 69 "__init__"=some (some (.ref 30))
 Ua:ks_superIn (K P) 81 40 "__init__"=some (some (.builtin "Exception.__init__"))
 C7:nsIn (K P) cStatics "thirdparty.any"=some none
 call:specialIn (K P) (.ref 81) "__call__"=some (some (.builtin "type.__call__"))
 typ:instIn (K P) (.ref 81) (.type "type")=some true
 NB:Zc P
 Ub:typeIn (K P) (.ref 30)=some (.type "function")
 NC:fnIn (K P) 30=true
 Uc:typeIn (K P) (.ref 59)=some (.type "function")
section
variable {w:World}{A:Around}{E:Value->Shared->Prop}{R:Result->Shared->Prop}{x:Addr}{ox:Obj}{od:Option Obj}
theorem Fz (self:Value):refuseLoop self "__setattr__" [.ref 81,.ref 69,.ref 40,.type "Exception",.type "BaseException",.type "object"]=pure ():=by
 rw[refuseLoop_ref,refuseLoop_ref,refuseLoop_ref];exact PySem.F.store_Exception.passes self
theorem C8 (F:jV w.params)(X:(K w.params).In s.heap)(I:InstAt s.heap x ox 81 od){base:Value}(hb:([.ref 81,.ref 69,.ref 40,.type "Exception",.type "BaseException",.type "object"]:List Value).contains base=true) :
  Looks (model pw w) s.heap (isInstance (.ref x) base) true:=by
 refine dQ (F.cls) λcd hc hm _=>?_;exact I.type.andThen (looks_mroIn X (by unfold mroIn;rw[hc,Option.bind_some,if_neg (by rw[hm];decide),hm,hb]))
theorem C9 (F:jV w.params)(X:(K w.params).In s.heap)(I:InstAt s.heap x ox 81 od){name:Str}{tk:Tok}{v:Value}(ht:takerIn (K w.params) 81 name=some none)
  (h:∀b,wpAny (model pw w) A.in1 (Builtin.ObjectAttr.storeInOwnDict (.ref x) (.ref 81) (.str name tk) name v b)
   (λfin s'=>match fin with|.done f=>R (.ok f) s'|.again c'=>c'.quiet=true∧codeAny (model pw w) A c' R s') (λe s'=>R (.error e) s') s) :
  codeAny (model pw w) A (.call (.builtin "object.__setattr__") ⟨[.ref x,.str name tk,v],[]⟩) R s:=by
 have SF:=PySem.F.store_object;refine dQ (F.cls) λcd hc Dc _=>?_;have sub:Looks (model pw w) s.heap (isInstance (.ref x) (.type "object")) true:=C8 F X I (by decide +kernel);refine codeAny_call_builtin SF.slot.plain SF.entry (@check_slot (model pw w) _ _ s "object.__setattr__" "object" "__setattr__" (.ref x) [.str name tk,v] [] _ SF.kind SF.split sub (SF.args (.ref x) (.str name tk) v) ?_);refine aj (Option.bind_eq_some_iff.mp ht) λattr ha hr=>?_;have hm:Looks (model pw w) s.heap (mroOf (.ref 81)) cd.mro:=(looks_clsIn X hc).andThen .now
 have L3:Looks (model pw w) s.heap (Builtin.ObjectAttr.storeTaker? attr) none:=by
  cases attr with
  |none=>exact .now
  |some a =>
   refine aj (Option.map_eq_some_iff.mp hr) λb hb hr=>?_;refine(looks_takesIn X hb).andThen ?_;cases b
   ·exact .now
   ·exact(Option.some_ne_none _ hr).elim
 rw[osa_eq,refuse_eq];refine wpAny_bind (wpAny_bind (I.type.here (wpAny_bind (hm.here ?_))));rw[Dc,Fz];exact wpAny_pure (wpAny_bind (I.type.here (wpAny_bind ((looks_findIn X ha).here (wpAny_bind (L3.here (h _)))))))
theorem AQ (name:Str)(gC:Int)(key v:Value):∀es:List DictEntry,(putL name gC key v es).length≤es.length+1
 |[]=>by simp[putL]
 |e::r=>by
  have:=AQ name gC key v r;unfold putL;split
  ·simp
  ·simp;assumption
theorem x7 {dx:Addr}{ds:List DictEntry}{n:Nat}{name:Str}{tk:Tok}{v:Value}{Q:Fin->Shared->Prop}(D:s.heap.get? dx=some (dictOf ds n))(hl:(getL name ds).isSome=true)(hz:ds.length≤900)
  (h:∀h',h'.get? dx=some (dictOf (putL name (PyData.keyHash w.params name) (.str name s.toks) v ds) (putN name ds n))->(∀b o,b≠dx->s.heap.get? b=some o->h'.get? b=some o)->Q (.done (.ret .none)) {s with heap:=h',toks:=s.toks+1}) :
  wpAny (model pw w) A (Builtin.ObjectAttr.storeInDict dx (.str name tk) name v) Q E s:=by
 unfold Builtin.ObjectAttr.storeInDict Builtin.ObjectAttr.newKeyGuard;refine wpAny_bind (wpAny_pure (wpAny_bind ?_));unfold nsSet;refine wpAny_bind (wpAny_bind (wpAny_askSetting (wpAny_pure (wpAny_bind (wpAny_mkText (wpAny_bind (wpAny_loadPart D ?_)))))));dsimp only
 have c:(!ds.toArray.any (·.key.isStr name)&&ds.toArray.any (·.refKey))=false:=by
  rw[<- Array.any_toList,<- Array.any_toList];unfold getL at hl;split at hl
  ·rename_i en he;rw[List.any_eq_true.mpr ⟨en,List.mem_of_find?_eq_some he,List.find?_some he⟩];rfl
  ·split at hl
   ·exact absurd hl nofun
   ·rename_i z;rw[Bool.not_eq_true]at z;rw[z,Bool.and_false]
 rw[aRefKeyMayBeTheName_at,c];have e:Obj.putName name (PyData.keyHash w.params name) (.str name s.toks) v (dictOf ds n)=dictOf (putL name (PyData.keyHash w.params name) (.str name s.toks) v ds) (putN name ds n):=putName_dict ..;refine wpAny_updatePart D ?_
 have g:(s.heap.update dx (Obj.putName name (PyData.keyHash w.params name) (.str name s.toks) v)).get? dx=some (dictOf (putL name (PyData.keyHash w.params name) (.str name s.toks) v ds) (putN name ds n)):=by
  rw[Heap.get?_update_self _ D (by rw[e];rfl),e]
 refine wpAny_bind (wpAny_lookBehind g (pastItsLine_dict ?_) ?_)
 ·rw[List.size_toArray,sizeLine_eq];have:=AQ name (PyData.keyHash w.params name) (.str name s.toks) v ds;omega
 ·exact wpAny_pure (h _ g λb o hb e=>(Heap.get?_update_ne _ _ _ _ hb).trans e)
theorem Cp (F:jV w.params)(X:(K w.params).In s.heap){t0:Addr}(hx:s.heap.get? x=some (eK none t0)){name:Str}{v:Value}(ht:takerIn (K w.params) 81 name=some none){Q:Unit->Shared->Prop}
  (h:∀h' k,h'.get? x=some (eK (some s.heap.objs.size) t0)->h'.get? s.heap.objs.size=some (dictOf [⟨PyData.keyHash w.params name,.str name (s.toks+1),v⟩] k)->(∀b o,b≠x->s.heap.get? b=some o->h'.get? b=some o)->Q () {s with heap:=h',toks:=s.toks+2}) :
  wpAny (model pw w) A (setAttr (.ref x) name v) Q E s:=by
 have I:InstAt s.heap x (eK none t0) 81 none:=⟨hx,rfl,rfl,trivial⟩;have I':InstAt {s with toks:=s.toks+1}.heap x (eK none t0) 81 none:=I;refine dQ (F.cls) λcd hc Dc hd=>?_;refine set_plain X I F.sa (C9 (s:={s with toks:=s.toks+1}) F X I' ht λb=>?_);have Zd:x≠s.heap.objs.size:=Nat.ne_of_lt (Heap.lt_size hx);obtain⟨hh,g,dr,t,os⟩:=s;refine wpAny_bind (wpAny_pure (wpAny_bind ?_));refine wpAny_bind (wpAny_loadPart hx (wpAny_bind (Looks.at (looks_clsIn X hc) ?_)));rw[hd];have e0:(eK (some hh.objs.size) t0).isFreed=false:=rfl;have g1:((hh.push emptyDict).update x λo=>{o with dict:=some hh.objs.size}).get? x=some (eK (some hh.objs.size) t0):=Heap.get?_update_self _ (Heap.get?_push_of_some _ hx) e0;have g2:((hh.push emptyDict).update x λo=>{o with dict:=some hh.objs.size}).get? hh.objs.size=some (dictOf [] 0):=(Heap.get?_update_ne _ _ _ _ (Ne.symm Zd)).trans (Heap.get?_push_size _ rfl);show wpAny _ _ (alloc emptyDict>>=λdd=>update x (λo=>{o with dict:=some dd})>>=λ_=>dictMade (.ref 81) x dd) _ _ _;refine wpAny_bind (wpAny_alloc' (wpAny_bind (wpAny_update' (Heap.get?_push_of_some _ hx) (wpAny_pure ?_))));refine x7 (s:=⟨(hh.push emptyDict).update x λo=>{o with dict:=some hh.objs.size},g,dr,t+1,os⟩) g2 rfl (by decide) λh' e k=>?_;refine h h' _ (k x _ Zd g1) e λb o hb eb=>k b o (Nat.ne_of_lt (Heap.lt_size eb)) ((Heap.get?_update_ne _ _ _ _ hb).trans (Heap.get?_push_of_some _ eb))
theorem Cq (F:jV w.params)(X:(K w.params).In s.heap){t0 dx:Addr}{ds:List DictEntry}{n:Nat}(hx:s.heap.get? x=some (eK (some dx) t0))(D:s.heap.get? dx=some (dictOf ds n)){name:Str}{v:Value}(ht:takerIn (K w.params) 81 name=some none)
  (hl:(getL name ds).isSome=true) (hz:ds.length≤900) {Q:Unit->Shared->Prop}
  (h:∀h',h'.get? dx=some (dictOf (putL name (PyData.keyHash w.params name) (.str name (s.toks+1)) v ds) (putN name ds n))->(∀b o,b≠dx->s.heap.get? b=some o->h'.get? b=some o)->Q () {s with heap:=h',toks:=s.toks+2}) :
  wpAny (model pw w) A (setAttr (.ref x) name v) Q E s:=by
 have I:InstAt s.heap x (eK (some dx) t0) 81 (some (dictOf ds n)):=⟨hx,rfl,rfl,D⟩;have I':InstAt {s with toks:=s.toks+1}.heap x (eK (some dx) t0) 81 (some (dictOf ds n)):=I;refine dQ (F.cls) λcd hc Dc hd=>?_;refine set_plain X I F.sa (C9 (s:={s with toks:=s.toks+1}) F X I' ht λb=>?_);obtain⟨hh,g,dr,t,os⟩:=s;refine wpAny_bind (wpAny_pure (wpAny_bind ?_));refine wpAny_bind (wpAny_loadPart hx (wpAny_bind (Looks.at (looks_clsIn X hc) ?_)));rw[hd];refine wpAny_pure (a:=some dx) (wpAny_bind (wpAny_pure ?_));exact x7 (s:=⟨hh,g,dr,t+1,os⟩) (tk:=t) D hl hz λh' e k=>h h' e k
end
end
section
structure dw (x:Addr)(s s':Shared):Prop where
 keep:∀b o,b≠x->s.heap.get? b=some o->s'.heap.get? b=some o
 same:∃h t,s'={s with heap:=h,toks:=t}
 toks:s.toks≤s'.toks
theorem dw.trans {x:Addr}(a:dw x s ah)(b:dw x ah aO):dw x s aO:=by
 refine jK (a.same) λh t e=>?_;refine jK (b.same) λh' t' e'=>?_;exact⟨λy o hy e=>b.keep y o hy (a.keep y o hy e),⟨h',t',by rw[e',e]⟩,Nat.le_trans a.toks b.toks⟩
theorem dw.of {x:Addr}{h':Heap}{t:Nat}(k:∀b o,b≠x->s.heap.get? b=some o->h'.get? b=some o)(ht:s.toks≤t):dw x s {s with heap:=h',toks:=t}:=⟨k,⟨_,_,rfl⟩,ht⟩
theorem jH {P:Params}{x:Addr}(X:(K P).In s.heap)(hx:(K P).lookup x=none)(a:dw x s ah):(K P).In ah.heap:=λb o e=>a.keep b o (λq=>by rw[q,hx]at e;cases e) (X b o e)
def uk (attr:Str)(b:List Stmt):Prop:=∃p0 p1 apos px pos pe py pz Ud pa,b=[.Expr (.Call (.Attribute (.Call (.Name "super" p0) [] [] p1) "__init__" apos) [.Name "what" px] [] pos) pe,.Assign [.Attribute (.Name "self" py) attr pz] (.Name attr Ud) pa]∧apos.endLine=pos.line
section
variable {w:World}{A:Around}{E:Value->Shared->Prop}{R:Result->Shared->Prop}{x:Addr}{v v2:Value}{dd:Option Addr}{t0:Addr}
theorem Pj {b:Addr}(FE:jV w.params)(X:(K w.params).In s.heap)(hb:s.heap.get? b=some (rF x))(hx:s.heap.get? x=some (eK dd t0)){Q:Value->Shared->Prop}
  (h:∀h',h'.get? x=some (eK dd s.heap.objs.size)->(∀y o,y≠x->s.heap.get? y=some o->h'.get? y=some o)->Q .none {s with heap:=h'}):wpAny (model pw w) A (call (.ref b) [v]) Q E s:=by
 refine wpAny_call (codeAny_of_tree ?_);show wpAny _ A.in1 (callAny (.ref b) ⟨[v],[]⟩) _ _ _;unfold callAny;refine wpAny_bind (wpAny_load hb ?_);show wpAny _ _ (checkBoundCall "Exception.__init__" ⟨[.ref x,v],[]⟩>>=λ_=>again (.builtin "Exception.__init__" ⟨[.ref x,v],[]⟩)) _ _ _;have F:=PySem.F.excCall_Exception;have hshort:=F.noStar;refine wpAny_bind ?_;simp only[checkBoundCall,F.initKind,F.initRow]
 have chk:∀{Q:Unit->Shared->Prop},Q () s->wpAny (model pw w) A.in1 (Bind.checkArgs "Exception.__init__" ⟨.positional,"*","Exception",.self,[⟨"args",.varPos,false⟩]⟩ ⟨[.ref x,v],[]⟩) Q (λe s'=>E e s') s:=λq=>by
  refine aj (FE.cls) λcd hc _=>?_;refine ow (qJ X hc) λoc od sl h81=>?_;unfold Bind.checkArgs
  repeat (first|(with_reducible refine wpAny_loadPart_at hx ?_)|(with_reducible refine wpAny_loadPart_at h81 ?_)|wp_step)
  exact q
 refine chk (wpAny_pure ⟨plainId_quiet PySem.F.excCall_Exception.init.plain _,codeAny_builtin PySem.F.excCall_Exception.initEntry ?_⟩);unfold Builtin.«BaseException.__init__»;dsimp only;rw[if_neg (by simp)];unfold newTuple Builtin.BaseException.bexcPut;have FC:=Heap.get?_push_of_some (h:=s.heap) {cls:=.type "tuple",data:=.seq [v].toArray} hx;refine wpAny_bind (wpAny_newObj_type (wpAny_bind (wpAny_bind (wpAny_field FC rfl rfl (wpAny_bind (wpAny_setField FC rfl (by show 0<6;decide) ?_))))) (by size_fits));refine wpAny_letGo (wpAny_pure ?_);refine h _ ?_ λy o hy e=>(Heap.get?_update_ne _ _ _ _ hy).trans (Heap.get?_push_of_some _ e);rw[Heap.get?_update_self _ FC rfl];rfl
theorem iZ {env:Env}{sc:Scope}(hs:env.scope=sc)(hk:sc.kind=.function){n:Str}{p:Pos}{m:Str->Option Value}(hl:sc.names.lookup n=some .local)(hm:s.heap.Ns env.locals m)(hv:m n=some v){Q:Value->Shared->Prop}(hq:Q v s)(hd:(n==("__debug__":Str))=false:=by rfl) :
  wpAny (model pw w) A (eval (.Name n p) env) Q E s :=
 wpAny_Name (wpAny_loadName_local (by rw[hs];exact hk) (by show env.scope.names.lookup n=_;rw[hs];exact hl) hm hv hq) hd
theorem Dd {env:Env}{pos:Pos}{n:Str}{p:Pos}{f:Value}{Q:Args->Shared->Prop}(h:wpAny (model pw w) A (eval (.Name n p) env) (λa=>Q ⟨[a],[]⟩) E s) :
  wpAny (model pw w) A (evalArgs f true (backTo pos (starEach [.Name n p] env)) []) Q E s:=by
 show wpAny _ _ (evalArgs f true ((false,eval (.Name n p) env)::backTo pos (starEach [] env)) []) _ _ _;exact Calls.evalArgs_plain (Calls.spliced_cons (wpAny_mono h (λa s' z=>Calls.spliced_nil z) λ_ _ z=>z))
theorem De {f D cc mA:Addr}{st:Stmt}{attr:Str}{env:Env}{oc:List Addr}{p:Program}{loose:List Str}{mg mb:Str->Option Value}{hb:Heap}{bs:List (Str×Value)}
  (S:lL w.params f st D 81 cc mA) (gC:uk attr (dj st))
  (X:(K w.params).In ah.heap) (TR:TopRead p loose mg mb hb) (jU:(K w.params).In hb) (kb:∀b o,hb.get? b=some o->ah.heap.get? b=some o) (T:gY s f (.ref mA) (aw st) [("__class__",cc)] bs env oc ah)
  (hv0:bs.lookup ("self":Str)=some (.ref x)) (hx:ah.heap.get? x=some (eK none t0))
  (h:∀aO so pl pos p px py pa nh,dw x ah aO->aO.heap.get? x=some (eK none t0)->aO.heap.get? so=some (ks_superObj D x 81)->wpAny (model pw w) (A.deeper env) (getMethod (.ref so) "__init__" pl) (λfx eR=>wpAny (model pw w) (A.deeper env) (callWith pos fx.1 fx.2 (backTo pos (starEach [.Name "what" p] env)) [])
   (λ_ fG=>wpAny (model pw w) (A.deeper env) (exec (.Assign [.Attribute (.Name "self" px) attr py] (.Name attr pa) nh) env) (λf dF=>f=.next∧R (.ok (.ret .none)) dF) (λ_ _=>False) fG) (λ_ _=>False) eR) (λ_ _=>False) aO) :
  codeAny (model pw w) A (.func (dj st) env) R ah:=by
 have ok:=gM S.ok;obtain⟨p0,p1,apos,px,pos,pe,py,pz,Ud,pa,eb,uU⟩:=gC;rw[eb];have hint:interactive env=false:=by unfold interactive;rw[T.sc,ok.kind];rfl
 refine ks_codeAny_funcAt (ks_wpAt_execs_cons (ks_wpAt_Expr_any ?_ hint rfl));refine ks_wpAt_MethodCall (pl:=do return (<- importBound (.Call (.Name "super" p0) [] [] p1) env).getD true) ?_ (xY (args:=[.Name "what" px]) rfl (by show 1<20;decide) (by simpa using uU))
 refine AO S ok X T TR jU kb hv0 hx rfl (λc e=>by cases e) λh' e k=>?_;have cK:dw x ah {ah with heap:=h'}:=dw.of (t:=ah.toks) (λb o _ e=>k b o e) (Nat.le_refl _);refine wpAny_mono (h _ _ _ pos px py pz Ud pa cK (k _ _ hx) e) (λfx eR z=>wpAny_mono z (λ_ fG z=>?_) λ_ _ z=>False.elim z) λ_ _ z=>False.elim z;refine ks_wpAt_execs_cons (wpAt_of_wpAny ?_);refine wpAny_mono z (λfl dF z=>?_) λ_ _ z=>False.elim z;obtain⟨rfl,z⟩:=z;exact wpAt_of_wpAny (wpAny_execs_nil z)
theorem Ir {so x:Addr}{pl:Sem Bool}{Q:Value×List Value->Shared->Prop}(F:jV w.params)(X:(K w.params).In s.heap)(qd:s.heap.get? so=some (ks_superObj 40 x 81))(hx:s.heap.get? x=some (eK dd t0))
  (hq:∀h',h'.get? s.heap.objs.size=some (rF x)->(∀b o,s.heap.get? b=some o->h'.get? b=some o)->Q (.ref s.heap.objs.size,[]) {s with heap:=h',toks:=s.toks+1}):wpAny (model pw w) A (getMethod (.ref so) "__init__" pl) Q E s:=by
 have gN:=PySem.F.ks_slot_super_ga.lookup;have aaC:=PySem.F.ks_canon_super_ga;obtain⟨h,g,d,t,os⟩:=s;have hT:∀t',(⟨h,g,d,t',os⟩:Shared).TypeIs (.ref so) "super":=λ_=>⟨_,qd,rfl⟩;refine dQ (F.cls) λcd hc Dc hd=>?_;have hm:=F.Ua;unfold ks_superIn at hm;rw[hc]at hm;have I:InstAt h x (eK dd t0) 81 ((dd.bind λd=>h.get? d))∨True:=.inr trivial;have jc:x≠81:=xZ X hx (λc e=>by cases e) hc;have L1:Looks (model pw w) h (typeOf (.ref x)) (.ref 81):=(Looks.ld hx).andThen .now;have jU:Looks (model pw w) h (isInstance (.ref x) (.type "Exception")) true:=L1.andThen (looks_mroIn X (by unfold mroIn;rw[hc,Option.bind_some,if_neg (by rw[Dc];decide),Dc];decide +kernel));have hC:Looks (model pw w) h (mroOf (.ref 81)) cd.mro:=λA Q E s k q=>wpAny_bind ((looks_clsIn X hc) A _ E s k (wpAny_pure q));unfold getMethod;refine wpAny_bind (wpAny_specialOf (hT _) gN ?_);show wpAny _ _ (if(Manifest.canonical "super.__getattribute__" != "object.__getattribute__")=true then _ else _) _ _ _
 rw[if_pos aaC];unfold getAttr getAttrBy;refine wpAny_bind (wpAny_bind (wpAny_mkText (wpAny_holding (wpAny_bind (wpAny_typeOf (hT _) (wpAny_bind (wpAny_of_eq gN ?_)))))));show wpAny _ _ (getAttrByItsOwn (.ref so) (.str "__init__" t) (.type "super") (.builtin "super.__getattribute__") true false) _ _ _;unfold getAttrByItsOwn hookBefore callGetattribute boundAndCalled;refine wpAny_bind (wpAny_of_eq (show(if onTheHeap (.type "super")then typeLookup (.type "super") "__getattr__" else pure none)=pure none from rfl) ?_)
 refine wpAny_bind (wpAny_attempt (wpAny_holding ?_));show wpAny _ _ (bindSpecial (.builtin "super.__getattribute__") (.ref so)>>=_) _ _ _;refine wpAny_bind (wpAny_of_eq (PySem.F.ks_slot_super_ga.bind _) ?_)
 refine wpAny_mono (Q:=λv s'=>v=.ref h.objs.size∧s'=⟨h.push (rF x),g,d,t+1,os⟩) (E:=λ_ _=>False)
  (wpAny_call_entry PySem.F.ks_slot_super_ga (hT _) PySem.F.ks_entry_super_ga (Fy qd (looks_opaque X F.C7) hC rfl X hm jc rfl jU ⟨_,rfl,rfl,rfl⟩) (PySem.F.ks_gaArgs_super _ _)) (λv s' hv=>?_) λ_ _ z=>z.elim
 refine bp hv λnI aC=>?_;subst nI;subst aC;exact wpAny_pure (wpAny_pure (hq _ (Heap.get?_push_at rfl rfl) λb o e=>Heap.get?_push_of_some _ e))
theorem x8 {so D x C f2:Addr}{pl:Sem Bool}{Q:Value×List Value->Shared->Prop}{ox:Obj}(aaD:nsIn (K w.params) cStatics "thirdparty.any"=some none)(hm:ks_superIn (K w.params) C D "__init__"=some (some (.ref f2)))(hf:typeIn (K w.params) (.ref f2)=some (.type "function"))
  (X:(K w.params).In s.heap) (qd:s.heap.get? so=some (ks_superObj D x C)) (hx:s.heap.get? x=some ox) (Iq:∀c,ox.data≠.cls c)
  (hq:∀h',h'.get? s.heap.objs.size=some (methodObj (.ref f2) (.ref x))->(∀b o,s.heap.get? b=some o->h'.get? b=some o)->Q (.ref s.heap.objs.size,[]) {s with heap:=h',toks:=s.toks+1}):wpAny (model pw w) A (getMethod (.ref so) "__init__" pl) Q E s:=by
 obtain⟨h,g,d,t,os⟩:=s;cases hc:clsIn (K w.params) C with
 |none=>unfold ks_superIn at hm;rw[hc]at hm;cases hm
 |some cd =>
  unfold ks_superIn at hm;rw[hc]at hm
  obtain⟨of,hof,aaE⟩:∃of,h.get? f2=some of∧of.cls=.type "function":=by
   have CO:((K w.params).lookup f2).map (·.cls)=some (.type "function"):=hf
   cases z:(K w.params).lookup f2 with
   |none=>rw[z]at CO;exact(Option.some_ne_none _ CO.symm).elim
   |some of=>rw[z]at CO;exact⟨of,X _ _ z,oi CO⟩
  exact ks_wpAny_getMethod_super qd (looks_opaque X aaD) (l₀:=cd.mro) (λA Q E s k q=>wpAny_bind ((looks_clsIn X hc) A _ E s k (wpAny_pure q))) rfl X hm hof aaE (xZ X hx Iq hc) rfl
   (hq _ (Heap.get?_push_at rfl rfl) λb o e=>Heap.get?_push_of_some _ e)
end
end
section
section
variable {w:World}{A:Around}{E:Value->Shared->Prop}{R:Result->Shared->Prop}{x:Addr}{v v2:Value}{dd:Option Addr}{t0:Addr}
theorem AR {n y attr:Str}{pa px py pos:Pos}{env:Env}{Q:Flow->Shared->Prop}(h:wpAny (model pw w) A (eval (.Name n pa) env) (λb ah=>wpAny (model pw w) A (eval (.Name y px) env) (λov aO=>wpAny (model pw w) A (setAttr ov attr b) (λ_=>Q .next) E aO) E ah) E s) :
  wpAny (model pw w) A (exec (.Assign [.Attribute (.Name y px) attr py] (.Name n pa) pos) env) Q E s:=by
 rw[gB];refine wpAny_bind (wpAny_standAt ?_);show wpAny _ _ (do let v <- eval (.Name n pa) env;assignStores env v (<- swappedStores [.Attribute (.Name y px) attr py] (.Name n pa) env) ((assignEach [.Attribute (.Name y px) attr py] env).map (·.2))) _ _ _
 have h0:swappedStores [.Attribute (.Name y px) attr py] (.Name n pa) env=pure none:=rfl;rw[h0];refine wpAny_bind (wpAny_mono h (λb ah z=>?_) λ_ _ z=>z);refine wpAny_bind (wpAny_pure ?_)
 show wpAny _ _ ((do
  let ov <- holding [b] (eval (.Name y px) env)
  standAt py.atName
  holding [b,ov] (setAttr ov attr b)
  release [b,ov] [])>>=λ_=>pure Flow.next) _ _ _
 refine wpAny_bind (wpAny_bind (wpAny_holding (wpAny_mono z (λa aO z=>?_) λ_ _ z=>z)));refine wpAny_bind (wpAny_standAt (wpAny_bind (wpAny_holding (wpAny_mono z (λ_ eR z=>?_) λ_ _ z=>z))));exact wpAny_release' (wpAny_pure z)
structure nU (P:Params):Prop where
 exc:jV P
 Iu:keepIn (K P) (.ref 81)=true
 Ze:lL P 30 (aK 1 0) 40 81 18 29
 Zf:lL P 59 (aK 2 0) 69 81 47 58
 Ue:uk "what" (dj (aK 1 0))
 Ug:uk "spot" (dj (aK 2 0))
 Uh:(bf (aK 1 0)).args.map (·.arg)=[("self":Str),("what":Str)]
 Ui:(bf (aK 2 0)).args.map (·.arg)=[("self":Str),("what":Str),("spot":Str)]
 ND:(aw (aK 1 0)).names.lookup ("what":Str)=some .local
 Uj:(aw (aK 2 0)).names.lookup ("what":Str)=some .local
 Uk:(aw (aK 2 0)).names.lookup ("spot":Str)=some .local
variable {p:Program}{loose:List Str}{mg mb:Str->Option Value}{hb:Heap}
theorem uV {f:Addr}{code:Value}{scope:Scope}{cl:List (Str×Addr)}{bs:List (Str×Value)}{env:Env}{oc:List Addr}(T:gY s f code scope cl bs env oc ah)(x:Addr):dw x s ah:=⟨λb o _ e=>T.keep b o e,T.same,T.toks⟩
theorem x9 {f:Addr}{code:Value}{scope:Scope}{cl:List (Str×Addr)}{bs:List (Str×Value)}{env:Env}{oc:List Addr}(T:gY s f code scope cl bs env oc ah){x:Addr}{o:Obj}(hx:s.heap.get? x=some o):env.locals≠x:=λq=>absurd (Heap.lt_size hx) (by rw[<- q];exact Nat.not_lt.mpr T.above)
theorem dw.ns {L:Addr}{m:Str->Option Value}(a:dw x s ah)(hL:L≠x)(hm:s.heap.Ns L m):ah.heap.Ns L m:=by
 refine lr hm λo es ep e r=>?_;exact⟨o,es,ep,a.keep _ _ hL e,r⟩
theorem Ul (I:nU w.params)(X:(K w.params).In s.heap)(tA:(K w.params).lookup x=none)(TR:TopRead p loose mg mb hb)(jU:(K w.params).In hb)(kb:∀b o,hb.get? b=some o->s.heap.get? b=some o)(hd:A.depth<recursionLimit)
  (hx:s.heap.get? x=some (eK none t0))
  (h:∀dF t1 dx k tk,dw x s dF->dF.heap.get? x=some (eK (some dx) t1)->s.heap.get? dx=none->dF.heap.get? dx=some (dictOf [⟨PyData.keyHash w.params "what",.str "what" tk,v⟩] k)->R (.ok (.ret .none)) dF) :
  codeAny (model pw w) A (.call (.ref 30) ⟨[.ref x,v],[]⟩) R s:=by
 have F:=I.exc;have S:=I.Ze;have ok:=gM S.ok;obtain⟨AH,od,nS,name,qual,pm,ct,gN,mz⟩:=S.fn;refine ub gN mz S.ok X (TR.nolimit.keeps kb) hd (by rw[I.Uh];rfl) λenv oc ah T=>?_;rw[I.Uh]at T;have T':gY s 30 (.ref 29) (aw (aK 1 0)) [("__class__",18)] [("self",.ref x),("what",v)] env oc ah:=T;refine aj (T'.ns) λm hm qb=>?_;have AS:=x9 T' hx;have cK:=uV T' x;have Um:=(qb _ S.lM).trans (show([("self",.ref x),("what",v)]:List (Str×Value)).lookup ("self":Str)=some (Value.ref x)from rfl);have uM:=(qb _ I.ND).trans (show([("self",.ref x),("what",v)]:List (Str×Value)).lookup ("what":Str)=some v from rfl);refine De S I.Ue (jH X tA cK) TR jU (λb o e=>T'.keep _ _ (kb b o e)) T' rfl (T'.keep _ _ hx) λaO so pl pos p px py pa nh cu yc qd=>?_;have X2:=jH X tA (cK.trans cu);refine Ir F X2 qd yc λh' Iv k=>?_;have jn:dw x s {aO with heap:=h',toks:=aO.toks+1}:=(cK.trans cu).trans (dw.of (λb o _ e=>k b o e) (Nat.le_succ _));have AU:dw x ah {aO with heap:=h',toks:=aO.toks+1}:=cu.trans (dw.of (λb o _ e=>k b o e) (Nat.le_succ _));have X3:=jH X tA jn;refine callWith_of (P:=λh=>h.get? aO.heap.objs.size=some (rF x)) rfl (λh q=>⟨.machine,.inr (.inl rfl),(Looks.ld (part:=none) q).andThen .now⟩) (Dd ?_);refine iZ T'.sc ok.kind I.ND (AU.ns AS hm) uM ⟨Iv,?_⟩;refine Pj F X3 Iv (k _ _ yc) λdH uW k5=>?_;have mS:=jn.trans (dw.of (h':=dH) k5 (Nat.le_refl _));have wL:=AU.trans (dw.of (h':=dH) k5 (Nat.le_refl _));have X5:=jH X tA mS;refine AR (iZ T'.sc ok.kind I.ND (wL.ns AS hm) uM (iZ T'.sc ok.kind S.lM (wL.ns AS hm) Um ?_));refine Cp F X5 uW F.t1 λh6 k6 hx6 C0 hk6=>⟨rfl,?_⟩;have Zg:=mS.trans (dw.of (h':=h6) (t:=aO.toks+1+2) hk6 (Nat.le_add_right _ _));refine h _ _ _ _ _ Zg hx6 ?_ C0;cases z:s.heap.get? dH.objs.size with
 |none=>rfl
 |some o =>
  by_cases q:dH.objs.size=x
  ·have:=Heap.lt_size uW;rw[q]at this;exact absurd this (Nat.lt_irrefl _)
  ·exact absurd (Heap.lt_size (mS.keep _ _ q z)) (Nat.lt_irrefl _)
theorem Un (I:nU w.params)(X:(K w.params).In s.heap)(tA:(K w.params).lookup x=none)(TR:TopRead p loose mg mb hb)(jU:(K w.params).In hb)(kb:∀b o,hb.get? b=some o->s.heap.get? b=some o)(hbx:hb.get? x=none)(hd:A.depth+10<recursionLimit)
  (hx:s.heap.get? x=some (eK none t0))
  (h:∀dF t1 dx ds k,dw x s dF->dF.heap.get? x=some (eK (some dx) t1)->s.heap.get? dx=none->dF.heap.get? dx=some (dictOf ds k)->getL "spot" ds=some (some v2)->R (.ok (.ret .none)) dF) :
  codeAny (model pw w) A (.call (.ref 59) ⟨[.ref x,v,v2],[]⟩) R s:=by
 have F:=I.exc;have S:=I.Zf;have ok:=gM S.ok;obtain⟨AH,od,nS,name,qual,pm,ct,gN,mz⟩:=S.fn;refine ub gN mz S.ok X (TR.nolimit.keeps kb) (by apply WQ<;>trivial) (by rw[I.Ui];rfl) λenv oc ah T=>?_;rw[I.Ui]at T;have T':gY s 59 (.ref 58) (aw (aK 2 0)) [("__class__",47)] [("self",.ref x),("what",v),("spot",v2)] env oc ah:=T;refine aj (T'.ns) λm hm qb=>?_;have AS:=x9 T' hx;have cK:=uV T' x;have Um:=(qb _ S.lM).trans (show([("self",.ref x),("what",v),("spot",v2)]:List (Str×Value)).lookup ("self":Str)=some (Value.ref x)from rfl);have uM:=(qb _ I.Uj).trans (show([("self",.ref x),("what",v),("spot",v2)]:List (Str×Value)).lookup ("what":Str)=some v from rfl);have CU:=(qb _ I.Uk).trans (show([("self",.ref x),("what",v),("spot",v2)]:List (Str×Value)).lookup ("spot":Str)=some v2 from rfl);refine De S I.Ug (jH X tA cK) TR jU (λb o e=>T'.keep _ _ (kb b o e)) T' rfl (T'.keep _ _ hx) λaO so pl pos p px py pa nh cu yc qd=>?_;have X2:=jH X tA (cK.trans cu);refine x8 F.C7 F.sup F.Ub X2 qd yc (λc e=>by cases e) λh' Iv k=>?_;have jn:dw x s {aO with heap:=h',toks:=aO.toks+1}:=(cK.trans cu).trans (dw.of (λb o _ e=>k b o e) (Nat.le_succ _));have AU:dw x ah {aO with heap:=h',toks:=aO.toks+1}:=cu.trans (dw.of (λb o _ e=>k b o e) (Nat.le_succ _));have X3:=jH X tA jn;refine callWith_of (P:=MethP (K w.params) aO.heap.objs.size 30 (.ref x)) rfl (λh q=>keeps_M F.NC h q) (Dd ?_);refine iZ T'.sc ok.kind I.Uj (AU.ns AS hm) uM ⟨⟨Iv,X3⟩,?_⟩;have kb3:∀b o,hb.get? b=some o->h'.get? b=some o:=λb o e=>jn.keep b o (λq=>by rw[q,hbx]at e;exact absurd e nofun) (kb b o e);refine wpAny_call (ks_codeAny_call_bound Iv (Ul (v:=v) I X3 tA TR jU kb3 ?_ (k _ _ yc) λdF t1 dx kk tk mS uW uX Uo=>?_))
 ·show A.depth+1<recursionLimit;(apply yB<;>trivial)
 have wL:=jn.trans mS;have NF:=AU.trans mS;have X5:=jH X3 tA mS;refine AR (iZ T'.sc ok.kind I.Uk (NF.ns AS hm) CU (iZ T'.sc ok.kind S.lM (NF.ns AS hm) Um ?_));have mL:dx≠x:=λq=>by rw[q,k _ _ yc]at uX;exact absurd uX nofun
 refine Cq F X5 uW Uo F.t2 ?_ (by show 1≤900;decide) λh6 C0 k6=>⟨rfl,?_⟩
 ·rfl
 have Up:s.heap.get? dx=none:=by
  cases z:s.heap.get? dx with
  |none=>rfl
  |some o=>rw[jn.keep _ _ mL z]at uX;exact absurd uX nofun
 refine h _ t1 dx _ _ ⟨λb o hb e=>k6 b o (λq=>by rw[q,Up]at e;exact absurd e nofun) (wL.keep b o hb e),?_,Nat.le_trans wL.toks (Nat.le_add_right _ _)⟩ (k6 _ _ (Ne.symm mL) uW) Up C0 ?_
 ·refine jK (wL.same) λh7 t7 e7=>?_;exact⟨h6,dF.toks+2,by rw[e7]⟩
 ·rfl
end
end
section
noncomputable abbrev oW:List Value:=[.ref 69,.ref 40,.type "Exception",.type "BaseException",.type "object"]
section
variable {w:World}{A:Around}{E:Value->Shared->Prop}{R:Result->Shared->Prop}{h:Heap}{g:Array GenState}{d:Drawn}{t:Nat}{os:OsState}
variable {nm q:Str}{N:Addr}{bs:List Value}{hdct:Bool}{sn:List Str}{sub:List Value}{ab:Bool}{col:Option Bool}{dd:Option Addr}{k0 k1 k2 k3 k5:Option Value}
theorem Cr {rest:List Value}{Q:Unit->Shared->Prop}(hC:h.get? 81=some (excClassObj nm q 81 N bs oW hdct sn sub ab col dd k0 k1 k2 k3 k5 "Exception.__new__"))(hq:Q () ⟨h,g,d,t,os⟩) :
  wpAny (model pw w) A (checkBuiltinCall "Exception.__new__" ⟨.ref 81::rest,[]⟩) Q E ⟨h,g,d,t,os⟩:=by
 have Fn:=PySem.F.excBase_Exception;have Xx:(Value.ref 81::oW).contains (.type "Exception")=true:=by decide +kernel
 have hstar:=Fn.noStar;simp only[checkBuiltinCall,Fn.newKind,Fn.newSplit,Fn.newRow]
 repeat (first|refine wpAny_loadPart_at hC ?_|(refine wpAny_isSubtype_exc hC ?_;rw[Xx])|refine wpAny_staticBase_exc hC ?_|refine wpAny_madeBy_exc hC ?_|dsimp only[bne_self_eq_false,Bool.false_eq_true,if_false]|wp_step)
 exact hq
theorem Xy {rest:List Value}(hC:h.get? 81=some (excClassObj nm q 81 N bs oW hdct sn sub ab col dd k0 k1 k2 k3 k5 "Exception.__new__"))
  (hq:R (.ok (.ret (.ref (h.objs.size+1)))) ⟨(h.push {cls:=.type "tuple",data:=.seq rest.toArray}).push (eK none h.objs.size),g,d,t,os⟩) (hrest:rest.length≤sizeLine) :
  codeAny (model pw w) A (.builtin "Exception.__new__" ⟨.ref 81::rest,[]⟩) R ⟨h,g,d,t,os⟩:=by
 have Fn:=PySem.F.excBase_Exception;have hends:=Fn.ends;have Uq:(Value.ref 81::oW).contains (.type "Exception")=true:=by decide +kernel
 have hcA:(Value.ref 81::oW).contains (.type "AttributeError")=false:=by decide +kernel
 have hcN:(Value.ref 81::oW).contains (.type "NameError")=false:=by decide +kernel
 refine codeAny_builtinAt Fn.entry ?_;unfold Builtin.«BaseException.__new__»;refine _root_.PySem.wpAt_bind ?_;show _root_.PySem.wpAt _ _ _ (stack>>=_) _ _ _;refine _root_.PySem.wpAt_bind (_root_.PySem.wpAt_stack λp below=>_root_.PySem.wpAt_of_wpAny ?_)
 wp_walk
 refine _root_.PySem.wpAt_of_wpAny ?_;rw[Fn.owner]
 repeat (first|with_reducible refine wpAny_madeHere_exc Fn.canon hC ?_|with_reducible refine wpAny_loadPart_at hC ?_|(with_reducible refine wpAny_isSubtype_exc hC ?_;first|rw[Uq]|rw[hcA]|rw[hcN])|wp_step)
 show R _ _;rw[Heap.size_push];exact hq
theorem Ur {v v2:Value}{p:Program}{loose:List Str}{mg mb:Str->Option Value}{hb:Heap}(I:nU w.params)(X:(K w.params).In s.heap)(TR:TopRead p loose mg mb hb)(jU:(K w.params).In hb)(kb:∀b o,hb.get? b=some o->s.heap.get? b=some o)(hd:A.depth+30<recursionLimit)
  {Q:Value->Shared->Prop} (hq:∀e t1 dx ds k s',(∀b o,s.heap.get? b=some o->s'.heap.get? b=some o)->(∃h t,s'={s with heap:=h,toks:=t})->s.toks≤s'.toks->s.heap.get? e=none->s.heap.get? dx=none->s'.heap.get? e=some (eK (some dx) t1)->s'.heap.get? dx=some (dictOf ds k) ->
   getL "spot" ds=some (some v2)->Q (.ref e) s'):wpAny (model pw w) A (call (.ref 81) [v,v2]) Q E s:=by
 have F:=I.exc;refine bC λnG=>?_;obtain⟨nm,q,N,bs,hdct,sn,sub,ab,col,dd,k0,k1,k2,k3,k5,hK⟩:=F.NB;obtain⟨h,g,d,t,os⟩:=s;refine nG ?_;have hC:=X _ _ hK;have f1:=tc_lookup;have f2:=tc_bind (.ref 81);have hT:(⟨h,g,d,t,os⟩:Shared).TypeIs (.ref 81) "type":=⟨_,hC,rfl⟩;refine wpAny_call (codeAny_of_tree ?_);show wpAny _ _ (callAny (.ref 81) _) _ _ _
 repeat (any_goals (first|assumption|with_reducible refine wpAny_loadPart_at hC ?_|wp_step))
 refine⟨rfl,?_⟩;refine codeAny_call_builtin_at (Code.quiet_builtin _ (by decide +kernel)) entry_typeCall (wpAny_check_type_call_sub hC ?_)
 repeat (first|with_reducible refine wpAny_loadPart_at hC ?_|with_reducible refine wpAny_madeBy_exc hC ?_|wp_step)
 refine codeAny_call_builtin_code (Code.quiet_builtin _ PySem.F.excBase_Exception.quiet) (Cr hC ?_);refine Xy hC ?_ (by show 2≤sizeLine;rw[sizeLine_eq];decide);show wpAny _ _ _ _ _ _;have kp:∀b o,h.get? b=some o->((h.push {cls:=.type "tuple",data:=.seq [v,v2].toArray}).push (eK none h.objs.size)).get? b=some o:=λb o e=>Heap.get?_push_of_some _ (Heap.get?_push_of_some _ e);have wy:((h.push {cls:=.type "tuple",data:=.seq [v,v2].toArray}).push (eK none h.objs.size)).get? (h.objs.size+1)=some (eK none h.objs.size):=by heap_get
 have hcC:(Value.ref 81::oW).contains (.ref 81)=true:=by decide +kernel
 have Xz:=kp _ _ hC;have LD:(K w.params).In ((h.push {cls:=.type "tuple",data:=.seq [v,v2].toArray}).push (eK none h.objs.size)):=λb o e=>kp _ _ (X b o e);have li:=looks_findIn (M:=model pw w) LD F.init;have lb:=bind_fn (M:=model pw w) LD (.ref (h.objs.size+1)) F.Uc;unfold isInstance
 repeat (first|with_reducible refine wpAny_loadPart_at wy ?_|wp_step)
 refine wpAny_isSubtype_exc Xz ?_;rw[hcC]
 repeat wp_step
 refine Looks.at li ?_;refine wpAny_holding (wpAny_bind (Looks.at lb ?_))
 have mL:(K w.params).lookup (h.objs.size+1)=none:=by
  cases z:(K w.params).lookup (h.objs.size+1)with
  |none=>rfl
  |some o=>have:=Heap.lt_size (X _ _ z);exact absurd this (by show ¬h.objs.size+1<h.objs.size;exact Nat.not_lt.mpr (Nat.le_succ _))
 have hnb:hb.get? (h.objs.size+1)=none:=by
  cases z:hb.get? (h.objs.size+1)with
  |none=>rfl
  |some o=>have:=Heap.lt_size (kb _ _ z);exact absurd this (by show ¬h.objs.size+1<h.objs.size;exact Nat.not_lt.mpr (Nat.le_succ _))
 refine wpAny_bind (wpAny_call (Un (v:=v) (v2:=v2) (s:=⟨(h.push {cls:=.type "tuple",data:=.seq [v,v2].toArray}).push (eK none h.objs.size),g,d,t,os⟩) I LD mL TR jU (λb o e=>kp _ _ (kb b o e)) hnb ?_ wy λdF t1 dx ds k st uW uX Uo Iw=>?_))
 ·have:=tw 81 [v,v2] A;exact Nat.lt_of_le_of_lt (Nat.add_le_add_right this 10) (by apply Rx<;>trivial)
 refine wpAny_pure (wpAny_pure ?_);have kp5:∀b o,h.get? b=some o->dF.heap.get? b=some o:=λb o e=>st.keep b o (λq=>by have:=Heap.lt_size e;rw[q]at this;exact absurd this (Nat.not_lt.mpr (Nat.le_succ _))) (kp b o e);refine hq _ t1 dx ds k dF kp5 (by obtain⟨h7,t7,e7⟩:=st.same;exact⟨h7,t7,by rw[e7]⟩) st.toks ?_ ?_ uW Uo Iw
 ·cases z:h.get? (h.objs.size+1)with
  |none=>rfl
  |some o=>exact absurd (Heap.lt_size z) (Nat.not_lt.mpr (Nat.le_succ _))
 ·cases z:h.get? dx with
  |none=>rfl
  |some o=>rw[kp _ _ z]at uX;exact(Option.some_ne_none _ uX).elim
theorem Pk {env:Env}{x:Sem Value}{Q:Flow->Shared->Prop}(hh:A.handled=none)
  (h:wpAny (model pw w) A x (λv ah=>∃e Zh t,v=.ref e∧ah.heap.get? 81=some (excClassObj nm q 81 N bs oW hdct sn sub ab col dd k0 k1 k2 k3 k5 "Exception.__new__")∧ah.heap.get? e=some (eK Zh t)∧E (.ref e) ah) E s) :
  wpAny (model pw w) A (raiseStmt env (some x) none) Q E s:=by
 have Uq:(Value.ref 81::oW).contains (.type "BaseException")=true:=by decide +kernel
 unfold raiseStmt;refine wpAny_bind (wpAny_mono h (λv ah dR=>?_) λ_ _ x=>x);refine bC λnG=>?_;refine fk dR λe Zh t eQ hC he hE=>?_;subst eQ;obtain⟨hp,g,d,tk,os⟩:=ah;refine nG ?_
 repeat (first|with_reducible refine wpAny_loadPart_at he ?_|with_reducible refine wpAny_loadPart_at hC ?_|(with_reducible refine wpAny_isSubtype_exc hC ?_;rw[Uq])|wp_step)
 exact wpAny_raiseNew_none hh hE
end
end
theorem AV {n:Nat}(FA:∀P,la P)(II:∀P,nU P):wK n:=by
 intro C O d D i loc hp s ae p q r a b hg ha Zi;have F:=(FA C.w.params).two;have I:=II C.w.params;have tN:∀x∈([]:List Addr),x∈C.own:=λ_ h=>absurd h List.not_mem_nil;refine sn λ{Q E} qq=>?_;obtain⟨nm,qn,N,bs,hdct,sn,sub,ab,col,dd,k0,k1,k2,k3,k5,hK⟩:=I.exc.NB;rw[arm_exec_Raise];refine wpAny_bind (wpAny_standAt ?_);refine Pk (nm:=nm) (q:=qn) (N:=N) (bs:=bs) (hdct:=hdct) (sn:=sn) (sub:=sub) (ab:=ab) (col:=col) (dd:=dd) (k0:=k0) (k1:=k1) (k2:=k2) (k3:=k3) (k5:=k5) O.handled ?_;show wpAny _ _ (eval (.Call (.Name "TextFault" p) [a,b] [] q) C.env>>=λv=>standAt r>>=λ_=>pure v) _ _ _;refine wpAny_bind ?_;show wpAny _ _ (do callWith q (<- eval (.Name "TextFault" p) C.env) [] (backTo q (starEach [a,b] C.env)) []) _ _ _
 refine wpAny_bind (mO O F ae (v:=.ref 81) p hg (by kernel_rfl) λwI m9 ak k₁=>?_);have qq:=qq.up (k₁.weaken tN);have hs:[a,b].all noStar=true:=by unfold List.all;rw[ha];unfold List.all;rw[Zi];rfl
 refine callWith_of (P:=λh=>(K C.w.params).In h) (by rw[iW _ _ _ hs];rfl) (λh X=>keeps_K (K:=K C.w.params) I.Iu h X) ?_;rw[gJ ha [b] q C.env];refine Calls.evalArgs_plain (Calls.spliced_cons (cU (D.ex O F.base ak a).jv qq λav u au aB ah aV k₂ cX qq=>?_));rw[gJ Zi [] q C.env];refine Calls.spliced_cons (cU (D.ex O F.base aV b).jv qq λbv v bJ cm aO cj cL m8 qq=>Calls.spliced_nil ⟨cj.dJ O,?_⟩);refine aj (qq.rB) λk hk qq=>?_;refine aQ ((iU hk▸m8:Val C.no cm aO.heap (.int k) bv).dp) λt aC=>?_;subst aC;refine wi (O.top) λpp loose mg mb TR=>?_;have T5:=O.depth;refine Ur I (cj.dJ O) TR O.dJ cj.base (by have:recursionLimit=1000:=rfl;(apply Hi<;>trivial)) λe t1 dx ds kk s' kp sm ht hen uX he hdx Iw=>?_;refine jK sm λh7 t7 bH=>?_;subst bH
 refine wpAny_bind (wpAny_standAt (wpAny_pure ⟨e,_,t1,rfl,kp _ _ (cj.dJ O _ _ hK),he,qq.e _ _ ⟨k,rfl,⟨⟨e,dx,_,_,t,rfl,he,rfl,rfl,jE O cj hen,⟨_,_,he,rfl,by show 1<6;decide,.inl rfl⟩,hdx,rfl,rfl,λ_=>Data.noConfusion,Iw,λv hv q=>(FunFrames.at_ cj.fR v hv q).elim λo e=>bx (uX.symm.trans e)⟩,
  λb o q=>kp _ _ (cj.base b o q),FunFrames.uy (λb o q hn=>⟨o,kp _ _ q,hn⟩) cj.fR,cj.gens,cj.os⟩,λb o q _ _ _=>⟨o.slots,kp _ _ q⟩⟩⟩))
section
def LF (b:List Stmt):Prop:=∃p0 p1 apos a pos pe rest,b=.Expr (.Call (.Attribute (.Call (.Name "super" p0) [] [] p1) "__init__" apos) [a] [] pos) pe::rest∧noStar a=true∧apos.endLine=pos.line
structure yV (P:Params)(f D f2:Addr)(st:Stmt):Prop where
 is:∃cc mA,lL P f st D D cc mA
 shape:LF (dj st)
 NG:(bW (aw st).names)[0]?=some ("self":Str)
 init:ks_superIn (K P) D D "__init__"=some (some (.ref f2))
 C7:nsIn (K P) cStatics "thirdparty.any"=some none
 Zj:typeIn (K P) (.ref f2)=some (.type "function")
 Us:fnIn (K P) f2=true
def qL (d:cy)(c:Ca)(st:Stmt)(vs:List V)(hp:HP):R V :=
 if((bf st).args.map (·.arg)).length==vs.length then(match Nb (dj st)with
  |some q=>bj (aF (bo (ji c (q.1.map (d.ex (aw st).names)))::q.2.map (d.st (aw st).names))) (cG (bW (aw st).names) ((bf st).args.map (·.arg)) vs) hp
  |none=>.bad)else .bad
section
variable {n N:Nat}{d:cy}{c:Ca}{st:Stmt}{env:Env}{oc:List Addr}{D f f2 cc mA:Addr}{bs:List (Str×Value)}(O:C.Ok (n+1))(F:bU C.w.params)(Dn:c5 n d)(cF:qI n c)
include O F Dn cF
omit O F Dn cF in
theorem Cs {k:Nat}(h:me hp k=true):∃d,hp[k]?=some (.inst 434 d):=by
 unfold me at h;cases hq:lH hp k with
 |none=>rw[hq]at h;exact ft h
 |some q=>rw[hq]at h;exact⟨q.2,(tK hq).trans (by rw[beq_iff_eq.mp h])⟩
theorem Iy (S:lL C.w.params f st D D cc mA)(SF:yV C.w.params f D f2 st)(hD:D=434)(C5:f2=291){m9:Shared}(jz:(C.fn env oc (aw st).names).Ok n)(T:gY m9 f (.ref mA) (aw st) [("__class__",cc)] bs env oc s)
  (ak:Rep (C.fn env oc (aw st).names) i loc hp s) (lK:∀a,loc[0]?=some (some (V.ref a))->∃ad,i[a]?=some ad∧bs.lookup ("self":Str)=some (.ref ad)) {body:List Stmt} {p0 p1 apos pos:Pos} {a:Expr} (hs:noStar a=true) (uU:(apos.endLine==pos.line)=true)
  {Q:Value->Shared->Prop} {E:Value->Shared->Prop} (q:To (C.fn env oc (aw st).names) [] i s (λ_=>loc) (Val C.no) (ji c [d.ex (aw st).names a] loc hp) Q E) :
  _root_.PySem.wpAt C.M (C.A.deeper env) (.func body env) (eval (.Call (.Attribute (.Call (.Name "super" p0) [] [] p1) "__init__" apos) [a] [] pos) env) Q E s:=by
 subst hD C5;refine aj (q.rB) λo hl q=>?_;refine aj (q.rB) λv aC q1=>?_;subst aC;refine aj (q1.rB) λk hk q=>?_;refine bp (q.rI) λhr q=>?_;rw[gw hk]at hl;refine aQ (Cs hr) λdd hq=>?_;refine aj (lK k hl) λad Zk Nc=>?_;refine aj (ak.ref Zk hq) λdx _ hx=>?_;refine wi (jz.top) λp loose mg mb TR=>?_;have X:=ak.dJ jz;have Ut:[a].all noStar=true:=by unfold List.all;rw[hs];rfl
 refine ks_wpAt_MethodCall (pl:=do return (<- importBound (.Call (.Name "super" p0) [] [] p1) env).getD true) ?_ (xY (args:=[a]) Ut (show 1<20 by decide) uU)
 refine AO S (gM S.ok) X T TR jz.dJ ak.base Nc hx rfl (λc=>Data.noConfusion) λh' e kp=>?_;refine bp (ak.more (own:=[]) (h':=h') (t:=s.toks) (d:=s.drawn) kp (Nat.le_refl _)) λaV k₂=>?_;refine x8 SF.C7 SF.init SF.Zj (Rep.dJ (C:=C.fn env oc (aw st).names) jz aV) e (kp _ _ hx) (λc=>Data.noConfusion) λdH e' kp'=>?_;refine bp (aV.more (own:=[]) (h':=dH) (t:=s.toks+1) (d:=s.drawn) kp' (Nat.le_succ _)) λcj cL=>?_;have q:=(q.up k₂).up cL
 have cT:h'.objs.size∉i:=λhm=>by
  refine cg (ak.gy hm) λ_ _ _ _ q=>?_;exact q.some.elim λo x=>absurd (Heap.lt_size (kp _ _ x.1)) (Nat.lt_irrefl _)
 refine callWith_of (P:=MethP (K C.w.params) h'.objs.size 291 (.ref ad)) (by rw[iW [a] pos env Ut];rfl) (keeps_M SF.Us) ?_;have e1:=gJ hs [] pos env;rw[e1];refine Calls.evalArgs_plain ?_;rw[<- e1];refine cU (oG jz F.base Dn [a] pos cj Ut) q λas vs au aB ah fH iG oJ q=>?_;have hm:ah.heap.get? h'.objs.size=some (methodObj (.ref 291) (.ref ad)):=iG.keep _ _ e' List.not_mem_nil cT;refine⟨⟨hm,Rep.dJ (C:=C.fn env oc (aw st).names) jz fH⟩,wpAny_call (ks_codeAny_call_bound hm ?_)⟩;refine codeAny_mono (cF (C:=C.fn env oc (aw st).names) jz F fH (f:=291) (vs:=.ref k::vs) (as:=.ref ad::as) rfl (.cons (.ref _ _ (iG.g.get Zk)) oJ) q.nb) λr aO z=>?_;rcases r with e|(_|_|_|v)
 ·exact q.e _ _ z
 all_goals first|exact False.elim z|skip
 exact q.q _ _ z
theorem LG (ae:Rep C i loc hp s)(SF:yV C.w.params 370 434 291 st){vs:List V}{as:List Value}(hv:Vals C.no i s.heap vs as)(hb:qL d c st vs hp≠.bad) :
  codeAny C.M C.A (.call (.ref 370) ⟨as,[]⟩) (oU C i loc s (qL d c st vs hp)) s:=by
 obtain⟨p0,p1,apos,a,pos,pe,rest,eb,hs,uU⟩:=SF.shape;have es:qL d c st vs hp=if((bf st).args.map (·.arg)).length==vs.length then bj (aF (bo (ji c [d.ex (aw st).names a])::rest.map (d.st (aw st).names))) (cG (bW (aw st).names) ((bf st).args.map (·.arg)) vs) hp else .bad:=by unfold qL;rw[eb];rfl
 rw[es]at hb ⊢;by_cases hlen:(((bf st).args.map (·.arg)).length==vs.length)=true
 ·rw[if_pos hlen]at hb ⊢;have yU:((bf st).args.map (·.arg)).length=as.length:=by rw[<- hv.length];simpa using hlen
  refine jK (SF.is) λcc mA S=>?_;obtain⟨AH,od,nS,name,qual,pm,ct,gN,mz⟩:=S.fn;have ok:=gM S.ok;refine wi (O.top) λp loose mg mb TR=>?_;have T5:=O.depth;have hX:(K C.w.params).In s.heap:=ae.dJ O;refine ub gN mz S.ok hX (TR.nolimit.keeps ae.base) (by have:recursionLimit=1000:=rfl;(apply uo<;>trivial)) yU λenv oc ah T=>?_
  have nR:∀x c,([(("__class__":Str),cc)]:List (Str×Addr)).lookup x=some c->∃co v,(K C.w.params).lookup c=some co∧co.data=.cell v:=λx c e=>by
   refine ow (S.cell) λc1 d1 sl kN=>?_;simp only[List.lookup_cons]at e;split at e
   ·obtain rfl:=oi e;exact⟨_,_,kN,rfl⟩
   ·exact(Option.some_ne_none _ e.symm).elim
  have z9:=Il O ae ok nR T hv;have ak:=z9.1;have k₁:=z9.2;have jz:=Fu O ae ok T
  have lK:∀a,(cG (bW (aw st).names) ((bf st).args.map (·.arg)) vs)[0]?=some (some (V.ref a))->∃ad,i[a]?=some ad∧(((bf st).args.map (·.arg)).zip as).lookup ("self":Str)=some (.ref ad):=λa e=>by
   unfold cG at e;rw[List.getElem?_map,SF.NG]at e;refine aj (rE hv (oi e)) λb hb NA=>?_;refine aj (NA.cQ) λad aC he=>?_;subst aC;exact⟨ad,he,hb⟩
  rw[eb];have jj:aF (bo (ji c [d.ex (aw st).names a])::rest.map (d.st (aw st).names)) (cG (bW (aw st).names) ((bf st).args.map (·.arg)) vs) hp≠.bad:=λq=>by unfold bj at hb;rw[q]at hb;exact hb rfl
  have hint:interactive env=false:=by unfold interactive;rw[T.sc,ok.kind];rfl
  refine ks_codeAny_funcAt (ks_wpAt_mono (Q:=PN (C.fn env oc (aw st).names) (C.fn env oc (aw st).names).own i ah (·.2) (tO C.no) (aF (bo (ji c [d.ex (aw st).names a])::rest.map (d.st (aw st).names)) (cG (bW (aw st).names) ((bf st).args.map (·.arg)) vs) hp))
   (E:=PX (C.fn env oc (aw st).names) (C.fn env oc (aw st).names).own i ah (aF (bo (ji c [d.ex (aw st).names a])::rest.map (d.st (aw st).names)) (cG (bW (aw st).names) ((bf st).args.map (·.arg)) vs) hp)) ?_
   (λfl aO x=>by have:=C3 O ae T k₁ x;cases fl<;>exact this) λe aO x=>Im O ae ok T k₁ x)
  dsimp only[aF,bo]at jj ⊢;generalize cG (bW (aw st).names) ((bf st).args.map (·.arg)) vs=qx at jj ak lK ⊢
  have Uu:ji c [d.ex (aw st).names a] qx hp≠.bad:=λq=>by rw[q]at jj;exact jj rfl
  refine ks_wpAt_execs_cons (ks_wpAt_Expr_any (ks_wpAt_mono (Iy O F Dn cF (bs:=((bf st).args.map (·.arg)).zip as) S SF rfl rfl jz T ak lK (body:=.Expr (.Call (.Attribute (.Call (.Name "super" p0) [] [] p1) "__init__" apos) [a] [] pos) pe::rest) (p0:=p0) (p1:=p1) hs (by simpa using uU) ⟨Uu,λ_ _ x=>x,λ_ _ x=>x⟩) (λv aO z=>?_) λe aO z=>?_) hint rfl)
  ·refine fk z λb au aB e aV k₂ NA=>?_;rw[e]at jj ⊢;refine wpAt_of_wpAny ?_;simp only[az]at jj ⊢;have XA:aJ (C.fn env oc (aw st).names).own i ah aB aO:=k₂.weaken (by simp);exact eF.up (nM (C:=C.fn env oc (aw st).names) jz F Dn ⟨C.d9,rfl⟩ rest aV) XA jj
  ·refine dQ z λk e f kx=>?_;exact⟨k,by rw[e];rfl,f,kx.weaken (by simp)⟩
 ·rw[if_neg hlen]at hb;exact absurd rfl hb
end
end
section
structure AW:Prop where
 fa:∀P,la P
 ii:∀P,nU P
 sup:∀P,yV P 370 434 291 (aK 27 0)
theorem Pm {CC f:Addr}(e:fg (d7 CC) .init=some f):isClass f=false:=by
 have h:=uG e;unfold isClass at h;simp only[Bool.or_eq_true,beq_iff_eq]at h;rcases h with(rfl|rfl)|rfl<;>(cases e;rfl)
theorem LH (c:Ca)(N:Nat)(st:Stmt)(vs:List V)(hp:HP):uw c N st vs hp=qL (gv c N deep) c st vs hp:=rfl
section
variable {n N:Nat}{c:Ca}(FK:AW)(cF:qI n c)(cO:kZ n c)(kO:∀P,nK P c)
include FK cF cO kO
theorem tC:qI (n+1) (fF N c):=by
 intro C O F i loc hp s R f vs as aaF hv hb;have D:c5 n (gv c N deep):=uS FK.fa cO kO (AV FK.fa FK.ii) deep
 have e0:fF N c (.fix (.ref f)) vs hp=(if isClass f then m6 c f vs hp else match table.lookup f with
  |some st=>if f==370 then uw c N st vs hp else G7 c N st vs hp
  |none=>.bad):=rfl
 rw[e0,if_neg (by rw[aaF];decide)]at hb ⊢;cases ht:table.lookup f with
 |none=>rw[ht]at hb;exact absurd rfl hb
 |some st =>
  rw[ht]at hb;simp only at hb ⊢;split at hb
  ·rename_i FG;rw[if_pos FG];have XB:f=370:=by simpa using FG
   subst XB;have e1:table.lookup 370=some (aK 27 0):=by kernel_rfl
   rw[e1]at ht;cases ht
   rw[LH]at hb ⊢;exact LG O F D cF R (FK.sup _) hv hb
  ·rename_i FG;rw[if_neg FG];exact O9 O F D R ((FK.fa _).fns f st ht) hv hb
theorem Ct:kZ (n+1) (fF N c):=by
 intro C O F0 i loc hp s R f fa vs as hf hv hb;have F:=(FK.fa C.w.params).two;cases hf with
 |fix v =>
  have fin:∀{a:Addr},codeAny C.M C.A (.call (.ref a) ⟨as,[]⟩) (oU C i loc s (fF N c (.fix (.ref a)) vs hp)) s->wpAny C.M C.A (call (.ref a) as) (PN C [] i s (λ_=>loc) (Val C.no) (fF N c (.fix (.ref a)) vs hp)) (PX C [] i s (fF N c (.fix (.ref a)) vs hp)) s:=λh =>
   wpAny_call (codeAny_mono h λr s' z=>by rcases r with e|(_|_|_|v)<;>exact z)
  have e0:fF N c (.fix fa) vs hp=(match fa with
   |.ref a=>if isClass a then m6 c a vs hp else match table.lookup a with
    |some st=>if a==370 then uw c N st vs hp else G7 c N st vs hp
    |none=>.bad
   |.builtin b=>match builtins.lookup b with
    |some g=>g vs hp
    |none=>.bad
   |.type t=>match types.lookup t with
    |some g=>g vs hp
    |none=>.bad
   |_=>.bad):=by cases fa<;>rfl
  cases fa with
  |ref a =>
   by_cases hc:isClass a=true
   ·refine fin ?_;have e1:fF N c (.fix (.ref a)) vs hp=m6 c a vs hp:=by rw[e0];simp only[hc,if_true]
    rw[e1]at hb ⊢;exact LA O F (FK.fa _).made cF R hc hv (λf e=>Pm e) hb
   ·exact fin (tC (N:=N) FK cF cO kO O F R (by simpa using hc) hv hb)
  |builtin b =>
   rw[e0]at hb ⊢;simp only at hb ⊢;cases hl:builtins.lookup b with
   |none=>rw[hl]at hb;exact absurd rfl hb
   |some g =>
    rw[hl]at hb;exact KY O F hl R hv hb
  |type b =>
   rw[e0]at hb ⊢;simp only at hb ⊢;cases hl:types.lookup b with
   |none=>rw[hl]at hb;exact absurd rfl hb
   |some g =>
    rw[hl]at hb;exact KZ O F hl R hv hb
  |_=>rw[e0]at hb;exact absurd rfl hb
 |_=>exact absurd rfl hb
omit cF cO kO in
theorem Cu (P:Params):nK P (fF N c):=by
 intro f vs hp hb no i h fa hf;cases hf with
 |fix v =>
  cases fa with
  |ref a =>
   have e0:fF N c (.fix (.ref a)) vs hp=(if isClass a then m6 c a vs hp else match table.lookup a with
    |some st=>if a==370 then uw c N st vs hp else G7 c N st vs hp
    |none=>.bad):=rfl
   rw[e0]at hb;refine(FK.fa P).keep a ?_;by_cases hc:isClass a=true
   ·exact .inl hc
   ·rw[if_neg hc]at hb;cases ht:table.lookup a with
    |none=>rw[ht]at hb;exact absurd rfl hb
    |some st=>exact .inr rfl
  |_=>rfl
 |_=>exact absurd rfl hb
end
theorem yd (FK:AW)(N:Nat):∀n,qI n (ag N n)∧kZ n (ag N n)∧∀P,nK P (ag N n)
 |0=>⟨λ_ _ _ _ _ _ _ _ _ _ _ _ hb=>absurd rfl hb,λ_ _ _ _ _ _ _ _ _ _ _ _ _ hb=>absurd rfl hb,λP f vs hp hb=>absurd rfl hb⟩
 |n+1=>let⟨a,b,d⟩:=yd FK N n
  ⟨tC FK a b d,Ct FK a b d,Cu FK⟩
end
section
section
variable {P:Params}
theorem lB {x:Str}{a:Value}(hx:x≠"__name__")(h1:nsIn (K P) mainGlobals x=some none)(h2:bootBuiltins x=some a):gz P x (.fix a):=⟨hx,.inr ⟨a,h1,h2,rfl⟩⟩
theorem dD {x:Str}{a:Addr}(hx:x≠"__name__")(h1:nsIn (K P) mainGlobals x=some (some (.ref a))):gz P x (dv a):=⟨hx,.inl ⟨_,h1,λno i h _ _=>.fix _⟩⟩
theorem FH {x:Str}{l:List Nat}{t:Tok}(hx:x≠"__name__")(h1:nsIn (K P) mainGlobals x=some (some (.str (S l) t))):gz P x (.str l):=⟨hx,.inl ⟨_,h1,λno i h _ _=>.str _ _⟩⟩
theorem XC {x:Str}{k:Int}{t:Tok}(hx:x≠"__name__")(h1:nsIn (K P) mainGlobals x=some (some (.int k t))):gz P x (.int k):=⟨hx,.inl ⟨_,h1,λno i h _ _=>.int _ _⟩⟩
theorem Iz {no:List Addr}(cT:∀b∈no,(K P).lookup b=none){a:Addr}{o:Obj}(e:(K P).lookup a=some o):a∉no:=λhm=>by rw[cT a hm]at e;cases e
def Df (l:List String)(ts:List Nat):List Value:=(l.zip ts).map λp=>.str (S (af p.1)) p.2
theorem AX {no:List Addr}{i:Pl}{h:Heap}:∀(l:List String) (ts:List Nat),l.length=ts.length->Vals no i h (l.map λs=>.str (af s)) (Df l ts)
 |[],_,_=>.nil
 |_::_,[],e=>by simp at e
 |s::l,t::ts,e=>.cons (.str _ _) (AX l ts (by simpa using e))
theorem AY {x:Str}{l:List String}{a:Addr}{ts:List Nat}(hx:x≠"__name__")(hl:l.length=ts.length)(h1:nsIn (K P) mainGlobals x=some (some (.ref a)))(h2:(K P).lookup a=some ⟨.type "tuple",none,.seq (Df l ts).toArray 0,#[]⟩):gz P x (yH l) :=
 ⟨hx,.inl ⟨_,h1,λno i h X cT=>.tup (Iz cT h2) ⟨_,X _ _ h2⟩ (by simpa using AX l ts hl)⟩⟩
theorem Uv:∀x v,([]:List (Str×V)).lookup x=some v->gz P x v:=λ_ _ e=>by simp at e
theorem bt {y:Str}{u:V}{l:List (Str×V)}(h:gz P y u)(r:∀x v,l.lookup x=some v->gz P x v):∀x v,((y,u)::l).lookup x=some v->gz P x v:=λx v e=>by
 rw[List.lookup_cons]at e;split at e
 ·rename_i hh;cases e;rw[beq_iff_eq.mp hh];exact h
 ·exact r x v e
theorem lg {no:List Addr}{h:Heap}{a:Addr}{its:Array Value}{vs:List V}(X:(K P).In h)(cT:∀b∈no,(K P).lookup b=none)(e:(K P).lookup a=some ⟨.type "tuple",none,.seq its 0,#[]⟩)(y:Vals no [] h vs its.toList):Val no [] h (.tup vs) (.ref a) :=
 .tup (Iz cT e) ⟨_,X _ _ e⟩ y
theorem lN {no:List Addr}{h:Heap}{a:Addr}{i j:Int}{ti tj:Tok}(X:(K P).In h)(cT:∀b∈no,(K P).lookup b=none)(e:(K P).lookup a=some ⟨.type "tuple",none,.seq #[.int i ti,.int j tj] 0,#[]⟩):Val no [] h (pr i j) (.ref a) :=
 lg X cT e (.cons (.int _ _) (.cons (.int _ _) .nil))
noncomputable def IA:List (Nat×Nat):=[(299,300),(302,303),(305,306),(308,309),(311,312),(314,315),(317,318),(320,321),(323,324),(326,327),(329,330),(332,333),(335,336),(338,339),(341,342),(344,345),(347,348),(350,351),(352,353),(354,355),(356,357),(358,359),(360,361),(362,363),(364,365),(366,367),(368,369),(370,371),(372,373),(374,375),(376,377)]
noncomputable def Uw:List (Nat×Nat):=[(393,91),(396,93),(399,95),(402,98),(407,101),(412,103),(415,105)]
def wM (P:Params)(l:List (List Nat×Nat×Value)):List DictEntry:=l.map λp=>⟨PyData.keyHash P (S p.1),.str (S p.1) p.2.1,p.2.2⟩
def uY (l:List (List Nat×Nat×Value)):List (Str×Value):=l.map λp=>(S p.1,p.2.2)
theorem AZ (w:World):∀l:List (List Nat×Nat×Value),Pairs (SK w) (wM w.params l) (uY l)
 |[]=>.nil
 |p::l=>.cons (strKind_is pw w (S p.1) p.2.1) rfl (AZ w l)
theorem Pn (w:World)(l:List (List Nat×Nat×Value)):KeysOf (SK w) (wM w.params l).toArray:=λe he=>by
 have uZ:e∈wM w.params l:=by simpa using he
 refine aj (List.mem_map.mp uZ) λp _ bH=>?_;subst bH;exact⟨S p.1,strKind_is pw w (S p.1) p.2.1,rfl⟩
theorem Dh {w:World}{h:Heap}{a:Addr}{l:List (List Nat×Nat×Value)}{n:Nat}(e:h.get? a=some (dictOf (wM w.params l) n))(nd:(l.map (·.1)).Nodup):h.DictOf (SK w) a (uY l):=by
 refine⟨_,_,n,e,⟨rfl,rfl,rfl⟩,rfl,Pn w l,by simpa using AZ w l,?_⟩;have:(uY l).map (·.1)=(l.map (·.1)).map S:=by simp[uY]
 rw[this];exact nd.map _ λa b uH e=>uH (EG e)
def Ux:List (List Nat×Nat×Value):=(eX.zip IA).map λp=>(p.1.1,p.2.1,.str (S p.1.2) p.2.2)
def Uy:List (List Nat×Nat×Value):=(pairs.zip Uw).map λp=>(p.1.1,p.2.1,.ref p.2.2)
theorem yf {P:Params}{h:Heap}:∀(l:List (List Nat×List Nat)) (ts:List (Nat×Nat)),l.length=ts.length->jP P h (l.map λp=>(p.1,V.str p.2)) (uY ((l.zip ts).map λp=>(p.1.1,p.2.1,.str (S p.1.2) p.2.2)))
 |[],_,_=>.nil
 |_::_,[],e=>by simp at e
 |p::l,t::ts,e=>.cons (λno _=>.str _ _) (yf l ts (by simpa using e))
theorem LI (P:Params):(K P).lookup 87=some (dictOf (wM P Ux) 31):=by kernel_rfl
theorem BV (P:Params):(K P).lookup 89=some (dictOf (wM P Uy) 7):=by kernel_rfl
theorem A0 (P:Params)(w:World)(hw:w.params=P)(h:Heap)(X:(K P).In h):∃bI,h.DictOf (SK w) 87 bI∧jP P h (eX.map λp=>(p.1,V.str p.2)) bI:=by
 subst hw;exact⟨_,Dh (X _ _ (LI _)) (by decide +kernel),yf eX IA (by kernel_rfl)⟩
theorem LJ (P:Params)(w:World)(hw:w.params=P)(h:Heap)(X:(K P).In h):∃bI,h.DictOf (SK w) 89 bI∧jP P h pairs bI:=by
 subst hw;refine⟨_,Dh (X _ _ (BV _)) (by decide +kernel),?_⟩;show jP _ h [_,_,_,_,_,_,_] [_,_,_,_,_,_,_]
 exact .cons (λno cT=>lg (a:=91) (its:=#[.ref 90]) X cT (by kernel_rfl) (.cons (lN (a:=90) (ti:=394) (tj:=395) (i:=1) (j:=2) X cT (by kernel_rfl)) .nil))
  (.cons (λno cT=>lg (a:=93) (its:=#[.ref 92]) X cT (by kernel_rfl) (.cons (lN (a:=92) (ti:=397) (tj:=398) (i:=1) (j:=2) X cT (by kernel_rfl)) .nil))
  (.cons (λno cT=>lg (a:=95) (its:=#[.ref 94]) X cT (by kernel_rfl) (.cons (lN (a:=94) (ti:=400) (tj:=401) (i:=1) (j:=2) X cT (by kernel_rfl)) .nil))
  (.cons (λno cT=>lg (a:=98) (its:=#[.ref 96,.ref 97]) X cT (by kernel_rfl) (.cons (lN (a:=96) (ti:=403) (tj:=404) (i:=2) (j:=3) X cT (by kernel_rfl)) (.cons (lN (a:=97) (ti:=405) (tj:=406) (i:=2) (j:=4) X cT (by kernel_rfl)) .nil)))
  (.cons (λno cT=>lg (a:=101) (its:=#[.ref 99,.ref 100]) X cT (by kernel_rfl) (.cons (lN (a:=99) (ti:=408) (tj:=409) (i:=1) (j:=2) X cT (by kernel_rfl)) (.cons (lN (a:=100) (ti:=410) (tj:=411) (i:=1) (j:=3) X cT (by kernel_rfl)) .nil)))
  (.cons (λno cT=>lg (a:=103) (its:=#[.ref 102]) X cT (by kernel_rfl) (.cons (lN (a:=102) (ti:=413) (tj:=414) (i:=1) (j:=2) X cT (by kernel_rfl)) .nil))
  (.cons (λno cT=>lg (a:=105) (its:=#[.ref 104]) X cT (by kernel_rfl) (.cons (lN (a:=104) (ti:=416) (tj:=417) (i:=1) (j:=2) X cT (by kernel_rfl)) .nil))
  (.nil)))))))
theorem LK (P:Params):rq P:=λw hw A E s x t Q X=>by
 refine aj (A0 P w hw s.heap X) λbI h1 h2=>?_;have g:=h2.get x;rw[qu]at g
 have e:(valueAt bI (S x)).isSome=(eX.lookup x).isSome:=by
  cases hf:eX.lookup x with
  |none=>rw[hf]at g;simp only[Option.map_none]at g;rw[g];rfl
  |some y=>rw[hf]at g;simp only[Option.map_some]at g;obtain⟨a,g1,_⟩:=g;rw[g1];rfl
 exact⟨λq=>wpAny_in_of (strKind_is pw w (S x) t) rfl h1.mapOf (by rw[e];exact q),λq=>wpAny_notIn_of (strKind_is pw w (S x) t) rfl h1.mapOf (by rw[e];exact q)⟩
theorem LL (P:Params):∀x v,iT.lookup x=some v->gz P x v:=by
 show ∀x v,([_,_,_,_,_,_,_,_,_,_,_,_,_,_,_,_,_,_,_,_,_,_,_,_,_,_,_,_,_,_,_,_,_,_,_,_,_,_,_,_,_,_,_,_]:List (Str×V)).lookup x=some v->gz P x v
 exact bt (lB (by decide +kernel) (by kernel_rfl) (by kernel_rfl))
  (bt (lB (by decide +kernel) (by kernel_rfl) (by kernel_rfl))
  (bt (lB (by decide +kernel) (by kernel_rfl) (by kernel_rfl))
  (bt (lB (by decide +kernel) (by kernel_rfl) (by kernel_rfl))
  (bt (lB (by decide +kernel) (by kernel_rfl) (by kernel_rfl))
  (bt (lB (by decide +kernel) (by kernel_rfl) (by kernel_rfl))
  (bt (lB (by decide +kernel) (by kernel_rfl) (by kernel_rfl))
  (bt (lB (by decide +kernel) (by kernel_rfl) (by kernel_rfl))
  (bt (lB (by decide +kernel) (by kernel_rfl) (by kernel_rfl))
  (bt (dD (by decide +kernel) (by kernel_rfl))
  (bt (dD (by decide +kernel) (by kernel_rfl))
  (bt (dD (by decide +kernel) (by kernel_rfl))
  (bt (dD (by decide +kernel) (by kernel_rfl))
  (bt (dD (by decide +kernel) (by kernel_rfl))
  (bt (dD (by decide +kernel) (by kernel_rfl))
  (bt (dD (by decide +kernel) (by kernel_rfl))
  (bt (dD (by decide +kernel) (by kernel_rfl))
  (bt (dD (by decide +kernel) (by kernel_rfl))
  (bt (dD (by decide +kernel) (by kernel_rfl))
  (bt (dD (by decide +kernel) (by kernel_rfl))
  (bt (dD (by decide +kernel) (by kernel_rfl))
  (bt (dD (by decide +kernel) (by kernel_rfl))
  (bt (dD (by decide +kernel) (by kernel_rfl))
  (bt (AY (a:=84) (ts:=[280,281,282]) (by decide +kernel) rfl (by kernel_rfl) (by kernel_rfl))
  (bt (AY (a:=85) (ts:=[284,285,286]) (by decide +kernel) rfl (by kernel_rfl) (by kernel_rfl))
  (bt (AY (a:=86) (ts:=[288,289]) (by decide +kernel) rfl (by kernel_rfl) (by kernel_rfl))
  (bt (FH (t:=291) (by decide +kernel) (by kernel_rfl))
  (bt (FH (t:=293) (by decide +kernel) (by kernel_rfl))
  (bt (FH (t:=295) (by decide +kernel) (by kernel_rfl))
  (bt (XC (t:=297) (by decide +kernel) (by kernel_rfl))
  (bt (dD (by decide +kernel) (by kernel_rfl))
  (bt (dD (by decide +kernel) (by kernel_rfl))
  (bt (dD (by decide +kernel) (by kernel_rfl))
  (bt (dD (by decide +kernel) (by kernel_rfl))
  (bt (dD (by decide +kernel) (by kernel_rfl))
  (bt (dD (by decide +kernel) (by kernel_rfl))
  (bt (dD (by decide +kernel) (by kernel_rfl))
  (bt (dD (by decide +kernel) (by kernel_rfl))
  (bt (dD (by decide +kernel) (by kernel_rfl))
  (bt (dD (by decide +kernel) (by kernel_rfl))
  (bt (lB (by decide +kernel) (by kernel_rfl) (by kernel_rfl))
  (bt (lB (by decide +kernel) (by kernel_rfl) (by kernel_rfl))
  (bt (lB (by decide +kernel) (by kernel_rfl) (by kernel_rfl))
  (bt (dD (by decide +kernel) (by kernel_rfl))
  (Uv))))))))))))))))))))))))))))))))))))))))))))
structure FI where
 a:Addr
 st:Stmt
 name:Str
 qual:Str
 cl:List (Str×Addr)
 law:Bool
 code:Addr
 ct:Value
def FI.pm (q:FI):Value:=if q.law then .str (Str.ofString "law_pq0375_01") 849 else .str (Str.ofString "fdsolve.flat") 278
def nV:List FI:=[⟨119,aK 14 0,"__init__","Flat.__init__",[],false,118,.none⟩,⟨126,aK 14 1,"new_var","Flat.new_var",[],false,125,.none⟩,⟨133,aK 14 2,"post","Flat.post",[],false,132,.none⟩,⟨140,aK 14 3,"size","Flat.size",[],false,139,.none⟩,⟨147,aK 14 4,"domain_of","Flat.domain_of",[],false,146,.none⟩,⟨161,bg 15,"is_number","is_number",[],false,160,.none⟩,⟨166,bg 16,"is_row_of_numbers","is_row_of_numbers",[],false,165,.none⟩,⟨173,bg 17,"is_var","is_var",[],false,172,.none⟩,⟨178,bg 18,"fits","fits",[],false,177,.none⟩,⟨188,bg 20,"told_fault","told_fault",[],false,187,.none⟩,⟨195,bg 21,"truths_of","truths_of",[],false,194,.none⟩,⟨200,bg 22,"is_truth","is_truth",[],false,199,.none⟩,⟨207,bg 23,"piece_fault","piece_fault",[],false,206,.none⟩,⟨214,bg 24,"shown_fault","shown_fault",[],false,213,.none⟩,⟨228,aK 25 0,"__init__","FlatScanner.__init__",[],false,227,.none⟩,⟨235,aK 25 1,"sign","FlatScanner.sign",[],false,234,.none⟩,⟨242,aK 25 2,"skip","FlatScanner.skip",[],false,241,.none⟩,⟨249,aK 25 3,"run_of","FlatScanner.run_of",[],false,248,.none⟩,⟨256,aK 25 4,"quotation","FlatScanner.quotation",[],false,255,.none⟩,⟨263,aK 25 5,"number","FlatScanner.number",[],false,262,.none⟩,⟨270,aK 25 6,"token","FlatScanner.token",[],false,269,.none⟩,⟨291,aK 26 0,"__init__","DataReader.__init__",[],false,290,.none⟩,⟨298,aK 26 1,"take","DataReader.take",[],false,297,.none⟩,⟨305,aK 26 2,"is_sign","DataReader.is_sign",[],false,304,.none⟩,⟨312,aK 26 3,"want","DataReader.want",[],false,311,.none⟩,⟨319,aK 26 4,"number","DataReader.number",[],false,318,.none⟩,⟨326,aK 26 5,"word_value","DataReader.word_value",[],false,325,.none⟩,⟨333,aK 26 6,"opened","DataReader.opened",[],false,332,.none⟩,⟨340,aK 26 7,"closed","DataReader.closed",[],false,339,.none⟩,⟨347,aK 26 8,"data","DataReader.data",[],false,346,.none⟩,⟨370,aK 27 0,"__init__","FlatReader.__init__",[("__class__",358)],false,369,(.ref 363)⟩,⟨377,aK 27 1,"stretch","FlatReader.stretch",[],false,376,.none⟩,⟨384,aK 27 2,"domain","FlatReader.domain",[],false,383,.none⟩,⟨391,aK 27 3,"variable","FlatReader.variable",[],false,390,.none⟩,⟨398,aK 27 4,"constraint","FlatReader.constraint",[],false,397,.none⟩,⟨405,aK 27 5,"goal","FlatReader.goal",[],false,404,.none⟩,⟨412,aK 27 6,"output","FlatReader.output",[],false,411,.none⟩,⟨419,aK 27 7,"item","FlatReader.item",[],false,418,.none⟩,⟨426,aK 27 8,"look","FlatReader.look",[],false,425,.none⟩,⟨431,aK 27 9,"model","FlatReader.model",[],false,430,.none⟩,⟨443,bg 29,"_law_dip","_law_dip",[],true,442,.none⟩,⟨450,bg 30,"_law_put","_law_put",[],true,449,.none⟩,⟨457,bg 31,"_law_broken","_law_broken",[],true,456,.none⟩,⟨464,bg 32,"_law_variable","_law_variable",[],true,463,.none⟩,⟨471,bg 33,"_law_var","_law_var",[],true,470,.none⟩,⟨478,bg 34,"_law_constraint","_law_constraint",[],true,477,.none⟩,⟨485,bg 35,"_law_goal","_law_goal",[],true,484,.none⟩,⟨492,bg 36,"_law_output","_law_output",[],true,491,.none⟩,⟨499,bg 37,"_law_unread","_law_unread",[],true,498,.none⟩,⟨504,bg 38,"_law_is_right","_law_is_right",[],true,503,.none⟩]
def uc (P:Params)(c:Addr):Bool:=match (K P).lookup c with
 |some o=>(match o.data with
  |.cell _=>true
  |_=>false)
 |none=>false
theorem Cv {c:Addr}(h:uc P c=true):∃co v,(K P).lookup c=some co∧co.data=.cell v:=by
 unfold uc at h;cases e:(K P).lookup c with
 |none=>rw[e]at h;exact absurd h nofun
 |some o =>
  rw[e]at h;obtain⟨c1,d1,dt,sl⟩:=o;cases dt<;>first|exact⟨_,_,rfl,rfl⟩|exact absurd h nofun
theorem yg {α β:Type}[BEq α][LawfulBEq α]{x:α}{y:β}:∀{l:List (α×β)},l.lookup x=some y->(x,y)∈l:=by
 intro l
 induction l with
 |nil=>exact λe=>absurd e nofun
 |cons q l ih =>
  intro e;obtain⟨u,v⟩:=q;rw[List.lookup_cons]at e;cases h:x==u with
  |true=>rw[h]at e;cases oi e;rw[beq_iff_eq.mp h];exact .head _
  |false=>rw[h]at e;exact .tail _ (ih e)
theorem FJ:table=nV.map λq=>(q.a,q.st):=rfl
theorem Po:(nV.map λq=>(K P).lookup q.a)=nV.map λq=>some ⟨.type "function",none,.func (qg q.name q.qual q.st q.cl q.pm (.ref q.code) q.ct),#[]⟩:=by kernel_rfl
theorem IB:(nV.all λq=>codeIn (K P) (.ref q.code) q.qual)=true:=by kernel_rfl
theorem Pp:(nV.all λq=>t9 q.st q.cl)=true:=by kernel_rfl
theorem Pq:(nV.all λq=>q.cl.all λc=>uc P c.2)=true:=by kernel_rfl
theorem Uz (P:Params)(a:Addr)(st:Stmt)(h:table.lookup a=some st):Ly P a st:=by
 have hm:=yg h;rw[FJ]at hm;refine aj (List.mem_map.mp hm) λq hq e=>?_;cases e
 exact⟨_,_,_,_,_,_,_,_,_,List.map_inj_left.mp Po q hq,List.all_eq_true.mp IB q hq,List.all_eq_true.mp Pp q hq,λx c e=>Cv (List.all_eq_true.mp (List.all_eq_true.mp Pq q hq) _ (yg e))⟩
theorem FN {β:Type}{k:Key}{y:β}:∀{l:List (Key×β)},fg l k=some y->(k,y)∈l:=by
 intro l
 induction l with
 |nil=>exact λe=>absurd e nofun
 |cons q l ih =>
  intro e;obtain⟨u,v⟩:=q;unfold fg at e;by_cases h:u=k
  ·rw[if_pos h]at e;cases oi e;rw[h];exact .head _
  ·rw[if_neg h]at e;exact .tail _ (ih e)
theorem Pr (k:Key):k∈Key.all:=List.mem_of_getElem? (Key.ix k)
theorem A1 {C:Addr}(ga:findIn (K P) (.ref C) "__getattribute__"=some (some (.builtin "object.__getattribute__")))(gt:findIn (K P) (.ref C) "__getattr__"=some none)(sa:findIn (K P) (.ref C) "__setattr__"=some (some (.builtin "object.__setattr__")))(over:plainOver (K P) C=true)(dict:hasDictIn (K P) C=true)
  (ha:((Key.all.filter (attrOk C)).map λk=>(findIn (K P) (.ref C) k.str,takerIn (K P) C k.str))=(Key.all.filter (attrOk C)).map λ_=>(some none,some none))
  (hm:((d7 C).map λq=>(findIn (K P) (.ref C) q.1.str,typeIn (K P) (.ref q.2)))=(d7 C).map λq=>(some (some (.ref q.2)),some (.type "function"))):iV P C where
 ga:=ga
 gt:=gt
 sa:=sa
 over:=over
 dict:=dict
 attr:=λk hk=>Prod.ext_iff.mp (List.map_inj_left.mp ha k (List.mem_filter.mpr ⟨Pr k,hk⟩))
 bA:=λk f hk=>Prod.ext_iff.mp (List.map_inj_left.mp hm (k,f) (FN hk))
theorem Pu (P:Params):iV P 150:=A1 (by kernel_rfl) (by kernel_rfl) (by kernel_rfl) (by kernel_rfl) (by kernel_rfl) (by kernel_rfl) (by kernel_rfl)
theorem Pw (P:Params):iV P 273:=A1 (by kernel_rfl) (by kernel_rfl) (by kernel_rfl) (by kernel_rfl) (by kernel_rfl) (by kernel_rfl) (by kernel_rfl)
theorem Px (P:Params):iV P 434:=A1 (by kernel_rfl) (by kernel_rfl) (by kernel_rfl) (by kernel_rfl) (by kernel_rfl) (by kernel_rfl) (by kernel_rfl)
theorem UA (P:Params)(C:Addr)(h:isClass C=true):iV P C:=by
 unfold isClass at h;simp only[Bool.or_eq_true,beq_iff_eq]at h;rcases h with(rfl|rfl)|rfl
 ·exact Pu P
 ·exact Pw P
 ·exact Px P
end
end
theorem ud {K:Frag}{D:Addr}(h:(clsIn K D).isSome=true):∃cd,clsIn K D=some cd:=Option.isSome_iff_exists.mp h
theorem UB (P:Params):lL P 30 (aK 1 0) 40 81 18 29 where
 fn:=⟨.type "function",none,#[],Str.ofString "__init__",Str.ofString "FdError.__init__",.str (Str.ofString "fdsolve.errors") 187,(.ref 23),by kernel_rfl,by kernel_rfl⟩
 ok:=by kernel_rfl
 arg:=⟨((bf (aK 1 0)).args.head?).getD default,by kernel_rfl,by kernel_rfl⟩
 qK:=by kernel_rfl
 nT:=by kernel_rfl
 lM:=by kernel_rfl
 code:=⟨.type "code",none,#[(.str (Str.ofString "__init__") 201),(.str (Str.ofString "FdError.__init__") 202),(.str (Str.ofString "/claim/cut.py") 203),(.int (4) 0),(.int (2) 0),(.int (0) 0),(.int (0) 0),(.int (3) 0),(.ref 24),(.bool true),(.int (181) 0),(.ref 25),.none,(.ref 26),(.ref 27),(.ref 28),(.int (207) 0),(.int (4) 0),(.str (Str.ofString "/claim/cut.py") 208)],#[],Str.ofString "/claim/cut.py",203,by kernel_rfl,by kernel_rfl,by kernel_rfl⟩
 cell:=⟨.type "cell",none,#[],by kernel_rfl⟩
 cls:=ud (by kernel_rfl)
 sub:=by kernel_rfl
 glob:=by kernel_rfl
theorem UC (P:Params):lL P 59 (aK 2 0) 69 81 47 58 where
 fn:=⟨.type "function",none,#[],Str.ofString "__init__",Str.ofString "SpotFault.__init__",.str (Str.ofString "fdsolve.errors") 187,(.ref 52),by kernel_rfl,by kernel_rfl⟩
 ok:=by kernel_rfl
 arg:=⟨((bf (aK 2 0)).args.head?).getD default,by kernel_rfl,by kernel_rfl⟩
 qK:=by kernel_rfl
 nT:=by kernel_rfl
 lM:=by kernel_rfl
 code:=⟨.type "code",none,#[(.str (Str.ofString "__init__") 239),(.str (Str.ofString "SpotFault.__init__") 240),(.str (Str.ofString "/claim/cut.py") 241),(.int (12) 0),(.int (3) 0),(.int (0) 0),(.int (0) 0),(.int (3) 0),(.ref 53),(.bool true),(.int (181) 0),(.ref 54),.none,(.ref 55),(.ref 56),(.ref 57),(.int (246) 0),(.int (12) 0),(.str (Str.ofString "/claim/cut.py") 247)],#[],Str.ofString "/claim/cut.py",241,by kernel_rfl,by kernel_rfl,by kernel_rfl⟩
 cell:=⟨.type "cell",none,#[],by kernel_rfl⟩
 cls:=ud (by kernel_rfl)
 sub:=by kernel_rfl
 glob:=by kernel_rfl
theorem Py (P:Params):lL P 370 (aK 27 0) 434 434 358 369 where
 fn:=⟨.type "function",none,#[],Str.ofString "__init__",Str.ofString "FlatReader.__init__",.str (Str.ofString "fdsolve.flat") 278,(.ref 363),by kernel_rfl,by kernel_rfl⟩
 ok:=by kernel_rfl
 arg:=⟨((bf (aK 27 0)).args.head?).getD default,by kernel_rfl,by kernel_rfl⟩
 qK:=by kernel_rfl
 nT:=by kernel_rfl
 lM:=by kernel_rfl
 code:=⟨.type "code",none,#[(.str (Str.ofString "__init__") 757),(.str (Str.ofString "FlatReader.__init__") 758),(.str (Str.ofString "/claim/cut.py") 759),(.int (267) 0),(.int (2) 0),(.int (0) 0),(.int (0) 0),(.int (3) 0),(.ref 364),(.bool true),(.int (181) 0),(.ref 365),.none,(.ref 366),(.ref 367),(.ref 368),(.int (763) 0),(.int (267) 0),(.str (Str.ofString "/claim/cut.py") 764)],#[],Str.ofString "/claim/cut.py",759,by kernel_rfl,by kernel_rfl,by kernel_rfl⟩
 cell:=⟨.type "cell",none,#[],by kernel_rfl⟩
 cls:=ud (by kernel_rfl)
 sub:=by kernel_rfl
 glob:=by kernel_rfl
theorem UD (P:Params):jV P where
 cls:=⟨_,(by kernel_rfl:clsIn (K P) 81=some {name:=(Str.ofString "TextFault"),bases:=[(.ref 69)],mro:=[.ref 81,.ref 69,.ref 40,.type "Exception",.type "BaseException",.type "object"],ns:=80,qualname:=(Str.ofString "TextFault"),hasDict:=true,slotNames:=[],subclasses:=[],abstract:=false,collection:=none,hasDel:=false}),rfl,rfl⟩
 sa:=by kernel_rfl
 init:=by kernel_rfl
 t1:=by kernel_rfl
 t2:=by kernel_rfl
 sup:=by kernel_rfl
 Ua:=by kernel_rfl
 C7:=by kernel_rfl
 call:=by kernel_rfl
 typ:=by kernel_rfl
 NB:=⟨(Str.ofString "TextFault"),(Str.ofString "TextFault"),80,[(.ref 69)],true,[],[],false,none,none,(some (.ref 72)),none,(some (.str (Str.ofString "TextFault") 262)),(some (.str (Str.ofString "TextFault") 270)),(some (.bool true)),by kernel_rfl⟩
 Ub:=by kernel_rfl
 NC:=by kernel_rfl
 Uc:=by kernel_rfl
theorem Pz (P:Params):nU P where
 exc:=UD P
 Iu:=by kernel_rfl
 Ze:=UB P
 Zf:=UC P
 Ue:=⟨_,_,_,_,_,_,_,_,_,_,rfl,rfl⟩
 Ug:=⟨_,_,_,_,_,_,_,_,_,_,rfl,rfl⟩
 Uh:=by kernel_rfl
 Ui:=by kernel_rfl
 ND:=by kernel_rfl
 Uj:=by kernel_rfl
 Uk:=by kernel_rfl
theorem LM (P:Params):yV P 370 434 291 (aK 27 0) where
 is:=⟨358,369,Py P⟩
 shape:=⟨_,_,_,_,_,_,_,rfl,rfl,rfl⟩
 NG:=by kernel_rfl
 init:=by kernel_rfl
 C7:=by kernel_rfl
 Zj:=by kernel_rfl
 Us:=by kernel_rfl
theorem IC {p:Addr->Prop}(h:∀q∈table,p q.1){a:Addr}(e:(table.lookup a).isSome=true):p a:=by
 refine aQ (Option.isSome_iff_exists.mp e) λst hs=>?_
 have:∀(l:List (Addr×Stmt)),l.lookup a=some st->(a,st)∈l:=by
  intro l
  induction l with
  |nil=>intro h;simp at h
  |cons q l ih =>
   intro h;obtain⟨b,c⟩:=q;rw[List.lookup_cons]at h;split at h
   ·rename_i hh;cases h;rw[beq_iff_eq.mp hh];exact .head _
   ·exact .tail _ (ih h)
 exact h _ (this _ hs)
theorem LN (P:Params):(table.all λq=>keepIn (K P) (.ref q.1))=true:=by kernel_rfl
theorem ID (P:Params):la P where
 two:=⟨⟨LL P,LK P⟩,UA P,A0 P,LJ P⟩
 fns:=Uz P
 made:=λCC h=>by
  unfold isClass at h;simp only[Bool.or_eq_true,beq_iff_eq]at h;rcases h with(rfl|rfl)|rfl<;>kernel_rfl
 keep:=λa h=>by
  rcases h with h|h
  ·unfold isClass at h;simp only[Bool.or_eq_true,beq_iff_eq]at h;rcases h with(rfl|rfl)|rfl<;>kernel_rfl
  ·exact IC (p:=λa=>keepIn (K P) (.ref a)=true) (λq hq=>List.all_eq_true.mp (LN P) q hq) h
 get:=λpl Q E s X hq=>by
  have e:=X _ _ (BV P);exact getMethod_builtin (T:="dict") ⟨_,e,rfl⟩ PySem.F.plainAttrs_dict PySem.F.slot_dict_get PySem.F.type_dict_get (λa q=>by cases q;exact⟨_,e,rfl⟩) hq
theorem nW:AW:=⟨ID,Pz,LM⟩
section
structure rG (P:Params):Prop where
 ga:findIn (K P) (.ref 81) "__getattribute__"=some (some (.builtin "BaseException.__getattribute__"))
 gt:findIn (K P) (.ref 81) "__getattr__"=some none
 dict:hasDictIn (K P) 81=true
 bG:findIn (K P) (.ref 81) "spot"=some none
 glob:nsIn (K P) mainGlobals "TextFault"=some (some (.ref 81))
section
variable {w:World}{A:Around}{E:Value->Shared->Prop}{x:Addr}{ox:Obj}{od:Option Obj}
theorem PA {v:Value}{ob:Obj}{expr:Bool}{Q:Value->Shared->Prop}(F:jV w.params)(G:rG w.params)(X:(K w.params).In s.heap)(I:InstAt s.heap x ox 81 (some ob))(hl:lookIn "spot" ob=some (some v))(hh:handedIn v=true)
  (h:Q v {s with toks:=s.toks+1}):wpAny (model pw w) A (getAttr (.ref x) "spot" expr) Q E s:=by
 have sub:=C8 F X I (base:=.type "BaseException") (by decide +kernel);have hf:=looks_find (M:=model pw w) X I (findObj_own G.dict G.bG rfl hl);have L1:=looks_findIn (M:=model pw w) X G.ga;have L2:=looks_findIn (M:=model pw w) X G.gt;have L0:=I.type (M:=model pw w);obtain⟨hp,g,d,t,os⟩:=s;have f3:=PySem.F.attr_Exception.ga.bind (.ref x);have hx0:(expr&&onTheHeap (Value.builtin "BaseException.__getattribute__"))=false:=by cases expr<;>rfl
 have yc:(Value.builtin "BaseException.__getattribute__"==Value.builtin "object.__getattribute__")=false:=by decide +kernel
 have YQ:(onTheHeap (Value.ref 81)&&Value.builtin "BaseException.__getattribute__"==Value.builtin "object.__getattribute__")=false:=by rw[yc];rfl
 unfold getAttr getAttrBy;refine wpAny_bind (wpAny_mkText (wpAny_holding (wpAny_bind (Looks.at L0 (wpAny_bind (Looks.at L1 ?_))))));show wpAny _ _ (getAttrByItsOwn (.ref x) (.str "spot" t) (.ref 81) (.builtin "BaseException.__getattribute__") true expr) _ _ _;unfold getAttrByItsOwn hookBefore callGetattribute boundAndCalled
 repeat (first|(with_reducible refine Looks.at L2 ?_)|wp_step)
 refine codeAny_call_builtin PySem.F.attr_Exception.ga.plain PySem.F.entry_bexc_ga (@check_slot (model pw w) _ _ ⟨hp,g,d,t+1,os⟩ "BaseException.__getattribute__" "BaseException" "__getattribute__" (.ref x) [.str "spot" t] [] _ (by decide +kernel) (by decide +kernel) sub (PySem.F.args_bexc_ga _ _) ?_)
 repeat (first|(with_reducible refine Looks.at L0 ?_)|(with_reducible refine Looks.at hf ?_)|wp_step)
 show wpAny _ _ (handedOut v) _ _ _;rw[handedOut_of hh];exact wpAny_pure h
end
end
section
noncomputable def UE (C:Cx) (b:Bool):Flow->Shared->Prop:=λf s'=>f=.ret (.bool b)∧(∀b o,C.hb.get? b=some o->s'.heap.get? b=some o)∧s'.gens=#[]∧s'.os=C.os
theorem A2 {L:Addr}{m:Str->Option Value}(hm:h.Ns L m)(k:∀o,h.get? L=some o->(∀vs,o.data≠.fields vs)->∃o',h'.get? L=some o'∧o'.data=o.data∧o'.cls=o.cls∧o'.dict=o.dict):h'.Ns L m:=by
 refine m7 hm λo es ep e hd r=>?_;obtain⟨o',e',q1,_,_⟩:=k o e (λvs q=>by rw[hd]at q;cases q)
 exact⟨o',es,ep,e',q1.trans hd,r⟩
section
variable {n:Nat}{outer:List Env}(O:C.Ok n)(eS:C.d9=C.env::outer)(FE:jV C.w.params)(G:rG C.w.params)
include O eS FE G
theorem LO {k due:Int}{e:Value}{td:Tok}{m:Str->Option Value}(hm:s'.heap.Ns C.L m)(aaG:m "due"=some (.int due td))(fl:mu C k e s')(Zl:C.hb.get? C.L=none)(UG:C.env.frame=some C.L)
  (kT:C.env.kindOf "TextFault"=some .globalImplicit) (kf:C.env.kindOf "fault"=some .local) (kd:C.env.kindOf "due"=some .local) {p1 p2 p3 p4 p5 p6 p7:Pos} {E:Value->Shared->Prop} :
  wpAny C.M C.A (noteFrame e C.env) (λ_ aO=>wpAny C.M C.A (setFlight e none) (λ_ eR=>wpAny C.M C.A (handleBy e C.env [.ExceptHandler (some (.Name "TextFault" p1)) (some "fault") [.Return (some (.Compare (.Attribute (.Name "fault" p2) "spot" p3) [.Eq] [.Name "due" p4] p5)) p6] p7]) (UE C (k==due)) E eR) E aO) E s':=by
 refine tZ O eS fl λdR aaH XD held=>oK O aaH held none (.inl rfl) λie wN XE tr=>?_;refine wi (O.top) λp loose mg mb TR=>?_;have hp:(C.env.scope.kind==.class||(C.env.scope.kind==.module&&C.env.locals != C.env.globals))=false:=by rw[O.kind];rfl
 obtain⟨ea,d,oe,od,t,e0,he,hc,hed,hean,_,hd,hdc,UH,hdf,Iw,hap⟩:=wN.obj;subst e0;obtain⟨xO,vs,T,oT,ts,a1,a2,a3,a4,a5,a6,a7,a8,a9,Y4⟩:=tr ea rfl;have H5:ie.get? ea=some xO:=a1;have uZ:ie.get? ea=some oe:=he;rw[uZ]at H5;cases H5
 have XF:ie.Ns C.L m:=by
  refine A2 (h:=dR) (A2 (h:=s'.heap) hm λo e hn=>?_) λo e hn=>?_
  ·refine zR (XD _ o e) λo' q1 q2 q3 q4 _=>?_;exact⟨o',q1,q4 hn,q2,q3⟩
  ·refine zR (XE _ o e) λo' q1 q2 q3 q4 _=>?_;exact⟨o',q1,q4 hn,q2,q3⟩
 have aaI:(K C.w.params).In ie:=λb o q=>wN.base b o (O.dJ b o q);obtain⟨nm,qn,N,bs,hdct,sn,sub,ab,col,dd,k0,k1,k2,k3,k5,hK⟩:=FE.NB;refine wpAny_handleBy_cons (codeAny_handlers_test ?_) (by intro q;cases q)
 refine Calls.Name_function_global O.kind kT ?_ rfl;refine Calls.loadGlobal_global (mg:=mg) (by rw[O.globals];exact TR.g.keeps wN.base) (mg_of O.dJ TR.g G.glob) ?_;refine wpAny_excMatches_sub_self (aaI _ _ hK) uZ hc (by decide +kernel) ?_;refine codeAny_handlers_suite_as ?_;refine wpAny_setFlight_none uZ a2 a4 a7 a8 a9 ?_
 have jc:∀{b o},ie.get? b=some o->(∀vs,o.data≠.fields vs)->b≠T:=λ{b o} e hn q=>by
  rw[q]at e;have a7':ie.get? T=some oT:=a7;rw[a7']at e;cases e;exact hn _ a8
 have cL:∀b o,b≠T->ie.get? b=some o->(ie.update T (Obj.mapFields (·.setIfInBounds 3 .none))).get? b=some o:=λb o hb e=>(Heap.get?_update_ne _ _ _ _ hb).trans e
 refine m7 (id XF) λoL es ep qH mQ TZ=>?_;have hLT:C.L≠T:=jc qH (by rw[mQ];simp);have XG:(ie.update T (Obj.mapFields (·.setIfInBounds 3 .none))).Ns C.L m:=⟨oL,es,ep,cL _ _ hLT qH,mQ,TZ⟩
 refine wpAny_storeName_local kf XG (λqE FO FP=>?_) hp;have hLe:ea≠C.L:=λq=>by rw[q]at uZ;rw[qH]at uZ;cases uZ;rw[mQ]at a2;cases a2
 have hdT:d≠T:=jc hd hdf;have hea:qE.get? ea=some oe:=(FP.2 _ hLe).trans (cL _ _ (Ne.symm a6) uZ);have uP:∀b o,C.hb.get? b=some o->qE.get? b=some o:=λb o e=>(FP.2 b (λq=>by rw[q,Zl]at e;cases e)).trans (cL _ _ (λq=>by rw[q,a5]at e;cases e) (wN.base b o e))
 have aaJ:(K C.w.params).In qE:=λb o q=>uP b o (O.dJ b o q)
 have mQ:d≠C.L:=λq=>by
  refine hap C.env (by rw[eS];exact .head _) ?_;rw[q];exact UG
 have XH:qE.get? d=some od:=(FP.2 _ mQ).trans (cL _ _ hdT hd);have aaK:InstAt qE ea oe 81 (some od):=⟨hea,hc,by unfold notCls;rw[a2],by rw[hed];exact XH⟩;refine wpAny_execs_cons (wpAny_Return_some (wpAny_Compare1 (Attribute_any_ (wpAny_Name (wpAny_loadName_local O.kind kf FO (if_pos rfl) ?_) rfl) ?_) rfl))
 ·refine PA (s:=⟨qE,_,_,_,_⟩) FE G aaJ aaK Iw rfl ?_;refine wpAny_Name (wpAny_loadName_local O.kind kd FO ((if_neg (by decide +kernel)).trans aaG) ?_) rfl;refine PyProof.Rows.eq_int ?_;refine wpAny_nameGoes kf FO hp λTK m' hn₅ XI=>?_;exact⟨rfl,λb o e=>(XI.2 b (λq=>by rw[q,Zl]at e;cases e)).trans (uP b o e),wN.gens,wN.os⟩
 ·show(do
   let ov <- attributeBase (.Name "fault" p2) "spot" C.env (eval (.Name "fault" p2) C.env)
   standAt p3.atName
   let r <- holding [ov] (getAttr ov "spot" true)
   letTemporaryGo (.Name "fault" p2) ov r
   pure r)=_
  rw[lJ rfl]
end
end
section
structure NH (P:Params):Prop where
 fn:∃oc od nS name qual pm code ct,(K P).lookup 509=some ⟨oc,od,.func (qg name qual (bg 39) [] pm code ct),nS⟩∧codeIn (K P) code qual=true
 ok:t9 (bg 39) []=true
 args:(bf (bg 39)).args.map (·.arg)=[("script":Str)]
 loc:(aw (bg 39)).names.lookup ("script":Str)=some .local
theorem UI (P:Params):NH P where
 fn:=⟨.type "function",none,#[],Str.ofString "law",Str.ofString "law",.str (Str.ofString "law_pq0375_01") 849,.ref 508,.none,by kernel_rfl,by kernel_rfl⟩
 ok:=by kernel_rfl
 args:=by kernel_rfl
 loc:=by kernel_rfl
abbrev cz:Sc:=(aw (bg 39)).names
abbrev FQ (w:World)(hb:Heap)(os:OsState)(env:Env)(oc:List Addr):Cx:={w:=w,A:=callerA.deeper env,hb:=hb,os:=os,env:=env,d9:=[env],oc:=oc,sc:=cz,no:=[]}
theorem PB {M:Model}{A:Around}{E:Value->Shared->Prop}{scope:Scope}{n qual:Str}{v:Value}{func:Option Addr}{code:Value}{Q:Env->Shared->Prop}(hk:scope.kind=.function)(hl:scope.names.lookup n=some .local)
  (hQ:∀env,env=newEnv scope s.heap.objs.size mainGlobals (cellsFrom (s.heap.objs.size+1) scope.names []) qual func code none builtinsNs ->
   ∀s',InCallC s env.locals (bindL env.kindOf [(n,v)] λ_=>none) env.cells (bindC env.kindOf [(n,v)] λ_=>none) s'->s.toks<s'.toks->Q env s') :
  wpAny M A (newFunctionEnv scope mainGlobals [] [(n,v)] qual func code none builtinsNs) Q E s:=by
 simp only[newFunctionEnv,Option.isSome_none,Bool.false_eq_true,if_false];refine wpAny_bind (wpAny_alloc ?_);refine wpAny_bind (wpAny_layCells _ (λname kind cells=>by cases S6:kind==NameKind.cell<;>simp[S6]) _ _ _ _ ?_);have ok:=cellsFrom_ok scope.names (s.heap.push {cls:=.type "frame",data:=.dict #[]}) (s.heap.objs.size+1) [] ⟨λ_ _ hm=>(nomatch hm),List.Pairwise.nil⟩ (by rw[Heap.size_push];exact Nat.le_refl _)
 rw[Heap.size_push]at ok;rw[show({s with heap:=s.heap.push {cls:=.type "frame",data:=.dict #[]}}:Shared).heap.objs.size=s.heap.objs.size+1 from Heap.size_push ..]
 have x:InCallC s (newEnv scope s.heap.objs.size mainGlobals (cellsFrom (s.heap.objs.size+1) scope.names []) qual func code none builtinsNs).locals (λ_=>none) (cellsFrom (s.heap.objs.size+1) scope.names []) (λ_=>none)
   {s with heap:=pushCells (s.heap.push {cls:=.type "frame",data:=.dict #[]}) scope.names} :=
  ⟨⟨⟨_,_,rfl⟩,(Heap.Ns.new s.heap (.type "frame")).keeps (pushCells_keeps _ _),λb o e=>pushCells_keeps _ _ b o (Heap.get?_push_of_some _ e),Nat.le_refl _⟩,
   λn c hc=>(ok.empty n c (mem_of_lookup_some hc)).1,ok.apart,λn c hm=>(ok.empty n c hm).2⟩
 rw[List.forIn_cons];refine wpAny_bind (wpAny_bind (wpAny_bind (wpAny_storeName_local (m:=λ_=>none) hl x.toInCall.ns (λh' TH tq=>wpAny_pure ?_) (by show(scope.kind==.class||(scope.kind==.module&&_))=false;rw[hk];rfl))));show wpAny _ _ (forIn [] PUnit.unit _) _ _ _;rw[List.forIn_nil];refine wpAny_pure (wpAny_pure (hQ _ rfl _ ?_ (Nat.lt_succ_self _)));have xH:(newEnv scope s.heap.objs.size mainGlobals (cellsFrom (s.heap.objs.size+1) scope.names []) qual func code none builtinsNs).kindOf n=some .local:=hl;unfold bindL bindC;rw[if_pos xH,if_pos xH];refine⟨⟨?_,TH,λb o e=>?_,x.toInCall.fresh⟩,λk c hc=>?_,x.apart,x.above⟩
 ·exact⟨h',_,rfl⟩
 ·exact tq.extBut b o (Nat.ne_of_lt (Nat.lt_of_lt_of_le (Heap.lt_size e) x.toInCall.fresh)) (x.toInCall.keep b o e)
 ·exact(x.cell k c hc).sameBut tq (Nat.ne_of_gt (x.above k c (mem_of_lookup_some hc)))
section
variable {w:World}{R:Result->Shared->Prop}{p:Program}{loose:List Str}{mg mb:Str->Option Value}{a0:Addr}
theorem IE (L:NH w.params)(KX:(K w.params).In s.heap)(TR:TopRead p loose mg mb s.heap)(hg:s.gens=#[])
  (h:∀env oc ah,Cx.Ok (FQ w s.heap s.os env oc) 20->Rep (FQ w s.heap s.os env oc) [] (cG (bW cz) [("script":Str)] [.fix (.ref a0)]) [] ah->env.frame=some env.locals->(∀x,env.kindOf x=cz.lookup x) ->
   codeAny (model pw w) callerA (.func (dj (bg 39)) env) R ah):codeAny (model pw w) callerA (.call (.ref 509) ⟨[.ref a0],[]⟩) R s:=by
 obtain⟨AH,od,nS,name,qual,pm,code,ct,gN,mz⟩:=L.fn;have ok:=gM L.ok;refine codeAny_call_function (fd:=qg name qual (bg 39) [] pm code ct) (body:=dj (bg 39)) (by decide +kernel) (KX _ _ gN) rfl ok.co ok.gen rfl (codeRec_of KX mz) ?_;rw[oS ok.plain (by rw[L.args];rfl),L.args];refine wpAny_pure (PB (n:="script") (v:=.ref a0) ok.kind L.loc λenv he ah x ht=>⟨TR.nolimit.keeps x.toInCall.keep,?_⟩);have T:=tu (f:=509) ok (bs:=[("script",.ref a0)]) (by simp) he x (Nat.le_of_lt ht);generalize hoc:((aw (bg 39)).names.filterMap λp=>if p.2==.cell then env.cells.lookup p.1 else none)=oc at T
 have ek:∀x,env.kindOf x=cz.lookup x:=λx=>by show env.scope.names.lookup x=_;rw[T.sc]
 have uN:s.heap.get? env.locals=none:=by
  cases z:s.heap.get? env.locals with
  |none=>rfl
  |some o=>exact absurd (Heap.lt_size z) (Nat.not_lt.mpr T.above)
 refine jK (T.same) λh' t Fv=>?_;refine aj (T.ns) λm hm qb=>?_;refine m7 (id hm) λoL es ep qH mQ TZ=>?_
 refine h env oc ah ⟨rfl,by show 1+300+1+200≤900;decide,by show 4+3+800≤1000;decide,rfl,KX,⟨_,_,_,_,TR⟩,?_,T.globals,T.builtins,λx k e=>⟨?_,ok.Y3 _ (bP e)⟩,ok.nd,T.inj,λb hb=>?_,T.above,λb hb=>by simp at hb,⟨env.locals,[],env,T.frame,rfl,T.frame⟩,?_⟩
  ⟨⟨m,hm,λk v e=>?_⟩,rfl,λn o e=>by simp at e,.nil,λa ha=>by simp at ha,λb hb=>?_,T.keep,⟨?_,⟨env.locals,oL,T.frame,uN,qH,by rw[mQ];simp⟩,trivial⟩,by rw[Fv];exact hg,by rw[Fv],Nat.lt_of_le_of_lt (Nat.zero_le _) ht,by simp[cG],λb hb=>by simp at hb⟩ T.frame ek
 ·show env.scope.kind=_;rw[T.sc];exact ok.kind
 ·cases k with
  | «local»=>exact(ek x).trans e
  |cell =>
   refine dQ (T.cell x e) λc hc ho _=>?_;exact⟨(ek x).trans e,c,hc,.tail _ ho,(T.oc c ho).2.1⟩
  |free =>
   obtain⟨⟨c,hc⟩,_⟩:=ok.free x (bP e);simp at hc
  |globalImplicit=>exact(ek x).trans e
  |globalExplicit=>trivial
 ·rcases List.mem_cons.mp hb with q|q
  ·rw[q];exact uN
  ·exact(T.oc b q).1
 ·show env.scope.isGenerator=false∧env.scope.isCoroutine=false;rw[T.sc];exact⟨ok.gen,ok.co⟩
 ·unfold cG at e;rw[List.getElem?_map]at e;refine aj (Option.map_eq_some_iff.mp e) λx hx e=>?_;refine aj (qj hx) λkd fi il=>?_;have gN:=fS ok.nd fi;refine⟨x,kd,hx,gN,?_⟩
  have zv:∀u,v=some u->∃a,([(("script":Str),Value.ref a0)]:List (Str×Value)).lookup x=some a∧Val [] [] ah.heap u a:=λu hu=>by
   subst hu;refine aj (rE (no:=[]) (i:=[]) (h:=ah.heap) (vs:=[.fix (.ref a0)]) (as:=[.ref a0]) (.cons (.fix _) .nil) e) λa ha uR=>?_;exact⟨a,ha,uR⟩
  cases kd with
  | «local» =>
   intro u hu;refine aj (zv u hu) λa ha uR=>?_;exact⟨a,(qb x gN).trans ha,uR⟩
  |cell =>
   refine dQ (T.cell x gN) λc hc _ hi=>?_;refine⟨c,_,hc,hi,λu hu=>?_⟩;refine aj (zv u hu) λa ha uR=>?_;exact⟨a,ha,uR⟩
  |free =>
   obtain⟨⟨c,hc⟩,_⟩:=ok.free x fi;simp at hc
  |globalImplicit=>cases il
  |globalExplicit=>cases il
 ·rcases List.mem_cons.mp hb with q|q
  ·rw[q];exact⟨by simp,oL,qH,by rw[mQ];simp,by rw[mQ];simp⟩
  ·obtain⟨h1,_,v,o,ho,hd⟩:=T.oc b q;exact⟨by simp,o,ho,by rw[hd];simp,by rw[hd];simp⟩
 ·rw[T.sc,ok.kind];simp
end
end
section
set_option backward.match.sparseCases true
section
variable {n:Nat}(O:C.Ok n)(F:bU C.w.params){a0:Addr}{nj:Array Value}{l:List V}
def LP (e:Expr):Prop:=iB e=none∨∃pf p0 q p1 p2 ps pos,e=.Call (.Name "list" pf) [.Subscript (.Name "script" p0) (.Slice none (some (.Constant (.int 63) q p1)) none p2) ps] [] pos
def A3 (sc:Sc)(a0:Addr)(l:List V):Ex:=λloc hp=>match gQ sc "script" loc hp with
 |.ok (.fix (.ref a)) hp=>if a=a0 then .ok (.ref hp.length) (hp++[.list (cut l none (some 63))])else .bad
 |_=>.bad
def nX (sc:Sc)(a0:Addr)(l:List V):Ex:=λloc hp=>az (A3 sc a0 l loc hp) λv hp=>zX [v] hp
include O F
theorem UJ (ae:Rep C i loc hp s)(A4:∀s:Shared,(∀b o,C.hb.get? b=some o->s.heap.get? b=some o)->s.heap.IsList a0 nj∧Vals C.no [] s.heap l nj.toList)(hlen:l.length≤63){q:Nat}{p0 p1 p2 pos:Pos} :
  SV C [] i loc s (A3 C.sc a0 l loc hp) (eval (.Subscript (.Name "script" p0) (.Slice none (some (.Constant (.int 63) q p1)) none p2) pos) C.env):=by
 intro hb;unfold A3 at hb ⊢;have jc:gQ C.sc "script" loc hp≠.bad:=λe=>by rw[e]at hb;exact hb rfl
 refine Subscript_ (wpAny_mono (hR (own:=[]) (x:="script") (pos:=p0) O ae (λv hv=>F.base.iT _ v hv) jc) (λa ah z=>?_) λe ah z=>?_)
 ·refine fk z λv au aB ez ak k₁ hv=>?_;rw[ez]at hb ⊢;split at hb
  ·rename_i a' hp' e1;cases e1
   cases hv
   split at hb
   ·rename_i ha;subst ha;rw[if_pos rfl]
    show wpAny _ _ (do
     let l <- valueOrNone (evalOpt none C.env)
     let u <- holding [l] (valueOrNone (evalOpt (some (.Constant (.int 63) q p1)) C.env))
     let s <- holding [l,u] (valueOrNone none)
     newFields "slice" [l,u,s]) _ _ _
    refine wpAny_bind (wpAny_pure (wpAny_bind (wpAny_holding ?_)));have hc:zY (.int 63) loc au=.ok (.int 63) au:=rfl;refine wpAny_mono (ta (own:=[]) O F.base ak (.int 63) q p1 (by rw[hc];simp)) (λc aO z=>?_) λe aO z=>?_
    ·refine fk z λv bJ cm IG aV k₂ hv=>?_;rw[hc]at IG;cases IG
     cases hv with
     |int _ t =>
     refine wpAny_bind (wpAny_holding (wpAny_pure ?_));unfold newFields;refine wpAny_newObj_type ?_ (by show _≤_;simp[sizeLine]);have kp:∀b' o,aO.heap.get? b'=some o->(aO.heap.push {cls:=.type "slice",data:=.fields #[.none,.int 63 t,.none]}).get? b'=some o:=λ_ _ e=>Heap.get?_push_of_some _ e;refine bp (aV.more (own:=[]) (t:=aO.toks) (d:=aO.drawn) kp) λcj cL=>?_;refine bp (A4 {aO with heap:=aO.heap.push {cls:=.type "slice",data:=.fields #[.none,.int 63 t,.none]}} cj.base) λHL xN=>?_;obtain⟨b1,pl,YC,Nh⟩:=sW (Val.none (no:=C.no) (i:=cm) (h:=aO.heap)) (show ia .none=some none from rfl);obtain⟨b2,pu,YD,Ni⟩:=sW (Val.int (no:=C.no) (i:=cm) (h:=aO.heap) 63 t) (show ia (.int 63)=some (some 63)from rfl);have hs:=Heap.IsSliceOf.new aO.heap .none (.int 63 t) .none;have hl:l.length=nj.size:=by have:=xN.length;simpa using this
     refine tail_any (s:=_) (Heap.IsList.typeIs (s:={aO with heap:=aO.heap.push {cls:=.type "slice",data:=.fields #[.none,.int 63 t,.none]}}) HL) slot_list_getitem.lookup (wpAny_getItem_list_slice HL hs b1 b2 .none (by simp) ?_ (by rw[<- hl,sizeLine_eq];(apply aI<;>trivial))) rfl;rw[pY];have aaL:Vals C.no cm (aO.heap.push {cls:=.type "slice",data:=.fields #[.none,.int 63 t,.none]}) l nj.toList:=xN.keep ⟨cm,by simp⟩ (bq.refl _ _);refine fj (uB (own:=[]) cj (aaL.cut none (some 63)) (t:=aO.toks) (d:=aO.drawn)) λs' e fH iG w=>?_;have:=Yw (lc:=λ_=>loc) (T:=(Val C.no)) fH ((k₁.trans k₂).trans cL) iG w;rw[e]at this;exact this
    ·refine aj z λk IG _=>?_;rw[hc]at IG;cases IG
   ·exact absurd rfl hb
  ·exact absurd rfl hb
 ·refine aj z λk ez _=>?_;rw[ez]at hb;exact absurd rfl hb
end
section
variable {n N:Nat}{d:cy}{c:Ca}(O:C.Ok n)(F:bU C.w.params)(D:c5 n d){a0:Addr}{nj:Array Value}{l:List V}
def IH (d:cy)(sc:Sc)(a0:Addr)(l:List V):Expr->Ex:=λe=>match iB e with
 |some _=>nX sc a0 l
 |none=>d.ex sc e
include O F D
theorem IJ (A4:∀s:Shared,(∀b o,C.hb.get? b=some o->s.heap.get? b=some o)->s.heap.IsList a0 nj∧Vals C.no [] s.heap l nj.toList)(hlen:l.length≤63)(EY:gQ C.sc "list"=xC (.fix (.type "list")))(ae:Rep C i loc hp s)(e:Expr)(he:LP e) :
  SV C [] i loc s (IH d C.sc a0 l e loc hp) (eval e C.env):=by
 rcases he with h|⟨pf,p0,q,p1,p2,ps,pos,rfl⟩
 ·unfold IH;rw[h];exact D.ex O F.base ae e
 ·show SV C [] i loc s (nX C.sc a0 l loc hp) _;intro hb;have en:gQ C.sc "list" loc hp=.ok (.fix (.type "list")) hp:=by rw[EY];rfl
  show wpAny _ _ (do callWith pos (<- eval (.Name "list" pf) C.env) [] (backTo pos (starEach [.Subscript (.Name "script" p0) (.Slice none (some (.Constant (.int 63) q p1)) none p2) ps] C.env)) []) _ _ _
  refine wpAny_bind (wpAny_mono (hR (own:=[]) (x:="list") (pos:=pf) O ae (λv hv=>F.base.iT _ v hv) (by rw[en];simp)) (λfa ah z=>?_) λe ah z=>?_)
  ·refine fk z λv au aB ez ak k₁ hv=>?_;rw[en]at ez;cases ez
   cases hv
   refine callWith_of (P:=λh=>(K C.w.params).In h) rfl (λh X=>k7 (P:=C.w.params) (f:=.type "list") rfl h X) ?_;show wpAny _ _ (evalArgs (.type "list") true ((false,eval (.Subscript (.Name "script" p0) (.Slice none (some (.Constant (.int 63) q p1)) none p2) ps) C.env)::[]) []) _ _ _;refine evalArgs_plain (Calls.spliced_cons ?_);unfold nX at hb ⊢;refine uz (UJ O F ak A4 hlen) hb (λa v bJ cm aO q1 aV k₂ cX XJ=>?_) λ_ _ z=>z.up k₁;refine Calls.spliced_nil ⟨aV.dJ O,?_⟩;rw[q1];exact(CQ O F aV (.cons cX .nil)).up (k₁.trans k₂) XJ
  ·refine aj z λk ez _=>?_;rw[en]at ez;cases ez
theorem XK (eS:∃outer,C.d9=C.env::outer){rest:List Stmt}{Q:Flow->Shared->Prop}{E:Value->Shared->Prop}{je:Loc}{ay:HP}:∀(ss:List Stmt) {i loc hp s},Rep C i loc hp s->aF (ss.map (d.st C.sc)) loc hp=.ok (.next,je) ay ->
  (∀aB ah,Rep C aB je ay ah->wpAny C.M C.A (execs rest C.env) Q E ah)->wpAny C.M C.A (execs (ss++rest) C.env) Q E s:=by
 intro ss
 induction ss with
 |nil =>
  intro i loc hp s ae hr k;cases hr
  exact k i s ae
 |cons st ss ih =>
  intro i loc hp s ae hr k;simp only[List.map_cons,aF]at hr;have hb:d.st C.sc st loc hp≠.bad:=λq=>by rw[q]at hr;cases hr
  refine wpAny_execs_cons (wpAny_mono (D.st O F.base eS ae st hb) (λf ah z=>?_) λe ah z=>?_)
  ·obtain⟨⟨fl,loc'⟩,hp',i',e,R',K',IK⟩:=z;rw[e]at hr;cases fl with
   |next =>
    cases f with
    |next=>exact ih R' hr k
    |_=>exact IK.elim
   |ret v=>cases hr
  ·refine aj z λk e _=>?_;rw[e]at hr;cases hr
end
end
section
theorem yh {n:Nat}{x:Ex}{fl:Fl}{loc loc':Loc}{hp hp':HP}(h:aR n x loc hp=.ok (fl,loc') hp'):fl=.next:=by
 unfold aR at h;cases hq:x loc hp with
 |ok v hpx=>rw[hq]at h;cases h;rfl
 |gI k=>rw[hq]at h;cases h
 |bad=>rw[hq]at h;cases h
def ue:List Stmt:=dj (bg 39)
def u0:List Stmt:=(ue.take 8).drop 1
noncomputable def UK:Stmt->List (Option Expr)
 |.Assign _ (.Dict ks _ _) _=>ks
 |_=>[]
noncomputable def UL:Stmt->List Expr
 |.Assign _ (.Dict _ vs _) _=>vs
 |_=>[]
noncomputable def UM:Stmt->Expr
 |.Try (.Assign _ e _::_) _ _ _ _=>e
 |.Return (some e) _=>e
 |_=>default
def u1:List (Option Expr):=UK ((ue[0]?).getD (.Pass default))
def lO:List Expr:=UL ((ue[0]?).getD (.Pass default))
def fJ:Expr:=UM ((ue[8]?).getD (.Pass default))
def qM:Expr:=UM ((ue[9]?).getD (.Pass default))
theorem IL:∃p1 p2 p3 p4 p5 p6 p7 p8 p9 Zm q1 q2 q3 pr,ue=.Assign [.Name "feed" q1] (.Dict u1 lO q2) q3::(u0++[.Try [.Assign [.Name "flat" p8] fJ p9] [.ExceptHandler (some (.Name "TextFault" p1)) (some "fault") [.Return (some (.Compare (.Attribute (.Name "fault" p2) "spot" p3) [.Eq] [.Name "due" p4] p5)) p6] p7] [] [] Zm,.Return (some qM) pr]) :=
 ⟨_,_,_,_,_,_,_,_,_,_,_,_,_,_,rfl⟩
theorem UN:∀e∈lO,LP e:=by
 obtain⟨pf,p0,q,p1,p2,ps,pos,t,e,h⟩:∃pf p0 q p1 p2 ps pos t,lO=.Call (.Name "list" pf) [.Subscript (.Name "script" p0) (.Slice none (some (.Constant (.int 63) q p1)) none p2) ps] [] pos::t∧t.all (λe=>(iB e).isNone)=true:=⟨_,_,_,_,_,_,_,_,rfl,by kernel_rfl⟩;rw[e];exact List.forall_mem_cons.mpr ⟨.inr ⟨_,_,_,_,_,_,_,rfl⟩,λe he=>.inl (l8 (List.all_eq_true.mp h e he))⟩
noncomputable def u2:List Key:=[.cells,.place,.text,.iA,.vars,.bZ,.goal,.shown]
structure FR:Prop where
 ks:ou u1=some u2
 len:u2.length=lO.length
 feed:slot cz "feed"=some 1
 NI:cz.lookup ("feed":Str)=some .local
 flat:slot cz "flat"=some 10
 NJ:cz.lookup ("flat":Str)=some .local
 due:(bW cz)[5]?=some ("due":Str)
 LQ:cz.lookup ("due":Str)=some .local
 IM:cz.lookup ("fault":Str)=some .local
 tf:cz.lookup ("TextFault":Str)=some .globalImplicit
 list:gQ cz "list"=xC (.fix (.type "list"))
 comp:fE fJ=false
theorem IP:FR where
 ks:=by kernel_rfl
 len:=by kernel_rfl
 feed:=by kernel_rfl
 NI:=by kernel_rfl
 flat:=by kernel_rfl
 NJ:=by kernel_rfl
 due:=by kernel_rfl
 LQ:=by kernel_rfl
 IM:=by kernel_rfl
 tf:=by kernel_rfl
 list:=by kernel_rfl
 comp:=by kernel_rfl
theorem LR (P:Params):rG P where
 ga:=by kernel_rfl
 gt:=by kernel_rfl
 dict:=by kernel_rfl
 bG:=by kernel_rfl
 glob:=by kernel_rfl
def wO (d:cy)(a0:Addr)(l:List V):Sx:=aR 1 (lI (u2.zip (lO.map (IH d cz a0 l))))
def oX (d:cy)(a0:Addr)(l:List V)(loc:Loc)(hp:HP):R (Fl×Loc):=az (wO d a0 l loc hp) λp hp=>aF (u0.map (d.st cz)) p.2 hp
def oY (d:cy)(loc:Loc)(hp:HP):R V :=
 match aR 10 (d.ex cz fJ) loc hp with
 |.ok p hp=>d.ex cz qM p.2 hp
 |.gI k=>(match loc[5]? with
  |some (some (V.int q))=>.ok (.bool (k==q)) hp
  |_=>.bad)
 |.bad=>.bad
def nY (a0:Addr):Loc:=cG (bW cz) [("script":Str)] [.fix (.ref a0)]
section
variable {n N:Nat}{d:cy}{w:World}{oc:List Addr}{env:Env}{hb:Heap}{os:OsState}{a0:Addr}{nj:Array Value}{l:List V}{je:Loc}{ay aN:HP}
theorem LS (O:C.Ok n)(F:bU C.w.params)(D:c5 n d)(L:FR)(jG:C.sc=cz)(ae:Rep C i loc hp s)(p8 p9:Pos)(hb:aR 10 (d.ex cz fJ) loc hp≠.bad) :
  wpAny C.M C.A (exec (.Assign [.Name "flat" p8] fJ p9) C.env) (PN C C.own i s (·.2) (tO C.no) (aR 10 (d.ex cz fJ) loc hp)) (PX C [] i s (aR 10 (d.ex cz fJ) loc hp)) s:=by
 refine aj (uL fJ "flat" p8 p9.line C.env) λb nN T7=>?_;rw[T7 L.comp]at nN;unfold aR at hb ⊢;rw[gB,nN];refine wpAny_bind (wpAny_standAt ?_);show wpAny _ _ (do let v <- eval fJ C.env;assignStores C.env v (<- swappedStores [.Name "flat" p8] fJ C.env) ((assignEach [.Name "flat" p8] C.env).map (·.2))) _ _ _
 have h0:swappedStores [.Name "flat" p8] fJ C.env=pure none:=by cases fJ<;>rfl
 rw[h0,<- jG];rw[<- jG]at hb;refine wpAny_bind (uz (D.ex O F.base ae fJ) hb (λa v au aB ah q1 ak k₁ aP rD=>?_) λ_ _ z=>z);rw[q1];refine wpAny_bind (wpAny_pure ?_);show wpAny _ _ (assign (.Name "flat" p8) C.env a>>=λ_=>pure Flow.next) _ _ _;exact wpAny_bind (jk O ak (by rw[jG];exact L.NJ) (.inl rfl) (by rw[jG];exact L.flat) aP λaO aV k₂=>wpAny_pure (dW (lc:=λp:Fl×Loc=>p.2) aV ((k₁.weaken (by simp)).trans k₂) trivial))
theorem LU (A4:∀s:Shared,(∀b o,C.hb.get? b=some o->s.heap.get? b=some o)->s.heap.IsList a0 nj∧Vals C.no [] s.heap l nj.toList)(hlen:l.length≤63)(O:C.Ok n)(F:bU C.w.params)(D:c5 n d)(FE:jV C.w.params)(G:rG C.w.params)(L:FR)
  (jG:C.sc=cz) (eS:C.d9=[C.env]) (UG:C.env.frame=some C.L) (ek:∀x,C.env.kindOf x=cz.lookup x) (ae:Rep C i loc hp s)
  (h1:oX d a0 l loc hp=.ok (.next,je) ay) (h2:oY d je ay=.ok (.bool true) aN):wpAny C.M C.A (execs ue C.env) (UE C true) (λ_ _=>False) s:=by
 refine bC λnG=>?_;obtain⟨p1,p2,p3,p4,p5,p6,p7,p8,p9,Zm,q1,q2,q3,pr,e0⟩:=IL;refine nG ?_;rw[e0];unfold oX at h1;have Uu:wO d a0 l loc hp≠.bad:=λq=>by rw[q]at h1;cases h1
 have Dg:∀{i loc hp s},Rep C i loc hp s->∀e,LP e->SV C [] i loc s (IH d C.sc a0 l e loc hp) (eval e C.env):=λR e=>IJ O F D A4 hlen (by rw[jG];exact L.list) R e
 have hx:SV C [] i loc s (lI (u2.zip (lO.map (IH d C.sc a0 l))) loc hp) (eval (.Dict u1 lO q2) C.env):=CN Dg ae u1 u2 lO q2 L.ks L.len (by
  intro q;have:=L.len;rw[q]at this;cases this) (by rw[<- L.len];decide) UN
 rw[jG]at hx;refine wpAny_execs_cons (wpAny_mono (tW O F D ae (.Dict u1 lO q2) hx q3 (x:="feed") (p:=q1) (m:=1) (by rw[jG];exact L.NI) (.inl rfl) (by rw[jG];exact L.feed) rfl Uu) (λf ah z=>?_) λe ah z=>?_)
 ·refine bC λnG=>?_;obtain⟨⟨fl,loc'⟩,hp',i',e,R',K',IK⟩:=z;have e':wO d a0 l loc hp=.ok (fl,loc') hp':=e;rw[e']at h1;obtain rfl:=yh e';cases f with
  |next =>
   refine nG ?_;simp only[az]at h1;rw[<- jG]at h1;refine XK O F D ⟨[],eS⟩ u0 R' h1 λaB aO ak=>?_;unfold oY at h2;have hbt:aR 10 (d.ex cz fJ) je ay≠.bad:=λq=>by rw[q]at h2;cases h2
   refine wpAny_execs_cons (wpAny_Try_except (wpAny_execs_cons (wpAny_mono (LS O F D L jG ak p8 p9 hbt) (λf eR z=>?_) λe eR z=>?_)))
   ·refine bC λnG=>?_;obtain⟨⟨fl,aaM⟩,bL,cm,e3,aV,gS,IK⟩:=z;rw[e3]at h2;obtain rfl:=yh e3;cases f with
    |next =>
     refine nG ?_;refine wpAny_execs_nil (wpAny_execs_nil (wpAny_execs_cons (wpAny_Return_some ?_)));have qe:d.ex C.sc qM aaM bL=.ok (.bool true) aN:=by rw[jG];exact h2
     refine wpAny_mono (D.ex O F.base aV qM (by rw[qe];simp)) (λa fG z=>?_) λe fG z=>?_
     ·refine fk z λv lh KO e4 cj Lz hv=>?_;rw[qe]at e4;cases e4
      cases hv
      exact⟨rfl,cj.base,cj.gens,cj.os⟩
     ·refine aj z λk e4 _=>?_;rw[qe]at e4;cases e4
    |_=>exact IK.elim
   ·refine dQ z λk e3 fl kx=>?_;rw[e3]at h2;simp only at h2;split at h2
    ·rename_i q hq
     have hkq:(k==q)=true:=by
      injection h2 with h2 _;injection h2
     refine aj (ak.ns) λm hm kz=>?_;refine cg (kz 5 _ hq) λx kd y1 y2 y3=>?_
     have uW:x="due":=by
      have:(bW cz)[5]?=some x:=by rw[<- jG];exact y1
      rw[L.due]at this;exact(oi this).symm
     subst uW;rw[jG,L.LQ]at y2;cases y2
     refine aj (y3 _ rfl) λa ya yv=>?_;cases yv with
     |int _ td =>
     have uN:C.hb.get? C.L=none:=O.nF _ (.head _)
     have nO:eR.heap.Ns C.L m:=A2 hm λo eo hn=>by
      refine aQ (kx _ o eo hn (by simp) (ak.own _ (.head _)).1) λsl e'=>?_;exact⟨_,e',rfl,rfl,rfl⟩
     have:=LO (k:=k) (due:=q) O eS FE G nO ya fl uN UG ((ek _).trans L.tf) ((ek _).trans L.IM) ((ek _).trans L.LQ) (p1:=p1) (p2:=p2) (p3:=p3) (p4:=p4) (p5:=p5) (p6:=p6) (p7:=p7) (E:=λ_ _=>False);rw[hkq]at this;exact wpAny_mono this (λ_ fG z=>wpAny_mono z (λ_ dF z=>wpAny_mono z (λf s₆ z=>by obtain⟨rfl,z⟩:=z;exact⟨rfl,z⟩) λ_ _ z=>z) λ_ _ z=>z) λ_ _ z=>z
    ·cases h2
  |_=>exact IK.elim
 ·refine aj z λk e _=>?_;have e':wO d a0 l loc hp=.gI k:=e;rw[e']at h1;cases h1
end
end
theorem IQ {h:Heap}{vs:List Value}{zs:List Int}(x:IntsAre vs zs):Vals [] [] h (zs.map V.int) vs:=by
 induction x with
 |nil=>exact .nil
 |cons n t _ ih=>exact .cons (.int n t) ih
theorem PC (as bs:List WData):PySem.Challenge.rw_pq0375_01.row.claim.post as (.bool true) bs=true:=by kernel_rfl
theorem LV (LW:∀(zs:List Int) (a0:Addr),zs.length≤63->∃N je ay aN,oX (gv (ag N 20) N deep) a0 (zs.map V.int) (nY a0) []=.ok (.next,je) ay∧oY (gv (ag N 20) N deep) je ay=.ok (.bool true) aN) :
  WalkO Q0 nD (λ_ _=>True) HK.says PySem.Challenge.rw_pq0375_01.row.toRowW MY.1 MY.2 λf vs=>PySem.call f vs:=by
 intro w m9 ah mg mb G Y fa o pm cd doc dV kV ho hd mz hD hmg hg args vals as aaN aaO hrd uO HO;have KX:=kIn_of Y;have T:=G.T
 have Sv:fa=509:=by
  have:=mg_of KX (topRead_of T).g (show nsIn (K w.params) mainGlobals "law"=some (some (.ref 509))by kernel_rfl);have e:mg "law"=some (.ref fa):=hmg;rw[e]at this;cases this;rfl
 subst Sv
 wrow_args aaN aaO hrd uO HO
 rename_i zs _ _ _ _ _ _ _ a0 vals _ hL _ _ _ hI _ hlen _;refine enter_call ?_;obtain⟨N,je,ay,aN,h1,h2⟩:=LW zs a0 (by omega);obtain⟨ol,hol,nR,nl,hdl⟩:=hL;refine IE (w:=w) (UI _) KX (topRead_of T) hg λenv oc aO O R eS ek=>?_;have A4:∀s:Shared,(∀b o,ah.heap.get? b=some o->s.heap.get? b=some o)->s.heap.IsList a0 vals.toArray∧Vals [] [] s.heap (zs.map V.int) vals.toArray.toList:=λs k=>⟨⟨ol,k _ _ hol,nR,nl,hdl⟩,by simpa using IQ hI⟩;obtain⟨cF,cO,kO⟩:=yd nW N 20;have D:=uS (N:=N) nW.fa cO kO (AV nW.fa nW.ii) deep;refine codeAny_func (wpAny_mono (LU (C:=FQ w ah.heap ah.os env oc) A4 (by simp;omega) O (nW.fa _).two D (nW.ii _).exc (LR _) IP rfl rfl eS ek R h1 h2) (λf s' z=>?_) λ_ _ z=>z.elim);obtain⟨rfl,hk,IS,HG⟩:=z;exact⟨.inl ⟨.bool true,.bool true,[],rfl,λ_=>rfl,.bool true,PC _ _,λ_=>⟨.nil,by simp⟩⟩,.of_keep hk,HG,.of_eq IS⟩
theorem Zn (LW:∀(zs:List Int) (a0:Addr),zs.length≤63->∃N je ay aN,oX (gv (ag N 20) N deep) a0 (zs.map V.int) (nY a0) []=.ok (.next,je) ay∧oY (gv (ag N 20) N deep) je ay=.ok (.bool true) aN):PySem.Challenge.rw_pq0375_01.Holds :=
 yx (LV LW)
end
abbrev xS (s:String):Ex:=xC (.str (af s))
abbrev xF (c:Ca)(a:Addr)(l:List Ex):Ex:=aD c (xC (.fix (.ref a))) l
def UO (c:Ca)(N:Nat):List Sx:=[(cI (aa 0) .vars (cp [])),
 (cI (aa 0) .bZ (cp [])),
 (cI (aa 0) .goal (ao [(xS "satisfy"),(xC .none)])),
 (cI (aa 0) .shown (ao []))]
theorem PD (N k:Nat)(aG:V)(hp:HP):ag N (k+1) (.fix (.ref 119)) [aG] hp=bj (aF (UO (ag N k) N)) [some aG] hp:=by kernel_rfl
def UP (c:Ca)(N:Nat):List Sx:=[(bo (ax c (aH (aa 0) .vars) .append [(ao [(aa 1),(aa 2)])])),
 (aW (bw .Sub (aD c (xC (bi "len")) [(aH (aa 0) .vars)]) (xC (.int 1))))]
theorem PE (N k:Nat)(aG IT mB:V)(hp:HP):ag N (k+1) (.fix (.ref 126)) [aG,IT,mB] hp=bj (aF (UP (ag N k) N)) [some aG,some IT,some mB] hp:=by kernel_rfl
def UQ (c:Ca)(N:Nat):List Sx:=[(bo (ax c (aH (aa 0) .bZ) .append [(aa 1)]))]
theorem PF (N k:Nat)(aG iI:V)(hp:HP):ag N (k+1) (.fix (.ref 133)) [aG,iI] hp=bj (aF (UQ (ag N k) N)) [some aG,some iI] hp:=by kernel_rfl
def UR (c:Ca)(N:Nat):List Sx:=[(aW (aD c (xC (bi "len")) [(aH (aa 0) .vars)]))]
theorem PG (N k:Nat)(aG:V)(hp:HP):ag N (k+1) (.fix (.ref 140)) [aG] hp=bj (aF (UR (ag N k) N)) [some aG] hp:=by kernel_rfl
def US (c:Ca)(N:Nat):List Sx:=[(aW (aq (aq (aH (aa 0) .vars) (aa 1)) (xC (.int 1))))]
theorem PH (N k:Nat)(aG Zo:V)(hp:HP):ag N (k+1) (.fix (.ref 147)) [aG,Zo] hp=bj (aF (US (ag N k) N)) [some aG,some Zo] hp:=by kernel_rfl
def UT (c:Ca)(N:Nat):List Sx:=[(aW (gk true [(aD c (xC (bi "isinstance")) [(aa 0),(xC (.fix (.type "int")))]),(xB (cW (tX (aD c (xC (bi "isinstance")) [(aa 0),(xC (.fix (.type "bool")))]))))]))]
theorem PI (N k:Nat)(gD:V)(hp:HP):ag N (k+1) (.fix (.ref 161)) [gD] hp=bj (aF (UT (ag N k) N)) [some gD] hp:=by kernel_rfl
def UU (c:Ca)(N:Nat):List Sx:=[(aW (gk true [(aD c (xC (bi "isinstance")) [(aa 0),(xC (.fix (.type "tuple")))]),(aD c (xC (bi "all")) [(cq N (cx (aa 0)) [none,none] (.one 1) (aS true []) (xF c 161 [(aa 1)]))])]))]
theorem PJ (N k:Nat)(gD:V)(hp:HP):ag N (k+1) (.fix (.ref 166)) [gD] hp=bj (aF (UU (ag N k) N)) [some gD] hp:=by kernel_rfl
def UW (c:Ca)(N:Nat):List Sx:=[(aW (gk true [(xF c 161 [(aa 0)]),(xB (ai (xC (.int 0)) [(.le,(aa 0)),(.lt,(aa 1))]))]))]
theorem PK (N k:Nat)(gD eW:V)(hp:HP):ag N (k+1) (.fix (.ref 173)) [gD,eW] hp=bj (aF (UW (ag N k) N)) [some gD,some eW] hp:=by kernel_rfl
def wQ (c:Ca)(N:Nat):List Sx:=[(bc (ai (aa 0) [(.eq,(xS "x"))]) [(aW (xF c 173 [(aa 1),(aa 2)]))] []),
 (bc (ai (aa 0) [(.eq,(xS "X"))]) [(aW (gk true [(aD c (xC (bi "isinstance")) [(aa 1),(xC (.fix (.type "tuple")))]),(aD c (xC (bi "all")) [(cq N (cx (aa 1)) [none,none,some 2] (.one 1) (aS true []) (xF c 173 [(aa 1),(aa 2)]))])]))] []),
 (bc (ai (aa 0) [(.eq,(xS "n"))]) [(aW (xF c 161 [(aa 1)]))] []),
 (bc (ai (aa 0) [(.eq,(xS "N"))]) [(aW (xF c 166 [(aa 1)]))] []),
 (bc (ai (aa 0) [(.eq,(xS "R"))]) [(aW (gk true [(aD c (xC (bi "isinstance")) [(aa 1),(xC (.fix (.type "tuple")))]),(aD c (xC (bi "all")) [(cq N (cx (aa 1)) [none,none] (.one 1) (aS true []) (xF c 166 [(aa 1)]))])]))] []),
 (bc (ai (aa 0) [(.eq,(xS "s"))]) [(aW (gk true [(aD c (xC (bi "isinstance")) [(aa 1),(xC (.fix (.type "str")))]),(xB (ai (aa 1) [(.jM,(xC (.tup [(.str (af "bounds")),(.str (af "values"))])))]))]))] []),
 (aW (gk true [(aD c (xC (bi "isinstance")) [(aa 1),(xC (.fix (.type "tuple")))]),(xB (ai (aD c (xC (bi "len")) [(aa 1)]) [(.gt,(xC (.int 0)))])),(xB (ai (aq (aa 1) (xC (.int 0))) [(.jM,(xC (.tup [(.str (af "linear_le")),(.str (af "linear_eq")),(.str (af "linear_ne"))])))])),(xB (ai (xF c 188 [(aa 1),(aa 2)]) [(.eq,(xS ""))]))]))]
theorem nZ (N k:Nat)(IU gD eW:V)(hp:HP):ag N (k+1) (.fix (.ref 178)) [IU,gD,eW] hp=bj (aF (wQ (ag N k) N)) [some IU,some gD,some eW] hp:=by kernel_rfl
def UX (c:Ca)(N:Nat):List Sx:=[(bc (aS false [(cW (tX (aD c (xC (bi "isinstance")) [(aa 0),(xC (.fix (.type "tuple")))]))),(ai (aD c (xC (bi "len")) [(aa 0)]) [(.eq,(xC (.int 0)))]),(cW (tX (aD c (xC (bi "isinstance")) [(aq (aa 0) (xC (.int 0))),(xC (.fix (.type "str")))]))),(ai (aq (aa 0) (xC (.int 0))) [(.gj,(xC (.fix (.ref 87))))])]) [(aW (xS "no constraint is told so"))] []),
 (eI [2,3] (ao [(aq (aa 0) (xC (.int 0))),(aq (xC (.fix (.ref 87))) (aq (aa 0) (xC (.int 0))))])),
 (bc (ai (aD c (xC (bi "len")) [(aa 0)]) [(.ne,(bw .Add (aD c (xC (bi "len")) [(aa 3)]) (xC (.int 1))))]) [(aW (eP [(c7 (aa 2)),(xS " has "),(c7 (aD c (xC (bi "len")) [(aa 3)])),(xS " arguments, not "),(c7 (bw .Sub (aD c (xC (bi "len")) [(aa 0)]) (xC (.int 1))))]))] []),
 (ib N (.many [4,5]) (ro (aa 3)) [(bc (cW (tX (xF c 178 [(aa 5),(aq (aa 0) (bw .Add (aa 4) (xC (.int 1)))),(aa 1)]))) [(aW (eP [(c7 (aa 2)),(xS ": argument "),(c7 (bw .Add (aa 4) (xC (.int 1)))),(xS " is of another kind")]))] [])]),
 (ib N (.many [6,7]) (cx (ax c (xC (.fix (.ref 89))) .get [(aa 2),(ao [])])) [(bc (ai (aD c (xC (bi "len")) [(aq (aa 0) (aa 6))]) [(.ne,(aD c (xC (bi "len")) [(aq (aa 0) (aa 7))]))]) [(aW (eP [(c7 (aa 2)),(xS ": arguments "),(c7 (aa 6)),(xS " and "),(c7 (aa 7)),(xS " are of unlike lengths")]))] [])]),
 (bc (aS true [(ai (aa 2) [(.eq,(xS "cumulative"))]),(ai (aD c (xC (bi "min")) [(bw .Add (bw .Add (aq (aa 0) (xC (.int 2))) (aq (aa 0) (xC (.int 3)))) (cV (aa 0) (xC (.int 4)) (xC .none)))]) [(.lt,(xC (.int 0)))])]) [(aW (xS "cumulative: no task lasts, or needs, less than 0, and no limit is less"))] []),
 (bc (aS true [(ai (aa 2) [(.eq,(xS "disjunctive"))]),(ai (aD c (xC (bi "min")) [(bw .Add (aq (aa 0) (xC (.int 2))) (ao [(xC (.int 0))]))]) [(.lt,(xC (.int 0)))])]) [(aW (xS "disjunctive: no task lasts less than 0"))] []),
 (bc (aS true [(ai (aa 2) [(.jM,(ao [(xS "max"),(xS "min")]))]),(ai (aD c (xC (bi "len")) [(aq (aa 0) (xC (.int 1)))]) [(.eq,(xC (.int 0)))])]) [(aW (eP [(c7 (aa 2)),(xS ": there is one variable at least")]))] []),
 (bc (aS true [(ai (aa 2) [(.eq,(xS "table"))]),(cW (tX (aD c (xC (bi "all")) [(cq N (cx (aq (aa 0) (xC (.int 2)))) [none,none,some 0] (.one 1) (aS true []) (xB (ai (aD c (xC (bi "len")) [(aa 1)]) [(.eq,(aD c (xC (bi "len")) [(aq (aa 2) (xC (.int 1)))]))])))])))]) [(aW (xS "table: a row has a number for each variable"))] []),
 (aW (ik (ai (aa 2) [(.eq,(xS "regular"))]) (aD c tH [(aa 0)]) (xS "")))]
theorem PL (N k:Nat)(iI eW:V)(hp:HP):ag N (k+1) (.fix (.ref 188)) [iI,eW] hp=bj (aF (UX (ag N k) N)) [some iI,some eW,none,none,none,none,none,none] hp:=by kernel_rfl
def FT (c:Ca)(N:Nat):List Sx:=[(aR 1 (aq (aa 0) (xC (.int 0)))),
 (bc (ai (aa 1) [(.eq,(xS "clause"))]) [(aW (bw .Add (aq (aa 0) (xC (.int 1))) (aq (aa 0) (xC (.int 2)))))] []),
 (bc (ai (aa 1) [(.jM,(ao [(xS "and"),(xS "or")]))]) [(aW (bw .Add (aq (aa 0) (xC (.int 1))) (ao [(aq (aa 0) (xC (.int 2)))])))] []),
 (bc (ai (aa 1) [(.eq,(xS "xor"))]) [(aW (cV (aa 0) (xC (.int 1)) (xC .none)))] []),
 (aW (ik (ai (aa 1) [(.jM,(ao [(xS "reif"),(xS "imp")]))]) (ao [(aq (aa 0) (xC (.int 1)))]) (ao [])))]
theorem wR (N k:Nat)(iI:V)(hp:HP):ag N (k+1) (.fix (.ref 195)) [iI] hp=bj (aF (FT (ag N k) N)) [some iI,none] hp:=by kernel_rfl
def UY (c:Ca)(N:Nat):List Sx:=[(aW (aD c (xC (bi "all")) [(cq N (cx (aa 0)) [none,none,none] (.many [1,2]) (aS true []) (gk true [(xB (ai (aa 1) [(.ge,(xC (.int 0)))])),(xB (ai (aa 2) [(.le,(xC (.int 1)))]))]))]))]
theorem PM (N k:Nat)(mB:V)(hp:HP):ag N (k+1) (.fix (.ref 200)) [mB] hp=bj (aF (UY (ag N k) N)) [some mB] hp:=by kernel_rfl
def oZ (c:Ca)(N:Nat):List Sx:=[(bc (aS false [(cW (tX (aD c (xC (bi "isinstance")) [(aa 0),(xC (.fix (.type "tuple")))]))),(ai (aD c (xC (bi "len")) [(aa 0)]) [(.lt,(xC (.int 2)))])]) [(aW (xS "a piece has a kind and what is shown"))] []),
 (bc (aS true [(ai (aq (aa 0) (xC (.int 0))) [(.eq,(xS "text"))]),(ai (aD c (xC (bi "len")) [(aa 0)]) [(.eq,(xC (.int 2)))]),(tX (aD c (xC (bi "isinstance")) [(aq (aa 0) (xC (.int 1))),(xC (.fix (.type "str")))]))]) [(aW (xS ""))] []),
 (bc (aS true [(ai (aq (aa 0) (xC (.int 0))) [(.jM,(ao [(xS "int"),(xS "bool")]))]),(ai (aD c (xC (bi "len")) [(aa 0)]) [(.eq,(xC (.int 2)))]),(tX (xF c 173 [(aq (aa 0) (xC (.int 1))),(aa 1)]))]) [(aW (xS ""))] []),
 (bc (aS true [(ai (aq (aa 0) (xC (.int 0))) [(.eq,(xS "list"))]),(ai (aD c (xC (bi "len")) [(aa 0)]) [(.eq,(xC (.int 2)))])]) [(bo (ax c (aa 2) .append [(aq (aa 0) (xC (.int 1)))])),
 (aW (xS ""))] []),
 (bc (aS true [(ai (aq (aa 0) (xC (.int 0))) [(.eq,(xS "if"))]),(ai (aD c (xC (bi "len")) [(aa 0)]) [(.eq,(xC (.int 4)))]),(tX (xF c 173 [(aq (aa 0) (xC (.int 1))),(aa 1)]))]) [(bo (ax c (aa 2) .extend [(cV (aa 0) (xC (.int 2)) (xC .none))])),
 (aW (xS ""))] []),
 (aW (xS "no piece is told so"))]
theorem rH (N k:Nat)(n3 eW yi:V)(hp:HP):ag N (k+1) (.fix (.ref 207)) [n3,eW,yi] hp=bj (aF (oZ (ag N k) N)) [some n3,some eW,some yi] hp:=by kernel_rfl
def UZ (c:Ca)(N:Nat):List Sx:=[(aR 2 (cp [(aa 0)])),
 (fC N (ai (aD c (xC (bi "len")) [(aa 2)]) [(.gt,(xC (.int 0)))]) [(aR 3 (ax c (aa 2) .pop [])),
 (bc (cW (tX (aD c (xC (bi "isinstance")) [(aa 3),(xC (.fix (.type "tuple")))]))) [(aW (xS "pieces stand in a list"))] []),
 (ib N (.one 4) (cx (aa 3)) [(aR 5 (xF c 207 [(aa 4),(aa 1),(aa 2)])),
 (bc (ai (aa 5) [(.ne,(xS ""))]) [(aW (aa 5))] [])])]),
 (aW (xS ""))]
theorem PO (N k:Nat)(Di eW:V)(hp:HP):ag N (k+1) (.fix (.ref 214)) [Di,eW] hp=bj (aF (UZ (ag N k) N)) [some Di,some eW,none,none,none,none] hp:=by kernel_rfl
def U0 (c:Ca)(N:Nat):List Sx:=[(cI (aa 0) .text (aa 1)),
 (cI (aa 0) .bG (xC (.int 0)))]
theorem PQ (N k:Nat)(aG v_text:V)(hp:HP):ag N (k+1) (.fix (.ref 228)) [aG,v_text] hp=bj (aF (U0 (ag N k) N)) [some aG,some v_text] hp:=by kernel_rfl
def U1 (c:Ca)(N:Nat):List Sx:=[(aW (cV (aH (aa 0) .text) (aH (aa 0) .bG) (bw .Add (aH (aa 0) .bG) (xC (.int 1)))))]
theorem PR (N k:Nat)(aG:V)(hp:HP):ag N (k+1) (.fix (.ref 235)) [aG] hp=bj (aF (U1 (ag N k) N)) [some aG] hp:=by kernel_rfl
def U2 (c:Ca)(N:Nat):List Sx:=[(bo (ax c (aa 0) .jL [(xS " \t\x0d\n")])),
 (fC N (ai (ax c (aa 0) .sign []) [(.eq,(xS "%"))]) [(aR 1 (ax c (aH (aa 0) .text) .find [(xS "\n"),(aH (aa 0) .bG)])),
 (cI (aa 0) .bG (ik (ai (aa 1) [(.ge,(xC (.int 0)))]) (aa 1) (aD c (xC (bi "len")) [(aH (aa 0) .text)]))),
 (bo (ax c (aa 0) .jL [(xS " \t\x0d\n")]))])]
theorem PT (N k:Nat)(aG:V)(hp:HP):ag N (k+1) (.fix (.ref 242)) [aG] hp=bj (aF (U2 (ag N k) N)) [some aG,none] hp:=by kernel_rfl
def U3 (c:Ca)(N:Nat):List Sx:=[(eI [2,3] (ao [(aH (aa 0) .bG),(aH (aa 0) .bG)])),
 (fC N (aS true [(ai (aa 3) [(.lt,(aD c (xC (bi "len")) [(aH (aa 0) .text)]))]),(ai (aq (aH (aa 0) .text) (aa 3)) [(.jM,(aa 1))])]) [(aR 3 (bw .Add (aa 3) (xC (.int 1))))]),
 (cI (aa 0) .bG (aa 3)),
 (aW (cV (aH (aa 0) .text) (aa 2) (aa 3)))]
theorem PU (N k:Nat)(aG Dj:V)(hp:HP):ag N (k+1) (.fix (.ref 249)) [aG,Dj] hp=bj (aF (U3 (ag N k) N)) [some aG,some Dj,none,none] hp:=by kernel_rfl
def U4 (c:Ca)(N:Nat):List Sx:=[(eI [1,2] (ao [(aH (aa 0) .bG),(cp [])])),
 (cI (aa 0) .bG (bw .Add (aH (aa 0) .bG) (xC (.int 1)))),
 (fC N (ai (ax c (aa 0) .sign []) [(.gj,(ao [(xS ""),(xS "\n"),(xS "\"")]))]) [(aR 3 (ax c (aa 0) .sign [])),
 (bc (ai (aa 3) [(.eq,(xS "\\"))]) [(cI (aa 0) .bG (bw .Add (aH (aa 0) .bG) (xC (.int 1)))),
 (bc (ai (ax c (aa 0) .sign []) [(.gj,(ao [(xS "n"),(xS "\""),(xS "\\")]))]) [(c8 (xS "a backslash stands ahead of n, a quote or a backslash") (bw .Sub (aH (aa 0) .bG) (xC (.int 1))))] []),
 (aR 3 (ik (ai (ax c (aa 0) .sign []) [(.eq,(xS "n"))]) (xS "\n") (ax c (aa 0) .sign [])))] []),
 (bo (ax c (aa 2) .append [(aa 3)])),
 (cI (aa 0) .bG (bw .Add (aH (aa 0) .bG) (xC (.int 1))))]),
 (bc (ai (ax c (aa 0) .sign []) [(.ne,(xS "\""))]) [(c8 (xS "a text is not closed") (aa 1))] []),
 (cI (aa 0) .bG (bw .Add (aH (aa 0) .bG) (xC (.int 1)))),
 (aW (ax c (xS "") .join [(aa 2)]))]
theorem PV (N k:Nat)(aG:V)(hp:HP):ag N (k+1) (.fix (.ref 256)) [aG] hp=bj (aF (U4 (ag N k) N)) [some aG,none,none,none] hp:=by kernel_rfl
def LX (c:Ca)(N:Nat):List Sx:=[(eI [1,2] (ao [(aH (aa 0) .bG),(xB (ai (ax c (aa 0) .sign []) [(.eq,(xS "-"))]))])),
 (bc (tX (aa 2)) [(cI (aa 0) .bG (bw .Add (aH (aa 0) .bG) (xC (.int 1))))] []),
 (aR 3 (ax c (aa 0) .jL [(xS "0123456789")])),
 (bc (aS false [(ai (aa 3) [(.eq,(xS ""))]),(ai (aD c (xC (bi "len")) [(aa 3)]) [(.gt,(xC (.int 1000)))])]) [(c8 (eP [(xS "a number has from one to "),(c7 (xC (.int 1000))),(xS " digits")]) (aa 1))] []),
 (aW (ik (tX (aa 2)) (gO (aD c (xC (.fix (.type "int"))) [(aa 3)])) (aD c (xC (.fix (.type "int"))) [(aa 3)])))]
theorem Dk (N k:Nat)(aG:V)(hp:HP):ag N (k+1) (.fix (.ref 263)) [aG] hp=bj (aF (LX (ag N k) N)) [some aG,none,none,none] hp:=by kernel_rfl
def U5 (c:Ca)(N:Nat):List Sx:=[(bo (ax c (aa 0) .skip [])),
 (eI [1,2] (ao [(aH (aa 0) .bG),(ax c (aa 0) .sign [])])),
 (bc (ai (aa 2) [(.eq,(xS ""))]) [(aW (ao [(xS "end"),(xS ""),(aa 1)]))] []),
 (bc (ai (aa 2) [(.eq,(xS "\""))]) [(aW (ao [(xS "text"),(ax c (aa 0) .kU []),(aa 1)]))] []),
 (bc (aS false [(ai (aa 2) [(.eq,(xS "-"))]),(ai (aa 2) [(.jM,(xS "0123456789"))])]) [(aW (ao [(xS "number"),(ax c (aa 0) .number []),(aa 1)]))] []),
 (bc (ai (aa 2) [(.jM,(xS "abcdefghijklmnopqrstuvwxyzABCDEFGHIJKLMNOPQRSTUVWXYZ_"))]) [(aW (ao [(xS "word"),(ax c (aa 0) .jL [(bw .Add (xS "abcdefghijklmnopqrstuvwxyzABCDEFGHIJKLMNOPQRSTUVWXYZ_") (xS "0123456789"))]),(aa 1)]))] []),
 (bc (ai (cV (aH (aa 0) .text) (aa 1) (bw .Add (aa 1) (xC (.int 2)))) [(.eq,(xS ".."))]) [(cI (aa 0) .bG (bw .Add (aa 1) (xC (.int 2)))),
 (aW (ao [(xS "sign"),(xS ".."),(aa 1)]))] []),
 (bc (ai (aa 2) [(.gj,(xS "()[]{},;:"))]) [(c8 (eP [(xS "a sign stands for nothing: "),(c7 (aa 2))]) (aa 1))] []),
 (cI (aa 0) .bG (bw .Add (aa 1) (xC (.int 1)))),
 (aW (ao [(xS "sign"),(aa 2),(aa 1)]))]
theorem PW (N k:Nat)(aG:V)(hp:HP):ag N (k+1) (.fix (.ref 270)) [aG] hp=bj (aF (U5 (ag N k) N)) [some aG,none,none] hp:=by kernel_rfl
def U6 (c:Ca)(N:Nat):List Sx:=[(cI (aa 0) .bM (xF c 273 [(aa 1)])),
 (cI (aa 0) .ahead (ax c (aH (aa 0) .bM) .token []))]
theorem PY (N k:Nat)(aG v_text:V)(hp:HP):ag N (k+1) (.fix (.ref 291)) [aG,v_text] hp=bj (aF (U6 (ag N k) N)) [some aG,some v_text] hp:=by kernel_rfl
def U7 (c:Ca)(N:Nat):List Sx:=[(aR 1 (aH (aa 0) .ahead)),
 (cI (aa 0) .ahead (ax c (aH (aa 0) .bM) .token [])),
 (aW (aa 1))]
theorem PZ (N k:Nat)(aG:V)(hp:HP):ag N (k+1) (.fix (.ref 298)) [aG] hp=bj (aF (U7 (ag N k) N)) [some aG,none] hp:=by kernel_rfl
def wU (c:Ca)(N:Nat):List Sx:=[(aW (xB (ai (cV (aH (aa 0) .ahead) (xC .none) (xC (.int 2))) [(.eq,(ao [(xS "sign"),(aa 1)]))])))]
theorem P0 (N k:Nat)(aG qN:V)(hp:HP):ag N (k+1) (.fix (.ref 305)) [aG,qN] hp=bj (aF (wU (ag N k) N)) [some aG,some qN] hp:=by kernel_rfl
def LY (c:Ca)(N:Nat):List Sx:=[(bc (cW (tX (ax c (aa 0) .cN [(aa 1)]))) [(c8 (eP [(c7 (aa 1)),(xS " is wanted")]) (aq (aH (aa 0) .ahead) (xC (.int 2))))] []),
 (bo (ax c (aa 0) .take []))]
theorem Dl (N k:Nat)(aG qN:V)(hp:HP):ag N (k+1) (.fix (.ref 312)) [aG,qN] hp=bj (aF (LY (ag N k) N)) [some aG,some qN] hp:=by kernel_rfl
def LZ (c:Ca)(N:Nat):List Sx:=[(bc (ai (aq (aH (aa 0) .ahead) (xC (.int 0))) [(.ne,(xS "number"))]) [(c8 (xS "a whole number is wanted") (aq (aH (aa 0) .ahead) (xC (.int 2))))] []),
 (aW (aq (ax c (aa 0) .take []) (xC (.int 1))))]
theorem Dm (N k:Nat)(aG:V)(hp:HP):ag N (k+1) (.fix (.ref 319)) [aG] hp=bj (aF (LZ (ag N k) N)) [some aG] hp:=by kernel_rfl
def A5 (c:Ca)(N:Nat):List Sx:=[(bc (aS false [(ai (aq (aa 1) (xC (.int 0))) [(.eq,(xS "number"))]),(ai (aq (aa 1) (xC (.int 0))) [(.eq,(xS "text"))])]) [(aW (aq (aa 1) (xC (.int 1))))] []),
 (bc (aS true [(ai (aq (aa 1) (xC (.int 0))) [(.eq,(xS "word"))]),(ai (aq (aa 1) (xC (.int 1))) [(.jM,(ao [(xS "none"),(xS "true"),(xS "false")]))])]) [(aW (ik (ai (aq (aa 1) (xC (.int 1))) [(.eq,(xS "none"))]) (xC .none) (xB (ai (aq (aa 1) (xC (.int 1))) [(.eq,(xS "true"))]))))] []),
 (c8 (xS "a number, a text, a list or a call is wanted") (aq (aa 1) (xC (.int 2))))]
theorem rJ (N k:Nat)(aG Dp:V)(hp:HP):ag N (k+1) (.fix (.ref 326)) [aG,Dp] hp=bj (aF (A5 (ag N k) N)) [some aG,some Dp] hp:=by kernel_rfl
def U8 (c:Ca)(N:Nat):List Sx:=[(aR 2 (ax c (aa 0) .take [])),
 (bc (aS true [(ai (aq (aa 2) (xC (.int 0))) [(.eq,(xS "word"))]),(tX (ax c (aa 0) .cN [(xS "(")]))]) [(bo (ax c (aa 0) .take [])),
 (bo (ax c (aa 1) .append [(ao [(cp [(aq (aa 2) (xC (.int 1)))]),(xS ")")])]))] [(bc (ai (cV (aa 2) (xC .none) (xC (.int 2))) [(.eq,(ao [(xS "sign"),(xS "[")]))]) [(bo (ax c (aa 1) .append [(ao [(cp []),(xS "]")])]))] [(aW (ao [(xC (.bool true)),(ax c (aa 0) .fq [(aa 2)])]))])]),
 (bc (tX (ax c (aa 0) .cN [(aq (aq (aa 1) (gO (xC (.int 1)))) (xC (.int 1)))])) [(aW (ax c (aa 0) .closed [(aa 1)]))] []),
 (aW (ao [(xC (.bool false)),(xC .none)]))]
theorem P1 (N k:Nat)(aG n4:V)(hp:HP):ag N (k+1) (.fix (.ref 333)) [aG,n4] hp=bj (aF (U8 (ag N k) N)) [some aG,some n4,none] hp:=by kernel_rfl
def L7 (c:Ca)(N:Nat):List Sx:=[(bc (tX (ax c (aa 0) .cN [(xS ",")])) [(bo (ax c (aa 0) .take [])),
 (aW (ao [(xC (.bool false)),(xC .none)]))] []),
 (eI [2,3] (aq (aa 1) (gO (xC (.int 1))))),
 (bo (ax c (aa 0) .want [(aa 3)])),
 (bo (ax c (aa 1) .pop [])),
 (aW (ao [(xC (.bool true)),(aD c (xC (.fix (.type "tuple"))) [(aa 2)])]))]
theorem P2 (N k:Nat)(aG n4:V)(hp:HP):ag N (k+1) (.fix (.ref 340)) [aG,n4] hp=bj (aF (L7 (ag N k) N)) [some aG,some n4,none,none] hp:=by kernel_rfl
def U9 (c:Ca)(N:Nat):List Sx:=[(aR 1 (cp [])),
 (fC N (tX (xC (.bool true))) [(eI [2,3] (ax c (aa 0) .opened [(aa 1)])),
 (fC N (tX (aa 2)) [(bc (ai (aD c (xC (bi "len")) [(aa 1)]) [(.eq,(xC (.int 0)))]) [(aW (aa 3))] []),
 (bo (ax c (aq (aq (aa 1) (gO (xC (.int 1)))) (xC (.int 0))) .append [(aa 3)])),
 (eI [2,3] (ax c (aa 0) .closed [(aa 1)]))])])]
theorem P4 (N k:Nat)(aG:V)(hp:HP):ag N (k+1) (.fix (.ref 347)) [aG] hp=bj (aF (U9 (ag N k) N)) [some aG,none,none,none] hp:=by kernel_rfl
def Va (c:Ca)(N:Nat):List Sx:=[(bo (ji c [(aa 1)])),
 (cI (aa 0) .flat (xF c 150 [])),
 (cI (aa 0) .eN (cp [])),
 (cI (aa 0) .cb (gO (xC (.int 1)))),
 (cI (aa 0) .b9 (gO (xC (.int 1))))]
theorem P5 (N k:Nat)(aG v_text:V)(hp:HP):ag N (k+1) (.fix (.ref 370)) [aG,v_text] hp=bj (aF (Va (ag N k) N)) [some aG,some v_text,none] hp:=by kernel_rfl
def Vb (c:Ca)(N:Nat):List Sx:=[(eI [2,3] (ao [(aq (aH (aa 0) .ahead) (xC (.int 2))),(ax c (aa 0) .number [])])),
 (bo (ax c (aa 0) .want [(xS "..")])),
 (aR 4 (ax c (aa 0) .number [])),
 (bc (aS false [(ai (aa 3) [(.gt,(aa 4))]),(aS true [(ai (aa 1) [(.gP,(xC .none))]),(ai (aa 3) [(.le,(bw .Add (aa 1) (xC (.int 1))))])])]) [(c8 (xS "ranges ascend, and do not touch") (aa 2))] []),
 (aW (ao [(aa 3),(aa 4)]))]
theorem P6 (N k:Nat)(aG IV:V)(hp:HP):ag N (k+1) (.fix (.ref 377)) [aG,IV] hp=bj (aF (Vb (ag N k) N)) [some aG,some IV,none,none,none] hp:=by kernel_rfl
def L8 (c:Ca)(N:Nat):List Sx:=[(bc (cW (tX (ax c (aa 0) .cN [(xS "{")]))) [(aW (ao [(ax c (aa 0) .iR [(xC .none)])]))] []),
 (bo (ax c (aa 0) .take [])),
 (aR 1 (cp [])),
 (fC N (cW (tX (ax c (aa 0) .cN [(xS "}")]))) [(bc (ai (aD c (xC (bi "len")) [(aa 1)]) [(.gt,(xC (.int 0)))]) [(bo (ax c (aa 0) .want [(xS ",")]))] []),
 (bo (ax c (aa 1) .append [(ax c (aa 0) .iR [(ik (ai (aD c (xC (bi "len")) [(aa 1)]) [(.gt,(xC (.int 0)))]) (aq (aq (aa 1) (gO (xC (.int 1)))) (xC (.int 1))) (xC .none))])]))]),
 (bo (ax c (aa 0) .take [])),
 (aW (aD c (xC (.fix (.type "tuple"))) [(aa 1)]))]
theorem P7 (N k:Nat)(aG:V)(hp:HP):ag N (k+1) (.fix (.ref 384)) [aG] hp=bj (aF (L8 (ag N k) N)) [some aG,none] hp:=by kernel_rfl
def Vc (c:Ca)(N:Nat):List Sx:=[(aR 1 (ax c (aa 0) .domain [])),
 (bo (ax c (aa 0) .want [(xS ":")])),
 (bc (ai (aq (aH (aa 0) .ahead) (xC (.int 0))) [(.gj,(ao [(xS "word"),(xS "text")]))]) [(c8 (xS "a name is wanted") (aq (aH (aa 0) .ahead) (xC (.int 2))))] []),
 (bo (ax c (aH (aa 0) .flat) .ki [(aq (ax c (aa 0) .take []) (xC (.int 1))),(aa 1)]))]
theorem P8 (N k:Nat)(aG:V)(hp:HP):ag N (k+1) (.fix (.ref 391)) [aG] hp=bj (aF (Vc (ag N k) N)) [some aG,none] hp:=by kernel_rfl
def Vd (c:Ca)(N:Nat):List Sx:=[(bo (ax c (aH (aa 0) .eN) .append [(aq (aH (aa 0) .ahead) (xC (.int 2)))])),
 (bo (ax c (aH (aa 0) .flat) .post [(ax c (aa 0) .data [])]))]
theorem P9 (N k:Nat)(aG:V)(hp:HP):ag N (k+1) (.fix (.ref 398)) [aG] hp=bj (aF (Vd (ag N k) N)) [some aG] hp:=by kernel_rfl
def L9 (c:Ca)(N:Nat):List Sx:=[(bc (ai (aH (aa 0) .cb) [(.ge,(xC (.int 0)))]) [(c8 (xS "a model has one goal") (aa 1))] []),
 (cI (aa 0) .cb (aq (aH (aa 0) .ahead) (xC (.int 2)))),
 (aR 2 (ax c (aa 0) .take [])),
 (bc (aS false [(ai (aq (aa 2) (xC (.int 0))) [(.ne,(xS "word"))]),(ai (aq (aa 2) (xC (.int 1))) [(.gj,(xC (.tup [(.str (af "satisfy")),(.str (af "minimize")),(.str (af "maximize"))])))])]) [(c8 (xS "satisfy, minimize or maximize is wanted") (aq (aa 2) (xC (.int 2))))] []),
 (cI (aH (aa 0) .flat) .goal (ao [(aq (aa 2) (xC (.int 1))),(ik (ai (aq (aa 2) (xC (.int 1))) [(.eq,(xS "satisfy"))]) (xC .none) (ax c (aa 0) .number []))]))]
theorem Qa (N k:Nat)(aG iJ:V)(hp:HP):ag N (k+1) (.fix (.ref 405)) [aG,iJ] hp=bj (aF (L9 (ag N k) N)) [some aG,some iJ,none] hp:=by kernel_rfl
def Ma (c:Ca)(N:Nat):List Sx:=[(bc (ai (aH (aa 0) .b9) [(.ge,(xC (.int 0)))]) [(c8 (xS "a model is shown in one way") (aa 1))] []),
 (cI (aa 0) .b9 (aq (aH (aa 0) .ahead) (xC (.int 2)))),
 (cI (aH (aa 0) .flat) .shown (ax c (aa 0) .data []))]
theorem Qb (N k:Nat)(aG iJ:V)(hp:HP):ag N (k+1) (.fix (.ref 412)) [aG,iJ] hp=bj (aF (Ma (ag N k) N)) [some aG,some iJ] hp:=by kernel_rfl
def Ve (c:Ca)(N:Nat):List Sx:=[(aR 1 (ax c (aa 0) .take [])),
 (bc (ai (cV (aa 1) (xC .none) (xC (.int 2))) [(.eq,(ao [(xS "word"),(xS "var")]))]) [(bo (ax c (aa 0) .jB []))] [(bc (ai (cV (aa 1) (xC .none) (xC (.int 2))) [(.eq,(ao [(xS "word"),(xS "constraint")]))]) [(bo (ax c (aa 0) .constraint []))] [(bc (ai (cV (aa 1) (xC .none) (xC (.int 2))) [(.eq,(ao [(xS "word"),(xS "solve")]))]) [(bo (ax c (aa 0) .goal [(aq (aa 1) (xC (.int 2)))]))] [(bc (ai (cV (aa 1) (xC .none) (xC (.int 2))) [(.eq,(ao [(xS "word"),(xS "output")]))]) [(bo (ax c (aa 0) .output [(aq (aa 1) (xC (.int 2)))]))] [(c8 (xS "var, constraint, solve or output is wanted") (aq (aa 1) (xC (.int 2))))])])])]),
 (bo (ax c (aa 0) .want [(xS ";")]))]
theorem Qc (N k:Nat)(aG:V)(hp:HP):ag N (k+1) (.fix (.ref 419)) [aG] hp=bj (aF (Ve (ag N k) N)) [some aG,none] hp:=by kernel_rfl
def Vf (c:Ca)(N:Nat):List Sx:=[(bc (ai (aa 1) [(.ne,(xS ""))]) [(c8 (aa 1) (aa 2))] [])]
theorem Qd (N k:Nat)(aG Dr iJ:V)(hp:HP):ag N (k+1) (.fix (.ref 426)) [aG,Dr,iJ] hp=bj (aF (Vf (ag N k) N)) [some aG,some Dr,some iJ] hp:=by kernel_rfl
def Vg (c:Ca)(N:Nat):List Sx:=[(fC N (ai (aq (aH (aa 0) .ahead) (xC (.int 0))) [(.ne,(xS "end"))]) [(bo (ax c (aa 0) .item []))]),
 (aR 1 (ax c (aH (aa 0) .flat) .size [])),
 (ib N (.many [2,3]) (wm (aH (aH (aa 0) .flat) .bZ) (aH (aa 0) .eN)) [(bo (ax c (aa 0) .look [(xF c 188 [(aa 2),(aa 1)]),(aa 3)])),
 (bc (cW (tX (aD c (xC (bi "all")) [(cq N (cx (xF c 195 [(aa 2)])) [none,none,some 0] (.one 1) (aS true []) (xF c 200 [(ax c (aH (aa 2) .flat) .d8 [(aa 1)])]))]))) [(c8 (eP [(c7 (aq (aa 2) (xC (.int 0)))),(xS ": a truth has the values 0 and 1 alone")]) (aa 3))] [])]),
 (aR 4 (aq (aH (aH (aa 0) .flat) .goal) (xC (.int 1)))),
 (bo (ax c (aa 0) .look [(ik (aS false [(ai (aa 4) [(.sZ,(xC .none))]),(tX (xF c 173 [(aa 4),(aa 1)]))]) (xS "") (xS "the goal is no variable")),(aH (aa 0) .cb)])),
 (bo (ax c (aa 0) .look [(xF c 214 [(aH (aH (aa 0) .flat) .shown),(aa 1)]),(aH (aa 0) .b9)])),
 (aW (aH (aa 0) .flat))]
theorem Qe (N k:Nat)(aG:V)(hp:HP):ag N (k+1) (.fix (.ref 431)) [aG] hp=bj (aF (Vg (ag N k) N)) [some aG,none,none,none,none] hp:=by kernel_rfl
def Mb (c:Ca)(N:Nat):List Sx:=[(eI [2,3] (ao [(bO (aa 0) .cells),(bO (aa 0) .place)])),
 (iS (aa 0) .place (bw .Add (aa 3) (xC (.int 1)))),
 (bc (ai (aa 3) [(.lt,(aD c (xC (bi "len")) [(aa 2)]))]) [(aW (bw .Mod (aq (aa 2) (aa 3)) (aa 1)))] []),
 (aW (bw .Mod (bw .Mod (bw .Add (bw .Add (bw .Add (bw .Mult (bw .Mult (xC (.int 5)) (aa 3)) (aa 3)) (bw .Mult (xC (.int 11)) (aa 3))) (bw .Mult (xC (.int 3)) (aD c (xC (bi "len")) [(aa 2)]))) (xC (.int 4))) (xC (.int 89))) (aa 1)))]
theorem Qf (N k:Nat)(cM eW:V)(hp:HP):ag N (k+1) (.fix (.ref 443)) [cM,eW] hp=bj (aF (Mb (ag N k) N)) [some cM,some eW,none,none] hp:=by kernel_rfl
def Vh (c:Ca)(N:Nat):List Sx:=[(iS (aa 0) .text (bw .Add (bO (aa 0) .text) (aq (ao [(xS " "),(xS "\n"),(xS " % var;\n"),(xS "\t")]) (xF c 443 [(aa 0),(xC (.int 4))])))),
 (aR 2 (aD c (xC (bi "len")) [(bO (aa 0) .text)])),
 (iS (aa 0) .text (bw .Add (bO (aa 0) .text) (aa 1))),
 (aW (aa 2))]
theorem Qg (N k:Nat)(cM n3:V)(hp:HP):ag N (k+1) (.fix (.ref 450)) [cM,n3] hp=bj (aF (Vh (ag N k) N)) [some cM,some n3,none] hp:=by kernel_rfl
def Mc (c:Ca)(N:Nat):List Sx:=[(bc (ai (bO (aa 0) .iA) [(.lt,(xC (.int 0)))]) [(iS (aa 0) .iA (aa 1))] [])]
theorem Ds (N k:Nat)(cM iJ:V)(hp:HP):ag N (k+1) (.fix (.ref 457)) [cM,iJ] hp=bj (aF (Mc (ag N k) N)) [some cM,some iJ] hp:=by kernel_rfl
def Vi (c:Ca)(N:Nat):List Sx:=[(bo (xF c 450 [(aa 0),(xS "var")])),
 (aR 1 (bw .Sub (xF c 443 [(aa 0),(xC (.int 3))]) (xC (.int 1)))),
 (aR 2 (cp [(ao [(aa 1),(bw .Add (aa 1) (aq (ao [(xC (.int 0)),(xC (.int 1)),(xC (.int 1)),(xC (.int 2)),(xC (.int 0)),(xC (.int 1)),(xC (.int 1)),(xC (.int 3)),(gO (xC (.int 1)))]) (xF c 443 [(aa 0),(xC (.int 9))])))])])),
 (bc (ai (xF c 443 [(aa 0),(xC (.int 3))]) [(.eq,(xC (.int 2)))]) [(aR 1 (bw .Add (aq (aq (aa 2) (xC (.int 0))) (xC (.int 1))) (aq (ao [(xC (.int 2)),(xC (.int 3)),(xC (.int 2)),(xC (.int 4)),(xC (.int 2)),(xC (.int 3)),(xC (.int 2)),(xC (.int 1)),(xC (.int 0))]) (xF c 443 [(aa 0),(xC (.int 9))])))),
 (bo (ax c (aa 2) .append [(ao [(aa 1),(bw .Add (aa 1) (xC (.int 1)))])]))] []),
 (bc (ai (aD c (xC (bi "len")) [(aa 2)]) [(.eq,(xC (.int 2)))]) [(bo (xF c 450 [(aa 0),(xS "{")]))] []),
 (ib N (.one 3) (mf (aD c (xC (bi "len")) [(aa 2)])) [(bc (ai (aa 3) [(.eq,(xC (.int 1)))]) [(bo (xF c 450 [(aa 0),(xS ",")]))] []),
 (aR 4 (xF c 450 [(aa 0),(aD c (xC (.fix (.type "str"))) [(aq (aq (aa 2) (aa 3)) (xC (.int 0)))])])),
 (iS (aa 0) .text (bw .Add (bw .Add (bO (aa 0) .text) (xS "..")) (aD c (xC (.fix (.type "str"))) [(aq (aq (aa 2) (aa 3)) (xC (.int 1)))]))),
 (bc (aS false [(ai (aq (aq (aa 2) (aa 3)) (xC (.int 1))) [(.lt,(aq (aq (aa 2) (aa 3)) (xC (.int 0))))]),(aS true [(ai (aa 3) [(.eq,(xC (.int 1)))]),(ai (aq (aq (aa 2) (xC (.int 1))) (xC (.int 0))) [(.lt,(bw .Add (aq (aq (aa 2) (xC (.int 0))) (xC (.int 1))) (xC (.int 2))))])])]) [(bo (xF c 457 [(aa 0),(aa 4)]))] [])]),
 (bc (ai (aD c (xC (bi "len")) [(aa 2)]) [(.eq,(xC (.int 2)))]) [(bo (xF c 450 [(aa 0),(xS "}")]))] []),
 (bo (xF c 450 [(aa 0),(xS ":")])),
 (eI [5,6] (aq (ao [(ao [(xS "x"),(xS "x")]),(ao [(xS "B_1"),(xS "B_1")]),(ao [(xS "a b"),(xS "\"a b\"")]),(ao [(xS ""),(xS "\"\"")]),(ao [(xS "var"),(xS "var")])]) (xF c 443 [(aa 0),(xC (.int 5))]))),
 (bo (xF c 450 [(aa 0),(aa 6)])),
 (bo (ax c (bO (aa 0) .vars) .append [(ao [(aa 5),(aD c (xC (.fix (.type "tuple"))) [(aa 2)])])]))]
theorem Dt (N k:Nat)(cM:V)(hp:HP):ag N (k+1) (.fix (.ref 464)) [cM] hp=bj (aF (Vi (ag N k) N)) [some cM,none,none,none,none,none,none] hp:=by kernel_rfl
def Vj (c:Ca)(N:Nat):List Sx:=[(aW (aq (ao [(xC (.int 0)),(xC (.int 1)),(xC (.int 0)),(xC (.int 2)),(xC (.int 0)),(xC (.int 1)),(xC (.int 0)),(xC (.int 0)),(xC (.int 1)),(xC (.int 0)),(xC (.int 3)),(gO (xC (.int 1)))]) (xF c 443 [(aa 0),(xC (.int 12))])))]
theorem Qh (N k:Nat)(cM:V)(hp:HP):ag N (k+1) (.fix (.ref 471)) [cM] hp=bj (aF (Vj (ag N k) N)) [some cM] hp:=by kernel_rfl
def Vk (c:Ca)(N:Nat):List Sx:=[(bo (xF c 450 [(aa 0),(xS "constraint")])),
 (aR 1 (aq (ao [(xC (.int 0)),(xC (.int 1)),(xC (.int 2)),(xC (.int 3)),(xC (.int 4)),(xC (.int 0)),(xC (.int 1)),(xC (.int 2)),(xC (.int 3)),(xC (.int 4)),(xC (.int 5)),(xC (.int 6))]) (xF c 443 [(aa 0),(xC (.int 12))]))),
 (eI [2,3] (ao [(xF c 471 [(aa 0)]),(xF c 471 [(aa 0)])])),
 (aR 4 (aq (ao [(ao [(xS "linear_le"),(ao [(xC (.int 1)),(gO (xC (.int 2)))]),(ao [(aa 2),(aa 3)]),(xC (.int 3))]),(ao [(xS "all_different"),(ao [(aa 2),(aa 3)]),(xS "bounds")]),(ao [(xS "clause"),(ao [(aa 2)]),(ao [(aa 3)])]),(ao [(xS "xor"),(aa 2),(aa 3),(aa 2)]),(ao [(xS "disjunctive"),(ao [(aa 2),(aa 3)]),(ao [(xC (.int 2)),(xC (.int 0))])]),(ao [(xS "linear_ne"),(ao [(xC (.int 4))]),(ao [(aa 2),(aa 3)]),(xC (.int 0))]),(ao [(xS "max"),(ao []),(aa 2)])]) (aa 1))),
 (aR 5 (aq (ao [(xS "linear_le([1, -2], [X, Y], 3)"),(xS "all_different([X, Y], \"bounds\")"),(xS "clause([X], [Y])"),(xS "xor(X, Y, X)"),(xS "disjunctive([X, Y], [2, 0])"),(xS "linear_ne([4], [X, Y], 0)"),(xS "max([], X)")]) (aa 1))),
 (bo (ax c (bO (aa 0) .bZ) .append [(ao [(aa 4),(xF c 450 [(aa 0),(jN 89 (jN 88 (aa 5) (aa 2)) (aa 3))])])]))]
theorem Qi (N k:Nat)(cM:V)(hp:HP):ag N (k+1) (.fix (.ref 478)) [cM] hp=bj (aF (Vk (ag N k) N)) [some cM,none,none,none,none,none] hp:=by kernel_rfl
def Vl (c:Ca)(N:Nat):List Sx:=[(aR 1 (xF c 450 [(aa 0),(xS "solve")])),
 (bc (ai (bO (aa 0) .goal) [(.gP,(xC .none))]) [(bo (xF c 457 [(aa 0),(aa 1)]))] []),
 (aR 2 (xF c 443 [(aa 0),(xC (.int 3))])),
 (eI [1,3] (ao [(xF c 450 [(aa 0),(aq (ao [(xS "satisfy"),(xS "minimize"),(xS "maximize")]) (aa 2))]),(xC .none)])),
 (bc (ai (aa 2) [(.gt,(xC (.int 0)))]) [(aR 3 (xF c 471 [(aa 0)])),
 (bo (xF c 450 [(aa 0),(aD c (xC (.fix (.type "str"))) [(aa 3)])]))] []),
 (iS (aa 0) .goal (ao [(aq (ao [(xS "satisfy"),(xS "minimize"),(xS "maximize")]) (aa 2)),(aa 3),(aa 1)]))]
theorem Du (N k:Nat)(cM:V)(hp:HP):ag N (k+1) (.fix (.ref 485)) [cM] hp=bj (aF (Vl (ag N k) N)) [some cM,none,none,none] hp:=by kernel_rfl
def Vm (c:Ca)(N:Nat):List Sx:=[(aR 1 (xF c 450 [(aa 0),(xS "output")])),
 (bc (ai (bO (aa 0) .shown) [(.gP,(xC .none))]) [(bo (xF c 457 [(aa 0),(aa 1)]))] []),
 (eI [2,3] (ao [(xF c 471 [(aa 0)]),(xF c 471 [(aa 0)])])),
 (aR 4 (xF c 443 [(aa 0),(xC (.int 3))])),
 (aR 5 (aq (ao [(ao [(ao [(xS "int"),(aa 2)]),(ao [(xS "text"),(xS ", ")]),(ao [(xS "bool"),(aa 3)])]),(ao [(ao [(xS "list"),(ao [(ao [(xS "int"),(aa 2)]),(ao [(xS "int"),(aa 3)])])])]),(ao [(ao [(xS "if"),(aa 2),(ao []),(ao [(ao [(xS "int"),(aa 3)])])])])]) (aa 4))),
 (aR 6 (aq (ao [(xS "[int(X), text(\", \"), bool(Y)]"),(xS "[list([int(X), int(Y)])]"),(xS "[if(X, [], [int(Y)])]")]) (aa 4))),
 (aR 6 (jN 89 (jN 88 (aa 6) (aa 2)) (aa 3))),
 (iS (aa 0) .shown (ao [(aa 5),(cp [(aa 2),(aa 3)]),(xF c 450 [(aa 0),(aa 6)])]))]
theorem Dv (N k:Nat)(cM:V)(hp:HP):ag N (k+1) (.fix (.ref 492)) [cM] hp=bj (aF (Vm (ag N k) N)) [some cM,none,none,none,none,none,none] hp:=by kernel_rfl
def Vn (c:Ca)(N:Nat):List Sx:=[(eI [1,2] (aq (ao [(ao [(xS ""),(xS "find")]),(ao [(xS "var 0..1"),(xS "x")]),(ao [(xS "var 0..1 : x"),(xS "y")]),(ao [(xS "solve"),(xS "least")]),(ao [(xS "constraint max ( [ 0 ] , 0"),(xS "]")]),(ao [(xS "constraint"),(xS ":")]),(ao [(xS "var 0 .."),(xS ":")]),(ao [(xS "var 0..1 :"),(xS "7")])]) (xF c 443 [(aa 0),(xC (.int 8))]))),
 (bc (ai (aa 1) [(.ne,(xS ""))]) [(aR 3 (xF c 450 [(aa 0),(aa 1)])),
 (bc (aS true [(ai (aa 1) [(.eq,(xS "solve"))]),(ai (bO (aa 0) .goal) [(.gP,(xC .none))])]) [(bo (xF c 457 [(aa 0),(aa 3)]))] [])] []),
 (bo (xF c 457 [(aa 0),(xF c 450 [(aa 0),(aa 2)])]))]
theorem wV (N k:Nat)(cM:V)(hp:HP):ag N (k+1) (.fix (.ref 499)) [cM] hp=bj (aF (Vn (ag N k) N)) [some cM,none,none,none] hp:=by kernel_rfl
def Vo (c:Ca)(N:Nat):List Sx:=[(aR 2 (aq (aa 0) (xC (.int 0)))),
 (bc (aS false [(ai (aa 2) [(.eq,(xS "max"))]),(ai (aa 2) [(.eq,(xS "linear_ne"))])]) [(aW (xC (.bool false)))] []),
 (aR 3 (ik (ai (aa 2) [(.eq,(xS "linear_le"))]) (aq (aa 0) (xC (.int 2))) (ik (ai (aa 2) [(.jM,(ao [(xS "all_different"),(xS "disjunctive")]))]) (aq (aa 0) (xC (.int 1))) (cV (aa 0) (xC (.int 1)) (xC .none))))),
 (bc (ai (aa 2) [(.eq,(xS "clause"))]) [(aR 3 (bw .Add (aq (aa 0) (xC (.int 1))) (aq (aa 0) (xC (.int 2)))))] []),
 (bc (ai (cq N (cx (aa 3)) [none,none,some 1] (.one 1) (aS true [(cW (ai (xC (.int 0)) [(.le,(aa 1)),(.lt,(aD c (xC (bi "len")) [(aa 2)]))]))]) (aa 1)) [(.ne,(cp []))]) [(aW (xC (.bool false)))] []),
 (bc (ai (aa 2) [(.gj,(ao [(xS "clause"),(xS "xor")]))]) [(aW (xC (.bool true)))] []),
 (aW (xB (ai (cq N (cx (aa 3)) [none,none,some 1] (.one 1) (aS true [(ai (cq N (cx (aq (aa 2) (aa 1))) [none,none] (.one 1) (aS true [(aS false [(ai (aq (aa 1) (xC (.int 0))) [(.lt,(xC (.int 0)))]),(ai (aq (aa 1) (xC (.int 1))) [(.gt,(xC (.int 1)))])])]) (aa 1)) [(.ne,(cp []))])]) (aa 1)) [(.eq,(cp []))])))]
theorem lX (N k:Nat)(iI IW:V)(hp:HP):ag N (k+1) (.fix (.ref 504)) [iI,IW] hp=bj (aF (Vo (ag N k) N)) [some iI,some IW,none,none] hp:=by kernel_rfl
local macro_rules | `(tactic| open_k with [$ts,*]) => do
 let xs:=("NL yW u3 FV FW FX FY yX u4 u5 rK yY u6 u7 yZ u9 o9 pb pd pg ph pj FZ rL pk NM F8 NN F9 rM rN rP rQ rR rS rT vb vc vd ve vf vg y0 vh Ga y7 y8 y9 vi vj rU pq pB pC pD vm rV vn rW rX vo rY rZ r7 za vp vq vr pE pF pG r8 qO zb vt vw vx r9 sd se Gb zc zd vy qP n5 qQ qR Ge ze zf sf sg pH pI zg zh jX jY fO vA vB Gf jf sj n7 NP NQ Gg Gh Gi Gj Gk su zp zq Gm sx vG zr zt Gn zu zw List.getElem?_cons_zero List.getElem?_cons_succ List.set_cons_zero List.set_cons_succ if_true if_false ite_true ite_false Bool.false_eq_true Bool.not_true Bool.not_false beq_self_eq_true reduceCtorEq Option.map_some Option.map_none Bool.true_beq Bool.false_beq Bool.true_eq_false lj lQ zi zj zk zl zm ip vz n6 si gU vC kC pJ zo vE Gl nk".splitOn " ").toArray.map λs=>Lean.mkIdent s.toName
 `(tactic| simp only[$[$xs:ident],*,$[$ts:term],*])
section
theorem Vp {a b:List Nat}(e:S a=S b):a=b:=by
 have:=congrArg Str.cps e
 simpa [S]using this
section
variable {α β γ:Type}
def Zp (f:α->HP->R β)(g:β->HP->R γ)(a:α)(hp:HP):R γ:=az (f a hp) g
def Zq (r:List Ex)(loc:Loc)(v:V)(hp:HP):R (List V):=az (xs r loc hp) (yC v)
noncomputable def kOk (a:α) (hp:HP):R α:=.ok a hp
def FU (v:V)(p:dT×Ex)(r:List (dT×Ex))(loc:Loc)(b:Bool)(hp:HP):R Bool:=cond b (iz v (p::r) loc hp) (.ok false hp)
def Vq (op:dT)(u:V)(p:dT×Ex)(r:List (dT×Ex))(loc:Loc)(v:V)(hp:HP):R Bool:=az (bQ (dB op u v hp) hp) (FU v p r loc)
def Zr (out:List Nat)(r:List Ex)(loc:Loc)(v:V)(hp:HP):R V:=rB (vStr v) λl=>rI (fu out.length l.length) (mK (out++l) r loc hp)
def Md (r:List Sx)(p:Fl×Loc)(hp:HP):R (Fl×Loc):=match p.1 with
  |.next=>aF r p.2 hp
  |.ret _=>.ok p hp
def wW (t:Tx)(b:Sx)(n:Nat)(p:Fl×Loc)(hp:HP):R (Fl×Loc):=match p.1 with|.next=>dI t b n p.2 hp|.ret _=>.ok p hp
def Vr (t:Tx)(b:Sx)(n:Nat)(loc:Loc)(c:Bool)(hp:HP):R (Fl×Loc):=if c then az (b loc hp) (wW t b n)else .ok (.next,loc) hp
noncomputable def Me (p:Fl×Loc) (hp:HP):R V:=match p.1 with
 |.ret v=>.ok v hp
 |.next=>.ok .none hp
def A6 (tg:Tg)(b:Sx)(M:Nat)(it:It)(p:Fl×Loc)(hp:HP):R (Fl×Loc):=match p.1 with|.next=>cJ tg b M it p.2 hp|.ret _=>.ok p hp
def NK (tg:Tg)(b:Sx)(M:Nat)(it:It)(o:Option Loc)(hp:HP):R (Fl×Loc):=match o with
  |none=>.bad
  |some loc=>az (b loc hp) (A6 tg b M it)
def Vs (tg:Tg)(b:Sx)(M:Nat)(loc:Loc)(o:Option (Option (V×It)))(hp:HP):R (Fl×Loc):=match o with
  |none=>.bad
  |some none=>.ok (.next,loc) hp
  |some (some (v,it))=>NK tg b M it (tg.put v loc) hp
section
variable (loc:Loc)(hp:HP)(e f o:Ex)(r:List Ex)(u v w:V)(vs:List V)(q:Operator)(op:dT)(cs:List (dT×Ex))(p:dT×Ex)(j:Int)(k:Key)(l m is:List Nat)(n:Nat)(b:Bool)(t:Tx)(ts:List Tx)(s:Sx)(ss sr:List Sx)(c:Ca)(x y:Option Nat)(tg:Tg)(i:Ix)(it:It)(g h d:Nat)
theorem NL:xC v loc hp=.ok v hp:=rfl
theorem yW:aa n loc hp=J5 loc[n]? hp:=rfl
theorem u3:J5 (some (some v)) hp=.ok v hp:=rfl
theorem FV:xs [] loc hp=.ok [] hp:=rfl
theorem FW:xs (e::r) loc hp=az (e loc hp) (Zq r loc):=rfl
theorem FX:Zq r loc v hp=az (xs r loc hp) (yC v):=rfl
theorem FY:yC v vs hp=.ok (v::vs) hp:=rfl
theorem yX:ao r loc hp=az (xs r loc hp) J6:=rfl
theorem u4:J6 vs hp=.ok (.tup vs) hp:=rfl
theorem u5:cp r loc hp=az (xs r loc hp) oy:=rfl
theorem rK:oy vs hp=.ok (.ref hp.length) (hp++[.list vs]):=rfl
theorem yY:bw q e f loc hp=az (e loc hp) (J7 q f loc):=rfl
theorem u6:J7 q f loc u hp=az (f loc hp) (Ec q u):=rfl
theorem u7:Ec q u v hp=jy q u v hp:=rfl
theorem yZ:gO e loc hp=az (e loc hp) J8:=rfl
theorem u9:J8 (.int j) hp=.ok (.int (-j)) hp:=rfl
theorem o9:iz u [(op,e)] loc hp=az (e loc hp) (cE op u):=rfl
theorem pb:cE op u v hp=bQ (dB op u v hp) hp:=rfl
theorem pd:iz u ((op,e)::p::cs) loc hp=az (e loc hp) (Vq op u p cs loc):=rfl
theorem pg:Vq op u p cs loc v hp=az (bQ (dB op u v hp) hp) (FU v p cs loc):=rfl
theorem ph:FU v p cs loc true hp=iz v (p::cs) loc hp:=rfl
theorem pj:FU v p cs loc false hp=.ok false hp:=rfl
theorem FZ:kOk b hp=.ok b hp:=rfl
theorem rL:ai e cs loc hp=az (e loc hp) (RO cs loc):=rfl
theorem pk:RO cs loc u hp=iz u cs loc hp:=rfl
theorem NM:xB t loc hp=az (t loc hp) s9:=rfl
theorem F8:s9 b hp=.ok (.bool b) hp:=rfl
theorem NN:tX e loc hp=az (e loc hp) kX:=rfl
theorem F9:kX v hp=bQ (kj v) hp:=rfl
theorem rM:gk b [e] loc hp=e loc hp:=rfl
theorem rN:gk b (e::f::r) loc hp=az (e loc hp) (J9 b (gk b (f::r)) loc):=rfl
theorem rP:J9 b e loc v hp=az (bQ (kj v) hp) (rk b e loc v):=rfl
theorem rQ:rk true e loc v true hp=e loc hp:=rfl
theorem rR:rk false e loc v false hp=e loc hp:=rfl
theorem rS:rk true e loc v false hp=.ok v hp:=rfl
theorem rT:rk false e loc v true hp=.ok v hp:=rfl
theorem vb:aS b [] loc hp=.ok b hp:=rfl
theorem vc:aS b (t::ts) loc hp=az (t loc hp) (wk b (aS b ts) loc):=rfl
theorem vd:wk true t loc true hp=t loc hp:=rfl
theorem ve:wk false t loc false hp=t loc hp:=rfl
theorem vf:wk true t loc false hp=.ok false hp:=rfl
theorem vg:wk false t loc true hp=.ok true hp:=rfl
theorem y0:cW t loc hp=az (t loc hp) Ed:=rfl
theorem vh:Ed b hp=.ok (!b) hp:=rfl
theorem Ga:ik t e f loc hp=az (t loc hp) (MZ e f loc):=rfl
theorem y7:MZ e f loc true hp=e loc hp:=rfl
theorem y8:MZ e f loc false hp=f loc hp:=rfl
theorem y9:aq e f loc hp=az (e loc hp) (Ka f loc):=rfl
theorem vi:Ka e loc u hp=az (e loc hp) (Ee u):=rfl
theorem vj:Ee u v hp=bQ (bh hp u v) hp:=rfl
theorem aX:bO e k loc hp=az (e loc hp) (Ef k):=rfl
theorem rU:cV o e f loc hp=az (o loc hp) (RP e f loc):=rfl
theorem pq:RP e f loc u hp=az (e loc hp) (Kg f loc u):=rfl
theorem pB:Kg f loc u v hp=az (f loc hp) (Ke u v):=rfl
theorem pC:Ke u v w hp=Kc u (ia v) (ia w) hp:=rfl
theorem pD:Kc u (some x) (some y) hp=gZ hp u x y:=rfl
theorem vm:aH e k loc hp=az (e loc hp) (Eg k):=rfl
theorem rV:Eg k u hp=bQ (eA hp u k) hp:=rfl
theorem vn:aD c f r loc hp=az (f loc hp) (RQ c r loc):=rfl
theorem rW:RQ c r loc u hp=az (xs r loc hp) (Kh c u):=rfl
theorem rX:Kh c u vs hp=c u vs hp:=rfl
theorem vo:ax c o k r loc hp=az (o loc hp) (RR c k r loc):=rfl
theorem rY:RR c k r loc u hp=az (bQ (dN hp u k) hp) (Ej c r loc u):=rfl
theorem rZ:Ej c r loc u v hp=az (xs r loc hp) (Ei c u v):=rfl
theorem r7:Ei c u v vs hp=c v (u::vs) hp:=rfl
theorem za:c7 e loc hp=az (e loc hp) Ki:=rfl
theorem vp:Ki v hp=az (bQ (ly v) hp) Ek:=rfl
theorem vq:Ek l hp=.ok (.str l) hp:=rfl
theorem vr:eP r loc hp=mK [] r loc hp:=rfl
theorem pE:mK l [] loc hp=.ok (.str l) hp:=rfl
theorem pF:mK l (e::r) loc hp=az (e loc hp) (Zr l r loc):=rfl
theorem pG:Zr l r loc (.str m) hp=rI (fu l.length m.length) (mK (l++m) r loc hp):=rfl
theorem r8:aR n e loc hp=az (e loc hp) (Kj n loc):=rfl
theorem qO:Kj n loc v hp=.ok (.next,loc.set n (some v)) hp:=rfl
theorem zb:eI is e loc hp=az (e loc hp) (Eo is loc):=rfl
theorem vt:Eo is loc (.tup vs) hp=Kk (dX is vs loc) hp:=rfl
theorem vw:Kk (some loc) hp=.ok (.next,loc) hp:=rfl
theorem vx:cI o k e loc hp=az (e loc hp) (RV o k loc):=rfl
theorem r9:RV o k loc v hp=az (o loc hp) (Kl k loc v):=rfl
theorem sd:Kl k loc v u hp=Hm loc (dn hp u k v):=rfl
theorem se:Hm loc (some hp)=.ok (.next,loc) hp:=rfl
theorem aY:iS o k e loc hp=az (e loc hp) (RW o k loc):=rfl
theorem aL:RW o k loc v hp=az (o loc hp) (Km k loc v):=rfl
theorem aM:Km k loc v u hp=Hm loc (sU hp u k v):=rfl
theorem Gb:bo e loc hp=az (e loc hp) (kEx loc):=rfl
theorem zc:kEx loc v hp=.ok (.next,loc) hp:=rfl
theorem zd:aW e loc hp=az (e loc hp) (Kn loc):=rfl
theorem vy:Kn loc v hp=.ok (.ret v,loc) hp:=rfl
theorem qP:aF [] loc hp=.ok (.next,loc) hp:=rfl
theorem n5:aF (s::ss) loc hp=az (s loc hp) (Md ss):=rfl
theorem qQ:Md ss (.next,loc) hp=aF ss loc hp:=rfl
theorem qR:Md ss (.ret v,loc) hp=.ok (.ret v,loc) hp:=rfl
theorem Ge:bc t ss sr loc hp=az (t loc hp) (Ep ss sr loc):=rfl
theorem ze:Ep ss sr loc true hp=aF ss loc hp:=rfl
theorem zf:Ep ss sr loc false hp=aF sr loc hp:=rfl
theorem sf:fC n t ss loc hp=dI t (aF ss) n loc hp:=rfl
theorem ip:ib n tg i ss loc hp=az (i loc hp) (G8 n tg ss loc):=rfl
theorem vz:G8 n tg ss loc it hp=cJ tg (aF ss) n it loc hp:=rfl
theorem sg:c8 e f loc hp=az (e loc hp) (RX f loc):=rfl
theorem pH:RX e loc v hp=az (e loc hp) Ko:=rfl
theorem pI:Ko (.int j) hp=.gI j:=rfl
theorem jW:dI t s (n+1) loc hp=az (t loc hp) (Vr t s n loc):=rfl
theorem zg:Vr t s n loc true hp=az (s loc hp) (wW t s n):=rfl
theorem zh:Vr t s n loc false hp=.ok (.next,loc) hp:=rfl
theorem jX:wW t s n (.next,loc) hp=dI t s n loc hp:=rfl
theorem jY:wW t s n (.ret v,loc) hp=.ok (.ret v,loc) hp:=rfl
theorem fO:bj s loc hp=az (s loc hp) Me:=rfl
theorem vA:Me (.ret v,loc) hp=.ok v hp:=rfl
theorem vB:Me (.next,loc) hp=.ok .none hp:=rfl
theorem jx:cJ tg s (n+1) (.vals []) loc hp=.ok (.next,loc) hp:=rfl
theorem lP:cJ tg s (n+1) (.vals (v::vs)) loc hp=NK tg s n (.vals vs) (tg.put v loc) hp:=rfl
theorem NO:cJ tg s (n+1) (.zip g h d) loc hp=Vs tg s n loc (It.next (.zip g h d) hp) hp:=rfl
theorem zi:Vs tg s n loc (some none) hp=.ok (.next,loc) hp:=rfl
theorem zj:Vs tg s n loc (some (some (v,it))) hp=NK tg s n it (tg.put v loc) hp:=rfl
theorem zk:NK tg s n it (some loc) hp=az (s loc hp) (A6 tg s n it):=rfl
theorem zl:A6 tg s n it (.next,loc) hp=cJ tg s n it loc hp:=rfl
theorem zm:A6 tg s n it (.ret v,loc) hp=.ok (.ret v,loc) hp:=rfl
theorem lj:Tg.put (.many is) (.tup vs) loc=dX is vs loc:=rfl
theorem lQ:Tg.put (.one n) v loc=some (loc.set n (some v)):=rfl
theorem n6:ro e loc hp=az (e loc hp) M5:=rfl
theorem si:M5 (.str l) hp=.ok (.vals (fb 0 l)) hp:=rfl
theorem gU:cx e loc hp=az (e loc hp) M3:=rfl
theorem vC:M3 v hp=bQ (El hp v) hp:=rfl
theorem kC:mf e loc hp=az (e loc hp) M4:=rfl
theorem pJ:M4 (.int j) hp=rI (decide (j≤1000)&&dz j) (.ok (.vals ((List.range j.toNat).map λ(k:Nat)=>V.int k)) hp):=rfl
theorem zo:wm e f loc hp=az (e loc hp) (RU f loc):=rfl
theorem vE:RU f loc u hp=az (f loc hp) (Em u):=rfl
end
theorem Gf (f:α->HP->R β)(g:β->HP->R γ)(a:α)(hp:HP):Zp f g a hp=az (f a hp) g:=rfl
theorem nk (r:R α)(f:α->HP->R β)(g:β->HP->R γ):az (az r f) g=az r (Zp f g):=by cases r<;>rfl
end
section
variable {α β:Type}
theorem jf (a:α)(hp:HP)(f:α->HP->R β):az (.ok a hp) f=f a hp:=rfl
theorem sj (k:Int)(f:α->HP->R β):az (.gI k) f=.gI k:=rfl
theorem n7 (a:α)(hp:HP):bQ (some a) hp=.ok a hp:=rfl
theorem NP (loc:Loc):dX [] [] loc=some loc:=rfl
theorem NQ (i:Nat)(is:List Nat)(v:V)(vs:List V)(loc:Loc):dX (i::is) (v::vs) loc=dX is vs (loc.set i (some v)):=rfl
theorem Gg (i j:Int)(hp:HP):dB .lt (.int i) (.int j) hp=some (decide (i<j)):=rfl
theorem Gh (i j:Int)(hp:HP):dB .le (.int i) (.int j) hp=some (decide (i≤j)):=rfl
theorem Gi (i j:Int)(hp:HP):dB .gt (.int i) (.int j) hp=some (decide (j<i)):=rfl
theorem Gj (i j:Int)(hp:HP):dB .ge (.int i) (.int j) hp=some (decide (j≤i)):=rfl
theorem Gk (a b:V)(hp:HP):dB .jM a b hp=qh hp a b:=rfl
theorem su (a b:V)(hp:HP):dB .gj a b hp=(qh hp a b).map (!·):=rfl
theorem zp (i j:Int)(hp:HP):dB .eq (.int i) (.int j) hp=some (i==j):=rfl
theorem zq (i j:Int)(hp:HP):dB .ne (.int i) (.int j) hp=some (!(i==j)):=rfl
theorem vF (a b:List Nat):(S a==S b)=(a==b):=by
 rw[Bool.eq_iff_iff];simp only[beq_iff_eq];exact⟨λe=>Vp e,λe=>by rw[e]⟩
theorem n8 (a b:Str):PyData.eqv (.str a) (.str b)=(a==b):=by
 unfold PyData.eqv;rfl
noncomputable def aT (l:List Nat):Bool:=l.all (·<1114112)
theorem kq (s:String)(h:aT (af s)=true:=by decide):aT (af s)=true:=h
theorem nb (a b:String)(h:(af a==af b)=false:=by decide):(af a==af b)=false:=h
theorem yb (a b:String)(h:(af a==af b)=true:=by decide):(af a==af b)=true:=h
theorem wX {l m:List Nat}(h:aT l=true)(hs:∀x∈m,x∈l):aT m=true:=List.all_eq_true.mpr λx hx=>List.all_eq_true.mp h x (hs x hx)
theorem lR {l:List Nat}(h:aT l=true):shaped (.str (S l))=true:=by
 have:PyData.strOk (S l)=true:=by unfold PyData.strOk aT at *;simpa [S]using h
 simp[shaped,PyData.canLay0,PyData.depth,this]
theorem Dx {hp:HP}{x y:V}{a b:PyData}{c:Bool}(e1:wh hp x=some a)(e2:wh hp y=some b)(h1:shaped a=true)(h2:shaped b=true)(e:PyData.eqv a b=c):tG hp x y=some c:=by
 unfold tG;rw[e1,e2];show(match shaped a&&shaped b with|true=>some (PyData.eqv a b)|false=>none)=_
 rw[h1,h2,e];rfl
theorem NR {hp:HP}(l:List Nat):wh hp (.str l)=some (.str (S l)):=by show hO _=_;unfold hO;rfl
theorem NS {hp:HP}{a b:List Nat}(ha:aT a=true)(hb:aT b=true):tG hp (.str a) (.str b)=some (a==b):=Dx (NR a) (NR b) (lR ha) (lR hb) ((n8 _ _).trans (vF a b))
theorem aE {a b:List Nat}(ha:aT a=true)(hb:aT b=true)(hp:HP):dB .eq (.str a) (.str b) hp=some (a==b):=NS ha hb
theorem lS {a b:List Nat}(ha:aT a=true)(hb:aT b=true)(hp:HP):dB .ne (.str a) (.str b) hp=some (!(a==b)):=congrArg (Option.map (!·)) (NS ha hb)
theorem gp {α β:Type}{o:Option α}{a:α}{f:α->R β}(h:o=some a):rB o f=f a:=by rw[h];rfl
theorem cA {α β:Type}{o:Option α}{a:α}{f:α->Option β}(h:o=some a):oB o f=f a:=by rw[h];rfl
theorem Gl {β:Type}{r:R β}:rI true r=r:=rfl
theorem eB {β:Type}{b:Bool}{r:R β}(h:b=true):rI b r=r:=by rw[h];rfl
theorem de {hp:HP}{i:Nat}{l:List V}(h:hp[i]?=some (.list l)):eO hp i=some l:=by unfold eO;rw[h];rfl
theorem qS {hp:HP}{i:Nat}{l:List (Key×V)}(h:hp[i]?=some (.dict l)):kK hp i=some l:=by unfold kK;rw[h];rfl
theorem A7 {hp:HP}{i d:Nat}{C:Addr}(h:hp[i]?=some (.inst C d)):lH hp i=some (C,d):=by unfold lH;rw[h];rfl
structure Obj (hp:HP)(s d:Nat)(C:Addr)(es:List (Key×V)):Prop where
 hs:hp[s]?=some (.inst C d)
 hd:hp[d]?=some (.dict es)
theorem Obj.attr {hp:HP}{s d:Nat}{C:Addr}{es:List (Key×V)}{k:Key}{v:V}(o:Obj hp s d C es)(e:cond (attrOk C k) (yD (eu es k)) none=some v):eA hp (.ref s) k=some v:=by
 unfold eA;show oB (lH hp s) _=_;rw[A7 o.hs];show oB (kK hp d) _=_;rw[qS o.hd];rw[<- e];show(match attrOk C k with|true=>yD (eu es k)|false=>none)=_
 cases attrOk C k<;>rfl
theorem Obj.put {hp:HP}{s d:Nat}{C:Addr}{es:List (Key×V)}{k:Key}{v:V}{fs:List (Key×V)}(o:Obj hp s d C es)(e:(attrOk C k&&decide (es.length≤100))=true)(f:dput es k v=fs):dn hp (.ref s) k v=some (hp.set d (.dict fs)):=by
 unfold dn;show oB (lH hp s) _=_;rw[A7 o.hs];show oB (kK hp d) _=_;rw[qS o.hd,<- f];show cond (attrOk C k&&decide (es.length≤100)) _ _=_;rw[e];rfl
theorem Obj.bA {hp:HP}{s d:Nat}{C:Addr}{es:List (Key×V)}{k:Key}{f:Addr}(o:Obj hp s d C es)(e:fg (d7 C) k=some f)(g:(eu es k).isNone=true):dN hp (.ref s) k=some (.fix (.ref f)):=by
 unfold dN;show oB hp[s]? _=_;rw[o.hs];show yE hp k (C,d)=_;unfold yE;rw[qS o.hd];show(match (eu es k).isNone with|true=>(fg (d7 C) k).map λf=>V.fix (.ref f)|false=>none)=_
 rw[g,e];rfl
theorem Gm (v:V)(hp:HP):dB .sZ v .none hp=kl v:=rfl
theorem sx (v:V)(hp:HP):dB .gP v .none hp=(kl v).map (!·):=rfl
theorem vG:kl .none=some true:=rfl
theorem zr (i:Int):kl (.int i)=some false:=rfl
theorem zt (vs:List V):kl (.tup vs)=some false:=rfl
theorem Gn (b:Bool):kj (.bool b)=some b:=rfl
theorem zu (i j:Int)(hp:HP):jy .Add (.int i) (.int j) hp=.ok (.int (i+j)) hp:=rfl
theorem zw (i j:Int)(hp:HP):jy .Sub (.int i) (.int j) hp=.ok (.int (i - j)) hp:=rfl
end
variable {N k:Nat}{hp:HP}{s d p q:Nat}{T:List Nat}
noncomputable abbrev SD (T:List Nat) (p:Nat):O:=.dict [(.text,.str T),(.bG,.int p)]
structure dy (hp:HP)(s d:Nat)(T:List Nat)(p:Nat):Prop where
 hs:hp[s]?=some (.inst 273 d)
 hd:hp[d]?=some (SD T p)
 hT:T.length≤1000000
 hC:aT T=true
theorem dy.ne (S:dy hp s d T p):s≠d:=λe=>by have:=S.hs;rw[e,S.hd]at this;cases this
theorem dy.lt (S:dy hp s d T p):d<hp.length:=(List.getElem?_eq_some_iff.mp S.hd).1
theorem dy.obj (S:dy hp s d T p):Obj hp s d 273 [(.text,.str T),(.bG,.int p)]:=⟨S.hs,S.hd⟩
theorem dy.text (S:dy hp s d T p):eA hp (.ref s) .text=some (.str T):=S.obj.attr rfl
theorem dy.bG (S:dy hp s d T p):eA hp (.ref s) .bG=some (.int p):=S.obj.attr rfl
theorem dy.put (S:dy hp s d T p)(q:Nat):dn hp (.ref s) .bG (.int q)=some (hp.set d (SD T q)):=S.obj.put rfl rfl
theorem dy.set (S:dy hp s d T p)(q:Nat):dy (hp.set d (SD T q)) s d T q :=
 ⟨by rw[List.getElem?_set_ne (Ne.symm S.ne)];exact S.hs,by rw[List.getElem?_set_self S.lt],S.hT,S.hC⟩
theorem sy (p:Nat):ia (.int p)=some (some p):=by simp[ia]
theorem bX:ia .none=some none:=rfl
theorem Qj {α:Type}(l:List α)(a:Nat):cut l (some a) (some (a+1))=(l.drop a).take 1:=by
 simp[cut,List.drop_take]
theorem nq (p:Nat):(p:Int)+1=((p+1:Nat):Int):=by apply JZ<;>first|assumption|exact rfl
theorem Vt (p:Nat):(p:Int)+2=((p+2:Nat):Int):=by apply JZ<;>first|assumption|exact rfl
theorem jo {n:Nat}(h:n≤1000000):okN n=true:=decide_eq_true (Nat.le_trans h (by rw[sizeLine_eq];decide))
theorem gH {m n:Nat}(h:m+n≤1000000):fu m n=true:=decide_eq_true (Nat.le_trans h (by rw[sizeLine_eq];decide))
theorem sC (l:List Nat)(a b:Option Nat)(h:l.length≤1000000):gZ hp (.str l) a b=.ok (.str (cut l a b)) hp:=by
 show rI (okN l.length) _=_;rw[jo h];rfl
theorem lq (S:dy hp s d T p):ag N (k+1) (.fix (.ref 235)) [.ref s] hp=.ok (.str ((T.drop p).take 1)) hp:=by
 rw[PR];open_k with[U1,S.text,S.bG,sy,nq,sC _ _ _ S.hT,Qj]
noncomputable def runN (g:List Nat):List Nat->Nat
 |[]=>0
 |c::r=>if g.contains c then runN g r+1 else 0
theorem hV (g:List Nat):∀l,runN g l≤l.length
 |[]=>Nat.le_refl _
 |c::r=>by
  have:=hV g r;unfold runN;split
  ·simp;assumption
  ·simp
theorem IX {l:List Nat}{j c:Nat}(e:l[j]?=some c):l.drop j=c::l.drop (j+1):=by
 refine aQ (List.getElem?_eq_some_iff.mp e) λh aC=>?_;subst aC;exact List.drop_eq_getElem_cons h
theorem IY {l:List Nat}{j:Nat}(e:l[j]?=none):l.drop j=[]:=List.drop_eq_nil_of_le (List.getElem?_eq_none_iff.mp e)
theorem yj {j:Nat}(h:j≤2000000):dz (j:Int)=true:=by unfold dz big;simp;(apply di<;>first|assumption|exact rfl)
theorem n9 {j n:Nat}(h:j<n)(hn:j≤2000000):tD (j:Int) n=some j:=by
 unfold tD;rw[yj hn];show PySem.seqIndex? (j:Int) n=_;have h0:¬(j:Int)<0:=by apply zT<;>first|assumption|exact rfl
 unfold PySem.seqIndex?;rw[if_neg h0];exact(if_pos (Bool.and_eq_true_iff.mpr ⟨decide_eq_true (by apply Int.natCast_nonneg<;>first|assumption|exact rfl),decide_eq_true (by apply JY<;>first|assumption|exact rfl)⟩)).trans (congrArg some (Int.toNat_natCast j))
theorem fB (b:String){g:Fn}(e:builtins.lookup b=some g)(vs:List V)(hp:HP):ag N (k+1) (.fix (.builtin b)) vs hp=g vs hp:=by
 show(match builtins.lookup b with|some g=>g vs hp|none=>.bad)=_
 rw[e]
theorem wY (b:String){g:Fn}(e:types.lookup b=some g)(vs:List V)(hp:HP):ag N (k+1) (.fix (.type b)) vs hp=g vs hp:=by
 show(match types.lookup b with|some g=>g vs hp|none=>.bad)=_
 rw[e]
theorem len_str (l:List Nat)(hl:l.length≤1000000):ag N (k+1) (bi "len") [.str l] hp=.ok (.int l.length) hp:=by
 rw[show bi "len"=.fix (.builtin "len")from rfl,fB (g:=ur) "len" rfl];exact eB (jo hl)
theorem in_str (c:Nat)(g:List Nat):qh hp (.str [c]) (.str g)=some (g.contains c):=rfl
theorem Dy (l:List Nat){j c:Nat}(e:l[j]?=some c)(hl:l.length≤1000000):bh hp (.str l) (.int j)=some (.str [c]):=by
 have h:=(List.getElem?_eq_some_iff.mp e).1;show oB (tD j l.length) _=_;rw[n9 h (by omega)];show Option.map _ l[j]?=_;rw[e];rfl
abbrev A8 (c:Ca):Tx:=(aS true [(ai (aa 3) [(.lt,(aD c (xC (bi "len")) [(aH (aa 0) .text)]))]),(ai (aq (aH (aa 0) .text) (aa 3)) [(.jM,(aa 1))])])
theorem Mf (S:dy hp s d T p)(g:List Nat)(b:V):∀(M j:Nat),runN g (T.drop j)<M->j≤T.length ->
  dI (A8 (ag N (k+1))) (aF [(aR 3 (bw .Add (aa 3) (xC (.int 1))))]) M [some (.ref s),some (.str g),some b,some (.int j)] hp=.ok (.next,[some (.ref s),some (.str g),some b,some (.int (j+runN g (T.drop j):Nat))]) hp:=by
 intro M
 induction M with
 |zero=>exact λj h=>absurd h (Nat.not_lt_zero _)
 |succ M ih =>
  intro j h hj;have hT:=S.hT;rw[jW];cases e:T[j]? with
  |none =>
   have hl:T.length≤j:=List.getElem?_eq_none_iff.mp e;have e1:decide ((j:Int)<(T.length:Int))=false:=decide_eq_false (Int.not_lt.mpr (Int.ofNat_le.mpr hl));rw[IY e];open_k with[A8,S.text,len_str T hT,e1,runN,Nat.add_zero]
  |some c =>
   have hl:j<T.length:=(List.getElem?_eq_some_iff.mp e).1;have e1:decide ((j:Int)<(T.length:Int))=true:=decide_eq_true (Int.ofNat_lt.mpr hl);have ed:=IX e;rw[ed];rw[ed]at h;unfold runN at h ⊢;by_cases hc:g.contains c=true
   ·rw[if_pos hc]at h;have ih:=ih (j+1) (Nat.lt_of_succ_lt_succ h) hl;open_k with[A8,S.text,len_str T hT,e1,Dy T e hT,in_str,hc,nq];rw[ih];have e3:j+1+runN g (List.drop (j+1) T)=j+(runN g (List.drop (j+1) T)+1):=Nat.add_right_comm j 1 _;rw[e3]
   ·have qa:g.contains c=false:=by simpa using hc
    open_k with[A8,S.text,len_str T hT,e1,Dy T e hT,in_str,qa,Nat.add_zero]
theorem vH (S:dy hp s d T p)(g:List Nat)(hp':p≤T.length)(hN:T.length<N):ag N (k+2) (.fix (.ref 249)) [.ref s,.str g] hp =
  .ok (.str ((T.drop p).take (runN g (T.drop p)))) (hp.set d (SD T (p+runN g (T.drop p)))):=by
 have hr:=hV g (T.drop p);rw[List.length_drop]at hr;have lp:=Mf (N:=N) (k:=k) S g (.int p) N p (by apply WT<;>first|assumption|exact rfl) hp';rw[PU];have S':=S.set (p+runN g (T.drop p));open_k with[U3,S.bG];simp only[A8]at lp;rw[lp];open_k with[S.put,S'.text,sy,sC _ _ _ S.hT]
 have:cut T (some p) (some (p+runN g (T.drop p)))=(T.drop p).take (runN g (T.drop p)):=by
  simp only[cut,Option.getD_some];rw[List.drop_take];congr 1
  (apply yA<;>first|assumption|exact rfl)
 rw[this]
abbrev BL:List Nat:=af " \t\x0d\n"
inductive jZ:Nat->List Nat->Nat->Prop
 |stop (l:List Nat) (h:(l.drop (runN BL l)).head?≠some 37):jZ 0 l (runN BL l)
 |rem {m:Nat} (l u v:List Nat) (n:Nat) (e:l.drop (runN BL l)=37::(u++10::v)) (hu:10∉u) (h:jZ m (10::v) n):jZ (m+1) l (runN BL l+(u.length+1)+n)
theorem Dz (c:Nat):∀(x y:List Nat) (k:Nat),c∉x->findAt c (x++c::y) k=some (k+x.length)
 |[],y,k,_=>by simp[findAt]
 |a::x,y,k,h=>by
  have h1:¬a=c:=λq=>h (by simp[q]);have h2:c∉x:=λq=>h (by simp[q]);simp only[List.cons_append,findAt,if_neg h1,Dz c x y (k+1) h2,List.length_cons];congr 1;(apply Nat.add_right_comm<;>first|assumption|exact rfl)
theorem sD:af "\n"=[10]:=by decide
theorem Gp:af "%"=[37]:=by decide
theorem kE {T:List Nat}(h:aT T=true)(a b:Nat):aT ((T.drop a).take b)=true:=wX h λx hx=>List.mem_of_mem_drop (List.mem_of_mem_take hx)
theorem WM (T:List Nat):dN hp (.str T) .find=some (bi "str.find"):=rfl
theorem Vu (T:List Nat)(p e:Nat)(h:findAt 10 (T.drop p) p=some e):ag N (k+1) (bi "str.find") [.str T,.str [10],.int p] hp=.ok (.int e) hp:=by
 rw[show bi "str.find"=.fix (.builtin "str.find")from rfl,fB (g:=zV) "str.find" rfl];have h0:(0:Int)≤(p:Int):=by apply Int.natCast_nonneg<;>first|assumption|exact rfl
 refine(eB (decide_eq_true h0)).trans ?_
 have:uu 10 T p=(e:Int):=by
  unfold uu;rw[Int.toNat_natCast,h]
 exact congrArg (λi=>R.ok (V.int i) hp) this
abbrev IZ (c:Ca):Tx:=(ai (ax c (aa 0) .sign []) [(.eq,(xS "%"))])
abbrev NT (c:Ca):List Sx:=[(aR 1 (ax c (aH (aa 0) .text) .find [(xS "\n"),(aH (aa 0) .bG)])),
 (cI (aa 0) .bG (ik (ai (aa 1) [(.ge,(xC (.int 0)))]) (aa 1) (aD c (xC (bi "len")) [(aH (aa 0) .text)]))),
 (bo (ax c (aa 0) .jL [(xS " \t\x0d\n")]))]
theorem dy.ms (S:dy hp s d T p):dN hp (.ref s) .sign=some (.fix (.ref 235)):=S.obj.bA rfl rfl
theorem dy.mr (S:dy hp s d T p):dN hp (.ref s) .jL=some (.fix (.ref 249)):=S.obj.bA rfl rfl
theorem JX {l:List Nat}:l.take 1=match l.head? with|some c=>[c]|none=>[]:=by cases l<;>rfl
theorem dq {P:Nat->Prop}{n:Nat}(h:∀i,i<n->P i)(hn:P n)(i:Nat)(hi:i<n+1):P i:=(Nat.lt_succ_iff_lt_or_eq.mp hi).elim (h i) λe=>e▸hn
theorem vI {P:Nat->Prop}(i:Nat)(hi:i<0):P i:=absurd hi (Nat.not_lt_zero i)
theorem Gq {P:Nat->Prop}(h0:P 0)(h1:P 1)(h2:P 2)(i:Nat)(hi:i<3):P i:=dq (dq (dq (vI) h0) h1) h2 i hi
theorem aaP {P:Nat->Prop}(h0:P 0)(h1:P 1)(h2:P 2)(h3:P 3)(i:Nat)(hi:i<4):P i:=dq (dq (dq (dq (vI) h0) h1) h2) h3 i hi
theorem aaQ {P:Nat->Prop}(h0:P 0)(h1:P 1)(h2:P 2)(h3:P 3)(h4:P 4)(i:Nat)(hi:i<5):P i:=dq (dq (dq (dq (dq (vI) h0) h1) h2) h3) h4 i hi
theorem Mg {P:Nat->Prop}(h0:P 0)(h1:P 1)(h2:P 2)(h3:P 3)(h4:P 4)(h5:P 5)(h6:P 6)(i:Nat)(hi:i<7):P i:=dq (dq (dq (dq (dq (dq (dq (vI) h0) h1) h2) h3) h4) h5) h6 i hi
theorem Vv {P:Nat->Prop}(h0:P 0)(h1:P 1)(h2:P 2)(h3:P 3)(h4:P 4)(h5:P 5)(h6:P 6)(h7:P 7)(i:Nat)(hi:i<8):P i:=dq (dq (dq (dq (dq (dq (dq (dq (vI) h0) h1) h2) h3) h4) h5) h6) h7 i hi
theorem oa {m M:Nat}(h:m<M):∃k,M=k+1:=⟨M - 1,(Nat.sub_add_cancel (Nat.lt_of_le_of_lt (Nat.zero_le _) h)).symm⟩
theorem Mh (a b c d:Nat):a+b+c+d=a+(b+c+d):=by rw[Nat.add_assoc a b,Nat.add_assoc a]
theorem Qk {T:List Nat}{q:Nat}{g r:List Nat}{c:Nat}(e:T.drop q=c::r):q+runN g (c::r)≤T.length:=by
 have h:=congrArg List.length e;rw[List.length_drop]at h;have:=hV g (c::r);rw[List.length_cons]at h this;omega
theorem I0 (hN:T.length<N):∀{m:Nat} {l:List Nat} {n:Nat},jZ m l n->∀{hp:HP} {p M:Nat} {x:Option V},dy hp s d T p->p+runN BL l≤T.length->T.drop p=l->m<M ->
  ∃y,dI (IZ (ag N (k+2))) (aF (NT (ag N (k+2)))) M [some (.ref s),x] (hp.set d (SD T (p+runN BL l)))=.ok (.next,[some (.ref s),y]) (hp.set d (SD T (p+n))):=by
 intro m l n h
 induction h with
 |stop l h =>
  intro hp p M x S hl e hM;refine aQ (oa hM) λM rz=>?_;subst rz;have S':=S.set (p+runN BL l)
  have hs:(T.drop (p+runN BL l)).take 1=match (l.drop (runN BL l)).head? with|some c=>[c]|none=>[]:=by
   rw[<- e,List.drop_drop,JX]
  have hq:((T.drop (p+runN BL l)).take 1==[37])=false:=by
   rw[hs];cases hh:(l.drop (runN BL l)).head? with
   |none=>rfl
   |some c=>rw[hh]at h;simpa using h
  refine⟨x,?_⟩;rw[jW];open_k with[IZ,S'.ms,lq S',Gp,aE (kE S.hC _ _) (show aT [37]=true from rfl),hq]
 |rem l u v n e1 hu h I4 =>
  intro hp p M x S hl e hM;refine aQ (oa hM) λM rz=>?_;subst rz;have S':=S.set (p+runN BL l);have e2:T.drop (p+runN BL l)=37::(u++10::v):=by rw[<- List.drop_drop,e,e1]
  have hq:((T.drop (p+runN BL l)).take 1==[37])=true:=by rw[e2];rfl
  have hf:findAt 10 (T.drop (p+runN BL l)) (p+runN BL l)=some (p+runN BL l+(u.length+1)):=by
   rw[e2];have:=Dz 10 (37::u) v (p+runN BL l) (by simp[hu])
   simpa using this
  have hg:decide ((0:Int)≤((p+runN BL l+(u.length+1):Nat):Int))=true:=decide_eq_true (Int.natCast_nonneg _);have S2:=S'.set (p+runN BL l+(u.length+1));rw[List.set_set]at S2
  have e3:T.drop (p+runN BL l+(u.length+1))=10::v:=by
   rw[<- List.drop_drop,e2];simp
  have l4:=Qk (g:=BL) e3;have l3:=Nat.le_trans (Nat.le_add_right _ _) l4;have rc:=vH (k:=k) (N:=N) S2 BL l3 hN;rw[e3]at rc;refine aQ (I4 (M:=M) (x:=some (.int (p+runN BL l+(u.length+1):Nat))) S2 l4 e3 (Nat.lt_of_succ_lt_succ hM)) λy ih=>?_;refine⟨y,?_⟩;rw[jW];simp only[List.set_set]at rc ih;open_k with[IZ,NT,S'.ms,lq S',Gp,aE (kE S.hC _ _) (show aT [37]=true from rfl),hq,S'.text,S'.bG,WM,sD,Vu _ _ _ hf,hg,S'.put,List.set_set,S2.mr,rc];simp only[IZ,NT,Gp,sD]at ih;rw[ih];rw[Mh]
theorem Vw (S:dy hp s d T p){m n:Nat}(h:jZ m (T.drop p) n)(hp':p≤T.length)(hN:T.length<N)(hm:m<N):ag N (k+3) (.fix (.ref 242)) [.ref s] hp=.ok .none (hp.set d (SD T (p+n))):=by
 have hr:=hV BL (T.drop p);rw[List.length_drop]at hr;have rc:=vH (k:=k) (N:=N) S BL hp' hN;refine aQ (I0 (k:=k) hN h (x:=none) (M:=N) S (by apply MW<;>first|assumption|exact rfl) rfl hm) λy lp=>?_;rw[PT];open_k with[U2,S.mr,rc];simp only[IZ,NT]at lp;rw[lp];open_k with[nk]
abbrev DG:List Nat:=af "0123456789"
abbrev LT:List Nat:=af "abcdefghijklmnopqrstuvwxyzABCDEFGHIJKLMNOPQRSTUVWXYZ_"
abbrev SG:List Nat:=af "()[]{},;:"
inductive Tok where
 |fin
 |text (l:List Nat)
 |number (i:Int)
 |word (l:List Nat)
 |sign (l:List Nat)
def Tok.v (t:Tok)(p:Nat):V:=match t with
 |.fin=>.tup [.str (af "end"),.str (af ""),.int p]
 |.text l=>.tup [.str (af "text"),.str l,.int p]
 |.number i=>.tup [.str (af "number"),.int i,.int p]
 |.word l=>.tup [.str (af "word"),.str l,.int p]
 |.sign l=>.tup [.str (af "sign"),.str l,.int p]
inductive jg:List Nat->Tok->Nat->Prop
 |fin:jg [] .fin 0
 |word (c:Nat) (r:List Nat) (h:LT.contains c=true) (n:Nat) (e:n=runN (LT++DG) (c::r)):jg (c::r) (.word ((c::r).take n)) n
 |num (c:Nat) (r:List Nat) (h:DG.contains c=true) (n:Nat) (e:n=runN DG (c::r)) (hn:n≤640) (i:Int) (hi:PySem.intText? (S ((c::r).take n))=some i):jg (c::r) (.number i) n
 |neg (r:List Nat) (n:Nat) (e:n=runN DG r) (h0:0<n) (hn:n≤640) (i:Int) (hi:PySem.intText? (S (r.take n))=some i):jg (45::r) (.number (-i)) (n+1)
 |text (w r:List Nat) (h:∀c∈w,c≠34∧c≠10∧c≠92):jg (34::(w++34::r)) (.text w) (w.length+2)
 |Gr (r:List Nat):jg (46::46::r) (.sign [46,46]) 2
 |sign (c:Nat) (r:List Nat) (h:SG.contains c=true):jg (c::r) (.sign [c]) 1
theorem A9:∀c,DG.contains c=true->(c==34)=false∧(c==45)=false:=by
 have:(DG.all λc=>!(c==34)&&!(c==45))=true:=by decide
 intro c h;have:=List.all_eq_true.mp this c (by simpa using h)
 simpa using this
theorem Mi:∀c,LT.contains c=true->(c==34)=false∧(c==45)=false∧DG.contains c=false:=by
 have:(LT.all λc=>!(c==34)&&!(c==45)&&!DG.contains c)=true:=by decide
 intro c h;have:=List.all_eq_true.mp this c (by simpa using h);simp only[Bool.and_eq_true,Bool.not_eq_true']at this;exact⟨this.1.1,this.1.2,this.2⟩
theorem Mj:∀c,SG.contains c=true->(c==34)=false∧(c==45)=false∧DG.contains c=false∧LT.contains c=false∧(c==46)=false:=by
 have:(SG.all λc=>!(c==34)&&!(c==45)&&!DG.contains c&&!LT.contains c&&!(c==46))=true:=by decide
 intro c h;have:=List.all_eq_true.mp this c (by simpa using h);simp only[Bool.and_eq_true,Bool.not_eq_true']at this;exact⟨this.1.1.1.1,this.1.1.1.2,this.1.1.2,this.1.2,this.2⟩
theorem dy.mn (S:dy hp s d T p):dN hp (.ref s) .number=some (.fix (.ref 263)):=S.obj.bA rfl rfl
theorem dy.mq (S:dy hp s d T p):dN hp (.ref s) .kU=some (.fix (.ref 256)):=S.obj.bA rfl rfl
theorem dy.msk (S:dy hp s d T p):dN hp (.ref s) .skip=some (.fix (.ref 242)):=S.obj.bA rfl rfl
theorem dy.mt (S:dy hp s d T p):dN hp (.ref s) .token=some (.fix (.ref 270)):=S.obj.bA rfl rfl
theorem mC (a b:Nat):(([a]:List Nat)==[b])=(a==b):=by simp
theorem nr:af "\""=[34]:=by decide
theorem qT:af "-"=[45]:=by decide
theorem fw:af ""=[]:=by decide
theorem NU:af "\\"=[92]:=by decide
theorem NV:af ".."=[46,46]:=by decide
theorem NW (l:List Nat)(h:l.length≤640)(i:Int)(e:PySem.intText? (S l)=some i):ag N (k+1) (.fix (.type "int")) [.str l] hp=.ok (.int i) hp:=by
 rw[wY (g:=EA) "int" rfl];refine(eB (decide_eq_true h)).trans ?_;rw[e];rfl
theorem Vx {c:Nat}{r:List Nat}(h:aT (c::r)=true):aT [c]=true:=wX h (by simp)
theorem Ql {g:List Nat}{c:Nat}{r:List Nat}(h:g.contains c=true):runN g (c::r)=runN g r+1:=by
 show(if g.contains c=true then runN g r+1 else 0)=_
 rw[if_pos h]
theorem DA {c:Nat}{r:List Nat}{n:Nat}:((c::r).take (n+1)==([]:List Nat))=false:=rfl
theorem Bb {l:List Nat}{n:Nat}(h:n≤l.length):(l.take n).length=n:=by simp;(apply ZZ<;>first|assumption|exact rfl)
theorem wZ {c:Nat}{r:List Nat}(e:T.drop p=c::r):p<T.length:=by
 have:=congrArg List.length e;simp at this;(apply Hg<;>first|assumption|exact rfl)
theorem yk {c:Nat}{r:List Nat}(e:T.drop p=c::r):T.drop (p+1)=r:=by rw[<- List.drop_drop,e];rfl
theorem Mk (S:dy hp s d T p){c:Nat}{r:List Nat}(e:T.drop p=c::r)(h:DG.contains c=true){n:Nat}(hn:n=runN DG (c::r))(h64:n≤640){i:Int}(hi:PySem.intText? (Internal.S ((c::r).take n))=some i)(hN:T.length<N) :
  ag N (k+3) (.fix (.ref 263)) [.ref s] hp=.ok (.int i) (hp.set d (SD T (p+n))):=by
 have hl:=wZ e;have rc:=vH (k:=k) (N:=N) S DG (by apply Nat.le_of_lt<;>first|with_reducible assumption|exact rfl) hN;have hc:=(A9 c h).2;have hle:=hV DG (c::r);rw[e,<- hn]at rc;obtain⟨n',rfl⟩:∃n',n=n'+1:=⟨runN DG r,by rw[hn,Ql h]⟩;have hlen:((c::r).take (n'+1)).length=n'+1:=Bb (by rw[hn];exact hle);have Vy:aT ((c::r).take (n'+1))=true:=by rw[<- e];exact kE S.hC _ _
 have hd:decide ((1000:Int)<((n'+1:Nat):Int))=false:=decide_eq_false (by omega);have hs:(T.drop p).take 1=[c]:=by rw[e];rfl
 rw[Dk];open_k with[LX,S.bG,S.ms,lq S,hs,qT,aE (Vx (by rw[Eq.symm e];exact kE S.hC p T.length|>λh=>by rw[List.take_of_length_le (by simp)]at h;exact h)) (show aT [45]=true from rfl),mC,hc,S.mr,rc,fw,aE Vy (show aT []=true from rfl),DA,len_str _ (show((c::r).take (n'+1)).length≤1000000 by apply l9<;>first|with_reducible assumption|exact rfl),hlen,hd,NW _ (show((c::r).take (n'+1)).length≤640 by apply l9<;>first|with_reducible assumption|exact rfl) _ hi]
theorem Ml (S:dy hp s d T p){r:List Nat}(e:T.drop p=45::r){n:Nat}(hn:n=runN DG r)(h0:0<n)(h64:n≤640){i:Int}(hi:PySem.intText? (Internal.S (r.take n))=some i)(hN:T.length<N) :
  ag N (k+3) (.fix (.ref 263)) [.ref s] hp=.ok (.int (-i)) (hp.set d (SD T (p+(n+1)))):=by
 have hl:=wZ e;have S1:=S.set (p+1);have rc:=vH (k:=k) (N:=N) S1 DG hl hN;have e1:=yk e;have hle:=hV DG r;rw[e1,<- hn,List.set_set]at rc;obtain⟨n',rfl⟩:∃n',n=n'+1:=⟨n - 1,(Nat.sub_add_cancel h0).symm⟩;cases r with
 |nil=>simp[runN]at hn
 |cons c r =>
 have hlen:((c::r).take (n'+1)).length=n'+1:=Bb (by rw[hn];exact hle);have Vy:aT ((c::r).take (n'+1))=true:=by rw[<- e1];exact kE S.hC _ _
 have hd:decide ((1000:Int)<((n'+1:Nat):Int))=false:=decide_eq_false (by omega);have hs:(T.drop p).take 1=[45]:=by rw[e];rfl
 have ay:p+1+(n'+1)=p+(n'+1+1):=by apply Nat.add_right_comm<;>first|with_reducible assumption|exact rfl
 rw[ay]at rc;rw[Dk];open_k with[LX,S.bG,S.ms,lq S,hs,qT,aE (show aT [45]=true from rfl) (show aT [45]=true from rfl),mC,S.mr,S1.mr,nq,S.put,rc,fw,aE Vy (show aT []=true from rfl),DA,len_str _ (show((c::r).take (n'+1)).length≤1000000 by apply l9<;>first|with_reducible assumption|exact rfl),hlen,hd,NW _ (show((c::r).take (n'+1)).length≤640 by apply l9<;>first|with_reducible assumption|exact rfl) _ hi]
theorem vJ:∀l:List (List Nat),PyData.depthAll (l.map λx=>PyData.str (S x))=0
 |[]=>rfl
 |x::l=>by simp[PyData.depthAll,PyData.depth,vJ l]
theorem Bc:∀l:List (List Nat),l.all aT=true->PyData.canLayAll0 (l.map λx=>PyData.str (S x))=true
 |[],_=>rfl
 |x::l,h=>by
  simp only[List.all_cons,Bool.and_eq_true]at h
  have h1:(PyData.str (S x)).canLay0=true:=by
   have:=lR h.1;unfold SeqAt.shaped at this;exact(Bool.and_eq_true_iff.mp this).1
  simp[PyData.canLayAll0,h1,Bc l h.2]
theorem yl:∀l:List (List Nat),fQ (l.map V.str)=some (l.map λx=>PyData.str (S x))
 |[]=>by simp[fQ]
 |x::l=>by simp[fQ,hO,yl l]
theorem jq {l:List (List Nat)}(h:l.all aT=true):SeqAt.shaped (.tuple (l.map λx=>PyData.str (S x)))=true:=by
 simp[SeqAt.shaped,PyData.canLay0,Bc l h,PyData.depth,vJ]
theorem w7 {l:List (List Nat)}{x:List Nat}(hl:l.all aT=true)(hx:aT x=true):qh hp (.str x) (.tup (l.map V.str))=some (l.any λy=>y==x):=by
 have h1:(List.any (l.map λx=>PyData.str (S x)) λy=>PyData.eqv y (PyData.str (S x)))=l.any λy=>y==x:=by
  rw[List.any_map];congr 1;funext y;simp only[Function.comp,n8,vF]
 refine(cA (yl l)).trans ((cA (by unfold hO;rfl)).trans ?_);unfold Hl;rw[jq hl,lR hx,h1];rfl
theorem j0 {a b x:List Nat}(ha:aT a=true)(hb:aT b=true)(hx:aT x=true):qh hp (.str x) (.tup [.str a,.str b])=some (a==x||b==x):=by
 have:=w7 (hp:=hp) (l:=[a,b]) (x:=x) (by simp[ha,hb]) hx
 simpa using this
theorem Vz {a b c x:List Nat}(ha:aT a=true)(hb:aT b=true)(hc:aT c=true)(hx:aT x=true):qh hp (.str x) (.tup [.str a,.str b,.str c])=some (a==x||(b==x||c==x)):=by
 have:=w7 (hp:=hp) (l:=[a,b,c]) (x:=x) (by simp[ha,hb,hc]) hx
 simpa using this
noncomputable def iq (w:List Nat):List V:=w.map λc=>.str [c]
noncomputable abbrev QH (hp:HP) (d:Nat) (T:List Nat) (x:List V) (q:Nat):HP:=(hp++[O.list x]).set d (SD T q)
theorem vK (S:dy hp s d T p)(x:List V)(q:Nat):dy (QH hp d T x q) s d T q:=by
 have hs:s<hp.length:=(List.getElem?_eq_some_iff.mp S.hs).1;refine⟨?_,?_,S.hT,S.hC⟩
 ·rw[List.getElem?_set_ne (Ne.symm S.ne),List.getElem?_append_left hs];exact S.hs
 ·rw[List.getElem?_set_self (by simp;exact Nat.lt_succ_of_lt S.lt)]
theorem Gs (S:dy hp s d T p)(x:List V)(q:Nat):(QH hp d T x q)[hp.length]?=some (.list x):=by
 rw[List.getElem?_set_ne (Nat.ne_of_lt S.lt)];simp
theorem XM (S:dy hp s d T p)(x y:List V)(q:Nat):(QH hp d T x q).set hp.length (.list y)=QH hp d T y q:=by
 rw[List.set_comm _ _ (Nat.ne_of_lt S.lt)];simp
theorem i0 {m:Nat}{x:List V}(h:hp[m]?=some (.list x))(hx:x.length≤1000000)(v:V):ag N (k+1) (bi "list.append") [.ref m,v] hp=.ok .none (hp.set m (.list (x++[v]))):=by
 rw[show bi "list.append"=.fix (.builtin "list.append")from rfl,fB (g:=tI) "list.append" rfl];exact(gp (de h)).trans (eB (jo hx))
theorem i5 {m:Nat}{x:List V}(h:hp[m]?=some (.list x)):dN hp (.ref m) .append=some (bi "list.append"):=cA h
theorem Bd:∀w:List Nat,uq (iq w)=some w
 |[]=>rfl
 |c::w=>by
  have:=Bd w;exact(cA this)
theorem VA {m:Nat}{w:List Nat}(h:hp[m]?=some (.list (iq w)))(hw:w.length≤1000000):ag N (k+1) (bi "str.join") [.str [],.ref m] hp=.ok (.str w) hp:=by
 rw[show bi "str.join"=.fix (.builtin "str.join")from rfl,fB (g:=zW) "str.join" rfl];exact(gp (de h)).trans ((gp (Bd w)).trans (eB (jo hw)))
theorem VB (l:List Nat):dN hp (.str l) .join=some (bi "str.join"):=rfl
abbrev I6 (c:Ca):Tx:=(ai (ax c (aa 0) .sign []) [(.gj,(ao [(xS ""),(xS "\n"),(xS "\"")]))])
abbrev NX (c:Ca):List Sx:=[(aR 3 (ax c (aa 0) .sign [])),
 (bc (ai (aa 3) [(.eq,(xS "\\"))]) [(cI (aa 0) .bG (bw .Add (aH (aa 0) .bG) (xC (.int 1)))),
 (bc (ai (ax c (aa 0) .sign []) [(.gj,(ao [(xS "n"),(xS "\""),(xS "\\")]))]) [(c8 (xS "a backslash stands ahead of n, a quote or a backslash") (bw .Sub (aH (aa 0) .bG) (xC (.int 1))))] []),
 (aR 3 (ik (ai (ax c (aa 0) .sign []) [(.eq,(xS "n"))]) (xS "\n") (ax c (aa 0) .sign [])))] []),
 (bo (ax c (aa 2) .append [(aa 3)])),
 (cI (aa 0) .bG (bw .Add (aH (aa 0) .bG) (xC (.int 1))))]
theorem Mm {u:List Nat}{c q:Nat}(h:u.length≤q):(u++[c]).length≤q+1:=by rw[List.length_append];exact Nat.succ_le_succ h
theorem Qm {T:List Nat}{q c:Nat}{r:List Nat}(e:T.drop q=c::r):q<T.length:=Nat.lt_of_not_le λh=>List.cons_ne_nil _ _ (e.symm.trans (List.drop_of_length_le h))
theorem I9 (S:dy hp s d T p)(b:V)(r:List Nat):∀(w u:List Nat) (q M:Nat) (x:Option V),(∀c∈w,c≠34∧c≠10∧c≠92)->T.drop q=w++34::r->u.length≤q->w.length<M ->
  ∃y,dI (I6 (ag N (k+1))) (aF (NX (ag N (k+1)))) M [some (.ref s),some b,some (.ref hp.length),x] (QH hp d T (iq u) q)=.ok (.next,[some (.ref s),some b,some (.ref hp.length),y]) (QH hp d T (iq (u++w)) (q+w.length)):=by
 intro w
 induction w with
 |nil =>
  intro u q M x hw e hu hM;refine aQ (oa hM) λM rz=>?_;subst rz;have S1:=vK S (iq u) q;have hs:(T.drop q).take 1=[34]:=by rw[e];rfl
  refine⟨x,?_⟩;rw[jW];open_k with[I6,S1.ms,lq S1,hs,fw,sD,nr,Vz (show aT []=true from rfl) (show aT [10]=true from rfl) (show aT [34]=true from rfl) (show aT [34]=true from rfl),List.append_nil,List.length_nil,Nat.add_zero,Bool.or_true]
 |cons c w I4 =>
  intro u q M x hw e hu hM;refine aQ (oa hM) λM rz=>?_;subst rz;have S1:=vK S (iq u) q;have S2:=vK S (iq (u++[c])) q;have hs:(T.drop q).take 1=[c]:=by rw[e];rfl
  refine bC λnG=>?_;refine ke (hw c (.head _)) λh1 h2 h3=>?_
  have jb:aT [c]=true:=by
   have:=kE S.hC q 1;rw[hs]at this;exact this
  have i1:(([]:List Nat)==[c])=false:=rfl;have i2:(([10]:List Nat)==[c])=false:=by simp[Ne.symm h2]
  have i3:(([34]:List Nat)==[c])=false:=by simp[Ne.symm h1]
  have i4:(([c]:List Nat)==[92])=false:=by simp[h3]
  have e2:T.drop (q+1)=w++34::r:=by rw[<- List.drop_drop,e];rfl
  have hlu:(iq u).length≤1000000:=Nat.le_trans (Nat.le_of_eq (List.length_map _)) (Nat.le_trans hu (Nat.le_trans (Nat.le_of_lt (Qm e)) S.hT));have hcu:iq u++[.str [c]]=iq (u++[c]):=(List.map_append (l₂:=[c])).symm;refine aQ (I4 (u++[c]) (q+1) M (some (.str [c])) (λc' h=>hw c' (.tail _ h)) e2 (Mm hu) (Nat.lt_of_succ_lt_succ hM)) λy ih=>?_;refine nG ?_;refine⟨y,?_⟩;rw[jW];simp only[I6,NX,fw,sD,nr,NU]at ih;have gR:∀q',(QH hp d T (iq (u++[c])) q).set d (SD T q')=QH hp d T (iq (u++[c])) q':=λq'=>List.set_set _;open_k with[I6,NX,S1.ms,lq S1,hs,fw,sD,nr,NU,Vz (show aT []=true from rfl) (show aT [10]=true from rfl) (show aT [34]=true from rfl) jb,i1,i2,i3,Bool.or_self,aE jb (show aT [92]=true from rfl),i4,i5 (Gs S (iq u) q),i0 (Gs S (iq u) q) hlu,XM S,hcu,S2.bG,S2.put,nq,gR];rw[ih];have e3:q+1+w.length=q+(c::w).length:=Nat.add_right_comm q 1 _;have e4:u++[c]++w=u++c::w:=List.append_assoc _ _ _;rw[e3,e4]
theorem VC (S:dy hp s d T p){w r:List Nat}(e:T.drop p=34::(w++34::r))(hw:∀c∈w,c≠34∧c≠10∧c≠92)(hN:T.length<N) :
  ag N (k+2) (.fix (.ref 256)) [.ref s] hp=.ok (.str w) (QH hp d T (iq w) (p+(w.length+2))):=by
 have hl:=wZ e;have hlen:=congrArg List.length e;simp at hlen;have e1:=yk e;have hT:=S.hT;refine aQ (I9 (k:=k) (N:=N) S (.int p) r w [] (p+1) N none hw e1 (by simp) (by omega)) λy lp=>?_;have S0:dy (hp++[O.list []]) s d T p:=⟨by rw[List.getElem?_append_left (List.getElem?_eq_some_iff.mp S.hs).1];exact S.hs,by rw[List.getElem?_append_left S.lt];exact S.hd,S.hT,S.hC⟩;have S1:=vK S (iq w) (p+1+w.length);have S2:=vK S (iq w) (p+(w.length+2));have e2:T.drop (p+1+w.length)=34::r:=by rw[<- List.drop_drop,e1];simp
 have hs:(T.drop (p+1+w.length)).take 1=[34]:=by rw[e2];rfl
 have gR:∀q',(QH hp d T (iq w) (p+1+w.length)).set d (SD T q')=QH hp d T (iq w) q':=λq'=>List.set_set _;have e3:p+1+w.length+1=p+(w.length+2):=by apply Z2<;>first|assumption|exact rfl
 have hz:(([34]:List Nat)==[34])=true:=rfl;rw[PV];open_k with[U4,S.bG,S0.put,S0.bG,nq];simp only[I6,NX,List.nil_append]at lp;rw[show((hp++[O.list []]).set d (SD T (p+1)))=QH hp d T (iq []) (p+1)from rfl,lp];open_k with[S1.ms,lq S1,hs,nr,lS (show aT [34]=true from rfl) (show aT [34]=true from rfl),hz,S1.bG,nq,S1.put,gR,e3,fw,VB,VA (Gs S (iq w) (p+(w.length+2))) (by omega)]
noncomputable def Tok.g:Tok->List O
 |.text w=>[.list (iq w)]
 |_=>[]
theorem sE (hp:HP)(a b:List Nat)(h:a.length+b.length≤1000000):jy .Add (.str a) (.str b) hp=.ok (.str (a++b)) hp:=by
 exact eB (gH h)
theorem Ja:(([]:List Nat)==[])=true:=rfl
theorem DB (S:dy hp s d T p){m n:Nat}(sk:jZ m (T.drop p) n)(hl:p+n≤T.length)(hN:T.length<N)(hm:m<N){t:Tok}{q:Nat}{l:List Nat}(el:T.drop (p+n)=l)(lx:jg l t q) :
  ag N (k+4) (.fix (.ref 270)) [.ref s] hp=.ok (t.v (p+n)) ((hp++t.g).set d (SD T (p+n+q))):=by
 have S2:=S.set (p+n);have skc:=Vw (k:=k) S sk (by apply ma<;>first|assumption|exact rfl) hN hm;have gR:∀q',(hp.set d (SD T (p+n))).set d (SD T q')=hp.set d (SD T q'):=λq'=>List.set_set _
 have w8:∀{c r},T.drop (p+n)=c::r->aT [c]=true∧(T.drop (p+n)).take 1=[c]:=λ{c r} e=>by
  have:=kE S.hC (p+n) 1;rw[e]at this ⊢;exact⟨this,rfl⟩
 rw[PW];open_k with[U5,S.msk,skc,S2.bG,S2.ms,lq S2];cases lx with
 |fin =>
  have hs:(T.drop (p+n)).take 1=[]:=by rw[el];rfl
  open_k with[hs,fw,aE (show aT []=true from rfl) (show aT []=true from rfl),Ja,Tok.v,Tok.g,List.append_nil,Nat.add_zero]
 |word c r h _ e =>
  refine bC λnG=>?_;refine bp (w8 el) λho hs=>?_;refine ke (Mi c h) λf1 f2 f3=>?_;refine nG ?_;have rc:=vH (k:=k+1) (N:=N) S2 (LT++DG) hl hN;rw[gR,el,<- e]at rc;open_k with[hs,fw,nr,qT,aE ho (show aT []=true from rfl),aE ho (show aT [34]=true from rfl),aE ho (show aT [45]=true from rfl),mC,f1,f2,f3,in_str,h,show([c]==([]:List Nat))=false from rfl,S2.mr,sE _ LT DG (by decide),rc,Tok.v,Tok.g,List.append_nil]
 |num c r h _ e hn i hi =>
  refine bC λnG=>?_;refine bp (w8 el) λho hs=>?_;refine bp (A9 c h) λf1 f2=>?_;refine nG ?_;have nc:=Mk (k:=k) (N:=N) S2 el h e hn hi hN;rw[gR]at nc;open_k with[hs,fw,nr,qT,aE ho (show aT []=true from rfl),aE ho (show aT [34]=true from rfl),aE ho (show aT [45]=true from rfl),mC,f1,f2,in_str,h,show([c]==([]:List Nat))=false from rfl,S2.mn,nc,Tok.v,Tok.g,List.append_nil]
 |neg r n' e h0 hn i hi =>
  refine bp (w8 el) λho hs=>?_;have nc:=Ml (k:=k) (N:=N) S2 el e h0 hn hi hN;rw[gR]at nc;open_k with[hs,fw,nr,qT,aE ho (show aT []=true from rfl),aE ho (show aT [34]=true from rfl),aE ho (show aT [45]=true from rfl),show([45]==([]:List Nat))=false from rfl,show([45]==([34]:List Nat))=false from rfl,show([45]==([45]:List Nat))=true from rfl,S2.mn,nc,Tok.v,Tok.g,List.append_nil]
 |text w r h =>
  refine bp (w8 el) λho hs=>?_;have qc:=VC (k:=k+1) (N:=N) S2 el h hN
  have hq:QH (hp.set d (SD T (p+n))) d T (iq w) (p+n+(w.length+2))=(hp++[O.list (iq w)]).set d (SD T (p+n+(w.length+2))):=by
   unfold QH;rw[List.set_append_left _ _ (by simpa using S.lt),gR,<- List.set_append_left _ _ S.lt]
  rw[hq]at qc;open_k with[hs,fw,nr,qT,aE ho (show aT []=true from rfl),aE ho (show aT [34]=true from rfl),show([34]==([]:List Nat))=false from rfl,show([34]==([34]:List Nat))=true from rfl,S2.mq,qc,Tok.v,Tok.g]
 |Gr r =>
  refine bp (w8 el) λho hs=>?_
  have uT:cut T (some (p+n)) (some (p+n+2))=[46,46]:=by
   simp only[cut,Option.getD_some];rw[List.drop_take,el];have:p+n+2 - (p+n)=2:=by apply yA<;>first|assumption|exact rfl
   rw[this];rfl
  open_k with[hs,fw,nr,qT,NV,aE ho (show aT []=true from rfl),aE ho (show aT [34]=true from rfl),aE ho (show aT [45]=true from rfl),show([46]==([]:List Nat))=false from rfl,show([46]==([34]:List Nat))=false from rfl,show([46]==([45]:List Nat))=false from rfl,in_str,show DG.contains 46=false from by decide,show LT.contains 46=false from by decide,S2.text,sy,Vt,sC _ _ _ S.hT,uT,aE (show aT [46,46]=true from rfl) (show aT [46,46]=true from rfl),show([46,46]==([46,46]:List Nat))=true from rfl,S2.put,gR,Tok.v,Tok.g,List.append_nil]
 |sign c r h =>
  refine bC λnG=>?_;refine bp (w8 el) λho hs=>?_;refine ZO (Mj c h) λf1 f2 f3 f4 f5=>?_
  have uT:∃y,cut T (some (p+n)) (some (p+n+2))=y∧aT y=true∧(y==[46,46])=false:=by
   refine⟨_,rfl,?_,?_⟩
   ·simp only[cut,Option.getD_some];exact wX S.hC λx hx=>List.mem_of_mem_take (List.mem_of_mem_drop hx)
   ·simp only[cut,Option.getD_some];rw[List.drop_take,el];have:p+n+2 - (p+n)=2:=by apply yA<;>first|assumption|exact rfl
    rw[this];have:c≠46:=by simpa using f5
    cases r<;>simp[this]
  refine dQ uT λy hy hyo hyd=>?_;refine nG ?_;open_k with[hs,fw,nr,qT,NV,aE ho (show aT []=true from rfl),aE ho (show aT [34]=true from rfl),aE ho (show aT [45]=true from rfl),mC,f1,f2,f3,f4,show([c]==([]:List Nat))=false from rfl,in_str,h,S2.text,sy,nq,Vt,sC _ _ _ S.hT,hy,aE hyo (show aT [46,46]=true from rfl),hyd,S2.put,gR,Tok.v,Tok.g,List.append_nil]
end
section
structure RS where
 T:List Nat
 p:Nat
 a:List V
 vs:List V
 ts:List V
 goal:List V
 shown:List V
 qs:List V
 gs:Int
 ss:Int
noncomputable abbrev DC (n:Nat) (x:RS):O:=.dict [(.bM,.ref (n+2)),(.ahead,.tup x.a),(.flat,.ref (n+4)),(.eN,.ref (n+8)),(.cb,.int x.gs),(.b9,.int x.ss)]
noncomputable abbrev Jb (n:Nat) (x:RS):O:=.dict [(.vars,.ref (n+6)),(.bZ,.ref (n+7)),(.goal,.tup x.goal),(.shown,.tup x.shown)]
def cells (n:Nat)(x:RS):List O:=[.inst 434 (n+1),DC n x,.inst 273 (n+3),SD x.T x.p,.inst 150 (n+5),Jb n x,.list x.vs,.list x.ts,.list x.qs]
structure Rd (hp:HP)(n:Nat)(x:RS):Prop where
 is:∀j o,(cells n x)[j]?=some o->hp[n+j]?=some o
 hT:x.T.length≤1000000
 hC:aT x.T=true
section
variable {hp:HP}{n:Nat}{x:RS}
theorem Rd.o0 (R:Rd hp n x):hp[n]?=some (.inst 434 (n+1)):=R.is 0 _ rfl
theorem Rd.o1 (R:Rd hp n x):hp[n+1]?=some (DC n x):=R.is 1 _ rfl
theorem Rd.o2 (R:Rd hp n x):hp[n+2]?=some (.inst 273 (n+3)):=R.is 2 _ rfl
theorem Rd.o3 (R:Rd hp n x):hp[n+3]?=some (SD x.T x.p):=R.is 3 _ rfl
theorem Rd.o4 (R:Rd hp n x):hp[n+4]?=some (.inst 150 (n+5)):=R.is 4 _ rfl
theorem Rd.o5 (R:Rd hp n x):hp[n+5]?=some (Jb n x):=R.is 5 _ rfl
theorem Rd.o6 (R:Rd hp n x):hp[n+6]?=some (.list x.vs):=R.is 6 _ rfl
theorem Rd.o7 (R:Rd hp n x):hp[n+7]?=some (.list x.ts):=R.is 7 _ rfl
theorem Rd.o8 (R:Rd hp n x):hp[n+8]?=some (.list x.qs):=R.is 8 _ rfl
theorem Rd.frame {hp':HP}(R:Rd hp n x)(g:∀j,j<9->hp'[n+j]?=hp[n+j]?):Rd hp' n x :=
 ⟨λj o e=>(g j (List.getElem?_eq_some_iff.mp e).1).trans (R.is j o e),R.hT,R.hC⟩
theorem Rd.put {x':RS}(R:Rd hp n x)(j:Nat)(o:O)(h:j<9)(e:cells n x'=(cells n x).set j o)(eT:x'.T=x.T):Rd (hp.set (n+j) o) n x' :=
 ⟨λi p q=>by
  rw[e]at q;by_cases hi:j=i
  ·cases hi
   rw[List.getElem?_set_self h]at q;rw[List.getElem?_set_self (List.getElem?_eq_some_iff.mp (R.is j _ (List.getElem?_eq_getElem h))).1,q]
  ·rw[List.getElem?_set_ne hi]at q;rw[List.getElem?_set_ne (λe=>hi (Nat.add_left_cancel e))];exact R.is i p q,eT▸R.hT,eT▸R.hC⟩
theorem Rd.cons {a0 a1 a2 a3 a4 a5 a6 a7 a8:O}{T:List Nat}{p:Nat}{l:List O}(h:[a0,a1,a2,a3,a4,a5,a6,a7,a8]=cells n x)(g:∀j,j<9->hp[n+j]?=[a0,a1,a2,a3,a4,a5,a6,a7,a8][j]?)(hT:x.T.length≤1000000)(hC:aT x.T=true):Rd hp n x :=
 ⟨λj o e=>by
  have:=g j (List.getElem?_eq_some_iff.mp e).1;rw[h]at this;exact this.trans e,hT,hC⟩
end
structure Fr (n:Nat)(hp hp':HP):Prop where
 len:hp.length≤hp'.length
 same:∀j,(j<n∨n+9≤j)->j<hp.length->hp'[j]?=hp[j]?
variable {N k n:Nat}{hp hp':HP}{x:RS}
theorem Fr.refl (n:Nat)(hp:HP):Fr n hp hp:=⟨Nat.le_refl _,λ_ _ _=>rfl⟩
theorem Fr.trans {au bJ:HP}(a:Fr n hp au)(b:Fr n au bJ):Fr n hp bJ:=⟨Nat.le_trans a.len b.len,λj h1 h2=>(b.same j h1 (Nat.lt_of_lt_of_le h2 a.len)).trans (a.same j h1 h2)⟩
theorem Fr.set {j:Nat}(o:O)(h1:n≤j)(h2:j<n+9):Fr n hp (hp.set j o):=⟨by simp,λi h _=>List.getElem?_set_ne (by lia)⟩
theorem Fr.app (l:List O):Fr n hp (hp++l):=⟨by simp,λi _ h=>List.getElem?_append_left h⟩
theorem Rd.lt (R:Rd hp n x):n+8<hp.length:=(List.getElem?_eq_some_iff.mp R.o8).1
theorem Rd.Zs (R:Rd hp n x):dy hp (n+2) (n+3) x.T x.p:=⟨R.o2,R.o3,R.hT,R.hC⟩
theorem Rd.app (R:Rd hp n x)(l:List O):Rd (hp++l) n x:=R.frame λj h=>List.getElem?_append_left (Nat.lt_of_le_of_lt (Nat.add_le_add_left (Nat.le_of_lt_succ h) n) R.lt)
theorem Rd.qU (R:Rd hp n x){j:Nat}(hj:n+9≤j)(o:O):Rd (hp.set j o) n x:=R.frame λi h=>List.getElem?_set_ne (Nat.ne_of_gt (Nat.lt_of_lt_of_le (Nat.add_lt_add_left h n) hj))
theorem Rd.s1 (R:Rd hp n x)(a:List V)(g s:Int):Rd (hp.set (n+1) (DC n {x with a:=a,gs:=g,ss:=s})) n {x with a:=a,gs:=g,ss:=s}:=R.put 1 _ (by decide) rfl rfl
theorem Rd.s3 (R:Rd hp n x)(p:Nat):Rd (hp.set (n+3) (SD x.T p)) n {x with p:=p}:=R.put 3 _ (by decide) rfl rfl
theorem Rd.s5 (R:Rd hp n x)(g s:List V):Rd (hp.set (n+5) (Jb n {x with goal:=g,shown:=s})) n {x with goal:=g,shown:=s}:=R.put 5 _ (by decide) rfl rfl
theorem Rd.s6 (R:Rd hp n x)(v:List V):Rd (hp.set (n+6) (.list v)) n {x with vs:=v}:=R.put 6 _ (by decide) rfl rfl
theorem Rd.s7 (R:Rd hp n x)(v:List V):Rd (hp.set (n+7) (.list v)) n {x with ts:=v}:=R.put 7 _ (by decide) rfl rfl
theorem Rd.s8 (R:Rd hp n x)(v:List V):Rd (hp.set (n+8) (.list v)) n {x with qs:=v}:=R.put 8 _ (by decide) rfl rfl
theorem Rd.obj (R:Rd hp n x):Obj hp n (n+1) 434 [(.bM,.ref (n+2)),(.ahead,.tup x.a),(.flat,.ref (n+4)),(.eN,.ref (n+8)),(.cb,.int x.gs),(.b9,.int x.ss)]:=⟨R.o0,R.o1⟩
theorem Rd.uf (R:Rd hp n x):Obj hp (n+4) (n+5) 150 [(.vars,.ref (n+6)),(.bZ,.ref (n+7)),(.goal,.tup x.goal),(.shown,.tup x.shown)]:=⟨R.o4,R.o5⟩
theorem Rd.ahead (R:Rd hp n x):eA hp (.ref n) .ahead=some (.tup x.a):=R.obj.attr rfl
theorem Rd.bM (R:Rd hp n x):eA hp (.ref n) .bM=some (.ref (n+2)):=R.obj.attr rfl
theorem Rd.flat (R:Rd hp n x):eA hp (.ref n) .flat=some (.ref (n+4)):=R.obj.attr rfl
theorem Rd.eN (R:Rd hp n x):eA hp (.ref n) .eN=some (.ref (n+8)):=R.obj.attr rfl
theorem Rd.vL (R:Rd hp n x):eA hp (.ref n) .cb=some (.int x.gs):=R.obj.attr rfl
theorem Rd.zx (R:Rd hp n x):eA hp (.ref n) .b9=some (.int x.ss):=R.obj.attr rfl
theorem Rd.fvars (R:Rd hp n x):eA hp (.ref (n+4)) .vars=some (.ref (n+6)):=R.uf.attr rfl
theorem Rd.Be (R:Rd hp n x):eA hp (.ref (n+4)) .bZ=some (.ref (n+7)):=R.uf.attr rfl
theorem Rd.zy (R:Rd hp n x):eA hp (.ref (n+4)) .goal=some (.tup x.goal):=R.uf.attr rfl
theorem Rd.Bf (R:Rd hp n x):eA hp (.ref (n+4)) .shown=some (.tup x.shown):=R.uf.attr rfl
theorem Rd.Jc (R:Rd hp n x)(v:List V):dn hp (.ref n) .ahead (.tup v)=some (hp.set (n+1) (DC n {x with a:=v})):=R.obj.put rfl rfl
theorem Rd.Bg (R:Rd hp n x)(v:Int):dn hp (.ref n) .cb (.int v)=some (hp.set (n+1) (DC n {x with gs:=v})):=R.obj.put rfl rfl
theorem Rd.Bh (R:Rd hp n x)(v:Int):dn hp (.ref n) .b9 (.int v)=some (hp.set (n+1) (DC n {x with ss:=v})):=R.obj.put rfl rfl
theorem Rd.pK (R:Rd hp n x)(v:List V):dn hp (.ref (n+4)) .goal (.tup v)=some (hp.set (n+5) (Jb n {x with goal:=v})):=R.uf.put rfl rfl
theorem Rd.qV (R:Rd hp n x)(v:List V):dn hp (.ref (n+4)) .shown (.tup v)=some (hp.set (n+5) (Jb n {x with shown:=v})):=R.uf.put rfl rfl
theorem ym:∀(us vs:List V) (_:us.length=vs.length) (ks:List Key) (k:Key),(eu (ks.zip us) k).isNone=(eu (ks.zip vs) k).isNone:=by
 intro us
 induction us with
 |nil =>
  intro vs h ks k;cases vs with
  |nil=>rfl
  |cons=>cases h
 |cons u us ih =>
  intro vs h ks k;cases vs with
  |nil=>cases h
  |cons v vs =>
   cases ks with
   |nil=>rfl
   |cons c ks =>
    show(eu ((c,u)::ks.zip us) k).isNone=(eu ((c,v)::ks.zip vs) k).isNone;unfold eu;by_cases e:c=k
    ·rw[if_pos e,if_pos e];rfl
    ·rw[if_neg e,if_neg e];exact ih vs (Nat.succ.inj h) ks k
theorem Rd.bA (R:Rd hp n x){k:Key}{f:Addr}(hk:fg (d7 434) k=some f)(h0:(eu [(.bM,V.none),(.ahead,V.none),(.flat,V.none),(.eN,V.none),(.cb,V.none),(.b9,V.none)] k).isNone=true):dN hp (.ref n) k=some (.fix (.ref f)) :=
 R.obj.bA hk ((ym [.ref (n+2),.tup x.a,.ref (n+4),.ref (n+8),.int x.gs,.int x.ss] [.none,.none,.none,.none,.none,.none] rfl [.bM,.ahead,.flat,.eN,.cb,.b9] k).trans h0)
theorem Rd.sG (R:Rd hp n x){k:Key}{f:Addr}(hk:fg (d7 150) k=some f)(h0:(eu [(.vars,V.none),(.bZ,V.none),(.goal,V.none),(.shown,V.none)] k).isNone=true):dN hp (.ref (n+4)) k=some (.fix (.ref f)) :=
 R.uf.bA hk ((ym [.ref (n+6),.ref (n+7),.tup x.goal,.tup x.shown] [.none,.none,.none,.none] rfl [.vars,.bZ,.goal,.shown] k).trans h0)
def Tok.l (t:Tok)(p:Nat):List V:=match t with
 |.fin=>[.str (af "end"),.str (af ""),.int p]
 |.text l=>[.str (af "text"),.str l,.int p]
 |.number i=>[.str (af "number"),.int i,.int p]
 |.word l=>[.str (af "word"),.str l,.int p]
 |.sign l=>[.str (af "sign"),.str l,.int p]
theorem NY (t:Tok)(p:Nat):t.v p=.tup (t.l p):=by cases t<;>rfl
structure Bi (N:Nat)(T:List Nat)(p:Nat)(t:Tok)(b q:Nat):Prop where
 is:∃m n len,jZ m (T.drop p) n∧p+n≤T.length∧m<N∧b=p+n∧q=b+len∧jg (T.drop b) t len
noncomputable def j1 (t:Tok) (g:List Nat):Bool:=match t with
 |.sign l=>l==g
 |_=>false
theorem lY (l:List V)(a b:Option Nat)(h:l.length≤1000)(hc:(cut l a b).length<l.length):gZ hp (.tup l) a b=.ok (.tup (cut l a b)) hp:=by
 exact eB (Bool.and_eq_true_iff.mpr ⟨jo (Nat.le_trans h (by decide)),decide_eq_true hc⟩)
theorem mD (a b:PyData)(as bs:List PyData):PyData.eqv (.tuple (a::as)) (.tuple (b::bs))=(PyData.eqv a b&&PyData.eqv (.tuple as) (.tuple bs)):=by
 simp[PyData.eqv,PyData.eqvAll]
theorem Gu {u v:V}{a b:PyData}(h1:mc hp u=some a)(h2:mc hp v=some b):wh hp (.tup [u,v])=some (.tuple [a,b]):=by
 show oB (md hp [u,v]) _=_;unfold md;rw[h1,cA rfl];unfold md;rw[h2];rfl
theorem Gv (l:List Nat):mc hp (.str l)=some (.str (S l)):=by show hO _=_;unfold hO;rfl
theorem vM (a b:List Nat):wh hp (.tup [.str a,.str b])=some (.tuple [.str (S a),.str (S b)]):=Gu (Gv a) (Gv b)
theorem mT {a b c d:List Nat}(ha:aT a=true)(hb:aT b=true)(hc:aT c=true)(hd:aT d=true):dB .eq (.tup [.str a,.str b]) (.tup [.str c,.str d]) hp=some (a==c&&b==d):=by
 have h1:=jq (l:=[a,b]) (by simp[ha,hb]);have h2:=jq (l:=[c,d]) (by simp[hc,hd]);simp only[List.map_cons,List.map_nil]at h1 h2
 have h3:PyData.eqv (.tuple [.str (S a),.str (S b)]) (.tuple [.str (S c),.str (S d)])=(a==c&&b==d):=by
  rw[mD,mD,n8,n8,vF,vF];simp[PyData.eqv,PyData.eqvAll]
 exact Dx (vM a b) (vM c d) h1 h2 h3
noncomputable def j2:Tok->Bool
 |.text l=>aT l
 |.word l=>aT l
 |.sign l=>aT l
 |_=>true
theorem Bj (u v w:V):cut [u,v,w] none (some 2)=[u,v]:=rfl
theorem gW:ia (.int 2)=some (some 2):=rfl
theorem aaR (i:Int)(g:List Nat)(hg:aT g=true):dB .eq (.tup [.str (af "number"),.int i]) (.tup [.str (af "sign"),.str g]) hp=some false:=by
 have h1:SeqAt.shaped (.tuple [.str (S (af "number")),.int i])=true:=by
  have:PyData.strOk (S (af "number"))=true:=by decide +kernel
  simp[SeqAt.shaped,PyData.canLay0,PyData.canLayAll0,this,PyData.depth,PyData.depthAll]
 have h2:=jq (l:=[af "sign",g]) (by simp[hg];decide);simp only[List.map_cons,List.map_nil]at h2
 have h3:PyData.eqv (.tuple [.str (S (af "number")),.int i]) (.tuple [.str (S (af "sign")),.str (S g)])=false:=by
  rw[mD,n8,vF,show(af "number"==af "sign")=false from by decide];rfl
 exact Dx (Gu (by unfold mc hO;rfl) (by unfold mc hO;rfl)) (vM _ _) h1 h2 h3
theorem og (u v w:V):gZ hp (.tup [u,v,w]) none (some 2)=.ok (.tup [u,v]) hp:=lY [u,v,w] none (some 2) (by show 3≤1000;decide) (by show 2<3;decide)
theorem iK (R:Rd hp n x){t:Tok}{b:Nat}(ha:x.a=t.l b)(ok:j2 t=true){g:List Nat}(hg:aT g=true):ag N (k+1) (.fix (.ref 305)) [.ref n,.str g] hp=.ok (.bool (j1 t g)) hp:=by
 rw[P0];cases t with
 |number i=>open_k with[wU,R.ahead,ha,Tok.l,bX,gW,og,Bj,aaR i g hg,j1]
 |fin=>open_k with[wU,R.ahead,ha,Tok.l,bX,gW,og,Bj,mT (kq "end") (kq "") (kq "sign") hg,show(af "end"==af "sign")=false from by decide,Bool.false_and,j1]
 |text l=>open_k with[wU,R.ahead,ha,Tok.l,bX,gW,og,Bj,mT (kq "text") (show aT l=true from ok) (kq "sign") hg,show(af "text"==af "sign")=false from by decide,Bool.false_and,j1]
 |word l=>open_k with[wU,R.ahead,ha,Tok.l,bX,gW,og,Bj,mT (kq "word") (show aT l=true from ok) (kq "sign") hg,show(af "word"==af "sign")=false from by decide,Bool.false_and,j1]
 |sign l=>open_k with[wU,R.ahead,ha,Tok.l,bX,gW,og,Bj,mT (kq "sign") (show aT l=true from ok) (kq "sign") hg,show(af "sign"==af "sign")=true from by decide,Bool.true_and,j1]
theorem ir (t:Tok)(b:Nat):bh hp (.tup (t.l b)) (.int 2)=some (.int b):=by cases t<;>rfl
def Tok.kind:Tok->List Nat
 |.fin=>af "end"
 |.text _=>af "text"
 |.number _=>af "number"
 |.word _=>af "word"
 |.sign _=>af "sign"
def Tok.val:Tok->V
 |.fin=>.str (af "")
 |.text l=>.str l
 |.number i=>.int i
 |.word l=>.str l
 |.sign l=>.str l
theorem eZ (t:Tok)(b:Nat):bh hp (.tup (t.l b)) (.int 0)=some (.str t.kind):=by cases t<;>rfl
theorem mU (t:Tok)(b:Nat):bh hp (.tup (t.l b)) (.int 1)=some t.val:=by cases t<;>rfl
theorem i6 (t:Tok):aT t.kind=true:=by cases t<;>kernel_rfl
theorem vN (g:List Nat)(h:g.length≤1000):ly (.str g)=some g:=by
 have:g.length≤sizeLine:=Nat.le_trans h (by rw[sizeLine_eq];decide);simp only[ly,if_pos this]
theorem hW {a b:List Nat}{N:Nat}(h:a.length+b.length≤100000):fu a.length b.length=true:=gH (Nat.le_trans h (by decide))
theorem Qn (R:Rd hp n x){t:Tok}{b:Nat}(ha:x.a=t.l b)(ok:j2 t=true){g:List Nat}(hg:aT g=true)(hl:g.length≤1000)(hs:j1 t g=false) :
  ag N (k+6) (.fix (.ref 312)) [.ref n,.str g] hp=.gI b:=by
 have h1:([]:List Nat).length+g.length≤100000:=by simp;(apply aI<;>trivial)
 have h2:([]++g).length+(af " is wanted").length≤100000:=by
  have:(af " is wanted").length=10:=by decide
  simp;(apply nA<;>trivial)
 rw[Dl];open_k with[LY,R.bA (k:=.cN) rfl rfl,iK R ha ok hg,hs,vN g hl,hW (N:=0) h1,hW (N:=0) h2,R.ahead,ha,ir]
theorem vO (R:Rd hp n x){t:Tok}{b:Nat}(ha:x.a=t.l b)(hk:(t.kind==af "number")=false):ag N (k+6) (.fix (.ref 319)) [.ref n] hp=.gI b:=by
 rw[Dm];open_k with[LZ,R.ahead,ha,eZ,lS (i6 t) (kq "number"),hk,ir]
end
section
section
variable {α β γ δ:Type}
noncomputable abbrev Res (β:Type):=Option (Except Int β)
noncomputable def ob (m:Res β) (f:β->Res γ):Res γ:=match m with
 |none=>none
 |some (.error k)=>some (.error k)
 |some (.ok b)=>f b
def Wq (r:R α)(res:Res β)(Q:α->HP->β->Prop):Prop:=match res with
 |none=>True
 |some (.error k)=>r=.gI k
 |some (.ok b)=>∃a hp',r=.ok a hp'∧Q a hp' b
theorem Wq.bind {r:R α}{res:Res β}{Q:α->HP->β->Prop}{f:α->HP->R γ}{g:β->Res δ}{Q':γ->HP->δ->Prop}(c:Wq r res Q)(h:∀a hp' b,Q a hp' b->Wq (f a hp') (g b) Q'):Wq (az r f) (ob res g) Q' :=
 match res,c with
 |none,_=>trivial
 |some (.error _),c=>congrArg (λr=>az r f) c
 |some (.ok b),⟨a,hp',e,q⟩=>Eq.symm (congrArg (λr=>az r f) e)▸h a hp' b q
theorem Wq.ok {a:α}{hp:HP}{b:β}{Q:α->HP->β->Prop}(q:Q a hp b):Wq (.ok a hp) (some (.ok b)) Q:=⟨a,hp,rfl,q⟩
theorem Wq.mono {r:R α}{res:Res β}{Q Q':α->HP->β->Prop}(c:Wq r res Q)(h:∀a hp' b,Q a hp' b->Q' a hp' b):Wq r res Q' :=
 match res,c with
 |none,_=>trivial
 |some (.error _),c=>c
 |some (.ok b),⟨a,hp',e,q⟩=>⟨a,hp',e,h a hp' b q⟩
end
noncomputable abbrev TS:=List (Tok×Nat)
abbrev Pt (α:Type):=Res (α×TS)
structure FD where
 vs:List V
 ts:List V
 goal:List V
 shown:List V
 qs:List V
 gs:Int
 ss:Int
noncomputable def nz {α:Type} (a:α) (ts:TS):Pt α:=match ts with
 |[]=>none
 |_::_=>some (.ok (a,ts))
def gq (g:List Nat)(ts:TS):Pt Unit:=match ts with
 |[]=>none
 |(t,b)::r=>if j1 t g then nz () r else some (.error b)
def BR (ts:TS):Pt Int:=match ts with
 |[]=>none
 |(t,b)::r=>match t with
  |.number i=>nz i r
  |_=>some (.error b)
def zA (ts:TS):Pt (Tok×Nat):=match ts with
 |[]=>none
 |h::r=>nz h r
noncomputable def DE (ts:TS):Int:=match ts with
 |[]=>0
 |(_,b)::_=>b
noncomputable def aZ (lo hi:Int):Option Int->Bool
 |none=>decide (hi<lo)
 |some l=>decide (hi<lo)||decide (lo≤l+1)
def iL (last:Option Int)(ts:TS):Pt (Int×Int) :=
 ob (BR ts) λx=>ob (gq (af "..") x.2) λy=>ob (BR y.2) λz=>if aZ x.1 z.1 last then some (.error (DE ts))else some (.ok ((x.1,z.1),z.2))
def BU (N:Nat)(T:List Nat):Nat->TS->Prop
 |_,[]=>True
 |p,(t,b)::r=>j2 t=true∧∃q,Bi N T p t b q∧BU N T q r
abbrev qW (T:List Nat)(p:Nat)(t:Tok)(b:Nat)(F:FD):RS:=⟨T,p,t.l b,F.vs,F.ts,F.goal,F.shown,F.qs,F.gs,F.ss⟩
def RT (N:Nat)(hp:HP)(n:Nat)(T:List Nat)(ts:TS)(F:FD):Prop:=∃t b r p,ts=(t,b)::r∧j2 t=true∧Rd hp n (qW T p t b F)∧BU N T p r∧T.length<N
structure FL (n L:Nat)(hp hp':HP):Prop where
 len:hp.length≤hp'.length
 same:∀j,(j<n∨n+9≤j)->j<L->hp'[j]?=hp[j]?
def vP {α:Type}(N:Nat)(hp:HP)(n:Nat)(T:List Nat)(F:FD)(v:α->V)(r:R V)(res:Pt α):Prop :=
 Wq r res λa hp' b=>a=v b.1∧RT N hp' n T b.2 F∧Fr n hp hp'
variable {N k n L m:Nat}{hp hp':HP}{T:List Nat}{ts:TS}{F:FD}
theorem vP.bind {α γ δ:Type}{v:α->V}{r:R V}{res:Pt α}{f:V->HP->R γ}{g:α×TS->Res δ}{Q':γ->HP->δ->Prop}(c:vP N hp n T F v r res)(h:∀hp' x iu,RT N hp' n T iu F->Fr n hp hp'->Wq (f (v x) hp') (g (x,iu)) Q'):Wq (az r f) (ob res g) Q' :=
 Wq.bind c λ_ hp' b q=>q.1▸h hp' b.1 b.2 q.2.1 q.2.2
theorem Fr.fl (f:Fr n hp hp')(h:L≤hp.length):FL n L hp hp':=⟨f.len,λj h1 h2=>f.same j h1 (Nat.lt_of_lt_of_le h2 h)⟩
theorem FL.fr (f:FL n hp.length hp hp'):Fr n hp hp':=⟨f.len,f.same⟩
theorem FL.trans {au bJ:HP}(a:FL n L hp au)(b:FL n L au bJ):FL n L hp bJ:=⟨Nat.le_trans a.len b.len,λj h1 h2=>(b.same j h1 h2).trans (a.same j h1 h2)⟩
theorem FL.set (h:L≤m)(o:O):FL n L hp (hp.set m o):=⟨Nat.le_of_eq List.length_set.symm,λ_ _ h2=>List.getElem?_set_ne (Nat.ne_of_gt (Nat.lt_of_lt_of_le h2 h))⟩
theorem FL.refl:FL n L hp hp:=⟨Nat.le_refl _,λ_ _ _=>rfl⟩
theorem Fr.at {o:O}(f:Fr n hp hp')(hm:n+9≤m)(h:hp[m]?=some o):hp'[m]?=some o:=(f.same m (.inr hm) (List.getElem?_eq_some_iff.mp h).1).trans h
theorem RT.take (h:RT N hp n T ts F):∃t b r,ts=(t,b)::r∧(∀t' b' r',r=(t',b')::r'->∃hp',(∀k,ag N (k+5) (.fix (.ref 298)) [.ref n] hp=.ok (.tup (t.l b)) hp')∧RT N hp' n T r F∧Fr n hp hp'):=by
 refine bC λnG=>?_;refine ZS h λt b r p g0 ok R tk hN=>?_;subst g0;refine nG ?_;refine⟨t,b,r,rfl,λt' b' r' e=>?_⟩;subst e;refine bC λnG=>?_;obtain⟨NZ,q,nx,xI⟩:=tk;obtain⟨m,nn,len,sk,hl,hm,rfl,rfl,lx⟩:=id nx;refine nG ?_;have R1:=(R.app t'.g).s3 (p+nn+len);have R2:=R1.s1 (t'.l (p+nn)) F.gs F.ss;refine⟨_,λk=>?_,⟨t',p+nn,r',_,rfl,NZ,R2,xI,hN⟩,(((Fr.app t'.g).trans (Fr.set _ (by apply Nat.le_add_right<;>trivial) (by apply dA<;>trivial))).trans (Fr.set _ (by apply Nat.le_add_right<;>trivial) (by apply dA<;>trivial)))⟩;have tc:=DB (k:=k) (N:=N) R.Zs sk hl hN hm rfl lx;rw[PZ];open_k with[U7,R.ahead,R.bM,R.Zs.mt,tc,NY,R1.Jc]
inductive Zt (hp:HP)(n:Nat)(T:List Nat)(F:FD):TS->Prop
 |mk (t:Tok) (b:Nat) (r:TS) (p:Nat) (ok:j2 t=true) (R:Rd hp n (qW T p t b F)):Zt hp n T F ((t,b)::r)
theorem RT.rd (h:RT N hp n T ts F):Zt hp n T F ts:=by
 refine bC λnG=>?_;refine kg h λt b r p g0 ok R _=>?_;subst g0;exact nG ⟨t,b,r,p,ok,R⟩
theorem RT.bA (h:RT N hp n T ts F){k:Key}{f:Addr}(hk:fg (d7 434) k=some f)(h0:(eu [(.bM,V.none),(.ahead,V.none),(.flat,V.none),(.eN,V.none),(.cb,V.none),(.b9,V.none)] k).isNone=true):dN hp (.ref n) k=some (.fix (.ref f)):=by
 obtain⟨_,_,_,_,_,R⟩:=h.rd;exact R.bA hk h0
theorem RT.sG (h:RT N hp n T ts F){k:Key}{f:Addr}(hk:fg (d7 150) k=some f)(h0:(eu [(.vars,V.none),(.bZ,V.none),(.goal,V.none),(.shown,V.none)] k).isNone=true):dN hp (.ref (n+4)) k=some (.fix (.ref f)):=by
 obtain⟨_,_,_,_,_,R⟩:=h.rd;exact R.sG hk h0
theorem RT.flat (h:RT N hp n T ts F):eA hp (.ref n) .flat=some (.ref (n+4)):=by
 obtain⟨_,_,_,_,_,R⟩:=h.rd;exact R.flat
theorem Jd (h:RT N hp n T ts F):vP N hp n T F (λx=>.tup (x.1.l x.2)) (ag N (k+5) (.fix (.ref 298)) [.ref n] hp) (zA ts):=by
 refine lr (h.take) λt b r e tk=>?_;subst e;cases r with
 |nil=>trivial
 |cons q r' =>
  refine bC λnG=>?_;refine dQ (tk _ _ _ rfl) λhp' e R' Bk=>?_;refine nG ?_;exact⟨_,hp',e k,rfl,R',Bk⟩
theorem qX (h:RT N hp n T ts F){g:List Nat}(hg:aT g=true)(hl:g.length≤1000):vP N hp n T F (λ_=>.none) (ag N (k+6) (.fix (.ref 312)) [.ref n,.str g] hp) (gq g ts):=by
 refine lr (h.take) λt b r e tk=>?_;refine kg h λt b r p g0 ok R _=>?_;subst g0;cases e
 change Wq _ (if j1 t g=true then nz () r else some (.error b)) _
 cases hs:j1 t g with
 |true =>
  cases r with
  |nil=>trivial
  |cons q r' =>
   refine dQ (tk _ _ _ rfl) λhp' e R' Bk=>?_;refine⟨_,hp',?_,rfl,R',Bk⟩;rw[Dl];open_k with[LY,R.bA (k:=.cN) rfl rfl,iK R rfl ok hg,hs,R.bA (k:=.take) rfl rfl,e]
 |false=>exact Qn R rfl ok hg hl hs
theorem Gw (h:RT N hp n T ts F):vP N hp n T F V.int (ag N (k+6) (.fix (.ref 319)) [.ref n] hp) (BR ts):=by
 refine lr (h.take) λt b r e tk=>?_;refine kg h λt b r p g0 ok R _=>?_;subst g0;cases e
 cases t with
 |number i =>
  cases r with
  |nil=>trivial
  |cons q r' =>
   refine dQ (tk _ _ _ rfl) λhp' e R' Bk=>?_;refine⟨_,hp',?_,rfl,R',Bk⟩;rw[Dm];open_k with[LZ,R.ahead,eZ,Tok.kind,lS (kq "number") (kq "number"),R.bA (k:=.take) rfl rfl,e,mU,Tok.val]
 |fin=>exact vO (t:=.fin) R rfl (by decide)
 |text l=>exact vO (t:=.text l) R rfl (nb "text" "number")
 |word l=>exact vO (t:=.word l) R rfl (nb "word" "number")
 |sign l=>exact vO (t:=.sign l) R rfl (nb "sign" "number")
noncomputable def zB:Option Int->V
 |none=>.none
 |some l=>.int l
noncomputable abbrev pv (p:Int×Int):V:=.tup [.int p.1,.int p.2]
theorem qY (h:RT N hp n T ts F)(last:Option Int):vP N hp n T F pv (ag N (k+7) (.fix (.ref 377)) [.ref n,zB last] hp) (iL last ts):=by
 obtain⟨t,b,r,p,ok,R⟩:=h.rd;have hb:DE ((t,b)::r)=b:=rfl;rw[P6];open_k with[Vb,R.ahead,ir,R.bA (k:=.number) rfl rfl];refine(Gw (k:=k) h).bind λay lo mV h1 f1=>?_;open_k with[h1.bA (k:=.want) rfl rfl];refine(qX (k:=k) h1 (by decide) (by decide)).bind λaN _ qZ h2 f2=>?_;open_k with[h2.bA (k:=.number) rfl rfl];refine(Gw (k:=k) h2).bind λbL hi N0 h3 f3=>?_;have fin:Wq (.ok (.tup [.int lo,.int hi]) bL) (some (.ok ((lo,hi),N0))) λa hp' b=>a=pv b.1∧RT N hp' n T b.2 F∧Fr n hp hp':=.ok ⟨rfl,h3,(f1.trans f2).trans f3⟩;cases DF:decide (hi<lo)with
 |true =>
  have:aZ lo hi last=true:=by cases last<;>simp[aZ,DF]
  open_k with[DF,this,hb];rfl
 |false =>
  cases last with
  |none =>
   open_k with[aZ,DF,zB];exact fin
  |some l =>
   refine bC λnG=>?_;cases hd2:decide (lo≤l+1)with
   |true =>
    refine nG ?_;open_k with[aZ,DF,hd2,zB,Bool.or_true,hb];rfl
   |false =>
    refine nG ?_;open_k with[aZ,DF,hd2,zB,Bool.or_self];exact fin
def gX:Nat->List (Int×Int)->TS->Pt (List (Int×Int))
 |0,_,_=>none
 |j+1,found,ts=>match ts with
  |[]=>none
  |(t,_)::_=>if j1 t (af "}")then some (.ok (found,ts))else
   match found.getLast? with
   |none=>ob (iL none ts) λx=>gX j [x.1] x.2
   |some q=>ob (gq (af ",") ts) λy=>ob (iL (some q.2) y.2) λx=>gX j (found++[x.1]) x.2
def jI (ts:TS):Pt (List (Int×Int)):=match ts with
 |[]=>none
 |(t,_)::_=>if j1 t (af "{")then ob (zA ts) λx=>ob (gX 9 [] x.2) λy=>ob (zA y.2) λz=>some (.ok (y.1,z.2))
  else ob (iL none ts) λx=>some (.ok ([x.1],x.2))
theorem len_list {l:List V}(h:hp[m]?=some (.list l))(hl:l.length≤1000000):ag N (k+1) (bi "len") [.ref m] hp=.ok (.int l.length) hp:=by
 rw[show bi "len"=.fix (.builtin "len")from rfl,fB (g:=ur) "len" rfl];exact(gp (show RY hp (.ref m)=some l.length from cA (de h))).trans (eB (jo hl))
theorem Qo (n:Nat):(-1:Int)+((n+1:Nat):Int)=(n:Int):=(Int.add_comm _ _).trans (Int.add_neg_cancel_right n 1)
theorem Mn {l:List V}{v:V}(h:l.getLast?=some v)(hl:l.length≤1000000):rn l (-1)=some v:=by
 have h0:l≠[]:=λe=>by rw[e]at h;cases h
 have h1:0<l.length:=List.length_pos_iff.mpr h0
 have:tD (-1) l.length=some (l.length - 1):=by
  show PySem.seqIndex? (-1) l.length=_;refine aQ (oa h1) λn e=>?_;rw[e];unfold PySem.seqIndex?;rw[show(if(-1:Int)<0 then(-1:Int)+((n+1:Nat):Int)else -1)=(n:Int)from(if_pos (by decide)).trans (Qo n)]
  exact if_pos (Bool.and_eq_true_iff.mpr ⟨decide_eq_true (Int.natCast_nonneg n),decide_eq_true (Int.ofNat_lt.mpr (Nat.lt_succ_self n))⟩)
 rw[List.getLast?_eq_getElem?]at h;exact(cA this).trans h
theorem Bm {l:List V}{v:V}(hm:hp[m]?=some (.list l))(h:l.getLast?=some v)(hl:l.length≤1000000):bh hp (.ref m) (.int (-1))=some v:=(cA (de hm)).trans (Mn h hl)
theorem RT.qU (h:RT N hp n T ts F){m:Nat}(hm:n+9≤m)(o:O):RT N (hp.set m o) n T ts F:=by
 refine bC λnG=>?_;refine kg h λt b r p e ok R rest=>?_;refine nG ?_;exact⟨t,b,r,p,e,ok,R.qU hm o,rest⟩
theorem RT.app (h:RT N hp n T ts F)(l:List O):RT N (hp++l) n T ts F:=by
 refine kg h λt b r p e ok R rest=>?_;exact⟨t,b,r,p,e,ok,R.app l,rest⟩
theorem RT.lt (h:RT N hp n T ts F):n+8<hp.length:=by
 obtain⟨_,_,_,_,_,R⟩:=h.rd;exact R.lt
abbrev Gx (c:Ca):Tx:=(cW (tX (ax c (aa 0) .cN [(xS "}")])))
abbrev Mo (c:Ca):List Sx:=[(bc (ai (aD c (xC (bi "len")) [(aa 1)]) [(.gt,(xC (.int 0)))]) [(bo (ax c (aa 0) .want [(xS ",")]))] []),
 (bo (ax c (aa 1) .append [(ax c (aa 0) .iR [(ik (ai (aD c (xC (bi "len")) [(aa 1)]) [(.gt,(xC (.int 0)))]) (aq (aq (aa 1) (gO (xC (.int 1)))) (xC (.int 1))) (xC .none))])]))]
theorem bK (hp:HP)(o:O):(hp++[o])[hp.length]?=some o:=by simp
theorem kF {o o':O}(h:hp[m]?=some o):(hp.set m o')[m]?=some o':=List.getElem?_set_self (List.getElem?_eq_some_iff.mp h).1
inductive Gy (N n:Nat)(T:List Nat)(F:FD)(m L:Nat)(hp:HP)(a:Fl×Loc)(hp':HP)(b:List (Int×Int)×TS):Prop
 |mk (e:a=(.next,[some (.ref n),some (.ref m)])) (h:RT N hp' n T b.2 F) (hf:hp'[m]?=some (.list (b.1.map pv))) (hl:b.1.length≤100000) (f:FL n L hp hp')
theorem Gy.fl {iM:HP}{a:Fl×Loc}{b:List (Int×Int)×TS}(q:Gy N n T F m L iM a hp' b)(f:FL n L hp iM):Gy N n T F m L hp a hp' b:=by
 cases q with
 |mk e h hf hl f'=>exact⟨e,h,hf,hl,f.trans f'⟩
theorem Mp (hm:n+9≤m)(hL:L≤m)(j:Nat):∀(M:Nat) (found:List (Int×Int)) {hp:HP} {ts:TS},RT N hp n T ts F->hp[m]?=some (.list (found.map pv))->found.length+j≤100000->j≤M ->
  Wq (dI (Gx (ag N (k+7))) (aF (Mo (ag N (k+7)))) M [some (.ref n),some (.ref m)] hp) (gX j found ts) (Gy N n T F m L hp):=by
 induction j with
 |zero=>intros;trivial
 |succ j ih =>
  intro M found hp ts h hf hl hj;cases M with
  |zero=>exact absurd hj (Nat.not_succ_le_zero _)
  |succ M =>
  have xH:found.length+1+j≤100000:=by apply MU<;>trivial
  have pZ:(found.map pv).length≤1000000:=by rw[List.length_map];omega
  have qf:L≤hp.length:=Nat.le_trans hL (Nat.le_of_lt (List.getElem?_eq_some_iff.mp hf).1)
  have Zu:=λ(x:Int×Int) {hp':HP} {iu} (h':RT N hp' n T iu F) (hf':hp'[m]?=some (.list (found.map pv))) (fl:FL n L hp hp') =>
   Wq.mono (ih M (found++[x]) (h'.qU hm (.list (found.map pv++[pv x]))) (by rw[kF hf',List.map_append];rfl) (by rw[List.length_append];exact xH) (Nat.le_of_succ_le_succ hj)) λ_ _ _ q=>q.fl (fl.trans (FL.set hL _))
  have mi:=h.bA (k:=.cN) rfl rfl;have ms:=h.bA (k:=.iR) rfl rfl;have mw:=h.bA (k:=.want) rfl rfl;have ll:=len_list (N:=N) (k:=k+6) hf pZ;cases h.rd with
  |mk t b r p ok R =>
  have is:=iK (N:=N) (k:=k+6) R rfl ok (kq "}");unfold gX;rw[jW];cases hs:j1 t (af "}")with
  |true =>
   open_k with[Gx,mi,is,hs];exact .ok ⟨rfl,h,hf,Nat.le_trans (Nat.le_add_right _ _) hl,FL.refl⟩
  |false =>
   cases hg:found.getLast? with
   |none =>
    obtain rfl:=List.getLast?_eq_none_iff.mp hg;have N1:decide ((0:Int)<(([]:List (Int×Int)).map pv).length)=false:=rfl;open_k with[Gx,Mo,mi,is,hs,ll,N1,i5 hf,ms];refine(qY (k:=k) h none).bind λay x mV h1 f1=>?_;open_k with[i0 (f1.at hm hf) pZ];exact Zu x h1 (f1.at hm hf) (f1.fl qf)
   |some q =>
    have N1:decide ((0:Int)<((found.map pv).length:Int))=true:=by
     cases found with
     |nil=>cases hg
     |cons=>simp
    have hq:(found.map pv).getLast?=some (pv q):=by rw[List.getLast?_map,hg];rfl
    open_k with[Gx,Mo,mi,is,hs,ll,N1,mw];refine(qX (k:=k+1) h (by decide) (by decide)).bind λay _ mV h1 f1=>?_;have C4:=f1.at hm hf;open_k with[i5 C4,h1.bA (k:=.iR) rfl rfl,len_list (N:=N) (k:=k+6) C4 pZ,N1,Bm C4 hq pZ,show bh ay (pv q) (.int 1)=some (.int q.2)from rfl];refine(qY (k:=k) h1 (some q.2)).bind λaN x qZ h2 f2=>?_;have C5:=f2.at hm C4;open_k with[i0 C5 pZ];exact Zu x h2 C5 ((f1.trans f2).fl qf)
theorem DH {l:List V}(h:hp[m]?=some (.list l)):tF hp (.ref m)=some l:=de h
theorem w9 {l:List V}(h:hp[m]?=some (.list l))(hl:l.length≤1000000):ag N (k+1) (.fix (.type "tuple")) [.ref m] hp=.ok (.tup l) hp:=by
 rw[wY (g:=wo) "tuple" rfl];exact(gp (DH h)).trans (eB (jo hl))
theorem Mq (h:RT N hp n T ts F)(hN:9≤N):vP N hp n T F (λl=>.tup (l.map pv)) (ag N (k+8) (.fix (.ref 384)) [.ref n] hp) (jI ts):=by
 obtain⟨t,b,r,p,ok,R⟩:=h.rd;have is:=iK (N:=N) (k:=k+6) R rfl ok (kq "{");rw[P7];unfold jI;refine bC λnG=>?_;cases hs:j1 t (af "{")with
 |false =>
  refine nG ?_;open_k with[L8,R.bA (k:=.cN) rfl rfl,is,hs,R.bA (k:=.iR) rfl rfl];refine(qY (k:=k) h none).bind λay x mV h1 f1=>?_;open_k with[nk];exact .ok ⟨rfl,h1,f1⟩
 |true =>
  refine nG ?_;open_k with[L8,R.bA (k:=.cN) rfl rfl,is,hs,R.bA (k:=.take) rfl rfl];refine(Jd (k:=k+2) h).bind λay x mV h1 f1=>?_;open_k with[nk];have hln:=h1.lt;refine(Mp (k:=k) (L:=ay.length) (by assumption) (Nat.le_refl _) 9 N [] (h1.app [.list []]) (bK _ _) (by decide) hN).bind ?_;rintro _ aN ⟨y,qZ⟩ ⟨rfl,h2,hf,hy,f2⟩;open_k with[h2.bA (k:=.take) rfl rfl];refine(Jd (k:=k+2) h2).bind λbL z N0 h3 f3=>?_;have f2':Fr n ay aN:=⟨Nat.le_trans (by simp) f2.len,λj a b=>(f2.same j a b).trans (List.getElem?_append_left b)⟩;open_k with[w9 (f3.at (by assumption) hf) (show(y.map pv).length≤1000000 by simp at hy ⊢;omega)];exact .ok ⟨rfl,h3,(f1.trans f2').trans f3⟩
end
section
variable {N k n L m:Nat}{hp hp':HP}{T:List Nat}{ts:TS}{F:FD}
theorem lZ {t:Tok}{b:Nat}{r:TS}(h:RT N hp n T ((t,b)::r) F):vP N hp n T F (λ_=>.tup (t.l b)) (ag N (k+5) (.fix (.ref 298)) [.ref n] hp) (nz () r):=by
 refine bC λnG=>?_;refine lr (h.take) λt' b' r' e tk=>?_;cases e
 cases r with
 |nil=>refine nG ?_;trivial
 |cons q r' =>
  refine nG ?_;refine bC λnG=>?_;refine dQ (tk _ _ _ rfl) λhp' e R' Bk=>?_;refine nG ?_;exact⟨_,hp',e k,rfl,R',Bk⟩
theorem FL.at {j:Nat}{o:O}(f:FL n L hp hp')(hj:n+9≤j)(hl:j<L)(h:hp[j]?=some o):hp'[j]?=some o:=(f.same j (.inr hj) hl).trans h
noncomputable abbrev E:=Nat×List V×List Nat
noncomputable abbrev E.v (e:E):V:=.tup [.ref e.1,.str e.2.2]
noncomputable abbrev PS:=List (List V×List Nat)
structure jr (hp:HP)(m:Nat)(sr:List E):Prop where
 top:hp[m]?=some (.list (sr.map E.v).reverse)
 each:∀e∈sr,m<e.1∧hp[e.1]?=some (.list e.2.1)
 ord:sr.Pairwise λa b=>b.1<a.1
theorem jr.fr {sr:List E}(s:jr hp m sr)(f:Fr n hp hp')(hm:n+9≤m):jr hp' m sr :=
 ⟨f.at hm s.top,λe he=>⟨(s.each e he).1,f.at (Nat.le_trans hm (Nat.le_of_lt (s.each e he).1)) (s.each e he).2⟩,s.ord⟩
theorem jr.tl {e:E}{sr:List E}(s:jr hp m (e::sr)):jr (hp.set m (.list (sr.map E.v).reverse)) m sr :=
 ⟨kF s.top,λe' he=>by
  have:=s.each e' (List.mem_cons_of_mem _ he);exact⟨this.1,by rw[List.getElem?_set_ne (Nat.ne_of_lt this.1)];exact this.2⟩,(List.pairwise_cons.mp s.ord).2⟩
theorem jr.up {e:E}{sr:List E}(s:jr hp m (e::sr))(l:List V):jr (List.set hp e.1 (O.list l)) m ((e.1,l,e.2.2)::sr):=by
 have h0:=s.each e List.mem_cons_self;have ho:=List.pairwise_cons.mp s.ord;refine⟨by rw[List.getElem?_set_ne (Nat.ne_of_gt h0.1)];exact s.top,λe' he=>?_,List.pairwise_cons.mpr ho⟩;rcases List.mem_cons.mp he with rfl|he
 ·exact⟨h0.1,kF h0.2⟩
 ·have h1:=s.each e' (List.mem_cons_of_mem _ he);exact⟨h1.1,by rw[List.getElem?_set_ne (Nat.ne_of_gt (ho.1 e' he))];exact h1.2⟩
theorem jr.push {sr:List E}(s:jr hp m sr)(l:List V)(g:List Nat):jr (List.set (hp++[O.list l]) m (O.list ((sr.map E.v).reverse++[E.v (hp.length,l,g)]))) m ((hp.length,l,g)::sr):=by
 have hm:=(List.getElem?_eq_some_iff.mp s.top).1;have hl:∀e∈sr,e.1<hp.length:=λe he=>(List.getElem?_eq_some_iff.mp (s.each e he).2).1;refine⟨?_,λe' he=>?_,List.pairwise_cons.mpr ⟨λe he=>hl e he,s.ord⟩⟩
 ·rw[List.map_cons,List.reverse_cons];exact List.getElem?_set_self (by rw[List.length_append];exact Nat.lt_add_right _ hm)
 ·rcases List.mem_cons.mp he with rfl|he
  ·exact⟨hm,by rw[List.getElem?_set_ne (Nat.ne_of_lt hm)];exact bK _ _⟩
  ·have h1:=s.each e' he;exact⟨h1.1,by rw[List.getElem?_set_ne (Nat.ne_of_lt h1.1),List.getElem?_append_left (hl e' he)];exact h1.2⟩
noncomputable def vQ (ts:TS) (g:List Nat):Bool:=match ts with
 |[]=>false
 |(t,_)::_=>j1 t g
abbrev Pd:=Pt (Option V×PS)
def oh (ps:PS)(ts:TS):Pd:=match ts with
 |[]=>none
 |(t,_)::r=>if j1 t (af ",")then ob (nz () r) λy=>some (.ok ((none,ps),y.2))else match ps with
  |[]=>none
  |e::N2=>if aT e.2&&decide (e.2.length≤1000)&&decide (e.1.length≤1000)&&decide (N2.length≤1000)then ob (gq e.2 ts) λy=>some (.ok ((some (.tup e.1),N2),y.2))else none
def sH (ps:PS)(ts:TS):Pd:=match ps with
 |[]=>none
 |e::N2=>if aT e.2&&decide (N2.length≤1000)then(if vQ ts e.2 then oh ps ts else some (.ok ((none,ps),ts)))else none
def xa (ps:PS)(ts:TS):Pd:=match ts with
 |[]=>none
 |(t,b)::r=>ob (nz () r) λx=>match t with
  |.word w=>if vQ x.2 (af "(")&&decide (ps.length≤900)then(match x.2 with
   |[]=>none
   |_::r'=>ob (nz () r') λy=>sH (([.str w],af ")")::ps) y.2)else none
  |.sign s=>if s==af "[" then(if decide (ps.length≤900)then sH (([],af "]")::ps) x.2 else none)else some (.error b)
  |.number i=>some (.ok ((some (.int i),ps),x.2))
  |.text l=>some (.ok ((some (.str l),ps),x.2))
  |.fin=>some (.error b)
def sI:Nat->Option V->PS->TS->Pt V
 |0,_,_,_=>none
 |j+1,ov,ps,ts=>match ov with
  |none=>ob (xa ps ts) λx=>sI j x.1.1 x.1.2 x.2
  |some v=>match ps with
   |[]=>some (.ok (v,ts))
   |e::r=>if decide (e.1.length≤900)&&decide (r.length≤900)then ob (oh ((e.1++[v],e.2)::r) ts) λx=>sI j x.1.1 x.1.2 x.2 else none
noncomputable def N3:Option V->V
 |none=>.tup [.bool false,.none]
 |some v=>.tup [.bool true,v]
inductive Dq (N n:Nat)(T:List Nat)(F:FD)(m L:Nat)(hp:HP)(a:V)(hp':HP)(b:(Option V×PS)×TS):Prop
 |mk (sr:List E) (e:a=N3 b.1.1) (h:RT N hp' n T b.2 F) (es:sr.map (·.2)=b.1.2) (s:jr hp' m sr) (f:FL n L hp hp')
theorem Dq.fl {iM:HP}{a:V}{b:(Option V×PS)×TS}(q:Dq N n T F m L iM a hp' b)(f:FL n L hp iM):Dq N n T F m L hp a hp' b:=by
 cases q with
 |mk sr e h es s f'=>exact⟨sr,e,h,es,s,f.trans f'⟩
theorem xb {γ δ:Type}{r:R V}{res:Pd}{f:V->HP->R γ}{g:(Option V×PS)×TS->Res δ}{Q':γ->HP->δ->Prop}(c:Wq r res (Dq N n T F m L hp))(h:∀hp' ov sr iu,RT N hp' n T iu F->jr hp' m sr->FL n L hp hp'->Wq (f (N3 ov) hp') (g ((ov,sr.map (·.2)),iu)) Q'):Wq (az r f) (ob res g) Q' :=
 Wq.bind c λa hp' b q=>by
  cases b with
  |mk b iu =>
  cases b with
  |mk ov ps =>
  cases q with
  |mk sr e ht es s fl =>
   cases e
   cases es
   exact h hp' ov sr iu ht s fl
theorem sJ {e:E}{sr:List E}(s:jr hp m (e::sr))(hl:sr.length≤1000):bh hp (.ref m) (.int (-1))=some (E.v e) :=
 Bm s.top (by rw[List.getLast?_reverse];rfl) (by simp;(apply aI<;>trivial))
theorem XN {e:E}{sr:List E}(s:jr hp m (e::sr))(hl:sr.length≤1000):ag N (k+1) (bi "list.pop") [.ref m] hp=.ok (E.v e) (hp.set m (.list (sr.map E.v).reverse)):=by
 rw[show bi "list.pop"=.fix (.builtin "list.pop")from rfl,fB (g:=yG) "list.pop" rfl];have h1:((List.map E.v (e::sr)).reverse).getLast?=some (E.v e):=by rw[List.getLast?_reverse];rfl
 have h2:((List.map E.v (e::sr)).reverse).dropLast=(sr.map E.v).reverse:=by simp
 refine(gp (de s.top)).trans ((gp h1).trans ((eB (jo ?_)).trans ?_))
 ·simp;(apply aI<;>trivial)
 ·rw[h2]
theorem N4 {x:List V}(h:hp[m]?=some (.list x)):dN hp (.ref m) .pop=some (bi "list.pop"):=cA h
theorem Bn (h:RT N hp n T ts F){sr:List E}(s:jr hp m sr)(hm:n+9≤m)(hL:L≤m) :
  Wq (ag N (k+7) (.fix (.ref 340)) [.ref n,.ref m] hp) (oh (sr.map (·.2)) ts) (Dq N n T F m L hp):=by
 obtain⟨t,b,r,p,ok,R⟩:=h.rd;have is:=iK (N:=N) (k:=k+5) R rfl ok (kq ",");have qf:L≤hp.length:=Nat.le_trans hL (Nat.le_of_lt (List.getElem?_eq_some_iff.mp s.top).1);rw[P2];cases hs:j1 t (af ",")with
 |true =>
  open_k with[oh,L7,R.bA (k:=.cN) rfl rfl,is,hs,R.bA (k:=.take) rfl rfl];refine(lZ (k:=k+1) h).bind λay y mV h1 f1=>?_;open_k with[nk];exact .ok ⟨sr,rfl,h1,rfl,s.fr f1 hm,f1.fl qf⟩
 |false =>
  simp only[oh,hs,Bool.false_eq_true,if_false];cases sr with
  |nil=>trivial
  |cons e sr =>
   simp only[List.map_cons];split
   ·rename_i hc;simp only[Bool.and_eq_true,decide_eq_true_eq,List.length_map]at hc;refine bC λnG=>?_;obtain⟨⟨⟨c1,c2⟩,c3⟩,c4⟩:=hc;refine nG ?_;open_k with[L7,R.bA (k:=.cN) rfl rfl,is,hs,sJ s c4,R.bA (k:=.want) rfl rfl];refine(qX (k:=k) h c1 c2).bind λay y mV h1 f1=>?_;have s1:=s.fr f1 hm;have h2:=(s1.each e List.mem_cons_self).2;have h3:(ay.set m (.list (sr.map E.v).reverse))[e.1]?=some (.list e.2.1):=by rw[List.getElem?_set_ne (Nat.ne_of_lt (s1.each e List.mem_cons_self).1)];exact h2
    open_k with[N4 s1.top,XN s1 c4,w9 h3 (Nat.le_trans c3 (by decide))];exact .ok ⟨sr,rfl,h1.qU hm _,rfl,s1.tl,(f1.fl qf).trans (FL.set hL _)⟩
   ·trivial
theorem nt (t:Tok)(b:Nat):gZ hp (.tup (t.l b)) none (some 2)=.ok (.tup [.str t.kind,t.val]) hp:=by cases t<;>exact og _ _ _
noncomputable def Tok.sM (t:Tok) (g:List Nat):Bool:=match t with
 |.number _=>false
 |.fin=>[]==g
 |.text l=>l==g
 |.word l=>l==g
 |.sign l=>l==g
theorem aaS {A K g:List Nat}(i:Int)(hA:aT A=true)(hK:aT K=true)(hg:aT g=true):dB .eq (.tup [.str A,.int i]) (.tup [.str K,.str g]) hp=some false:=by
 have h1:SeqAt.shaped (.tuple [.str (S A),.int i])=true:=by
  have:PyData.strOk (S A)=true:=by unfold PyData.strOk aT at *;simpa [S]using hA
  simp[SeqAt.shaped,PyData.canLay0,PyData.canLayAll0,this,PyData.depth,PyData.depthAll]
 have h2:=jq (l:=[K,g]) (by simp[hg,hK]);simp only[List.map_cons,List.map_nil]at h2
 have h3:PyData.eqv (.tuple [.str (S A),.int i]) (.tuple [.str (S K),.str (S g)])=false:=by
  rw[mD,mD,show PyData.eqv (.int i) (.str (S g))=false from rfl,Bool.false_and,Bool.and_false]
 exact Dx (Gu (Gv A) (by unfold mc hO;rfl)) (vM _ _) h1 h2 h3
theorem vR {t:Tok}(ok:j2 t=true){K g:List Nat}(hK:aT K=true)(hg:aT g=true):dB .eq (.tup [.str t.kind,t.val]) (.tup [.str K,.str g]) hp=some (t.kind==K&&t.sM g):=by
 cases t with
 |number i=>rw[show Tok.sM (.number i) g=false from rfl,Bool.and_false];exact aaS i (i6 _) hK hg
 |fin=>exact mT (i6 .fin) rfl hK hg
 |text l=>exact mT (i6 (.text l)) ok hK hg
 |word l=>exact mT (i6 (.word l)) ok hK hg
 |sign l=>exact mT (i6 (.sign l)) ok hK hg
noncomputable def aaT (t:Tok) (b:Nat):Option (Except Int V):=match t with
 |.number i=>some (.ok (.int i))
 |.text l=>some (.ok (.str l))
 |.word _=>none
 |_=>some (.error b)
theorem vS (t:Tok)(b:Nat):Wq (ag N (k+1) (.fix (.ref 326)) [.ref n,.tup (t.l b)] hp) (aaT t b) λa hp' v=>a=v∧hp'=hp:=by
 cases t with
 |word l=>trivial
 |number i =>
  rw[rJ];open_k with[A5,eZ,mU,Tok.kind,Tok.val,aE (kq "number") (kq "number"),yb "number" "number"];exact .ok ⟨rfl,rfl⟩
 |text l =>
  rw[rJ];open_k with[A5,eZ,mU,Tok.kind,Tok.val,aE (kq "text") (kq "number"),aE (kq "text") (kq "text"),nb "text" "number",yb "text" "text"];exact .ok ⟨rfl,rfl⟩
 |fin =>
  rw[rJ];open_k with[A5,eZ,ir,Tok.kind,aE (kq "end") (kq "number"),aE (kq "end") (kq "text"),aE (kq "end") (kq "word"),nb "end" "number",nb "end" "text",nb "end" "word"];rfl
 |sign l =>
  rw[rJ];open_k with[A5,eZ,ir,Tok.kind,aE (kq "sign") (kq "number"),aE (kq "sign") (kq "text"),aE (kq "sign") (kq "word"),nb "sign" "number",nb "sign" "text",nb "sign" "word"];rfl
def zC (c:Ca):List Sx:=[(bc (tX (ax c (aa 0) .cN [(aq (aq (aa 1) (gO (xC (.int 1)))) (xC (.int 1)))])) [(aW (ax c (aa 0) .closed [(aa 1)]))] []),(aW (ao [(xC (.bool false)),(xC .none)]))]
theorem Qp (c:Ca)(N:Nat):U8 c N=(aR 2 (ax c (aa 0) .take []))::(bc (aS true [(ai (aq (aa 2) (xC (.int 0))) [(.eq,(xS "word"))]),(tX (ax c (aa 0) .cN [(xS "(")]))]) [(bo (ax c (aa 0) .take [])),(bo (ax c (aa 1) .append [(ao [(cp [(aq (aa 2) (xC (.int 1)))]),(xS ")")])]))] [(bc (ai (cV (aa 2) (xC .none) (xC (.int 2))) [(.eq,(ao [(xS "sign"),(xS "[")]))]) [(bo (ax c (aa 1) .append [(ao [(cp []),(xS "]")])]))] [(aW (ao [(xC (.bool true)),(ax c (aa 0) .fq [(aa 2)])]))])])::zC c:=rfl
theorem Bo (h:RT N hp n T ts F){e:E}{sr:List E}(s:jr hp m (e::sr))(hm:n+9≤m)(hL:L≤m)(x:Option V) :
  Wq (bj (aF (zC (ag N (k+7)))) [some (.ref n),some (.ref m),x] hp) (sH (e.2::sr.map (·.2)) ts) (Dq N n T F m L hp):=by
 refine bC λnG=>?_;obtain⟨t,b,r,p,ok,R⟩:=h.rd;refine nG ?_;simp only[sH];split
 ·rename_i hc;simp only[Bool.and_eq_true,decide_eq_true_eq,List.length_map]at hc;refine bp hc λc1 c2=>?_;have is:=iK (N:=N) (k:=k+6) R rfl ok c1;cases hs:j1 t e.2.2 with
  |true =>
   open_k with[zC,vQ,R.bA (k:=.cN) rfl rfl,sJ s c2,show bh hp (E.v e) (.int 1)=some (.str e.2.2)from rfl,is,hs,R.bA (k:=.closed) rfl rfl];have:=Bn (k:=k) h s hm hL;generalize ag N (k+7) (.fix (.ref 340)) [.ref n,.ref m] hp=rr at this ⊢;cases rr<;>exact this
  |false =>
   open_k with[zC,vQ,R.bA (k:=.cN) rfl rfl,sJ s c2,show bh hp (E.v e) (.int 1)=some (.str e.2.2)from rfl,is,hs];exact .ok ⟨e::sr,rfl,h,rfl,s,FL.refl⟩
 ·trivial
theorem Bp (h:RT N hp n T ts F){sr:List E}(s:jr hp m sr)(hm:n+9≤m)(hL:L≤m) :
  Wq (ag N (k+8) (.fix (.ref 333)) [.ref n,.ref m] hp) (xa (sr.map (·.2)) ts) (Dq N n T F m L hp):=by
 obtain⟨t,b,r,p,ok,R⟩:=h.rd;have qf:L≤hp.length:=Nat.le_trans hL (Nat.le_of_lt (List.getElem?_eq_some_iff.mp s.top).1);rw[P1];open_k with[xa,Qp,R.bA (k:=.take) rfl rfl];refine(lZ (k:=k+2) h).bind λay _ mV h1 f1=>?_;have s1:=s.fr f1 hm;obtain⟨t1,b1,r1,p1,Vx,R1⟩:=h1.rd;have ct:=vR (hp:=ay) ok (kq "sign") (kq "[");cases t with
 |number i =>
  simp only[Tok.kind]at ct;open_k with[eZ,Tok.kind,aE (kq "number") (kq "word"),nb "number" "word",bX,gW,nt,ct,nb "number" "sign",Bool.false_and,R1.bA (k:=.fq) rfl rfl];refine bC λnG=>?_;refine cg (vS (N:=N) (k:=k+6) (n:=n) (hp:=ay) (.number i) b) λa aN e eQ g0=>?_;subst eQ;subst g0;refine nG ?_;open_k with[e];exact .ok ⟨sr,rfl,h1,rfl,s1,f1.fl qf⟩
 |text l =>
  simp only[Tok.kind]at ct;open_k with[eZ,Tok.kind,aE (kq "text") (kq "word"),nb "text" "word",bX,gW,nt,ct,nb "text" "sign",Bool.false_and,R1.bA (k:=.fq) rfl rfl];refine bC λnG=>?_;refine cg (vS (N:=N) (k:=k+6) (n:=n) (hp:=ay) (.text l) b) λa aN e eQ g0=>?_;subst eQ;subst g0;refine nG ?_;open_k with[e];exact .ok ⟨sr,rfl,h1,rfl,s1,f1.fl qf⟩
 |fin =>
  simp only[Tok.kind]at ct;have e:=vS (N:=N) (k:=k+6) (n:=n) (hp:=ay) .fin b;open_k with[eZ,Tok.kind,aE (kq "end") (kq "word"),nb "end" "word",bX,gW,nt,ct,nb "end" "sign",Bool.false_and,R1.bA (k:=.fq) rfl rfl];exact congrArg (λr=>az r _) e
 |sign g =>
  simp only[Tok.kind]at ct;cases hg:(g==af "[")with
  |false =>
   have e:=vS (N:=N) (k:=k+6) (n:=n) (hp:=ay) (.sign g) b;open_k with[eZ,Tok.kind,aE (kq "sign") (kq "word"),nb "sign" "word",bX,gW,nt,ct,Tok.sM,hg,Bool.and_false,R1.bA (k:=.fq) rfl rfl];exact congrArg (λr=>az r _) e
  |true =>
   by_cases hc:sr.length≤900
   ·simp only[hg,if_true,List.length_map,hc,decide_true];have hlen:((sr.map E.v).reverse).length≤1000000:=by simp;(apply aI<;>trivial)
    have f3:FL n L ay (List.set (ay++[O.list []]) m (.list ((sr.map E.v).reverse++[E.v (ay.length,[],af "]")]))):=(Fr.fl (Fr.app _) (Nat.le_trans qf f1.len)).trans (FL.set hL _);have ht:=Bo (k:=k) ((h1.app [.list []]).qU hm _) (s1.push [] (af "]")) hm hL (some (.tup (Tok.l (.sign g) b)));have AI:(ay++[O.list []])[m]?=some (.list (sr.map E.v).reverse):=by rw[List.getElem?_append_left (List.getElem?_eq_some_iff.mp s1.top).1];exact s1.top
    open_k with[eZ,Tok.kind,aE (kq "sign") (kq "word"),nb "sign" "word",bX,gW,nt,ct,Tok.sM,hg,yb "sign" "sign",Bool.and_self,i5 s1.top,i0 AI hlen];exact ht.mono λ_ _ _ q=>q.fl ((f1.fl qf).trans f3)
   ·simp only[hg,if_true,List.length_map,hc,decide_false,Bool.false_eq_true,if_false];trivial
 |word w =>
  simp only[vQ];by_cases hs:j1 t1 (af "(")=true
  ·by_cases hc:sr.length≤900
   ·simp only[hs,Bool.true_and,List.length_map,hc,decide_true,if_true];have is:=iK (N:=N) (k:=k+6) R1 rfl Vx (kq "(");open_k with[eZ,Tok.kind,aE (kq "word") (kq "word"),yb "word" "word",R1.bA (k:=.cN) rfl rfl,is,hs,R1.bA (k:=.take) rfl rfl];refine(lZ (k:=k+2) h1).bind λaN _ qZ h2 f2=>?_;have s2:=s1.fr f2 hm;have hlen:((sr.map E.v).reverse).length≤1000000:=by simp;(apply aI<;>trivial)
    have f3:FL n L aN (List.set (aN++[O.list [.str w]]) m (.list ((sr.map E.v).reverse++[E.v (aN.length,[.str w],af ")")]))):=(Fr.fl (Fr.app _) (Nat.le_trans qf (f1.trans f2).len)).trans (FL.set hL _);have ht:=Bo (k:=k) ((h2.app [.list [.str w]]).qU hm _) (s2.push [.str w] (af ")")) hm hL (some (.tup (Tok.l (.word w) b)));have AI:(aN++[O.list [.str w]])[m]?=some (.list (sr.map E.v).reverse):=by rw[List.getElem?_append_left (List.getElem?_eq_some_iff.mp s2.top).1];exact s2.top
    open_k with[i5 s2.top,mU,Tok.val,i0 AI hlen];exact ht.mono λ_ _ _ q=>q.fl (((f1.trans f2).fl qf).trans f3)
   ·simp only[hs,Bool.true_and,List.length_map,hc,decide_false,Bool.false_eq_true,if_false];trivial
  ·simp only[hs,Bool.false_and,Bool.false_eq_true,if_false];trivial
def N5 (c:Ca):List Sx:=[(bc (ai (aD c (xC (bi "len")) [(aa 1)]) [(.eq,(xC (.int 0)))]) [(aW (aa 3))] []),
 (bo (ax c (aq (aq (aa 1) (gO (xC (.int 1)))) (xC (.int 0))) .append [(aa 3)])),
 (eI [2,3] (ax c (aa 0) .closed [(aa 1)]))]
def xc (c:Ca)(N:Nat):List Sx:=[(fC N (tX (aa 2)) (N5 c))]
def Je (c:Ca)(N:Nat):List Sx:=(eI [2,3] (ax c (aa 0) .opened [(aa 1)]))::xc c N
theorem Qq (c:Ca)(N:Nat):U9 c N=[(aR 1 (cp [])),(fC N (tX (xC (.bool true))) (Je c N))]:=rfl
def ka (c:Ca)(N M M2:Nat)(loc:Loc)(hp:HP):R (Fl×Loc):=az (aF (xc c M2) loc hp) (wW (tX (xC (.bool true))) (aF (Je c N)) M)
inductive DL (N n:Nat)(T:List Nat)(F:FD)(L:Nat)(hp:HP)(a:Fl×Loc)(hp':HP)(b:V×TS):Prop
 |mk (loc:Loc) (e:a=(.ret b.1,loc)) (h:RT N hp' n T b.2 F) (f:FL n L hp hp')
theorem DL.fl {iM:HP}{a:Fl×Loc}{b:V×TS}(q:DL N n T F L iM a hp' b)(f:FL n L hp iM):DL N n T F L hp a hp' b:=by
 cases q with
 |mk loc e h f'=>exact⟨loc,e,h,f.trans f'⟩
noncomputable abbrev VE (n m:Nat):Option V->Loc
 |none=>[some (.ref n),some (.ref m),some (.bool false),some .none]
 |some v=>[some (.ref n),some (.ref m),some (.bool true),some v]
theorem aaU (c:Ca)(M M2:Nat)(loc:Loc):ka c N M (M2+1) [some (.ref n),some (.ref m),some (.bool false),some .none] hp=dI (tX (xC (.bool true))) (aF (Je c N)) M [some (.ref n),some (.ref m),some (.bool false),some .none] hp:=by
 open_k with[ka,xc,jW]
theorem Jf (v x y:Option V):Eo [2,3] [some (.ref n),some (.ref m),x,y] (N3 v) hp=.ok (.next,VE n m v) hp:=by cases v<;>rfl
theorem Jg (hm:n+9≤m)(hL:L≤m)(j:Nat):∀(M M2:Nat) (ov:Option V) (sr:List E) {hp:HP} {ts:TS},RT N hp n T ts F->jr hp m sr->j≤M->j≤M2->j≤N ->
  Wq (ka (ag N (k+8)) N M M2 (VE n m ov) hp) (sI j ov (sr.map (·.2)) ts) (DL N n T F L hp):=by
 induction j with
 |zero=>intros;trivial
 |succ j ih =>
  intro M M2 ov sr hp ts h s hM Zv hN;cases M2 with
  |zero=>exact absurd Zv (Nat.not_succ_le_zero _)
  |succ M2 =>
  cases ov with
  |none =>
   cases M with
   |zero=>exact absurd hM (Nat.not_succ_le_zero _)
   |succ M =>
   rw[aaU _ _ _ [],jW];open_k with[Je,h.bA (k:=.opened) rfl rfl];refine xb (Bp (k:=k) h s hm hL) λay ov Jh mV h1 s1 f1=>?_;open_k with[Jf];exact(ih M N ov Jh h1 s1 (Nat.le_of_succ_le_succ hM) (Nat.le_of_succ_le hN) (Nat.le_of_succ_le hN)).mono λ_ _ _ q=>q.fl f1
  |some v =>
   cases sr with
   |nil =>
    open_k with[sI,List.map_nil,ka,xc,N5,jW,len_list (N:=N) (k:=k+7) s.top (show([].map E.v).reverse.length≤1000000 by decide),show((([].map E.v).reverse.length:Int)==0)=true from rfl];exact .ok ⟨_,rfl,h,FL.refl⟩
   |cons e sr =>
    simp only[sI,List.map_cons];cases C6:decide (e.2.1.length≤900)with
    |false =>
     simp only[List.length_map,C6,Bool.false_and,Bool.false_eq_true,if_false];trivial
    |true =>
    cases uT:decide (sr.length≤900)with
    |false =>
     simp only[List.length_map,C6,uT,Bool.and_false,Bool.false_eq_true,if_false];trivial
    |true =>
     have d1:=of_decide_eq_true C6;have d2:=of_decide_eq_true uT;have hlen:((e::sr).map E.v).reverse.length≤1000000:=by simp;(apply aI<;>first|assumption|exact rfl)
     have h0:((((e::sr).map E.v).reverse.length:Int)==0)=false:=by simp;(apply RA<;>first|assumption|exact rfl)
     have he:=s.each e List.mem_cons_self;have ap:=i0 (N:=N) (k:=k+7) he.2 (Nat.le_trans d1 (by decide)) v;have s1:=s.up (e.2.1++[v]);have h1:=h.qU (m:=e.1) (by apply RE<;>first|assumption|exact rfl) (.list (e.2.1++[v]));open_k with[List.length_map,C6,uT,Bool.and_self,if_true,ka,xc,N5,jW,len_list (N:=N) (k:=k+7) s.top hlen,h0,sJ s (Nat.le_trans d2 (by decide)),show bh hp (E.v e) (.int 0)=some (.ref e.1)from rfl,i5 he.2,ap,h1.bA (k:=.closed) rfl rfl];refine xb (Bn (k:=k+1) h1 s1 hm hL) λay ov Jh mV h2 s2 f1=>?_;have q:=(ih M M2 ov Jh h2 s2 (Nat.le_of_succ_le hM) (Nat.le_of_succ_le_succ Zv) (Nat.le_of_succ_le hN)).mono λ_ _ _ q=>q.fl ((FL.set (hp:=hp) (show L≤e.1 by apply RE<;>first|assumption|exact rfl) (.list (e.2.1++[v]))).trans f1);cases ov<;>(simp only[N3,VE,ka,xc,N5,NL,yW,u3,FV,FW,FX,FY,yX,u4,u5,rK,yY,u6,u7,yZ,u9,o9,pb,pd,pg,ph,pj,FZ,rL,pk,NM,F8,NN,F9,rM,rN,rP,rQ,rR,rS,rT,vb,vc,vd,ve,vf,vg,y0,vh,Ga,y7,y8,y9,vi,vj,rU,pq,pB,pC,pD,vm,rV,vn,rW,rX,vo,rY,rZ,r7,za,vp,vq,vr,pE,pF,pG,r8,qO,zb,vt,vw,vx,r9,sd,se,Gb,zc,zd,vy,qP,n5,qQ,qR,Ge,ze,zf,sf,sg,pH,pI,zg,zh,jX,jY,fO,vA,vB,Gf,jf,sj,n7,NP,NQ,Gg,Gh,Gi,Gj,Gk,su,zp,zq,Gm,sx,vG,zr,zt,Gn,zu,zw,List.getElem?_cons_zero,List.getElem?_cons_succ,List.set_cons_zero,List.set_cons_succ,if_true,if_false,ite_true,ite_false,Bool.false_eq_true,Bool.not_true,Bool.not_false,beq_self_eq_true,reduceCtorEq,Option.map_some,Option.map_none,Bool.true_beq,Bool.false_beq,Bool.true_eq_false,lj,lQ,zi,zj,zk,zl,zm,ip,vz,n6,si,gU,vC,kC,pJ,zo,vE,Gl,nk]at q ⊢;exact q)
def sX (ts:TS):Pt V:=sI 60 none [] ts
theorem Wq.then {α β γ:Type}{r:R α}{res:Res β}{Q:α->HP->β->Prop}{f:α->HP->R γ}{Q':γ->HP->β->Prop}(c:Wq r res Q)(h:∀a hp' b,Q a hp' b->∃a',f a hp'=.ok a' hp'∧Q' a' hp' b):Wq (az r f) res Q' :=
 match res,c with
 |none,_=>trivial
 |some (.error _),c=>congrArg (λr=>az r f) c
 |some (.ok b),⟨a,hp',e,q⟩=>let⟨a',e',q'⟩:=h a hp' b q;⟨a',hp',(congrArg (λr=>az r f) e).trans e',q'⟩
theorem Ji (h:RT N hp n T ts F)(hN:60≤N):vP N hp n T F (λv=>v) (ag N (k+9) (.fix (.ref 347)) [.ref n] hp) (sX ts):=by
 have hln:=h.lt;have h1:=h.app [.list []];have s1:jr (hp++[O.list []]) hp.length []:=⟨bK _ _,(λ_ h=>by cases h),List.Pairwise.nil⟩;refine bC λnG=>?_;obtain⟨M,rfl⟩:∃M,N=M+1:=⟨N - 1,by apply Hf<;>first|assumption|exact rfl⟩;obtain⟨t,b,r,p,ok,R⟩:=h1.rd;refine nG ?_;rw[P4];open_k with[Qq];rw[jW];open_k with[Je,R.bA (k:=.opened) rfl rfl];refine xb (Bp (k:=k) h1 s1 (L:=hp.length) (by assumption) (Nat.le_refl _)) λay ov Jh mV h2 s2 f1=>?_;open_k with[Jf];rw[<- nk];refine(Jg (k:=k) (L:=hp.length) (by assumption) (Nat.le_refl _) 59 M (M+1) ov Jh h2 s2 (by apply D9<;>first|assumption|exact rfl) (by apply bR<;>first|assumption|exact rfl) (by apply bR<;>first|assumption|exact rfl)).then ?_;rintro _ aN b' ⟨loc,rfl,h3,f2⟩;refine⟨_,rfl,rfl,h3,FL.fr ?_⟩;exact(FL.trans ⟨by simp,λj _ h=>List.getElem?_append_left h⟩ (f1.trans f2))
inductive Gz (N n:Nat)(T:List Nat)(ts:TS)(o:Option HP)(F:FD)(hp:HP):Prop
 |mk (hp':HP) (e:o=some hp') (h:RT N hp' n T ts F) (f:Fr n hp hp')
inductive Zw (N n:Nat)(T:List Nat)(ts:TS)(r:R V)(F:FD)(hp:HP):Prop
 |mk (hp':HP) (e:r=.ok .none hp') (h:RT N hp' n T ts F) (f:Fr n hp hp')
inductive aaV (N n:Nat)(T:List Nat)(ts:TS)(r:R V)(F:FD)(hp:HP):Prop
 |mk (x:V) (hp':HP) (e:r=.ok x hp') (h:RT N hp' n T ts F) (f:Fr n hp hp')
theorem RT.Bg (h:RT N hp n T ts F)(v:Int):Gz N n T ts (dn hp (.ref n) .cb (.int v)) {F with gs:=v} hp:=by
 refine kg h λt b r p g0 ok R rest=>?_;subst g0;exact⟨_,R.Bg v,⟨t,b,r,p,rfl,ok,R.s1 (t.l b) v F.ss,rest⟩,Fr.set _ (by apply Nat.le_add_right<;>trivial) (by apply dA<;>trivial)⟩
theorem RT.Bh (h:RT N hp n T ts F)(v:Int):Gz N n T ts (dn hp (.ref n) .b9 (.int v)) {F with ss:=v} hp:=by
 refine kg h λt b r p g0 ok R rest=>?_;subst g0;exact⟨_,R.Bh v,⟨t,b,r,p,rfl,ok,R.s1 (t.l b) F.gs v,rest⟩,Fr.set _ (by apply Nat.le_add_right<;>trivial) (by apply dA<;>trivial)⟩
theorem RT.pK (h:RT N hp n T ts F)(v:List V):Gz N n T ts (dn hp (.ref (n+4)) .goal (.tup v)) {F with goal:=v} hp:=by
 refine kg h λt b r p g0 ok R rest=>?_;subst g0;exact⟨_,R.pK v,⟨t,b,r,p,rfl,ok,R.s5 v F.shown,rest⟩,Fr.set _ (by apply Nat.le_add_right<;>trivial) (by apply dA<;>trivial)⟩
theorem RT.qV (h:RT N hp n T ts F)(v:List V):Gz N n T ts (dn hp (.ref (n+4)) .shown (.tup v)) {F with shown:=v} hp:=by
 refine kg h λt b r p g0 ok R rest=>?_;subst g0;exact⟨_,R.qV v,⟨t,b,r,p,rfl,ok,R.s5 F.goal v,rest⟩,Fr.set _ (by apply Nat.le_add_right<;>trivial) (by apply dA<;>trivial)⟩
theorem RT.bG (h:RT N hp n T ts F)(v:V)(hl:F.qs.length≤1000):Zw N n T ts (ag N (k+1) (bi "list.append") [.ref (n+8),v] hp) {F with qs:=F.qs++[v]} hp:=by
 refine kg h λt b r p g0 ok R rest=>?_;subst g0;exact⟨_,i0 R.o8 (Nat.le_trans hl (by decide)) v,⟨t,b,r,p,rfl,ok,R.s8 (F.qs++[v]),rest⟩,Fr.set _ (by apply Nat.le_add_right<;>trivial) (by apply dA<;>trivial)⟩
theorem RT.post (h:RT N hp n T ts F)(v:V)(hl:F.ts.length≤1000):Zw N n T ts (ag N (k+2) (.fix (.ref 133)) [.ref (n+4),v] hp) {F with ts:=F.ts++[v]} hp:=by
 refine kg h λt b r p g0 ok R rest=>?_;subst g0;refine⟨_,?_,⟨t,b,r,p,rfl,ok,R.s7 (F.ts++[v]),rest⟩,Fr.set _ (by apply Nat.le_add_right<;>trivial) (by apply dA<;>trivial)⟩;rw[PF];open_k with[UQ,R.Be,i5 R.o7,i0 (N:=N) (k:=k) R.o7 (Nat.le_trans hl (by decide)) v]
theorem RT.ki (h:RT N hp n T ts F)(u v:V)(hl:F.vs.length≤1000):aaV N n T ts (ag N (k+2) (.fix (.ref 126)) [.ref (n+4),u,v] hp) {F with vs:=F.vs++[.tup [u,v]]} hp:=by
 refine bC λnG=>?_;refine kg h λt b r p g0 ok R rest=>?_;subst g0;refine nG ?_;have R':=R.s6 (F.vs++[.tup [u,v]]);refine⟨.int (((F.vs++[V.tup [u,v]]).length:Int) - 1),_,?_,⟨t,b,r,p,rfl,ok,R',rest⟩,Fr.set _ (by apply Nat.le_add_right<;>trivial) (by apply dA<;>trivial)⟩;rw[PE];open_k with[UP,R.fvars,i5 R.o6,i0 (N:=N) (k:=k) R.o6 (Nat.le_trans hl (by decide)) (.tup [u,v]),R'.fvars,len_list (N:=N) (k:=k) R'.o6 (show(F.vs++[V.tup [u,v]]).length≤1000000 by simp;(apply aI<;>trivial))]
abbrev Pf:=Res (TS×FD)
def Bq (N:Nat)(hp:HP)(n:Nat)(T:List Nat)(r:R V)(res:Pf):Prop:=Wq r res λ_ hp' b=>RT N hp' n T b.1 b.2∧Fr n hp hp'
noncomputable def Tok.name:Tok->Option (List Nat)
 |.word l=>some l
 |.text l=>some l
 |_=>none
def fU (ts:TS)(F:FD):Pf:=ob (jI ts) λd=>ob (gq (af ":") d.2) λy=>match y.2 with
 |[]=>none
 |(t,b)::r=>match t.name with
  |none=>some (.error b)
  |some w=>ob (nz () r) λz=>if F.vs.length≤1000 then some (.ok (z.2,{F with vs:=F.vs++[.tup [.str w,.tup (d.1.map pv)]]}))else none
theorem Jj (t:Tok):(af "word"==t.kind||af "text"==t.kind)=t.name.isSome:=by cases t<;>kernel_rfl
theorem MR {t:Tok}{w:List Nat}(h:t.name=some w):t.val=.str w:=by cases t<;>cases h<;>rfl
theorem GA (h:RT N hp n T ts F)(hN:60≤N):Bq N hp n T (ag N (k+9) (.fix (.ref 391)) [.ref n] hp) (fU ts F):=by
 refine bC λnG=>?_;obtain⟨t,b,r,p,ok,R⟩:=h.rd;refine nG ?_;rw[P8];open_k with[Vc,R.bA (k:=.domain) rfl rfl];refine(Mq (k:=k) h (by apply bR<;>trivial)).bind λay d mV h1 f1=>?_;open_k with[h1.bA (k:=.want) rfl rfl];refine(qX (k:=k+2) h1 (by decide) (by decide)).bind λaN _ qZ h2 f2=>?_;refine bC λnG=>?_;obtain⟨t2,b2,r2,p2,Zx,R2⟩:=h2.rd;refine nG ?_;have kn:=Jj t2;have i2:=j0 (hp:=aN) (a:=af "word") (b:=af "text") (x:=t2.kind) (by decide) (by decide) (i6 t2);rw[kn]at i2;cases e:t2.name with
 |none =>
  rw[e]at i2;open_k with[R2.ahead,eZ,ir,i2,Option.isSome_none,e];rfl
 |some w =>
  rw[e]at i2;open_k with[R2.ahead,eZ,i2,Option.isSome_some,e,R2.flat,R2.sG (k:=.ki) rfl rfl,R2.bA (k:=.take) rfl rfl];refine(lZ (k:=k+3) h2).bind λbL _ N0 h3 f3=>?_;by_cases hl:F.vs.length≤1000
  ·refine bC λnG=>?_;obtain⟨x,lh,e4,h4,f4⟩:=h3.ki (k:=k+6) (.str w) (.tup (d.map pv)) hl;refine nG ?_;open_k with[mU,MR e,e4,hl];exact .ok ⟨h4,((f1.trans f2).trans f3).trans f4⟩
  ·simp only[hl,if_false];trivial
def f7 (ts:TS)(F:FD):Pf:=match ts with
 |[]=>none
 |(_,b)::_=>if F.qs.length≤1000∧F.ts.length≤1000 then ob (sX ts) λd=>some (.ok (d.2,{F with qs:=F.qs++[.int b],ts:=F.ts++[d.1]}))else none
theorem Br (h:RT N hp n T ts F)(hN:60≤N):Bq N hp n T (ag N (k+10) (.fix (.ref 398)) [.ref n] hp) (f7 ts F):=by
 refine bC λnG=>?_;obtain⟨t,b,r,p,ok,R⟩:=h.rd;refine nG ?_;rw[P9];simp only[f7];by_cases hl:F.qs.length≤1000∧F.ts.length≤1000
 ·refine bC λnG=>?_;obtain⟨ay,e1,h1,f1⟩:=h.bG (k:=k+8) (.int b) hl.1;refine nG ?_;open_k with[Vd,hl,and_self,R.ahead,ir,R.eN,i5 R.o8,e1,h1.flat,h1.sG (k:=.post) rfl rfl,h1.bA (k:=.data) rfl rfl];refine(Ji (k:=k) h1 hN).bind λaN v qZ h2 f2=>?_;refine bC λnG=>?_;obtain⟨bL,e3,h3,f3⟩:=h2.post (k:=k+7) v hl.2;refine nG ?_;open_k with[e3];exact .ok ⟨h3,(f1.trans f2).trans f3⟩
 ·simp only[hl,if_false];trivial
def mW (bG:Nat)(ts:TS)(F:FD):Pf:=if decide (0≤F.gs)then some (.error bG)else match ts with
 |[]=>none
 |(t,b)::r=>ob (nz () r) λz=>match t with
  |.word w=>if[af "satisfy",af "minimize",af "maximize"].any (·==w)then(if w==af "satisfy" then some (.ok (z.2,{F with gs:=b,goal:=[.str w,.none]}))else ob (BR z.2) λy=>some (.ok (y.2,{F with gs:=b,goal:=[.str w,.int y.1]})))else some (.error b)
  |_=>some (.error b)
theorem Jk (t:Tok):(t.kind==af "word")=(match t with|.word _=>true|_=>false):=by cases t<;>kernel_rfl
theorem VF (h:RT N hp n T ts F)(bG:Nat):Bq N hp n T (ag N (k+7) (.fix (.ref 405)) [.ref n,.int bG] hp) (mW bG ts F):=by
 obtain⟨t,b,r,p,ok,R⟩:=h.rd;rw[Qa];simp only[mW];cases hg:decide (0≤F.gs)with
 |true =>
  open_k with[L9,R.vL,hg];rfl
 |false =>
  refine bC λnG=>?_;obtain⟨ay,e1,h1,f1⟩:=h.Bg b;refine nG ?_;open_k with[L9,R.vL,hg,R.ahead,ir,e1,h1.bA (k:=.take) rfl rfl];refine(lZ (k:=k+1) h1).bind λaN _ qZ h2 f2=>?_;have kw:=Jk t;have cn:=lS (i6 t) (kq "word") aN;rw[kw]at cn;cases t with
  |word w =>
   have iw:=w7 (hp:=aN) (l:=[af "satisfy",af "minimize",af "maximize"]) (x:=w) (by decide) ok;simp only[List.map_cons,List.map_nil]at iw;have cs:=aE (show aT w=true from ok) (kq "satisfy") aN;cases hi:[af "satisfy",af "minimize",af "maximize"].any (·==w)with
   |false =>
    rw[hi]at iw;open_k with[eZ,cn,mU,Tok.val,iw,ir,hi];rfl
   |true =>
    rw[hi]at iw;refine bC λnG=>?_;cases hw:(w==af "satisfy")with
    |true =>
     refine nG ?_;rw[hw]at cs;refine bC λnG=>?_;obtain⟨bL,e3,h3,f3⟩:=h2.pK [.str w,.none];refine nG ?_;open_k with[eZ,cn,mU,Tok.val,iw,cs,h2.flat,e3,hi,hw];exact .ok ⟨h3,(f1.trans f2).trans f3⟩
    |false =>
     refine nG ?_;rw[hw]at cs;open_k with[eZ,cn,mU,Tok.val,iw,cs,hi,hw,h2.bA (k:=.number) rfl rfl];refine(Gw (k:=k) h2).bind λbL i N0 h3 f3=>?_;refine bC λnG=>?_;obtain⟨lh,e4,h4,f4⟩:=h3.pK [.str w,.int i];refine nG ?_;open_k with[h3.flat,e4];exact .ok ⟨h4,((f1.trans f2).trans f3).trans f4⟩
  |_ =>
   open_k with[eZ,cn,ir];rfl
def l0 (bG:Nat)(ts:TS)(F:FD):Pf:=if decide (0≤F.ss)then some (.error bG)else match ts with
 |[]=>none
 |(_,b)::_=>ob (sX ts) λd=>match d.1 with
  |.tup l=>some (.ok (d.2,{F with ss:=b,shown:=l}))
  |_=>none
theorem Mr (h:RT N hp n T ts F)(hN:60≤N)(bG:Nat):Bq N hp n T (ag N (k+10) (.fix (.ref 412)) [.ref n,.int bG] hp) (l0 bG ts F):=by
 refine bC λnG=>?_;obtain⟨t,b,r,p,ok,R⟩:=h.rd;refine nG ?_;rw[Qb];simp only[l0];cases hg:decide (0≤F.ss)with
 |true =>
  open_k with[Ma,R.zx,hg];rfl
 |false =>
  refine bC λnG=>?_;obtain⟨ay,e1,h1,f1⟩:=h.Bh b;refine nG ?_;open_k with[Ma,R.zx,hg,R.ahead,ir,e1,h1.bA (k:=.data) rfl rfl];refine(Ji (k:=k) h1 hN).bind λaN v qZ h2 f2=>?_;cases v with
  |tup l =>
   refine bC λnG=>?_;obtain⟨bL,e3,h3,f3⟩:=h2.qV l;refine nG ?_;open_k with[h2.flat,e3];exact .ok ⟨h3,(f1.trans f2).trans f3⟩
  |_=>trivial
def Tok.vT (t:Tok)(g:List Nat):Bool:=t.kind==af "word"&&t.sM g
def mX (t:Tok)(b:Nat)(ts:TS)(F:FD):Pf:=if t.vT (af "var")then fU ts F else if t.vT (af "constraint")then f7 ts F
 else if t.vT (af "solve")then mW b ts F else if t.vT (af "output")then l0 b ts F else some (.error b)
def cR (ts:TS)(F:FD):Pf:=match ts with
 |[]=>none
 |(t,b)::r=>ob (nz () r) λh=>ob (mX t b h.2 F) λx=>ob (gq (af ";") x.1) λy=>some (.ok (y.2,x.2))
def zD (c:Ca):List Sx:=[(bo (ax c (aa 0) .want [(xS ";")]))]
theorem Qr (c:Ca)(N:Nat):Ve c N=(aR 1 (ax c (aa 0) .take []))::(bc (ai (cV (aa 1) (xC .none) (xC (.int 2))) [(.eq,(ao [(xS "word"),(xS "var")]))]) [(bo (ax c (aa 0) .jB []))] [(bc (ai (cV (aa 1) (xC .none) (xC (.int 2))) [(.eq,(ao [(xS "word"),(xS "constraint")]))]) [(bo (ax c (aa 0) .constraint []))] [(bc (ai (cV (aa 1) (xC .none) (xC (.int 2))) [(.eq,(ao [(xS "word"),(xS "solve")]))]) [(bo (ax c (aa 0) .goal [(aq (aa 1) (xC (.int 2)))]))] [(bc (ai (cV (aa 1) (xC .none) (xC (.int 2))) [(.eq,(ao [(xS "word"),(xS "output")]))]) [(bo (ax c (aa 0) .output [(aq (aa 1) (xC (.int 2)))]))] [(c8 (xS "var, constraint, solve or output is wanted") (aq (aa 1) (xC (.int 2))))])])])])::zD c:=rfl
theorem Jl (h:RT N hp n T ts F)(x:Option V):Wq (bj (aF (zD (ag N (k+6)))) [some (.ref n),x] hp) (ob (gq (af ";") ts) λy=>some (.ok (y.2,F))) λ_ hp' b=>RT N hp' n T b.1 b.2∧Fr n hp hp':=by
 open_k with[zD,h.bA (k:=.want) rfl rfl];refine(qX (k:=k) h (by decide) (by decide)).bind λay _ mV h1 f1=>?_;open_k with[nk];exact .ok ⟨h1,f1⟩
theorem VG (h:RT N hp n T ts F)(hN:60≤N):Bq N hp n T (ag N (k+11) (.fix (.ref 419)) [.ref n] hp) (cR ts F):=by
 refine bC λnG=>?_;obtain⟨t,b,r,p,ok,R⟩:=h.rd;refine nG ?_;rw[Qc];open_k with[cR,Qr,R.bA (k:=.take) rfl rfl];refine(lZ (k:=k+5) h).bind λay _ mV h1 f1=>?_;have tl:∀(a:V) aN (b':TS×FD),(RT N aN n T b'.1 b'.2∧Fr n ay aN)->Wq (bj (aF (zD (ag N (k+10)))) [some (.ref n),some (.tup (t.l b))] aN) (ob (gq (af ";") b'.1) λy=>some (.ok (y.2,b'.2))) λ_ hp' b=>RT N hp' n T b.1 b.2∧Fr n hp hp':=λa aN b' q=>(Jl (k:=k+4) q.1 _).mono λ_ _ _ q'=>⟨q'.1,(f1.trans q.2).trans q'.2⟩;have c1:=vR (hp:=ay) ok (kq "word") (kq "var");have c2:=vR (hp:=ay) ok (kq "word") (kq "constraint");have c3:=vR (hp:=ay) ok (kq "word") (kq "solve");have c4:=vR (hp:=ay) ok (kq "word") (kq "output");have w:∀g,(t.kind==af "word"&&t.sM g)=t.vT g:=λ_=>rfl;rw[w]at c1 c2 c3 c4;simp only[mX];cases DI:t.vT (af "var")with
 |true =>
  rw[DI]at c1;open_k with[bX,gW,nt,c1,h1.bA (k:=.jB) rfl rfl];refine(GA (k:=k+1) h1 hN).bind ?_;intro a aN b' q;exact tl a aN b' q
 |false =>
  rw[DI]at c1;cases qe:t.vT (af "constraint")with
  |true =>
   rw[qe]at c2;open_k with[bX,gW,nt,c1,c2,h1.bA (k:=.constraint) rfl rfl];refine(Br (k:=k) h1 hN).bind ?_;intro a aN b' q;exact tl a aN b' q
  |false =>
   rw[qe]at c2;cases Zy:t.vT (af "solve")with
   |true =>
    rw[Zy]at c3;open_k with[bX,gW,nt,ir,c1,c2,c3,h1.bA (k:=.goal) rfl rfl];refine(VF (k:=k+3) h1 b).bind ?_;intro a aN b' q;exact tl a aN b' q
   |false =>
    rw[Zy]at c3;cases Zz:t.vT (af "output")with
    |true =>
     rw[Zz]at c4;open_k with[bX,gW,nt,ir,c1,c2,c3,c4,h1.bA (k:=.output) rfl rfl];refine(Mr (k:=k) h1 hN b).bind ?_;intro a aN b' q;exact tl a aN b' q
    |false =>
     rw[Zz]at c4;open_k with[bX,gW,nt,ir,c1,c2,c3,c4];rfl
def kG:Nat->TS->FD->Pf
 |0,_,_=>none
 |j+1,ts,F=>match ts with
  |[]=>none
  |(t,_)::_=>if t.kind==af "end" then some (.ok (ts,F))else ob (cR ts F) λx=>kG j x.1 x.2
def sN:Tx:=(ai (aq (aH (aa 0) .ahead) (xC (.int 0))) [(.ne,(xS "end"))])
inductive aaW (N n:Nat)(T:List Nat)(loc:Loc)(hp:HP)(a:Fl×Loc)(hp':HP)(b:TS×FD):Prop
 |mk (e:a=(.next,some (.ref n)::loc)) (h:RT N hp' n T b.1 b.2) (f:Fr n hp hp')
theorem Jm (hN:60≤N)(loc:Loc)(j:Nat):∀(M:Nat) {hp:HP} {ts:TS} {F:FD},RT N hp n T ts F->j≤M ->
  Wq (dI sN (aF [(bo (ax (ag N (k+11)) (aa 0) .item []))]) M (some (.ref n)::loc) hp) (kG j ts F) (aaW N n T loc hp):=by
 induction j with
 |zero=>intros;trivial
 |succ j ih =>
  intro M hp ts F h hj;cases M with
  |zero=>exact absurd hj (Nat.not_succ_le_zero _)
  |succ M =>
  have mi:=h.bA (k:=.item) rfl rfl;cases h.rd with
  |mk t b r p ok R =>
  have cn:=lS (i6 t) (kq "end") hp;rw[jW];simp only[kG];cases e:t.kind==af "end" with
  |true =>
   rw[e]at cn;open_k with[sN,R.ahead,eZ,cn];exact .ok ⟨rfl,h,Fr.refl _ _⟩
  |false =>
   rw[e]at cn;open_k with[sN,R.ahead,eZ,cn,mi];refine(VG (k:=k) h hN).bind λa ay b' q=>?_
   exact(ih M q.1 (Nat.le_of_succ_le_succ hj)).mono λ_ _ _ q'=>by
    cases q' with
    |mk e h f=>exact⟨e,h,q.2.trans f⟩
end
section
variable {N k n L m:Nat}{hp hp':HP}
def Ext (hp hp':HP):Prop:=∃l,hp'=hp++l
theorem Ext.refl:Ext hp hp:=⟨[],(List.append_nil _).symm⟩
theorem Ext.trans {au bJ:HP}(a:Ext hp au)(b:Ext au bJ):Ext hp bJ:=by
 refine aQ a λl aC=>?_;subst aC;refine aQ b λl' aC=>?_;subst aC;exact⟨l++l',List.append_assoc _ _ _⟩
theorem Ext.new (o:O):Ext hp (hp++[o]):=⟨[o],rfl⟩
theorem Ext.at (e:Ext hp hp'){j:Nat}{o:O}(h:hp[j]?=some o):hp'[j]?=some o:=by
 refine aQ e λl aC=>?_;subst aC;rw[List.getElem?_append_left (List.getElem?_eq_some_iff.mp h).1];exact h
theorem Ext.fr (e:Ext hp hp'):Fr n hp hp':=by
 refine aQ e λl aC=>?_;subst aC;exact Fr.app l
inductive jh (hp:HP):It->List V->Prop
 |vals (l:List V):jh hp (.vals l) l
 |lst (i k:Nat) (full:List V) (h:hp[i]?=some (.list full)):jh hp (.lst i k) (full.drop k)
theorem Ms {i k:Nat}{full:List V}(h:hp[i]?=some (.list full))(e:full[k]?=none):(It.lst i k).next hp=some none:=by
 refine(cA (de h)).trans ?_;rw[e]
theorem Mt {i k:Nat}{full:List V}{v:V}(h:hp[i]?=some (.list full))(e:full[k]?=some v):(It.lst i k).next hp=some (some (v,.lst i (k+1))):=by
 refine(cA (de h)).trans ?_;rw[e]
theorem jh.aaX {it:It}{l:List V}(h:jh hp it l)(e:l=[]):it.next hp=some none:=by
 cases h with
 |vals=>rw[e];rfl
 |lst i k full h=>exact Ms h (List.getElem?_eq_none_iff.mpr (List.drop_eq_nil_iff.mp e))
theorem jh.nil {it:It}(h:jh hp it []):it.next hp=some none:=h.aaX rfl
inductive N6 (it:It)(hp:HP)(v:V)(l:List V):Prop
 |mk (gb:It) (e:it.next hp=some (some (v,gb))) (h:∀hp',Ext hp hp'->jh hp' gb l)
theorem jh.XO {it:It}{v:V}{l m:List V}(h:jh hp it m)(e:m=v::l):N6 it hp v l:=by
 cases h with
 |vals=>rw[e];exact⟨_,rfl,λ_ _=>.vals l⟩
 |lst i k full h =>
  have hk:full[k]?=some v:=by
   have:=congrArg List.head? e
   rwa [List.head?_drop]at this
  have hd:full.drop (k+1)=l:=by
   have:=congrArg List.tail e
   rwa [List.tail_drop]at this
  exact⟨_,Mt h hk,λhp' x=>hd▸.lst i (k+1) full (x.at h)⟩
theorem jh.cons {it:It}{v:V}{l:List V}(h:jh hp it (v::l)):N6 it hp v l:=h.XO rfl
inductive mE {α:Type}(r:HP->R α)(a:α)(hp:HP):Prop
 |mk (hp':HP) (e:r hp=.ok a hp') (x:Ext hp hp')
inductive XQ (tg:Tg)(ifs:Tx)(elt:Ex)(P:Loc->Prop)(b:Bool)(u v:V)(loc:Loc)(hp:HP):Prop
 |mk (loc':Loc) (bJ:HP) (e:tg.put v loc=some loc') (hP:P loc') (e':ifs loc' hp=.ok b bJ) (x:Ext hp bJ) (h:b=true->mE (elt loc') u bJ)
def sO {α:Type}(g:α->V)(tg:Tg)(ifs:Tx)(elt:Ex)(P:Loc->Prop)(p:α->Bool)(f:α->V)(l:List α)(hp:HP):Prop:=∀v∈l,∀loc au,P loc->Ext hp au->XQ tg ifs elt P (p v) (f v) (g v) loc au
section
variable {α:Type}{g:α->V}{tg:Tg}{ifs:Tx}{elt:Ex}{P:Loc->Prop}{p:α->Bool}{f:α->V}{M:Nat}{it gb:It}{acc:List V}{l:List α}{w:α}{v x:V}{loc loc':Loc}{bJ rv:HP}{r:R (List V)}
theorem sO.tl (h:sO g tg ifs elt P p f (w::l) hp)(x:Ext hp hp'):sO g tg ifs elt P p f l hp':=λv hv loc au a b=>h v (List.mem_cons_of_mem _ hv) loc au a (x.trans b)
theorem VH (e:it.next hp=some none):cS tg ifs elt (M+1) it acc loc hp=.ok acc hp:=by
 unfold cS;rw[e]
theorem XR (e:it.next hp=some (some (v,gb)))(e2:tg.put v loc=some loc')(e3:ifs loc' hp=.ok false bJ)(e4:cS tg ifs elt M gb acc loc' bJ=r):cS tg ifs elt (M+1) it acc loc hp=r:=by
 conv=>lhs;unfold cS
 rw[e];show(match tg.put v loc with|none=>R.bad|some loc=>az (ifs loc hp) _)=_
 rw[e2];show az (ifs loc' hp) _=_;rw[e3];exact e4
theorem VI (e:it.next hp=some (some (v,gb)))(e2:tg.put v loc=some loc')(e3:ifs loc' hp=.ok true bJ)(e5:elt loc' bJ=.ok x rv)(hl:acc.length≤1000)(e4:cS tg ifs elt M gb (acc++[x]) loc' rv=r):cS tg ifs elt (M+1) it acc loc hp=r:=by
 conv=>lhs;unfold cS
 rw[e];show(match tg.put v loc with|none=>R.bad|some loc=>az (ifs loc hp) _)=_
 rw[e2];show az (ifs loc' hp) _=_;rw[e3];show az (elt loc' bJ) _=_;rw[e5];exact(if_pos hl).trans e4
theorem Mu (h:p w=true):acc++((w::l).filter p).map f=(acc++[f w])++(l.filter p).map f:=by
 rw[List.filter_cons_of_pos h,List.map_cons,List.append_assoc];rfl
theorem Qs (h:p w=false):acc++((w::l).filter p).map f=acc++(l.filter p).map f:=by
 rw[List.filter_cons_of_neg (by rw[h];decide)]
theorem Qt (l:List α):∀(M:Nat) (it:It) (acc:List V) (loc:Loc) {hp:HP},jh hp it (l.map g)->P loc->l.length<M->acc.length+l.length≤1000->sO g tg ifs elt P p f l hp->mE (cS tg ifs elt M it acc loc) (acc++(l.filter p).map f) hp:=by
 induction l with
 |nil =>
  intro M it acc loc hp hi hP hM hl h;cases M with
  |zero=>cases hM
  |succ M=>exact⟨hp,(VH hi.nil).trans (by rw[List.filter_nil,List.map_nil,List.append_nil]),Ext.refl⟩
 |cons v l ih =>
  intro M it acc loc hp hi hP hM hl h;cases M with
  |zero=>cases hM
  |succ M =>
   have hM:=Nat.lt_of_succ_lt_succ hM;have hl:acc.length+(l.length+1)≤1000:=hl;cases hi.cons with
   |mk gb e1 lD =>
   cases h v List.mem_cons_self loc hp hP Ext.refl with
   |mk loc' aN e2 ZA e3 x2 e4 =>
   cases hp':p v with
   |false =>
    rw[hp']at e3;rw[Qs hp'];cases ih M gb acc loc' (lD _ x2) ZA hM (by apply lG<;>trivial) (h.tl x2)with
    |mk bL e5 x5=>exact⟨bL,XR e1 e2 e3 e5,x2.trans x5⟩
   |true =>
    rw[hp']at e3;rw[Mu hp'];cases e4 hp' with
    |mk lh e6 x6 =>
    cases ih M gb (acc++[f v]) loc' (lD _ (x2.trans x6)) ZA hM (by rw[List.length_append];exact(by(apply MU<;>trivial):acc.length+1+l.length≤1000)) (h.tl (x2.trans x6))with
    |mk bL e5 x5=>exact⟨bL,VI e1 e2 e3 e6 (by apply ma<;>trivial) e5,(x2.trans x6).trans x5⟩
end
inductive pL (r:HP->R V)(l:List V)(hp:HP):Prop
 |mk (hp':HP) (e:r hp=.ok (.ref hp'.length) (hp'++[.list l])) (x:Ext hp hp')
theorem vU {α:Type}{i:Ix}{mp:List (Option Nat)}{tg:Tg}{ifs:Tx}{elt:Ex}{loc:Loc}(g:α->V)(P:Loc->Prop)(p:α->Bool)(f:α->V){l:List α}{it:It}(ei:i loc hp=.ok it hp)(hi:jh hp it (l.map g))(hP:P (kM mp loc))(hM:l.length<N)(hl:l.length≤1000)
  (h:sO g tg ifs elt P p f l hp):pL (cq N i mp tg ifs elt loc) ((l.filter p).map f) hp:=by
 cases Qt l N it [] (kM mp loc) hi hP hM (by simpa using hl) h with
 |mk hp' e x =>
 refine⟨hp',?_,x⟩;show az (i loc hp) _=_;rw[ei];show az (yF (cS tg ifs elt N it [] (kM mp loc) hp)) oy=_;rw[e];rfl
theorem mF {i:Ix}{mp:List (Option Nat)}{tg:Tg}{ifs:Tx}{elt:Ex}{loc:Loc}(P:Loc->Prop)(p:V->Bool)(f:V->V){l:List V}{it:It}(ei:i loc hp=.ok it hp)(hi:jh hp it l)(hP:P (kM mp loc))(hM:l.length<N)(hl:l.length≤1000)
  (h:sO (λv=>v) tg ifs elt P p f l hp):pL (cq N i mp tg ifs elt loc) ((l.filter p).map f) hp:=vU (λv=>v) P p f ei ((List.map_id' l).symm▸hi) hP hM hl h
theorem fV {T:String}{v:V}{b:Bool}(h1:Hn T=true)(h2:isType T v=some b):ag N (k+1) (bi "isinstance") [v,.fix (.type T)] hp=.ok (.bool b) hp:=by
 rw[show bi "isinstance"=.fix (.builtin "isinstance")from rfl,fB (g:=Es) "isinstance" rfl];refine(eB h1).trans ?_;rw[h2];rfl
theorem vV {l:List Bool}(h:hp[m]?=some (.list (l.map .bool))):ag N (k+1) (bi "all") [.ref m] hp=.ok (.bool (l.all id)) hp:=by
 rw[show bi "all"=.fix (.builtin "all")from rfl,fB (g:=Et) "all" rfl]
 have:∀l:List Bool,qi (l.map V.bool)=some l:=by
  intro l
  induction l with
  |nil=>rfl
  |cons b l ih=>exact cA ih
 refine(gp (de h)).trans ?_;show bQ (Option.map V.bool (Option.map _ (qi (l.map V.bool)))) hp=_;rw[this];rfl
theorem GB (i:Int):ag N (k+2) (.fix (.ref 161)) [.int i] hp=.ok (.bool true) hp:=by
 rw[PI];open_k with[UT,fV (N:=N) (k:=k) (hp:=hp) (T:="int") (v:=.int i) (b:=true) rfl rfl,fV (N:=N) (k:=k) (hp:=hp) (T:="bool") (v:=.int i) (b:=false) rfl rfl]
noncomputable def inR (m:Nat) (i:Int):Bool:=decide (0≤i)&&decide (i<m)
theorem lT (i:Int):ag N (k+3) (.fix (.ref 173)) [.int i,.int m] hp=.ok (.bool (inR m i)) hp:=by
 rw[PK];cases h:decide (0≤i)<;>open_k with[UW,GB,h,inR,Bool.true_and,Bool.false_and]
theorem XS (l:List Int)(h:l.length<N)(hl:l.length≤1000):mE (ag N (k+3) (.fix (.ref 166)) [.tup (l.map .int)]) (.bool true) hp:=by
 refine bC λnG=>?_
 obtain⟨ay,e,x⟩:=mF (N:=N) (hp:=hp) (i:=cx (aa 0)) (mp:=[none,none]) (tg:=.one 1) (ifs:=aS true []) (elt:=(aD (ag N (k+2)) (xC (.fix (.ref 161))) [(aa 1)])) (loc:=[some (.tup (l.map .int))]) (λloc=>∃x,loc=[none,x]) (λ_=>true) (λ_=>.bool true) (l:=l.map .int) (it:=.vals (l.map .int)) rfl (.vals _) ⟨none,rfl⟩ (by simpa using h) (by simpa using hl) (by
  rintro v hv loc ay ⟨x,rfl⟩ _;refine aj (List.mem_map.mp hv) λi _ bH=>?_;subst bH;exact⟨_,ay,rfl,⟨_,rfl⟩,rfl,Ext.refl,λ_=>⟨ay,by open_k with[GB],Ext.refl⟩⟩)
 refine nG ?_
 have hb:((l.map V.int).filter λ_=>true).map (λ_=>V.bool true)=(List.replicate l.length true).map V.bool:=by
  rw[List.filter_eq_self.mpr (λ_ _=>rfl),List.map_map,List.map_replicate];exact List.map_const' (b:=V.bool true) (l:=l)
 rw[hb]at e;refine⟨ay++[.list ((List.replicate l.length true).map .bool)],?_,x.trans (Ext.new _)⟩;rw[PJ];open_k with[UU,fV (N:=N) (k:=k+1) (T:="tuple") (v:=.tup (l.map .int)) (b:=true) rfl rfl,e,vV (bK _ _)];rw[show(List.replicate l.length true).all id=true by simp]
theorem VJ (i:Int):ag N (k+4) (.fix (.ref 178)) [.str (af "x"),.int i,.int m] hp=.ok (.bool (inR m i)) hp:=by
 rw[nZ];open_k with[wQ,aE (kq "x") (kq "x"),yb "x" "x",lT]
theorem VK (i:Int):ag N (k+4) (.fix (.ref 178)) [.str (af "n"),.int i,.int m] hp=.ok (.bool true) hp:=by
 rw[nZ];simp -implicitDefEqProofs only[wQ,NL,yW,u3,FV,FW,FX,FY,yX,u4,u5,rK,yY,u6,u7,yZ,u9,o9,pb,pd,pg,ph,pj,FZ,rL,pk,NM,F8,NN,F9,rM,rN,rP,rQ,rR,rS,rT,vb,vc,vd,ve,vf,vg,y0,vh,Ga,y7,y8,y9,vi,vj,rU,pq,pB,pC,pD,vm,rV,vn,rW,rX,vo,rY,rZ,r7,za,vp,vq,vr,pE,pF,pG,r8,qO,zb,vt,vw,vx,r9,sd,se,Gb,zc,zd,vy,qP,n5,qQ,qR,Ge,ze,zf,sf,sg,pH,pI,zg,zh,jX,jY,fO,vA,vB,Gf,jf,sj,n7,NP,NQ,Gg,Gh,Gi,Gj,Gk,su,zp,zq,Gm,sx,vG,zr,zt,Gn,zu,zw,List.getElem?_cons_zero,List.getElem?_cons_succ,List.set_cons_zero,List.set_cons_succ,if_true,if_false,ite_true,ite_false,Bool.false_eq_true,Bool.not_true,Bool.not_false,beq_self_eq_true,reduceCtorEq,Option.map_some,Option.map_none,Bool.true_beq,Bool.false_beq,Bool.true_eq_false,lj,lQ,zi,zj,zk,zl,zm,ip,vz,n6,si,gU,vC,kC,pJ,zo,vE,Gl,nk,aE (kq "n") (kq "x"),nb "n" "x",aE (kq "n") (kq "X"),nb "n" "X",aE (kq "n") (kq "n"),yb "n" "n",GB]
theorem VL (l:List Int)(h:l.length<N)(hl:l.length≤1000):mE (ag N (k+4) (.fix (.ref 178)) [.str (af "N"),.tup (l.map .int),.int m]) (.bool true) hp:=by
 obtain⟨hp',e,x⟩:=XS (N:=N) (k:=k) (hp:=hp) l h hl;refine⟨hp',?_,x⟩;rw[nZ];simp -implicitDefEqProofs only[wQ,NL,yW,u3,FV,FW,FX,FY,yX,u4,u5,rK,yY,u6,u7,yZ,u9,o9,pb,pd,pg,ph,pj,FZ,rL,pk,NM,F8,NN,F9,rM,rN,rP,rQ,rR,rS,rT,vb,vc,vd,ve,vf,vg,y0,vh,Ga,y7,y8,y9,vi,vj,rU,pq,pB,pC,pD,vm,rV,vn,rW,rX,vo,rY,rZ,r7,za,vp,vq,vr,pE,pF,pG,r8,qO,zb,vt,vw,vx,r9,sd,se,Gb,zc,zd,vy,qP,n5,qQ,qR,Ge,ze,zf,sf,sg,pH,pI,zg,zh,jX,jY,fO,vA,vB,Gf,jf,sj,n7,NP,NQ,Gg,Gh,Gi,Gj,Gk,su,zp,zq,Gm,sx,vG,zr,zt,Gn,zu,zw,List.getElem?_cons_zero,List.getElem?_cons_succ,List.set_cons_zero,List.set_cons_succ,if_true,if_false,ite_true,ite_false,Bool.false_eq_true,Bool.not_true,Bool.not_false,beq_self_eq_true,reduceCtorEq,Option.map_some,Option.map_none,Bool.true_beq,Bool.false_beq,Bool.true_eq_false,lj,lQ,zi,zj,zk,zl,zm,ip,vz,n6,si,gU,vC,kC,pJ,zo,vE,Gl,nk,aE (kq "N") (kq "x"),nb "N" "x",aE (kq "N") (kq "X"),nb "N" "X",aE (kq "N") (kq "n"),nb "N" "n",aE (kq "N") (kq "N"),yb "N" "N",e]
theorem VM:ag N (k+4) (.fix (.ref 178)) [.str (af "s"),.str (af "bounds"),.int m] hp=.ok (.bool true) hp:=by
 rw[nZ];have i2:=j0 (hp:=hp) (a:=af "bounds") (b:=af "values") (x:=af "bounds") (by decide) (by decide) (by decide);rw[show(af "bounds"==af "bounds"||af "values"==af "bounds")=true by decide]at i2;simp -implicitDefEqProofs only[wQ,NL,yW,u3,FV,FW,FX,FY,yX,u4,u5,rK,yY,u6,u7,yZ,u9,o9,pb,pd,pg,ph,pj,FZ,rL,pk,NM,F8,NN,F9,rM,rN,rP,rQ,rR,rS,rT,vb,vc,vd,ve,vf,vg,y0,vh,Ga,y7,y8,y9,vi,vj,rU,pq,pB,pC,pD,vm,rV,vn,rW,rX,vo,rY,rZ,r7,za,vp,vq,vr,pE,pF,pG,r8,qO,zb,vt,vw,vx,r9,sd,se,Gb,zc,zd,vy,qP,n5,qQ,qR,Ge,ze,zf,sf,sg,pH,pI,zg,zh,jX,jY,fO,vA,vB,Gf,jf,sj,n7,NP,NQ,Gg,Gh,Gi,Gj,Gk,su,zp,zq,Gm,sx,vG,zr,zt,Gn,zu,zw,List.getElem?_cons_zero,List.getElem?_cons_succ,List.set_cons_zero,List.set_cons_succ,if_true,if_false,ite_true,ite_false,Bool.false_eq_true,Bool.not_true,Bool.not_false,beq_self_eq_true,reduceCtorEq,Option.map_some,Option.map_none,Bool.true_beq,Bool.false_beq,Bool.true_eq_false,lj,lQ,zi,zj,zk,zl,zm,ip,vz,n6,si,gU,vC,kC,pJ,zo,vE,Gl,nk,aE (kq "s") (kq "x"),nb "s" "x",aE (kq "s") (kq "X"),nb "s" "X",aE (kq "s") (kq "n"),nb "s" "n",aE (kq "s") (kq "N"),nb "s" "N",aE (kq "s") (kq "R"),nb "s" "R",aE (kq "s") (kq "s"),yb "s" "s",fV (N:=N) (k:=k+2) (T:="str") (v:=.str (af "bounds")) (b:=true) rfl rfl,i2]
theorem VN (l:List Int)(h:l.length<N)(hl:l.length≤1000):mE (ag N (k+4) (.fix (.ref 178)) [.str (af "X"),.tup (l.map .int),.int m]) (.bool (l.all (inR m))) hp:=by
 let F:V->V:=λv=>match v with|.int i=>.bool (inR m i)|v=>v
 refine bC λnG=>?_
 obtain⟨ay,e,x⟩:=mF (N:=N) (hp:=hp) (i:=cx (aa 1)) (mp:=[none,none,some 2]) (tg:=.one 1) (ifs:=aS true []) (elt:=(aD (ag N (k+3)) (xC (.fix (.ref 173))) [(aa 1),(aa 2)])) (loc:=[some (.str (af "X")),some (.tup (l.map .int)),some (.int m)]) (λloc=>∃x,loc=[none,x,some (.int m)]) (λ_=>true) F (l:=l.map .int) (it:=.vals (l.map .int)) rfl (.vals _) ⟨none,rfl⟩ (by simpa using h) (by simpa using hl) (by
  rintro v hv loc ay ⟨x,rfl⟩ _;refine aj (List.mem_map.mp hv) λi _ bH=>?_;subst bH;exact⟨_,ay,rfl,⟨_,rfl⟩,rfl,Ext.refl,λ_=>⟨ay,by open_k with[lT];rfl,Ext.refl⟩⟩)
 refine nG ?_
 have hb:((l.map V.int).filter λ_=>true).map F=(l.map (inR m)).map V.bool:=by
  rw[List.filter_eq_self.mpr (λ_ _=>rfl),List.map_map,List.map_map];rfl
 rw[hb]at e;refine⟨ay++[.list ((l.map (inR m)).map .bool)],?_,x.trans (Ext.new _)⟩;rw[nZ];open_k with[wQ,aE (kq "X") (kq "x"),nb "X" "x",aE (kq "X") (kq "X"),yb "X" "X",fV (N:=N) (k:=k+2) (T:="tuple") (v:=.tup (l.map .int)) (b:=true) rfl rfl,e,vV (bK _ _)];rw[List.all_map];rfl
theorem gE (l:List V)(hl:l.length≤1000000):ag N (k+1) (bi "len") [.tup l] hp=.ok (.int l.length) hp:=by
 rw[show bi "len"=.fix (.builtin "len")from rfl,fB (g:=ur) "len" rfl];exact eB (jo hl)
theorem GC {l:List V}{i:Nat}{v:V}(h:l[i]?=some v)(hi:i≤2000000):bh hp (.tup l) (.int i)=some v:=by
 exact(cA (n9 (List.getElem?_eq_some_iff.mp h).1 hi)).trans h
theorem bF {l:List V}{i:Nat}{v:V}(h:l[i]?=some v)(hi:i≤2000000:=by decide):bh hp (.tup l) (.int i)=some v:=GC h hi
def mY (c:Ca)(N:Nat):List Sx:=[(bc (aS true [(ai (aa 2) [(.eq,(xS "cumulative"))]),(ai (aD c (xC (bi "min")) [(bw .Add (bw .Add (aq (aa 0) (xC (.int 2))) (aq (aa 0) (xC (.int 3)))) (cV (aa 0) (xC (.int 4)) (xC .none)))]) [(.lt,(xC (.int 0)))])]) [(aW (xS "cumulative: no task lasts, or needs, less than 0, and no limit is less"))] []),(bc (aS true [(ai (aa 2) [(.eq,(xS "disjunctive"))]),(ai (aD c (xC (bi "min")) [(bw .Add (aq (aa 0) (xC (.int 2))) (ao [(xC (.int 0))]))]) [(.lt,(xC (.int 0)))])]) [(aW (xS "disjunctive: no task lasts less than 0"))] []),(bc (aS true [(ai (aa 2) [(.jM,(ao [(xS "max"),(xS "min")]))]),(ai (aD c (xC (bi "len")) [(aq (aa 0) (xC (.int 1)))]) [(.eq,(xC (.int 0)))])]) [(aW (eP [(c7 (aa 2)),(xS ": there is one variable at least")]))] []),(bc (aS true [(ai (aa 2) [(.eq,(xS "table"))]),(cW (tX (aD c (xC (bi "all")) [(cq N (cx (aq (aa 0) (xC (.int 2)))) [none,none,some 0] (.one 1) (aS true []) (xB (ai (aD c (xC (bi "len")) [(aa 1)]) [(.eq,(aD c (xC (bi "len")) [(aq (aa 2) (xC (.int 1)))]))])))])))]) [(aW (xS "table: a row has a number for each variable"))] []),(aW (ik (ai (aa 2) [(.eq,(xS "regular"))]) (aD c tH [(aa 0)]) (xS "")))]
def pM (c:Ca)(N:Nat):List Sx:=(ib N (.many [6,7]) (cx (ax c (xC (.fix (.ref 89))) .get [(aa 2),(ao [])])) [(bc (ai (aD c (xC (bi "len")) [(aq (aa 0) (aa 6))]) [(.ne,(aD c (xC (bi "len")) [(aq (aa 0) (aa 7))]))]) [(aW (eP [(c7 (aa 2)),(xS ": arguments "),(c7 (aa 6)),(xS " and "),(c7 (aa 7)),(xS " are of unlike lengths")]))] [])])::mY c N
def vW (c:Ca)(N:Nat):List Sx:=(ib N (.many [4,5]) (ro (aa 3)) [(bc (cW (tX (xF c 178 [(aa 5),(aq (aa 0) (bw .Add (aa 4) (xC (.int 1)))),(aa 1)]))) [(aW (eP [(c7 (aa 2)),(xS ": argument "),(c7 (bw .Add (aa 4) (xC (.int 1)))),(xS " is of another kind")]))] [])])::pM c N
theorem Qu (c:Ca)(N:Nat):UX c N=(bc (aS false [(cW (tX (aD c (xC (bi "isinstance")) [(aa 0),(xC (.fix (.type "tuple")))]))),(ai (aD c (xC (bi "len")) [(aa 0)]) [(.eq,(xC (.int 0)))]),(cW (tX (aD c (xC (bi "isinstance")) [(aq (aa 0) (xC (.int 0))),(xC (.fix (.type "str")))]))),(ai (aq (aa 0) (xC (.int 0))) [(.gj,(xC (.fix (.ref 87))))])]) [(aW (xS "no constraint is told so"))] [])::(eI [2,3] (ao [(aq (aa 0) (xC (.int 0))),(aq (xC (.fix (.ref 87))) (aq (aa 0) (xC (.int 0))))]))::(bc (ai (aD c (xC (bi "len")) [(aa 0)]) [(.ne,(bw .Add (aD c (xC (bi "len")) [(aa 3)]) (xC (.int 1))))]) [(aW (eP [(c7 (aa 2)),(xS " has "),(c7 (aD c (xC (bi "len")) [(aa 3)])),(xS " arguments, not "),(c7 (bw .Sub (aD c (xC (bi "len")) [(aa 0)]) (xC (.int 1))))]))] [])::vW c N:=rfl
theorem Mv (x:List Nat):qh hp (.str x) (.fix (.ref 87))=some (eX.lookup x).isSome:=rfl
theorem Jn {x f:List Nat}(h:eX.lookup x=some f):bh hp (.fix (.ref 87)) (.str x)=some (.str f):=congrArg (Option.map V.str) h
theorem Qv {nm fm:List Nat}(vs:List V)(hf:eX.lookup nm=some fm)(hl:vs.length=fm.length)(ux:vs.length≤10) :
  ag N (k+2) (.fix (.ref 188)) [.tup (.str nm::vs),.int m] hp=bj (aF (vW (ag N (k+1)) N)) [some (.tup (.str nm::vs)),some (.int m),some (.str nm),some (.str fm),none,none,none,none] hp:=by
 have e1:=gE (N:=N) (k:=k) (hp:=hp) (.str nm::vs) (by simp;(apply aI<;>first|assumption|exact rfl));have e2:(((V.str nm::vs).length:Int)==0)=false:=by simp;(apply RA<;>first|assumption|exact rfl)
 have e3:bh hp (.tup (.str nm::vs)) (.int 0)=some (.str nm):=bF (i:=0) rfl;have e4:(((V.str nm::vs).length:Int)==(fm.length:Int)+1)=true:=by simp;(apply JZ<;>first|assumption|exact rfl)
 rw[PL];open_k with[Qu,fV (N:=N) (k:=k) (T:="tuple") (v:=.tup (.str nm::vs)) (b:=true) rfl rfl,e1,e2,e3,fV (N:=N) (k:=k) (T:="str") (v:=.str nm) (b:=true) rfl rfl,Mv,hf,Option.isSome_some,Jn hf,len_str (N:=N) (k:=k) (hp:=hp) fm (by apply Oz<;>first|assumption|exact rfl),e4]
def kB (c:Ca):Sx:=aF [(bc (cW (tX (xF c 178 [(aa 5),(aq (aa 0) (bw .Add (aa 4) (xC (.int 1)))),(aa 1)]))) [(aW (eP [(c7 (aa 2)),(xS ": argument "),(c7 (bw .Add (aa 4) (xC (.int 1)))),(xS " is of another kind")]))] [])]
inductive F3 (c:Ca)(m:Nat):List Nat->List V->List Bool->Prop
 |nil:F3 c m [] [] []
 |cons {d:Nat} {ds:List Nat} {v:V} {vs:List V} {b:Bool} {bs:List Bool} (h:∀hp,mE (c (.fix (.ref 178)) [.str [d],v,.int m]) (.bool b) hp) (t:F3 c m ds vs bs):F3 c m (d::ds) (v::vs) (b::bs)
theorem q6:∀j<10,ly (.int ((j:Nat)+1:Int))=some (bS (j+1))∧aT (bS (j+1))=true∧(bS (j+1)).length≤20:=by decide +kernel
theorem l6 {a b:List Nat}(ha:aT a=true)(hb:aT b=true):aT (a++b)=true:=by unfold aT at *;rw[List.all_append,ha,hb];rfl
noncomputable abbrev kL (m:Nat) (nm:List Nat) (fm:Option V) (vs:List V) (a b:Option V):Loc:=[some (.tup vs),some (.int m),some (.str nm),fm,a,b,none,none]
inductive Kd (f:HP->R (Fl×Loc))(L:Option V->Option V->Loc)(hp:HP):Bool->Prop
 |yes (hp':HP) (a b:Option V) (x:Ext hp hp') (e:f hp=.ok (.next,L a b) hp'):Kd f L hp true
 |no (hp':HP) (s:List Nat) (loc:Loc) (x:Ext hp hp') (e:f hp=.ok (.ret (.str s),loc) hp') (ok:aT s=true) (ne:(s==[])=false):Kd f L hp false
theorem Kd.of {f:HP->R (Fl×Loc)}{L:Option V->Option V->Loc}{b:Bool}{g:HP->R (Fl×Loc)}(k:Kd g L hp' b)(e:f hp=g hp')(x:Ext hp hp'):Kd f L hp b:=by
 cases k with
 |yes aN a b x2 e2=>exact .yes aN a b (x.trans x2) (e.trans e2)
 |no aN s loc x2 e2 ok ne=>exact .no aN s loc (x.trans x2) (e.trans e2) ok ne
section
variable {c:Ca}{nm:List Nat}{fm a b:Option V}{M j d:Nat}{ds:List Nat}{v:V}{vs pre:List V}{bb:Bool}{f g:Option V}
theorem Bs (DJ:pre.length=j+1)(hj:j≤100):bh hp (.tup (pre++v::vs)) (.int ((j:Int)+1))=some v:=by
 rw[nq];refine GC ?_ (by apply di<;>first|assumption|exact rfl);rw[List.getElem?_append_right (by apply Nat.le_of_eq<;>first|assumption|exact rfl),DJ,Nat.sub_self];rfl
theorem Mw (e:c (.fix (.ref 178)) [.str [d],v,.int m] hp=.ok (.bool true) hp')(hs:bh hp (.tup vs) (.int ((j:Int)+1))=some v) :
  cJ (.many [4,5]) (kB c) (M+1) (.vals (fb j (d::ds))) (kL m nm fm vs a b) hp=cJ (.many [4,5]) (kB c) M (.vals (fb (j+1) ds)) (kL m nm fm vs (some (.int j)) (some (.str [d]))) hp':=by
 open_k with[fb,lP,lj,kB,hs,e]
theorem Bt {a b:List Nat}{n m:Nat}(ha:a.length≤n)(hb:b.length≤m)(h:n+m≤1000000):fu a.length b.length=true:=gH (by apply OC<;>first|assumption|exact rfl)
theorem Qw (e:c (.fix (.ref 178)) [.str [d],v,.int m] hp=.ok (.bool false) hp')(hs:bh hp (.tup vs) (.int ((j:Int)+1))=some v)(hj:j<10)(Jo:nm.length≤100) :
  cJ (.many [4,5]) (kB c) (M+1) (.vals (fb j (d::ds))) (kL m nm fm vs a b) hp=.ok (.ret (.str (nm++af ": argument "++bS (j+1)++af " is of another kind")),kL m nm fm vs (some (.int j)) (some (.str [d]))) hp':=by
 have l1:(af ": argument ").length=11:=by decide
 have l2:(af " is of another kind").length=19:=by decide
 have d1:=(q6 j hj).1;have d3:=(q6 j hj).2.2;have q1:fu ([]:List Nat).length nm.length=true:=gH (by show 0+_≤_;(apply J0<;>first|assumption|exact rfl));have q2:fu nm.length (af ": argument ").length=true:=gH (by apply nA<;>first|assumption|exact rfl);have q3:fu (nm++af ": argument ").length (bS (j+1)).length=true:=gH (by rw[List.length_append];omega);have q4:fu (nm++af ": argument "++bS (j+1)).length (af " is of another kind").length=true:=gH (by rw[List.length_append,List.length_append];omega);open_k with[fb,lP,lj,kB,hs,e,vN nm (Nat.le_trans Jo (by decide)),d1,q1,q2,q3,q4,List.nil_append]
theorem GD (c:Ca){nm:List Nat}(hn:aT nm=true)(Jo:nm.length≤100)(fm:Option V){cs:List Nat}{vs:List V}{bs:List Bool}(h3:F3 c m cs vs bs):∀(j:Nat) (pre:List V) (a b:Option V) (M:Nat) (hp:HP),pre.length=j+1->j+cs.length≤9->cs.length<M ->
  Kd (cJ (.many [4,5]) (kB c) M (.vals (fb j cs)) (kL m nm fm (pre++vs) a b)) (kL m nm fm (pre++vs)) hp (bs.all id):=by
 induction h3 with
 |nil =>
  intro j pre a b M hp DJ hj hM;cases M with
  |zero=>cases hM
  |succ M=>exact .yes hp a b Ext.refl rfl
 | @cons d ds v vs b' bs h t ih =>
  intro j pre a b M hp DJ hj hM;cases M with
  |zero=>cases hM
  |succ M =>
  have hj:j+(ds.length+1)≤9:=hj;cases h hp with
  |mk ay e1 x1 =>
  cases b' with
  |true =>
   have:=ih (j+1) (pre++[v]) (some (.int j)) (some (.str [d])) M ay (by rw[List.length_append,DJ];rfl) (by apply MU<;>first|assumption|exact rfl) (Nat.lt_of_succ_lt_succ hM);rw[List.append_assoc]at this;exact this.of (Mw e1 (Bs DJ (by apply Hh<;>first|assumption|exact rfl))) x1
  |false =>
   refine .no ay _ _ x1 (Qw e1 (Bs DJ (by apply Hh<;>first|assumption|exact rfl)) (by apply uo<;>first|assumption|exact rfl) Jo) (l6 (l6 (l6 hn (by decide)) (q6 j (by apply uo<;>first|assumption|exact rfl)).2.1) (by decide)) ?_;rw[beq_eq_false_iff_ne];intro h;have:=congrArg List.length h;rw[List.length_append,show(af " is of another kind").length=19 by decide]at this;cases this
end
def bl (w:Nat)(x y:Int):V:=match w with
 |0=>.tup [.str (af "linear_le"),.tup [.int 1,.int (-2)],.tup [.int x,.int y],.int 3]
 |1=>.tup [.str (af "all_different"),.tup [.int x,.int y],.str (af "bounds")]
 |2=>.tup [.str (af "clause"),.tup [.int x],.tup [.int y]]
 |3=>.tup [.str (af "xor"),.int x,.int y,.int x]
 |4=>.tup [.str (af "disjunctive"),.tup [.int x,.int y],.tup [.int 2,.int 0]]
 |5=>.tup [.str (af "linear_ne"),.tup [.int 4],.tup [.int x,.int y],.int 0]
 |_=>.tup [.str (af "max"),.tup [],.int x]
def dG (w:Nat)(x y:Int)(m:Nat):Bool:=decide (w<5)&&(inR m x&&inR m y)
theorem ug (c:Ca)(N:Nat):pM c N=(ib N (.many [6,7]) (cx (ax c (xC (.fix (.ref 89))) .get [(aa 2),(ao [])])) [(bc (ai (aD c (xC (bi "len")) [(aq (aa 0) (aa 6))]) [(.ne,(aD c (xC (bi "len")) [(aq (aa 0) (aa 7))]))]) [(aW (eP [(c7 (aa 2)),(xS ": arguments "),(c7 (aa 6)),(xS " and "),(c7 (aa 7)),(xS " are of unlike lengths")]))] [])])::mY c N:=rfl
theorem DK (c:Ca)(N:Nat):vW c N=(ib N (.many [4,5]) (ro (aa 3)) [(bc (cW (tX (xF c 178 [(aa 5),(aq (aa 0) (bw .Add (aa 4) (xC (.int 1)))),(aa 1)]))) [(aW (eP [(c7 (aa 2)),(xS ": argument "),(c7 (bw .Add (aa 4) (xC (.int 1)))),(xS " is of another kind")]))] [])])::pM c N:=rfl
inductive xd (r:HP->R V)(b:Bool)(hp:HP):Prop
 |mk (s:List Nat) (hp':HP) (e:r hp=.ok (.str s) hp') (x:Ext hp hp') (ok:aT s=true) (b:(s==[])=b)
def TF (N k m:Nat)(hp:HP)(told:V)(b:Bool):Prop:=xd (ag N k (.fix (.ref 188)) [told,.int m]) b hp
theorem xd.via {f g:HP->R V}{b:Bool}(s:xd f b hp')(x:Ext hp hp')(h:∀{r},f hp'=r->g hp=r):xd g b hp:=by
 cases s with
 |mk s aN e x2 ok q=>exact⟨s,aN,h e,x.trans x2,ok,q⟩
section
variable {nm fm:List Nat}{vs:List V}{a b:Option V}
theorem VO (h:cJ (.many [4,5]) (kB (ag N (k+1))) N (.vals (fb 0 fm)) (kL m nm (some (.str fm)) (.str nm::vs) none none) hp=.ok (.next,kL m nm (some (.str fm)) (.str nm::vs) a b) hp'){r:R V}
  (e:bj (aF (pM (ag N (k+1)) N)) (kL m nm (some (.str fm)) (.str nm::vs) a b) hp'=r):bj (aF (vW (ag N (k+1)) N)) (kL m nm (some (.str fm)) (.str nm::vs) none none) hp=r:=by
 rw[fO]at e;simp only[kB]at h;open_k with[DK,ip,n6,h,e]
theorem XT {s:List Nat}{loc:Loc}(h:cJ (.many [4,5]) (kB (ag N (k+1))) N (.vals (fb 0 fm)) (kL m nm (some (.str fm)) (.str nm::vs) none none) hp=.ok (.ret (.str s),loc) hp') :
  bj (aF (vW (ag N (k+1)) N)) (kL m nm (some (.str fm)) (.str nm::vs) none none) hp=.ok (.str s) hp':=by
 simp only[kB]at h;open_k with[DK,ip,n6,h]
end
theorem mG {nm fm:List Nat}{vs:List V}{bs:List Bool}{r:Bool}(hf:eX.lookup nm=some fm)(hl:vs.length=fm.length)(h5:vs.length≤5)(hn:aT nm=true)(Jo:nm.length≤100)(hN:20≤N)(h3:F3 (ag N (k+4)) m fm vs bs)
  (tail:∀a b hp,xd (bj (aF (pM (ag N (k+4)) N)) (kL m nm (some (.str fm)) (.str nm::vs) a b)) r hp) :
  TF N (k+5) m hp (.tup (.str nm::vs)) (bs.all id&&r):=by
 have q:=GD (m:=m) (ag N (k+4)) hn Jo (some (.str fm)) h3 0 [.str nm] none none N hp rfl (by apply WR<;>first|assumption|exact rfl) (by apply Rr<;>first|assumption|exact rfl);have th:=λhp=>Qv (N:=N) (k:=k+3) (m:=m) (hp:=hp) vs hf hl (by apply aI<;>first|assumption|exact rfl);cases hb:bs.all id with
 |true =>
  rw[hb]at q;cases q with
  |yes ay a b x1 e=>exact(tail a b ay).via x1 λe'=>(th hp).trans (VO e e')
 |false =>
  rw[hb]at q;cases q with
  |no ay s loc x1 e ok ne=>exact⟨s,ay,(th hp).trans (XT e),x1,ok,ne⟩
theorem q7 {x:List Nat}{v:V}(d:V)(h:(pairs.lookup x).getD d=v):ag N (k+1) (bi "dict.get") [.fix (.ref 89),.str x,d] hp=.ok v hp:=by
 rw[show bi "dict.get"=.fix (.builtin "dict.get")from rfl,fB (g:=Ey) "dict.get" rfl,<- h];rfl
theorem GF:dN hp (.fix (.ref 89)) .get=some (bi "dict.get"):=rfl
theorem mH (l:List V):El hp (.tup l)=some (.vals l):=rfl
theorem lU {nm:List Nat}(ok:aT nm=true)(h1:(nm==af "cumulative")=false)(h2:(nm==af "disjunctive")=false)(h3:(af "max"==nm||af "min"==nm)=false)(h4:(nm==af "table")=false)(h5:(nm==af "regular")=false)(c:Ca)(told x f a b d e:Option V) :
  bj (aF (mY c N)) [told,x,some (.str nm),f,a,b,d,e] hp=.ok (.str []) hp:=by
 have i2:=j0 (hp:=hp) (a:=af "max") (b:=af "min") (x:=nm) (by decide) (by decide) ok;rw[h3]at i2;open_k with[mY,aE ok (kq "cumulative"),aE ok (kq "disjunctive"),aE ok (kq "table"),aE ok (kq "regular"),h1,h2,h4,h5,i2,fw]
theorem lV {nm:List Nat}(h:(pairs.lookup nm).getD (.tup [])=.tup [])(hN:20≤N)(told x f a b:Option V)(c:Ca)(hc:c=ag N (k+1)):bj (aF (pM c N)) [told,x,some (.str nm),f,a,b,none,none] hp=bj (aF (mY c N)) [told,x,some (.str nm),f,a,b,none,none] hp:=by
 obtain⟨M,rfl⟩:∃M,N=M+1:=⟨N - 1,by apply Hf<;>first|assumption|exact rfl⟩;subst hc;open_k with[ug,ip,gU,GF,q7 (.tup []) h,mH,jx]
theorem yn {nm:List Nat}(h:(pairs.lookup nm).getD (.tup [])=.tup [pr 1 2])(hN:20≤N){t0:V}{l1 l2:List V}{rs:List V}(h1:l1.length≤1000)(h2:l2.length=l1.length)(x f a b:Option V)(c:Ca)(hc:c=ag N (k+1)) :
  bj (aF (pM c N)) [some (.tup (t0::.tup l1::.tup l2::rs)),x,some (.str nm),f,a,b,none,none] hp=bj (aF (mY c N)) [some (.tup (t0::.tup l1::.tup l2::rs)),x,some (.str nm),f,a,b,some (.int 1),some (.int 2)] hp:=by
 obtain⟨M,rfl⟩:∃M,N=M+1+1:=⟨N - 2,by apply um<;>first|assumption|exact rfl⟩;subst hc;have e1:bh hp (.tup (t0::.tup l1::.tup l2::rs)) (.int 1)=some (.tup l1):=bF (i:=1) rfl;have e2:bh hp (.tup (t0::.tup l1::.tup l2::rs)) (.int 2)=some (.tup l2):=bF (i:=2) rfl;open_k with[ug,ip,gU,GF,q7 (.tup []) h,mH,jx,lP,lj,pr,e1,e2,gE (N:=M+1+1) (k:=k) (hp:=hp) l1 (by apply aI<;>first|assumption|exact rfl),gE (N:=M+1+1) (k:=k) (hp:=hp) l2 (by apply l9<;>first|assumption|exact rfl),h2]
theorem fx (x:Int):∀hp,mE (ag N (k+4) (.fix (.ref 178)) [.str [120],.int x,.int m]) (.bool (inR m x)) hp:=λhp=>⟨hp,VJ x,Ext.refl⟩
theorem fn (x:Int):∀hp,mE (ag N (k+4) (.fix (.ref 178)) [.str [110],.int x,.int m]) (.bool true) hp:=λhp=>⟨hp,VK x,Ext.refl⟩
theorem fs:∀hp,mE (ag N (k+4) (.fix (.ref 178)) [.str [115],.str (af "bounds"),.int m]) (.bool true) hp:=λhp=>⟨hp,VM,Ext.refl⟩
theorem fN (l:List Int)(h:l.length<N)(hl:l.length≤1000):∀hp,mE (ag N (k+4) (.fix (.ref 178)) [.str [78],.tup (l.map .int),.int m]) (.bool true) hp:=λ_=>VL l h hl
theorem fX (l:List Int)(h:l.length<N)(hl:l.length≤1000):∀hp,mE (ag N (k+4) (.fix (.ref 178)) [.str [88],.tup (l.map .int),.int m]) (.bool (l.all (inR m))) hp:=λ_=>VN l h hl
theorem Qx (x y:Int)(hN:20≤N):TF N (k+5) m hp (bl 0 x y) (dG 0 x y m):=by
 have:=mG (k:=k) (m:=m) (hp:=hp) (nm:=af "linear_le") (fm:=[78,88,110]) (vs:=[.tup ([1,-2].map .int),.tup ([x,y].map .int),.int 3]) (bs:=[true,[x,y].all (inR m),true]) (r:=true) (by decide +kernel) rfl (by show 3≤5;decide) (by decide) (by decide) hN (.cons (fN [1,-2] (by show 2<N;(apply bR<;>first|assumption|exact rfl)) (by decide)) (.cons (fX [x,y] (by show 2<N;(apply bR<;>first|assumption|exact rfl)) (by show 2≤1000;decide)) (.cons (fn 3) .nil)))
  (λa b hp=>⟨[],hp,by
   rw[yn (k:=k+3) (l1:=[1,-2].map V.int) (l2:=[x,y].map .int) (by kernel_rfl) hN (by decide) rfl _ _ _ _ _ rfl];exact lU (by decide) (by decide) (by decide) (by decide) (by decide) (by decide) _ _ _ _ _ _ _ _,Ext.refl,rfl,rfl⟩)
 simpa [dG,bl]using this
theorem Qy (x y:Int)(hN:20≤N):TF N (k+5) m hp (bl 1 x y) (dG 1 x y m):=by
 have:=mG (k:=k) (m:=m) (hp:=hp) (nm:=af "all_different") (fm:=[88,115]) (vs:=[.tup ([x,y].map .int),.str (af "bounds")]) (bs:=[[x,y].all (inR m),true]) (r:=true) (by decide +kernel) rfl (by show 2≤5;decide) (by decide) (by decide) hN (.cons (fX [x,y] (by show 2<N;(apply bR<;>first|assumption|exact rfl)) (by show 2≤1000;decide)) (.cons (fs) .nil))
  (λa b hp=>⟨[],hp,by
   rw[lV (k:=k+3) (by kernel_rfl) hN _ _ _ _ _ _ rfl];exact lU (by decide) (by decide) (by decide) (by decide) (by decide) (by decide) _ _ _ _ _ _ _ _,Ext.refl,rfl,rfl⟩)
 simpa [dG,bl]using this
theorem Qz (x y:Int)(hN:20≤N):TF N (k+5) m hp (bl 2 x y) (dG 2 x y m):=by
 have:=mG (k:=k) (m:=m) (hp:=hp) (nm:=af "clause") (fm:=[88,88]) (vs:=[.tup ([x].map .int),.tup ([y].map .int)]) (bs:=[[x].all (inR m),[y].all (inR m)]) (r:=true) (by decide +kernel) rfl (by show 2≤5;decide) (by decide) (by decide) hN (.cons (fX [x] (by show 1<N;(apply bR<;>first|assumption|exact rfl)) (by show 1≤1000;decide)) (.cons (fX [y] (by show 1<N;(apply bR<;>first|assumption|exact rfl)) (by show 1≤1000;decide)) .nil))
  (λa b hp=>⟨[],hp,by
   rw[lV (k:=k+3) (by kernel_rfl) hN _ _ _ _ _ _ rfl];exact lU (by decide) (by decide) (by decide) (by decide) (by decide) (by decide) _ _ _ _ _ _ _ _,Ext.refl,rfl,rfl⟩)
 simpa [dG,bl]using this
theorem QA (x y:Int)(hN:20≤N):TF N (k+5) m hp (bl 3 x y) (dG 3 x y m):=by
 have:=mG (k:=k) (m:=m) (hp:=hp) (nm:=af "xor") (fm:=[120,120,120]) (vs:=[.int x,.int y,.int x]) (bs:=[inR m x,inR m y,inR m x]) (r:=true) (by decide +kernel) rfl (by show 3≤5;decide) (by decide) (by decide) hN (.cons (fx x) (.cons (fx y) (.cons (fx x) .nil)))
  (λa b hp=>⟨[],hp,by
   rw[lV (k:=k+3) (by kernel_rfl) hN _ _ _ _ _ _ rfl];exact lU (by decide) (by decide) (by decide) (by decide) (by decide) (by decide) _ _ _ _ _ _ _ _,Ext.refl,rfl,rfl⟩)
 have e:(inR m x&&(inR m y&&inR m x))=(inR m x&&inR m y):=by cases inR m x<;>cases inR m y<;>rfl
 simpa [dG,bl,e]using this
theorem XU (a b:List V)(h:a.length+b.length≤100000):jy .Add (.tup a) (.tup b) hp=.ok (.tup (a++b)) hp:=eB (gH (Nat.le_trans h (by decide)))
theorem XW {l:List V}{i:Int}(h:Kq l=some i):ag N (k+1) (bi "min") [.tup l] hp=.ok (.int i) hp:=by
 rw[show bi "min"=.fix (.builtin "min")from rfl,fB (g:=Eu) "min" rfl];show bQ (Option.map V.int (Kq l)) hp=_;rw[h];rfl
theorem QB (x y:Int)(hN:20≤N):TF N (k+5) m hp (bl 4 x y) (dG 4 x y m):=by
 have:=mG (k:=k) (m:=m) (hp:=hp) (nm:=af "disjunctive") (fm:=[88,78]) (vs:=[.tup ([x,y].map .int),.tup ([2,0].map .int)]) (bs:=[[x,y].all (inR m),true]) (r:=true) (by decide +kernel) rfl (by show 2≤5;decide) (by decide) (by decide) hN (.cons (fX [x,y] (by show 2<N;(apply bR<;>first|assumption|exact rfl)) (by show 2≤1000;decide)) (.cons (fN [2,0] (by show 2<N;(apply bR<;>first|assumption|exact rfl)) (by decide)) .nil))
  (λa b hp=>⟨[],hp,by
   rw[yn (k:=k+3) (l1:=[x,y].map V.int) (l2:=[2,0].map .int) (rs:=[]) (by kernel_rfl) hN (by show 2≤1000;decide) rfl _ _ _ _ _ rfl];have i2:=j0 (hp:=hp) (a:=af "max") (b:=af "min") (x:=af "disjunctive") (by decide) (by decide) (by decide);rw[show(af "max"==af "disjunctive"||af "min"==af "disjunctive")=false by decide]at i2;have e2:bh hp (.tup [.str (af "disjunctive"),.tup ([x,y].map .int),.tup ([2,0].map .int)]) (.int 2)=some (.tup ([2,0].map .int)):=bF (i:=2) rfl;open_k with[mY,aE (kq "disjunctive") (kq "cumulative"),nb "disjunctive" "cumulative",aE (kq "disjunctive") (kq "disjunctive"),yb "disjunctive" "disjunctive",aE (kq "disjunctive") (kq "table"),nb "disjunctive" "table",aE (kq "disjunctive") (kq "regular"),nb "disjunctive" "regular",i2,e2,XU ([2,0].map V.int) [.int 0] (by decide),XW (N:=N) (k:=k+3) (hp:=hp) (l:=[2,0].map V.int++[.int 0]) (i:=0) (by decide +kernel),show decide ((0:Int)<0)=false from rfl,fw],Ext.refl,rfl,rfl⟩)
 simpa [dG,bl]using this
theorem QC (x y:Int)(hN:20≤N):TF N (k+5) m hp (bl 6 x y) (dG 6 x y m):=by
 have:=mG (k:=k) (m:=m) (hp:=hp) (nm:=af "max") (fm:=[88,120]) (vs:=[.tup (([]:List Int).map .int),.int x]) (bs:=[([]:List Int).all (inR m),inR m x]) (r:=false) (by decide +kernel) rfl (by show 2≤5;decide) (by decide) (by decide) hN (.cons (fX [] (by show 0<N;(apply bR<;>first|assumption|exact rfl)) (by decide)) (.cons (fx x) .nil))
  (λa b hp=>⟨af "max"++af ": there is one variable at least",hp,by
   rw[lV (k:=k+3) (by kernel_rfl) hN _ _ _ _ _ _ rfl];have i2:=j0 (hp:=hp) (a:=af "max") (b:=af "min") (x:=af "max") (by decide) (by decide) (by decide);rw[show(af "max"==af "max"||af "min"==af "max")=true by decide]at i2;have e2:bh hp (.tup [.str (af "max"),.tup (([]:List Int).map .int),.int x]) (.int 1)=some (.tup []):=bF (i:=1) rfl;open_k with[mY,aE (kq "max") (kq "cumulative"),nb "max" "cumulative",aE (kq "max") (kq "disjunctive"),nb "max" "disjunctive",i2,e2,gE (N:=N) (k:=k+3) (hp:=hp) [] (by decide),show(((([]:List V).length:Nat):Int)==0)=true from rfl,vN (af "max") (by decide),List.nil_append,hW (N:=0) (show([]:List Nat).length+(af "max").length≤100000 by decide),hW (N:=0) (show(af "max").length+(af ": there is one variable at least").length≤100000 by decide)],Ext.refl,by decide,by decide⟩)
 simpa [dG,bl]using this
theorem QD (x y:Int)(hN:20≤N):TF N (k+5) m hp (bl 5 x y) (dG 5 x y m):=by
 have:=mG (k:=k) (m:=m) (hp:=hp) (nm:=af "linear_ne") (fm:=[78,88,110]) (vs:=[.tup ([4].map .int),.tup ([x,y].map .int),.int 0]) (bs:=[true,[x,y].all (inR m),true]) (r:=false) (by decide +kernel) rfl (by show 3≤5;decide) (by decide) (by decide) hN (.cons (fN [4] (by show 1<N;(apply bR<;>first|assumption|exact rfl)) (by decide)) (.cons (fX [x,y] (by show 2<N;(apply bR<;>first|assumption|exact rfl)) (by show 2≤1000;decide)) (.cons (fn 0) .nil)))
  (λa b hp=>⟨af "linear_ne"++af ": arguments "++[49]++af " and "++[50]++af " are of unlike lengths",hp,by
   obtain⟨M,rfl⟩:∃M,N=M+1+1:=⟨N - 2,by apply um<;>first|assumption|exact rfl⟩;have e1:bh hp (.tup [.str (af "linear_ne"),.tup ([4].map .int),.tup ([x,y].map .int),.int 0]) (.int 1)=some (.tup ([4].map .int)):=bF (i:=1) rfl;have e2:bh hp (.tup [.str (af "linear_ne"),.tup ([4].map .int),.tup ([x,y].map .int),.int 0]) (.int 2)=some (.tup ([x,y].map .int)):=bF (i:=2) rfl;open_k with[ug,ip,gU,GF,q7 (N:=M+1+1) (k:=k+3) (hp:=hp) (x:=af "linear_ne") (v:=.tup [pr 1 2]) (.tup []) (by kernel_rfl),mH,lP,lj,pr,e1,e2,gE (N:=M+1+1) (k:=k+3) (hp:=hp) ([4].map V.int) (by decide),gE (N:=M+1+1) (k:=k+3) (hp:=hp) ([x,y].map V.int) (by show 2≤1000000;decide),show((([4].map V.int).length:Int)==(([x,y].map V.int).length:Int))=false from rfl,vN (af "linear_ne") (by decide),show ly (.int 1)=some [49]by decide +kernel,show ly (.int 2)=some [50]by decide +kernel,List.nil_append];open_k with[hW (N:=0) (show([]:List Nat).length+(af "linear_ne").length≤100000 by decide),hW (N:=0) (show(af "linear_ne").length+(af ": arguments ").length≤100000 by decide),hW (N:=0) (show(af "linear_ne"++af ": arguments ").length+[49].length≤100000 by decide),hW (N:=0) (show(af "linear_ne"++af ": arguments "++[49]).length+(af " and ").length≤100000 by decide),hW (N:=0) (show(af "linear_ne"++af ": arguments "++[49]++af " and ").length+[50].length≤100000 by decide),hW (N:=0) (show(af "linear_ne"++af ": arguments "++[49]++af " and "++[50]).length+(af " are of unlike lengths").length≤100000 by decide)],Ext.refl,by decide,by decide⟩)
 simpa [dG,bl]using this
theorem VP (w:Nat)(x y:Int)(hN:20≤N):TF N (k+5) m hp (bl w x y) (dG w x y m) :=
 match w with
 |0=>Qx x y hN
 |1=>Qy x y hN
 |2=>Qz x y hN
 |3=>QA x y hN
 |4=>QB x y hN
 |5=>QD x y hN
 |w+6=>by
  have:=QC (k:=k) (m:=m) (hp:=hp) x y hN;have e:dG (w+6) x y m=dG 6 x y m:=by unfold dG;rw[decide_eq_false (show ¬w+6<5 by lia)];rfl
  rw[e];exact this
noncomputable def cZ (w:Nat) (x y:Int):List Int:=match w with
 |2=>[x,y]
 |3=>[x,y,x]
 |_=>[]
theorem Jp (a b:List V)(h:a.length+b.length≤100000):jy .Add (.tup a) (.tup b) hp=.ok (.tup (a++b)) hp:=eB (gH (Nat.le_trans h (by decide)))
theorem iN {nm:List Nat}(vs:List V)(ok:aT nm=true)(h1:(nm==af "clause")=false)(h2:(af "and"==nm||af "or"==nm)=false)(h3:(nm==af "xor")=false)(h4:(af "reif"==nm||af "imp"==nm)=false) :
  ag N (k+1) (.fix (.ref 195)) [.tup (.str nm::vs)] hp=.ok (.tup []) hp:=by
 have i1:=j0 (hp:=hp) (a:=af "and") (b:=af "or") (x:=nm) (by decide) (by decide) ok;have i2:=j0 (hp:=hp) (a:=af "reif") (b:=af "imp") (x:=nm) (by decide) (by decide) ok;have e0:bh hp (.tup (.str nm::vs)) (.int 0)=some (.str nm):=bF (i:=0) rfl;rw[h2]at i1;rw[h4]at i2;rw[wR];open_k with[FT,e0,aE ok (kq "clause"),h1,i1,aE ok (kq "xor"),h3,i2]
theorem Mx (w:Nat)(x y:Int):ag N (k+1) (.fix (.ref 195)) [bl w x y] hp=.ok (.tup ((cZ w x y).map .int)) hp :=
 match w with
 |0=>iN _ (by decide) (by decide) (by decide) (by decide) (by decide)
 |1=>iN _ (by decide) (by decide) (by decide) (by decide) (by decide)
 |2=>by
  have e0:bh hp (bl 2 x y) (.int 0)=some (.str (af "clause")):=bF (i:=0) rfl;have e1:bh hp (bl 2 x y) (.int 1)=some (.tup [.int x]):=bF (i:=1) rfl;have e2:bh hp (bl 2 x y) (.int 2)=some (.tup [.int y]):=bF (i:=2) rfl;rw[wR];open_k with[FT,e0,e1,e2,aE (kq "clause") (kq "clause"),yb "clause" "clause",Jp [V.int x] [.int y] (by show 2≤100000;decide)];rfl
 |3=>by
  have i1:=j0 (hp:=hp) (a:=af "and") (b:=af "or") (x:=af "xor") (by decide) (by decide) (by decide);rw[show(af "and"==af "xor"||af "or"==af "xor")=false by decide]at i1;have e0:bh hp (bl 3 x y) (.int 0)=some (.str (af "xor")):=bF (i:=0) rfl;have e1:gZ hp (bl 3 x y) (some 1) none=.ok (.tup [.int x,.int y,.int x]) hp:=lY [.str (af "xor"),.int x,.int y,.int x] (some 1) none (by show 4≤1000;decide) (by show 3<4;decide);rw[wR];open_k with[FT,e0,aE (kq "xor") (kq "clause"),nb "xor" "clause",i1,aE (kq "xor") (kq "xor"),yb "xor" "xor",show ia (.int 1)=some (some 1)from rfl,bX,e1];rfl
 |4=>iN _ (by decide) (by decide) (by decide) (by decide) (by decide)
 |5=>iN _ (by decide) (by decide) (by decide) (by decide) (by decide)
 |w+6=>iN _ (by decide) (by decide) (by decide) (by decide) (by decide)
noncomputable def du (l:List (Int×Int)):Bool:=l.all λp=>decide (0≤p.1)&&decide (p.2≤1)
def N7 (v:V)(j:Nat):Int:=((((wj v).getD [])[j]?).bind vInt).getD 0
theorem aaY (a b:Int):N7 (.tup [.int a,.int b]) 0=a:=rfl
theorem aaZ (a b:Int):N7 (.tup [.int a,.int b]) 1=b:=rfl
theorem GG (l:List (Int×Int))(h:l.length<N)(hl:l.length≤1000):mE (ag N (k+2) (.fix (.ref 200)) [.tup (l.map pv)]) (.bool (du l)) hp:=by
 let F:V->V:=λv=>.bool (decide (0≤N7 v 0)&&decide (N7 v 1≤1))
 refine bC λnG=>?_
 obtain⟨ay,e,x⟩:=mF (N:=N) (hp:=hp) (i:=cx (aa 0)) (mp:=[none,none,none]) (tg:=.many [1,2]) (ifs:=aS true []) (elt:=(gk true [(xB (ai (aa 1) [(.ge,(xC (.int 0)))])),(xB (ai (aa 2) [(.le,(xC (.int 1)))]))])) (loc:=[some (.tup (l.map pv))]) (λloc=>∃x y,loc=[none,x,y]) (λ_=>true) F (l:=l.map pv) (it:=.vals (l.map pv)) rfl (.vals _) ⟨none,none,rfl⟩ (by simpa using h) (by simpa using hl) (by
  rintro v hv loc ay ⟨x,y,rfl⟩ _;refine aj (List.mem_map.mp hv) λp _ bH=>?_;subst bH;exact⟨_,ay,rfl,⟨_,_,rfl⟩,rfl,Ext.refl,λ_=>⟨ay,by cases hd:decide (0≤p.1)<;>open_k with[hd,F,pv,aaY,aaZ,Bool.true_and,Bool.false_and]<;>exact(congrArg (λb=>R.ok (V.bool (b&&decide (p.2≤1))) ay) hd).symm,Ext.refl⟩⟩)
 refine nG ?_
 have hb:((l.map pv).filter λ_=>true).map F=(l.map λp=>decide (0≤p.1)&&decide (p.2≤1)).map V.bool:=by
  rw[List.filter_eq_self.mpr (λ_ _=>rfl),List.map_map,List.map_map];rfl
 rw[hb]at e;refine⟨ay++[.list ((l.map λp=>decide (0≤p.1)&&decide (p.2≤1)).map .bool)],?_,x.trans (Ext.new _)⟩;rw[PM];open_k with[UY,e,vV (bK _ _)];rw[List.all_map];rfl
theorem Rm {l:List Nat}(h:l.length≤1000):l.length≤1000000:=Nat.le_trans h (by decide)
theorem bb (b:Bool):(!(!b))=b:=by cases b<;>rfl
def dK:List Nat:=af "no piece is told so"
theorem Bu {a b x:List Nat}{r:Bool}(ha:aT a=true)(hb:aT b=true)(hx:aT x=true)(h:(a==x||b==x)=r):qh hp (.str x) (.tup [.str a,.str b])=some r:=by rw[j0 ha hb hx,h]
theorem yo (nm:List Nat)(hn:nm=af "int"∨nm=af "bool")(x:Int)(w:V):ag N (k+4) (.fix (.ref 207)) [.tup [.str nm,.int x],.int m,w] hp=.ok (.str (if inR m x then[]else dK)) hp:=by
 have e0:bh hp (.tup [.str nm,.int x]) (.int 0)=some (.str nm):=bF (i:=0) rfl;have e1:bh hp (.tup [.str nm,.int x]) (.int 1)=some (.int x):=bF (i:=1) rfl;have h1:=gE (N:=N) (k:=k+2) (hp:=hp) [.str nm,.int x] (by show 2≤1000000;decide);rw[rH];cases hv:inR m x<;>rcases hn with rfl|rfl
 ·open_k with[oZ,fV (N:=N) (k:=k+2) (T:="tuple") (v:=.tup [.str (af "int"),.int x]) (b:=true) rfl rfl,h1,e0,e1,show decide ((([V.str (af "int"),.int x].length:Nat):Int)<2)=false from rfl,show((([V.str (af "int"),.int x].length:Nat):Int)==2)=true from rfl,aE (kq "int") (kq "text"),nb "int" "text",Bu (hp:=hp) (a:=af "int") (b:=af "bool") (x:=af "int") (r:=true) (by decide) (by decide) (by decide) (by decide),lT,hv,aE (kq "int") (kq "list"),nb "int" "list",aE (kq "int") (kq "if"),nb "int" "if",dK]
 ·open_k with[oZ,fV (N:=N) (k:=k+2) (T:="tuple") (v:=.tup [.str (af "bool"),.int x]) (b:=true) rfl rfl,h1,e0,e1,show decide ((([V.str (af "bool"),.int x].length:Nat):Int)<2)=false from rfl,show((([V.str (af "bool"),.int x].length:Nat):Int)==2)=true from rfl,aE (kq "bool") (kq "text"),nb "bool" "text",Bu (hp:=hp) (a:=af "int") (b:=af "bool") (x:=af "bool") (r:=true) (by decide) (by decide) (by decide) (by decide),lT,hv,aE (kq "bool") (kq "list"),nb "bool" "list",aE (kq "bool") (kq "if"),nb "bool" "if",dK]
 ·open_k with[oZ,fV (N:=N) (k:=k+2) (T:="tuple") (v:=.tup [.str (af "int"),.int x]) (b:=true) rfl rfl,h1,e0,e1,show decide ((([V.str (af "int"),.int x].length:Nat):Int)<2)=false from rfl,show((([V.str (af "int"),.int x].length:Nat):Int)==2)=true from rfl,aE (kq "int") (kq "text"),nb "int" "text",Bu (hp:=hp) (a:=af "int") (b:=af "bool") (x:=af "int") (r:=true) (by decide) (by decide) (by decide) (by decide),lT,hv,fw]
 ·open_k with[oZ,fV (N:=N) (k:=k+2) (T:="tuple") (v:=.tup [.str (af "bool"),.int x]) (b:=true) rfl rfl,h1,e0,e1,show decide ((([V.str (af "bool"),.int x].length:Nat):Int)<2)=false from rfl,show((([V.str (af "bool"),.int x].length:Nat):Int)==2)=true from rfl,aE (kq "bool") (kq "text"),nb "bool" "text",Bu (hp:=hp) (a:=af "int") (b:=af "bool") (x:=af "bool") (r:=true) (by decide) (by decide) (by decide) (by decide),lT,hv,fw]
theorem GH (l:List Nat)(w:V):ag N (k+4) (.fix (.ref 207)) [.tup [.str (af "text"),.str l],.int m,w] hp=.ok (.str []) hp:=by
 have e0:bh hp (.tup [.str (af "text"),.str l]) (.int 0)=some (.str (af "text")):=bF (i:=0) rfl;have e1:bh hp (.tup [.str (af "text"),.str l]) (.int 1)=some (.str l):=bF (i:=1) rfl;rw[rH];open_k with[oZ,fV (N:=N) (k:=k+2) (T:="tuple") (v:=.tup [.str (af "text"),.str l]) (b:=true) rfl rfl,gE (N:=N) (k:=k+2) (hp:=hp) [.str (af "text"),.str l] (by show 2≤1000000;decide),e0,e1,show decide ((([V.str (af "text"),.str l].length:Nat):Int)<2)=false from rfl,show((([V.str (af "text"),.str l].length:Nat):Int)==2)=true from rfl,aE (kq "text") (kq "text"),yb "text" "text",fV (N:=N) (k:=k+2) (T:="str") (v:=.str l) (b:=true) rfl rfl,fw]
theorem GI (v:V){j:Nat}{l:List V}(h:hp[j]?=some (.list l))(hl:l.length≤1000):ag N (k+4) (.fix (.ref 207)) [.tup [.str (af "list"),v],.int m,.ref j] hp=.ok (.str []) (hp.set j (.list (l++[v]))):=by
 have e0:bh hp (.tup [.str (af "list"),v]) (.int 0)=some (.str (af "list")):=bF (i:=0) rfl;have e1:bh hp (.tup [.str (af "list"),v]) (.int 1)=some v:=bF (i:=1) rfl;rw[rH];open_k with[oZ,fV (N:=N) (k:=k+2) (T:="tuple") (v:=.tup [.str (af "list"),v]) (b:=true) rfl rfl,gE (N:=N) (k:=k+2) (hp:=hp) [.str (af "list"),v] (by show 2≤1000000;decide),e0,e1,show decide ((([V.str (af "list"),v].length:Nat):Int)<2)=false from rfl,show((([V.str (af "list"),v].length:Nat):Int)==2)=true from rfl,aE (kq "list") (kq "text"),nb "list" "text",Bu (hp:=hp) (a:=af "int") (b:=af "bool") (x:=af "list") (r:=false) (by decide) (by decide) (by decide) (by decide),aE (kq "list") (kq "list"),yb "list" "list",i5 h,i0 h (Rm (l:=[]) (Nat.zero_le _)|>λ_=>Nat.le_trans hl (by decide)) v,fw]
theorem XX {j:Nat}{l a:List V}(h:hp[j]?=some (.list l))(hl:l.length+a.length≤100000):ag N (k+1) (bi "list.extend") [.ref j,.tup a] hp=.ok .none (hp.set j (.list (l++a))):=by
 rw[show bi "list.extend"=.fix (.builtin "list.extend")from rfl,fB (g:=tJ) "list.extend" rfl];exact(gp (de h)).trans (eB (gH (Nat.le_trans hl (by decide))))
theorem XY {j:Nat}{x:List V}(h:hp[j]?=some (.list x)):dN hp (.ref j) .extend=some (bi "list.extend"):=cA h
theorem My (x:Int)(u v:V){j:Nat}{l:List V}(h:hp[j]?=some (.list l))(hl:l.length≤1000):ag N (k+4) (.fix (.ref 207)) [.tup [.str (af "if"),.int x,u,v],.int m,.ref j] hp=if inR m x then .ok (.str []) (hp.set j (.list (l++[u,v])))else .ok (.str dK) hp:=by
 have e0:bh hp (.tup [.str (af "if"),.int x,u,v]) (.int 0)=some (.str (af "if")):=bF (i:=0) rfl;have e1:bh hp (.tup [.str (af "if"),.int x,u,v]) (.int 1)=some (.int x):=bF (i:=1) rfl;have e2:gZ hp (.tup [.str (af "if"),.int x,u,v]) (some 2) none=.ok (.tup [u,v]) hp:=lY [.str (af "if"),.int x,u,v] (some 2) none (by show 4≤1000;decide) (by show 2<4;decide);rw[rH];refine bC λnG=>?_;cases hv:inR m x
 ·refine nG ?_;open_k with[oZ,fV (N:=N) (k:=k+2) (T:="tuple") (v:=.tup [.str (af "if"),.int x,u,v]) (b:=true) rfl rfl,gE (N:=N) (k:=k+2) (hp:=hp) [.str (af "if"),.int x,u,v] (by show 4≤1000000;decide),e0,e1,show decide ((([V.str (af "if"),.int x,u,v].length:Nat):Int)<2)=false from rfl,show((([V.str (af "if"),.int x,u,v].length:Nat):Int)==4)=true from rfl,aE (kq "if") (kq "text"),nb "if" "text",Bu (hp:=hp) (a:=af "int") (b:=af "bool") (x:=af "if") (r:=false) (by decide) (by decide) (by decide) (by decide),aE (kq "if") (kq "list"),nb "if" "list",aE (kq "if") (kq "if"),yb "if" "if",lT,hv,dK]
 ·refine nG ?_;open_k with[oZ,fV (N:=N) (k:=k+2) (T:="tuple") (v:=.tup [.str (af "if"),.int x,u,v]) (b:=true) rfl rfl,gE (N:=N) (k:=k+2) (hp:=hp) [.str (af "if"),.int x,u,v] (by show 4≤1000000;decide),e0,e1,show decide ((([V.str (af "if"),.int x,u,v].length:Nat):Int)<2)=false from rfl,show((([V.str (af "if"),.int x,u,v].length:Nat):Int)==4)=true from rfl,aE (kq "if") (kq "text"),nb "if" "text",Bu (hp:=hp) (a:=af "int") (b:=af "bool") (x:=af "if") (r:=false) (by decide) (by decide) (by decide) (by decide),aE (kq "if") (kq "list"),nb "if" "list",aE (kq "if") (kq "if"),yb "if" "if",lT,hv,XY h,show ia (.int 2)=some (some 2)from rfl,bX,e2,XX (N:=N) (k:=k+2) h (show l.length+[u,v].length≤100000 by simp;(apply aI<;>trivial)),fw]
def bN (w:Nat)(x y:Int):List V:=match w with
 |0=>[.tup [.str (af "int"),.int x],.tup [.str (af "text"),.str (af ", ")],.tup [.str (af "bool"),.int y]]
 |1=>[.tup [.str (af "list"),.tup [.tup [.str (af "int"),.int x],.tup [.str (af "int"),.int y]]]]
 |_=>[.tup [.str (af "if"),.int x,.tup [],.tup [.tup [.str (af "int"),.int y]]]]
theorem xe (hp:HP)(a b:O):(hp++[a]).set hp.length b=hp++[b]:=by simp
theorem XZ (l:List V)(v:V)(hl:l.length≤1000):ag N (k+1) (bi "list.pop") [.ref hp.length] (hp++[O.list (l++[v])])=.ok v (hp++[O.list l]):=by
 rw[show bi "list.pop"=.fix (.builtin "list.pop")from rfl,fB (g:=yG) "list.pop" rfl];refine(gp (de (bK hp _))).trans ((gp List.getLast?_concat).trans ((eB (jo ?_)).trans ?_))
 ·rw[List.length_append];show l.length+1≤_;(apply di<;>trivial)
 ·rw[List.dropLast_concat,xe]
def SF (N k m:Nat)(hp:HP)(l:List V)(b:Bool):Prop:=xd (ag N k (.fix (.ref 214)) [.tup l,.int m]) b hp
theorem X0 (l:List V):ag N (k+1) (bi "isinstance") [.tup l,.fix (.type "tuple")] hp=.ok (.bool true) hp:=fV rfl rfl
def sT (c:Ca):Tx:=(ai (aD c (xC (bi "len")) [(aa 2)]) [(.gt,(xC (.int 0)))])
def sF (N:Nat)(c:Ca):List Sx:=[(aR 5 (xF c 207 [(aa 4),(aa 1),(aa 2)])),(bc (ai (aa 5) [(.ne,(xS ""))]) [(aW (aa 5))] [])]
def sB (N:Nat)(c:Ca):List Sx:=[(aR 3 (ax c (aa 2) .pop [])),(bc (cW (tX (aD c (xC (bi "isinstance")) [(aa 3),(xC (.fix (.type "tuple")))]))) [(aW (xS "pieces stand in a list"))] []),(ib N (.one 4) (cx (aa 3)) (sF N c))]
theorem QE (c:Ca)(N:Nat):UZ c N=[(aR 2 (cp [(aa 0)])),(fC N (sT c) (sB N c)),(aW (xS ""))]:=rfl
theorem kH (M:Nat)(l ps:List V)(hl:l.length≤1000)(u x y z:Option V):dI (sT (ag N (k+5))) (aF (sB N (ag N (k+5)))) (M+1) [u,some (.int m),some (.ref hp.length),x,y,z] (hp++[O.list (l++[.tup ps])]) =
  az (cJ (.one 4) (aF (sF N (ag N (k+5)))) N (.vals ps) [u,some (.int m),some (.ref hp.length),some (.tup ps),y,z] (hp++[O.list l])) (wW (sT (ag N (k+5))) (aF (sB N (ag N (k+5)))) M):=by
 have hlen:=len_list (N:=N) (k:=k+4) (bK hp (.list (l++[.tup ps]))) (show(l++[V.tup ps]).length≤1000000 by simp;(apply aI<;>trivial));rw[jW];open_k with[sT,sB,ip,hlen,show decide ((0:Int)<((l++[V.tup ps]).length:Int))=true by simp,N4 (bK hp (.list (l++[.tup ps]))),XZ (N:=N) (k:=k+4) l (.tup ps) hl,X0,gU,mH];generalize cJ _ _ _ _ _ _=r;cases r with
 |ok p hp=>obtain⟨fl,loc⟩:=p;cases fl<;>rfl
 |gI k=>rfl
 |bad=>rfl
theorem vX (M:Nat)(u x y z:Option V):dI (sT (ag N (k+5))) (aF (sB N (ag N (k+5)))) (M+1) [u,some (.int m),some (.ref hp.length),x,y,z] (hp++[O.list []])=.ok (.next,[u,some (.int m),some (.ref hp.length),x,y,z]) (hp++[O.list []]):=by
 have hlen:=len_list (N:=N) (k:=k+4) (bK hp (.list [])) (show([]:List V).length≤1000000 by decide);rw[jW];open_k with[sT,hlen,show decide ((0:Int)<(([]:List V).length:Int))=false from rfl]
theorem iO (M:Nat)(p:V)(ps:List V)(u x y z:Option V){ay aN:HP}(h:ag N (k+5) (.fix (.ref 207)) [p,.int m,.ref hp.length] ay=.ok (.str []) aN) :
  cJ (.one 4) (aF (sF N (ag N (k+5)))) (M+1) (.vals (p::ps)) [u,some (.int m),some (.ref hp.length),x,y,z] ay=cJ (.one 4) (aF (sF N (ag N (k+5)))) M (.vals ps) [u,some (.int m),some (.ref hp.length),x,some p,some (.str [])] aN:=by
 open_k with[lP,lQ,sF,h,fw,lS (show aT []=true from rfl) (show aT []=true from rfl),Ja]
theorem oj (M:Nat)(p:V)(ps:List V)(u x y z:Option V){ay aN:HP}(h:ag N (k+5) (.fix (.ref 207)) [p,.int m,.ref hp.length] ay=.ok (.str dK) aN) :
  cJ (.one 4) (aF (sF N (ag N (k+5)))) (M+1) (.vals (p::ps)) [u,some (.int m),some (.ref hp.length),x,y,z] ay=.ok (.ret (.str dK),[u,some (.int m),some (.ref hp.length),x,some p,some (.str dK)]) aN:=by
 open_k with[lP,lQ,sF,h,fw,lS (show aT dK=true by decide) (show aT []=true from rfl),show(dK==[])=false by decide]
theorem jt {loc:Loc}{ay:HP}{s:List Nat}{told:V}{r:Fl}(e:dI (sT (ag N (k+5))) (aF (sB N (ag N (k+5)))) N [some told,some (.int m),some (.ref hp.length),none,none,none] (hp++[O.list ([]++[told])])=.ok (r,loc) ay)(h:r=.ret (.str s)∨(r=.next∧s=[])) :
  ag N (k+6) (.fix (.ref 214)) [told,.int m] hp=.ok (.str s) ay:=by
 rw[List.nil_append]at e;rw[PO];open_k with[QE,e];rcases h with rfl|⟨rfl,rfl⟩<;>open_k with[fw]
theorem Hc (hN:20≤N):SF N (k+6) m hp [] true:=by
 obtain⟨M,rfl⟩:∃M,N=M+1+1:=⟨N - 2,by apply um<;>trivial⟩;refine⟨[],_,jt (r:=.next) (loc:=[some (.tup []),some (.int m),some (.ref hp.length),some (.tup []),none,none]) ?_ (.inr ⟨rfl,rfl⟩),Ext.new (.list []),rfl,rfl⟩;rw[kH (N:=M+1+1) (M+1) [] [] (by decide)];simp only[jx,jf,jX,jY,vX]
theorem pn {x:Int}(nm:List Nat)(hn:nm=af "int"∨nm=af "bool")(h:inR m x=true)(w:V):ag N (k+5) (.fix (.ref 207)) [.tup [.str nm,.int x],.int m,w] hp=.ok (.str []) hp:=by
 rw[yo nm hn,h,if_pos rfl]
theorem Jq {x:Int}(nm:List Nat)(hn:nm=af "int"∨nm=af "bool")(h:inR m x=false)(w:V):ag N (k+5) (.fix (.ref 207)) [.tup [.str nm,.int x],.int m,w] hp=.ok (.str dK) hp:=by
 rw[yo nm hn,h,if_neg Bool.false_ne_true]
theorem Mz (x y:Int)(hN:20≤N):SF N (k+6) m hp (bN 0 x y) (inR m x&&inR m y):=by
 obtain⟨M,rfl⟩:∃M,N=M+1+1+1+1:=⟨N - 4,by apply zS<;>trivial⟩;have st:=kH (N:=M+1+1+1+1) (k:=k) (m:=m) (hp:=hp) (M+1+1+1) [] (bN 0 x y) (by decide) (some (.tup (bN 0 x y))) none none none;cases hx:inR m x with
 |false =>
  rw[bN,oj (hp:=hp) _ _ _ _ _ _ _ (Jq _ (.inl rfl) hx _)]at st;exact⟨dK,_,jt (hp:=hp) st (.inl rfl),Ext.new (.list []),by decide,by rw[Bool.false_and];decide⟩
 |true =>
  rw[bN,iO (hp:=hp) _ _ _ _ _ _ _ (pn _ (.inl rfl) hx _),iO (hp:=hp) _ _ _ _ _ _ _ (GH (k:=k+1) _ _)]at st;cases hy:inR m y with
  |false =>
   rw[oj (hp:=hp) _ _ _ _ _ _ _ (Jq _ (.inr rfl) hy _)]at st;exact⟨dK,_,jt (hp:=hp) st (.inl rfl),Ext.new (.list []),by decide,by decide⟩
  |true =>
   rw[iO (hp:=hp) _ _ _ _ _ _ _ (pn _ (.inr rfl) hy _),jx]at st;simp only[jf,jX,jY,vX]at st;exact⟨[],_,jt (hp:=hp) st (.inr ⟨rfl,rfl⟩),Ext.new (.list []),by decide,by decide⟩
theorem MA (x y:Int)(hN:20≤N):SF N (k+6) m hp (bN 1 x y) (inR m x&&inR m y):=by
 obtain⟨M,rfl⟩:∃M,N=M+1+1+1+1:=⟨N - 4,by apply zS<;>trivial⟩;have st:=kH (N:=M+1+1+1+1) (k:=k) (m:=m) (hp:=hp) (M+1+1+1) [] (bN 1 x y) (by decide) (some (.tup (bN 1 x y))) none none none;have pl:=GI (N:=M+1+1+1+1) (k:=k+1) (m:=m) (.tup [.tup [.str (af "int"),.int x],.tup [.str (af "int"),.int y]]) (bK hp (.list [])) (by decide);rw[xe]at pl;rw[bN,iO (hp:=hp) _ _ _ _ _ _ _ pl,jx]at st;simp only[jf,jX,jY]at st;rw[kH (hp:=hp) (M+1+1) [] _ (by decide)]at st;cases hx:inR m x with
 |false =>
  rw[oj (hp:=hp) _ _ _ _ _ _ _ (Jq _ (.inl rfl) hx _)]at st;exact⟨dK,_,jt (hp:=hp) st (.inl rfl),Ext.new (.list []),by decide,by rw[Bool.false_and];decide⟩
 |true =>
  rw[iO (hp:=hp) _ _ _ _ _ _ _ (pn _ (.inl rfl) hx _)]at st;cases hy:inR m y with
  |false =>
   rw[oj (hp:=hp) _ _ _ _ _ _ _ (Jq _ (.inl rfl) hy _)]at st;exact⟨dK,_,jt (hp:=hp) st (.inl rfl),Ext.new (.list []),by decide,by decide⟩
  |true =>
   rw[iO (hp:=hp) _ _ _ _ _ _ _ (pn _ (.inl rfl) hy _),jx]at st;simp only[jf,jX,jY,vX]at st;exact⟨[],_,jt (hp:=hp) st (.inr ⟨rfl,rfl⟩),Ext.new (.list []),by decide,by decide⟩
theorem DM (x y:Int):bN 2 x y=[.tup [.str (af "if"),.int x,.tup [],.tup [.tup [.str (af "int"),.int y]]]]:=rfl
theorem MB (x y:Int)(hN:20≤N):SF N (k+6) m hp (bN 2 x y) (inR m x&&inR m y):=by
 obtain⟨M,rfl⟩:∃M,N=M+1+1+1+1:=⟨N - 4,by apply zS<;>trivial⟩;have st:=kH (N:=M+1+1+1+1) (k:=k) (m:=m) (hp:=hp) (M+1+1+1) [] (bN 2 x y) (by decide) (some (.tup (bN 2 x y))) none none none;have pl:=My (N:=M+1+1+1+1) (k:=k+1) (m:=m) x (.tup []) (.tup [.tup [.str (af "int"),.int y]]) (bK hp (.list [])) (by decide);rw[xe]at pl;cases hx:inR m x with
 |false =>
  rw[hx,if_neg Bool.false_ne_true]at pl;rw[DM,oj (hp:=hp) _ _ _ _ _ _ _ pl]at st;exact⟨dK,_,jt (hp:=hp) st (.inl rfl),Ext.new (.list []),by decide,by rw[Bool.false_and];decide⟩
 |true =>
  rw[hx,if_pos rfl]at pl;rw[DM,iO (hp:=hp) _ _ _ _ _ _ _ pl,jx]at st;simp only[jf,jX,jY]at st;rw[show([]++[V.tup [],V.tup [.tup [.str (af "int"),.int y]]]:List V)=[V.tup []]++[V.tup [.tup [.str (af "int"),.int y]]]from rfl,kH (hp:=hp) (M+1+1) [V.tup []] _ (by show 1≤1000;decide)]at st;cases hy:inR m y with
  |false =>
   rw[oj (hp:=hp) _ _ _ _ _ _ _ (Jq _ (.inl rfl) hy _)]at st;exact⟨dK,_,jt (hp:=hp) st (.inl rfl),Ext.new (.list [V.tup []]),by decide,by decide⟩
  |true =>
   rw[iO (hp:=hp) _ _ _ _ _ _ _ (pn _ (.inl rfl) hy _),jx]at st;simp only[jf,jX,jY]at st;rw[show([V.tup []]:List V)=[]++[V.tup []]from rfl,kH (hp:=hp) (M+1) [] _ (by decide),jx]at st;simp only[jf,jX,jY,vX]at st;exact⟨[],_,jt (hp:=hp) st (.inr ⟨rfl,rfl⟩),Ext.new (.list []),by decide,by decide⟩
theorem QF (w:Nat)(x y:Int)(hN:20≤N):SF N (k+6) m hp (bN w x y) (inR m x&&inR m y) :=
 match w with
 |0=>Mz x y hN
 |1=>MA x y hN
 |_+2=>MB x y hN
end
section
variable {N k n L m:Nat}{hp hp':HP}{x:RS}
theorem Ext.rd (e:Ext hp hp')(R:Rd hp n x):Rd hp' n x:=by obtain⟨l,rfl⟩:=e;exact R.app l
noncomputable abbrev VD:=List Nat×List (Int×Int)
structure TD where
 w:Nat
 x:Int
 y:Int
 s:Nat
abbrev VD.v (d:VD):V:=.tup [.str d.1,.tup (d.2.map pv)]
abbrev TD.v (d:TD):V:=bl d.w d.x d.y
noncomputable def cw (vl:List VD) (i:Int):List (Int×Int):=match vl[i.toNat]? with
 |some d=>d.2
 |none=>[]
def TD.right (vl:List VD)(d:TD):Bool:=dG d.w d.x d.y vl.length&&(cZ d.w d.x d.y).all λi=>du (cw vl i)
def om (vl:List VD):List TD->Res Unit
 |[]=>some (.ok ())
 |d::r=>if d.right vl then om vl r else some (.error d.s)
theorem q8 (u:V){s:List Nat}(ok:aT s=true)(p:Int):ag N (k+1) (.fix (.ref 426)) [u,.str s,.int p] hp=if s==[]then .ok .none hp else .gI p:=by
 rw[Qd];cases h:s==[]<;>open_k with[Vf,fw,lS ok (show aT []=true from rfl),h]
theorem X1 (R:Rd hp n x){vl:List VD}(hv:x.vs=vl.map VD.v)(hl:vl.length≤1000){i:Int}(hi:inR vl.length i=true):ag N (k+1) (.fix (.ref 147)) [.ref (n+4),.int i] hp=.ok (.tup ((cw vl i).map pv)) hp:=by
 simp only[inR,Bool.and_eq_true,decide_eq_true_eq]at hi;refine aQ (Int.eq_ofNat_of_zero_le hi.1) λj aC=>?_;subst aC;have hj:j<vl.length:=by apply Ea<;>first|assumption|exact rfl
 have h1:x.vs[j]?=some (VD.v vl[j]):=by rw[hv,List.getElem?_map,List.getElem?_eq_getElem hj];rfl
 have e1:bh hp (.ref (n+6)) (.int (j:Int))=some (VD.v vl[j]):=by
  refine(cA (de R.o6)).trans ?_;exact(cA (n9 (show j<x.vs.length by rw[hv,List.length_map];exact hj) (by apply MT<;>first|assumption|exact rfl))).trans h1
 have e2:cw vl (j:Int)=vl[j].2:=by simp only[cw,Int.toNat_natCast,List.getElem?_eq_getElem hj]
 rw[PH,e2];open_k with[US,R.fvars,e1,show bh hp (VD.v vl[j]) (.int 1)=some (.tup (vl[j].2.map pv))from bF (i:=1) rfl]
def Bv (w:Nat):List Nat:=match w with
 |0=>af "linear_le"
 |1=>af "all_different"
 |2=>af "clause"
 |3=>af "xor"
 |4=>af "disjunctive"
 |5=>af "linear_ne"
 |_=>af "max"
theorem aa0 (w:Nat)(a b:Int):bh hp (bl w a b) (.int 0)=some (.str (Bv w))∧(Bv w).length≤20 :=
 match w with
 |0=>⟨bF (i:=0) rfl,by decide⟩
 |1=>⟨bF (i:=0) rfl,by decide⟩
 |2=>⟨bF (i:=0) rfl,by decide⟩
 |3=>⟨bF (i:=0) rfl,by decide⟩
 |4=>⟨bF (i:=0) rfl,by decide⟩
 |5=>⟨bF (i:=0) rfl,by decide⟩
 |_+6=>⟨bF (i:=0) rfl,show(af "max").length≤20 by decide⟩
theorem Jr {w:Nat}{a b:Int}(h:dG w a b m=true):∀i∈cZ w a b,inR m i=true:=by
 simp only[dG,Bool.and_eq_true,decide_eq_true_eq]at h;intro i hi;unfold cZ at hi;split at hi<;>simp at hi
 ·rcases hi with rfl|rfl
  ·exact h.2.1
  ·exact h.2.2
 ·rcases hi with rfl|rfl|rfl
  ·exact h.2.1
  ·exact h.2.2
  ·exact h.2.1
theorem Js (R:Rd hp n x){vl:List VD}(hv:x.vs=vl.map VD.v)(hl:vl.length≤1000)(hd:∀d∈vl,d.2.length≤10)(hN:60≤N)(d:TD)(ht:dG d.w d.x d.y vl.length=true)(b e:Option V)(u:V) :
  pL (cq N (cx (aD (ag N (k+3)) (xC (.fix (.ref 195))) [(aa 2)])) [none,none,some 0] (.one 1) (aS true []) (aD (ag N (k+3)) (xC (.fix (.ref 200))) [(ax (ag N (k+3)) (aH (aa 2) .flat) .d8 [(aa 1)])]) [some (.ref n),some u,some d.v,b,e]) (((cZ d.w d.x d.y).map λi=>du (cw vl i)).map .bool) hp:=by
 let F:V->V:=λv=>match v with|.int i=>.bool (du (cw vl i))|v=>v
 have hlen:(cZ d.w d.x d.y).length≤3:=by unfold cZ;split<;>simp
 refine bC λnG=>?_
 obtain⟨ay,e1,x1⟩:=mF (N:=N) (hp:=hp) (i:=cx (aD (ag N (k+3)) (xC (.fix (.ref 195))) [(aa 2)])) (mp:=[none,none,some 0]) (tg:=.one 1) (ifs:=aS true []) (elt:=(aD (ag N (k+3)) (xC (.fix (.ref 200))) [(ax (ag N (k+3)) (aH (aa 2) .flat) .d8 [(aa 1)])])) (loc:=[some (.ref n),some u,some d.v,b,e]) (λloc=>∃y,loc=[none,y,some (.ref n)]) (λ_=>true) F (l:=(cZ d.w d.x d.y).map .int) (it:=.vals ((cZ d.w d.x d.y).map .int)) (by
   open_k with[gU,Mx,mH]) (.vals _) ⟨none,rfl⟩ (by rw[List.length_map];(apply ij<;>first|assumption|exact rfl)) (by rw[List.length_map];(apply aI<;>first|assumption|exact rfl)) (by
  rintro v hv' loc ay ⟨y,rfl⟩ xx;refine aj (List.mem_map.mp hv') λi hi bH=>?_;subst bH;have R1:=xx.rd R
  have hlen2:(cw vl i).length≤10:=by
   unfold cw;cases hg:vl[i.toNat]? with
   |none=>decide
   |some d=>exact hd d (List.mem_of_getElem? hg)
  obtain⟨aN,e2,x2⟩:=GG (N:=N) (k:=k+1) (hp:=ay) (cw vl i) (by apply ij<;>first|assumption|exact rfl) (by apply aI<;>first|assumption|exact rfl);exact⟨_,ay,rfl,⟨_,rfl⟩,rfl,Ext.refl,λ_=>⟨aN,by open_k with[R1.flat,R1.sG (k:=.d8) rfl rfl,X1 (N:=N) (k:=k+2) R1 hv hl (Jr ht i hi),e2];rfl,x2⟩⟩)
 refine nG ?_
 have hb:(((cZ d.w d.x d.y).map V.int).filter λ_=>true).map F=((cZ d.w d.x d.y).map λi=>du (cw vl i)).map V.bool:=by
  rw[List.filter_eq_self.mpr (λ_ _=>rfl),List.map_map,List.map_map];rfl
 rw[hb]at e1;exact⟨ay,e1,x1⟩
def tB (c:Ca)(N:Nat):List Sx:=[(bo (ax c (aa 0) .look [(xF c 188 [(aa 2),(aa 1)]),(aa 3)])),(bc (cW (tX (aD c (xC (bi "all")) [(cq N (cx (xF c 195 [(aa 2)])) [none,none,some 0] (.one 1) (aS true []) (xF c 200 [(ax c (aH (aa 2) .flat) .d8 [(aa 1)])]))]))) [(c8 (eP [(c7 (aq (aa 2) (xC (.int 0)))),(xS ": a truth has the values 0 and 1 alone")]) (aa 3))] [])]
theorem X4 {i j:Nat}{a b:List V}(h1:hp[i]?=some (.list a))(h2:hp[j]?=some (.list b)):Em (.ref i) (.ref j) hp=.ok (.zip i j 0) hp:=(gp (de h1)).trans (gp (de h2))
theorem Bw {i j q:Nat}{a b:List V}(h1:hp[i]?=some (.list a))(h2:hp[j]?=some (.list b)):It.next (.zip i j q) hp=M1 i j q a[q]? b[q]?:=(cA (de h1)).trans (cA (de h2))
noncomputable abbrev tL (n m:Nat) (a b:Option V):Loc:=[some (.ref n),some (.int m),a,b,none]
inductive GJ (f:HP->R (Fl×Loc))(loc:Loc)(s:Int)(hp:HP):Bool->Prop
 |good (hp':HP) (x:Ext hp hp') (e:f hp=.ok (.next,loc) hp'):GJ f loc s hp true
 |bad (e:f hp=.gI s):GJ f loc s hp false
section
variable {s:List Nat}{d:TD}{ay aN:HP}{l:List Bool}
theorem QG (R:Rd hp n x)(e1:ag N (k+6) (.fix (.ref 188)) [d.v,.int m] hp=.ok (.str s) ay)(lk:ag N (k+6) (.fix (.ref 426)) [.ref n,.str s,.int d.s] ay=.gI d.s) :
  aF (tB (ag N (k+6)) N) (tL n m (some d.v) (some (.int d.s))) hp=.gI d.s:=by
 open_k with[tB,R.bA (k:=.look) rfl rfl,e1,lk]
theorem QI (R:Rd hp n x)(e1:ag N (k+6) (.fix (.ref 188)) [d.v,.int m] hp=.ok (.str s) ay)(lk:ag N (k+6) (.fix (.ref 426)) [.ref n,.str s,.int d.s] ay=.ok .none ay)
  (e2:cq N (cx (aD (ag N (k+6)) (xC (.fix (.ref 195))) [(aa 2)])) [none,none,some 0] (.one 1) (aS true []) (aD (ag N (k+6)) (xC (.fix (.ref 200))) [(ax (ag N (k+6)) (aH (aa 2) .flat) .d8 [(aa 1)])]) (tL n m (some d.v) (some (.int d.s))) ay=.ok (.ref aN.length) (aN++[.list (l.map .bool)])) (hr:l.all id=false) :
  aF (tB (ag N (k+6)) N) (tL n m (some d.v) (some (.int d.s))) hp=.gI d.s:=by
 have ea:=vV (N:=N) (k:=k+5) (bK aN (.list (l.map .bool)));rw[hr]at ea;have nl:=aa0 (hp:=aN++[O.list (l.map .bool)]) d.w d.x d.y;have q1:fu ([]:List Nat).length (Bv d.w).length=true:=Bt (n:=0) (Nat.le_refl _) nl.2 (by decide);have q2:fu (Bv d.w).length (af ": a truth has the values 0 and 1 alone").length=true:=Bt (m:=38) nl.2 (by decide) (by decide);open_k with[tB,R.bA (k:=.look) rfl rfl,e1,lk,e2,ea,nl.1,vN (Bv d.w) (Nat.le_trans nl.2 (by decide)),q1,q2,List.nil_append]
theorem VQ (R:Rd hp n x)(e1:ag N (k+6) (.fix (.ref 188)) [d.v,.int m] hp=.ok (.str s) ay)(lk:ag N (k+6) (.fix (.ref 426)) [.ref n,.str s,.int d.s] ay=.ok .none ay)
  (e2:cq N (cx (aD (ag N (k+6)) (xC (.fix (.ref 195))) [(aa 2)])) [none,none,some 0] (.one 1) (aS true []) (aD (ag N (k+6)) (xC (.fix (.ref 200))) [(ax (ag N (k+6)) (aH (aa 2) .flat) .d8 [(aa 1)])]) (tL n m (some d.v) (some (.int d.s))) ay=.ok (.ref aN.length) (aN++[.list (l.map .bool)])) (hr:l.all id=true) :
  aF (tB (ag N (k+6)) N) (tL n m (some d.v) (some (.int d.s))) hp=.ok (.next,tL n m (some d.v) (some (.int d.s))) (aN++[.list (l.map .bool)]):=by
 have ea:=vV (N:=N) (k:=k+5) (bK aN (.list (l.map .bool)));rw[hr]at ea;open_k with[tB,R.bA (k:=.look) rfl rfl,e1,lk,e2,ea]
end
theorem Jt (R:Rd hp n x){vl:List VD}(hl:vl.length≤1000)(hd:∀d∈vl,d.2.length≤10)(hN:60≤N)(hv:x.vs=vl.map VD.v)(d:TD) :
  GJ (aF (tB (ag N (k+6)) N) (tL n vl.length (some d.v) (some (.int d.s)))) (tL n vl.length (some d.v) (some (.int d.s))) d.s hp (d.right vl):=by
 cases VP (N:=N) (k:=k+1) (m:=vl.length) (hp:=hp) d.w d.x d.y (by apply bR<;>first|assumption|exact rfl)with
 |mk s ay e1 x1 ok es =>
 have lk:=q8 (N:=N) (k:=k+5) (hp:=ay) (.ref n) ok d.s;rw[es]at lk;unfold TD.right;cases hf:dG d.w d.x d.y vl.length with
 |false =>
  rw[hf,if_neg Bool.false_ne_true]at lk;exact .bad (QG R e1 lk)
 |true =>
  rw[hf,if_pos rfl]at lk;cases Js (k:=k+3) (x1.rd R) hv hl hd hN d hf (some (.int d.s)) none (.int vl.length)with
  |mk aN e2 x2 =>
  have ha:((cZ d.w d.x d.y).map λi=>du (cw vl i)).all id=(cZ d.w d.x d.y).all λi=>du (cw vl i):=List.all_map;cases hr:(cZ d.w d.x d.y).all λi=>du (cw vl i)with
  |false=>exact .bad (QI R e1 lk e2 (ha.trans hr))
  |true=>exact .good _ ((x1.trans x2).trans (Ext.new _)) (VQ R e1 lk e2 (ha.trans hr))
inductive aa1 (n m:Nat)(hp:HP)(p:Fl×Loc)(hp':HP)(_:Unit):Prop
 |mk (a b:Option V) (e:p=(.next,tL n m a b)) (x:Ext hp hp')
theorem Ju {vl:List VD}(hl:vl.length≤1000)(hd:∀d∈vl,d.2.length≤10)(hN:60≤N)(hv:x.vs=vl.map VD.v)(tl:List TD)(ht:x.ts=tl.map TD.v)(hq:x.qs=tl.map λd=>.int d.s)(r:List TD):∀(pre:List TD) (M:Nat) (a b:Option V) {hp:HP},Rd hp n x->tl=pre++r->r.length<M ->
  Wq (cJ (.many [2,3]) (aF (tB (ag N (k+6)) N)) M (.zip (n+7) (n+8) pre.length) (tL n vl.length a b) hp) (om vl r) (aa1 n vl.length hp):=by
 induction r with
 |nil =>
  intro pre M a b hp R e hM;cases M with
  |zero=>cases hM
  |succ M =>
  have h1:x.ts[pre.length]?=none:=by rw[ht,e];simp
  have h2:x.qs[pre.length]?=none:=by rw[hq,e];simp
  rw[NO,Bw R.o7 R.o8,h1,h2];exact .ok ⟨_,_,rfl,Ext.refl⟩
 |cons d r ih =>
  intro pre M a b hp R e hM;cases M with
  |zero=>cases hM
  |succ M =>
  have h1:x.ts[pre.length]?=some d.v:=by rw[ht,e];simp
  have h2:x.qs[pre.length]?=some (.int d.s):=by rw[hq,e];simp
  have tt:=Jt (N:=N) (k:=k) R hl hd hN hv d;rw[NO,Bw R.o7 R.o8,h1,h2];show Wq (az (aF (tB (ag N (k+6)) N) (tL n vl.length (some d.v) (some (.int d.s))) hp) (A6 (.many [2,3]) (aF (tB (ag N (k+6)) N)) M (.zip (n+7) (n+8) (pre.length+1)))) (if d.right vl then om vl r else some (.error d.s)) _
  revert tt
  cases d.right vl with
  |false =>
   intro tt;cases tt with
   |bad e=>rw[e];rfl
  |true =>
   intro tt;cases tt with
   |good hp' xx e' =>
    rw[e'];have:=ih (pre++[d]) M (some d.v) (some (.int d.s)) (xx.rd R) (by rw[e,List.append_assoc];rfl) (Nat.lt_of_succ_lt_succ hM);rw[List.length_append]at this
    exact this.mono λ_ _ _ q=>by
     cases q with
     |mk a b e x2=>exact⟨a,b,e,xx.trans x2⟩
def vY (c:Ca)(N:Nat):List Sx:=[(bo (ax c (aa 0) .look [(xF c 214 [(aH (aH (aa 0) .flat) .shown),(aa 1)]),(aH (aa 0) .b9)])),(aW (aH (aa 0) .flat))]
def GK (c:Ca)(N:Nat):List Sx:=(aR 1 (ax c (aH (aa 0) .flat) .size []))::(ib N (.many [2,3]) (wm (aH (aH (aa 0) .flat) .bZ) (aH (aa 0) .eN)) [(bo (ax c (aa 0) .look [(xF c 188 [(aa 2),(aa 1)]),(aa 3)])),(bc (cW (tX (aD c (xC (bi "all")) [(cq N (cx (xF c 195 [(aa 2)])) [none,none,some 0] (.one 1) (aS true []) (xF c 200 [(ax c (aH (aa 2) .flat) .d8 [(aa 1)])]))]))) [(c8 (eP [(c7 (aq (aa 2) (xC (.int 0)))),(xS ": a truth has the values 0 and 1 alone")]) (aa 3))] [])])::(aR 4 (aq (aH (aH (aa 0) .flat) .goal) (xC (.int 1))))::(bo (ax c (aa 0) .look [(ik (aS false [(ai (aa 4) [(.sZ,(xC .none))]),(tX (xF c 173 [(aa 4),(aa 1)]))]) (xS "") (xS "the goal is no variable")),(aH (aa 0) .cb)]))::vY c N
theorem QJ (c:Ca)(N:Nat):Vg c N=(fC N (ai (aq (aH (aa 0) .ahead) (xC (.int 0))) [(.ne,(xS "end"))]) [(bo (ax c (aa 0) .item []))])::GK c N:=rfl
noncomputable abbrev eM:Option Int->V
 |none=>.none
 |some i=>.int i
def hG (m:Nat):Option Int->Bool
 |none=>true
 |some i=>inR m i
noncomputable abbrev Bx:=Option (Nat×Int×Int)
abbrev Jv:Bx->List V
 |none=>[]
 |some d=>bN d.1 d.2.1 d.2.2
def By (m:Nat):Bx->Bool
 |none=>true
 |some d=>inR m d.2.1&&inR m d.2.2
def rj (vl:List VD)(tl:List TD)(g:Option Int)(gs:Int)(sh:Bx)(ss:Int):Res Unit:=ob (om vl tl) λ_=>if hG vl.length g then(if By vl.length sh then some (.ok ())else some (.error ss))else some (.error gs)
theorem Jw (sh:Bx)(hN:60≤N):SF N (k+6) m hp (Jv sh) (By m sh):=match sh with
 |none=>Hc (by apply bR<;>first|assumption|exact rfl)
 |some d=>QF d.1 d.2.1 d.2.2 (by apply bR<;>first|assumption|exact rfl)
theorem MC (c:Ca)(N:Nat):GK c N=(aR 1 (ax c (aH (aa 0) .flat) .size []))::(ib N (.many [2,3]) (wm (aH (aH (aa 0) .flat) .bZ) (aH (aa 0) .eN)) [(bo (ax c (aa 0) .look [(xF c 188 [(aa 2),(aa 1)]),(aa 3)])),(bc (cW (tX (aD c (xC (bi "all")) [(cq N (cx (xF c 195 [(aa 2)])) [none,none,some 0] (.one 1) (aS true []) (xF c 200 [(ax c (aH (aa 2) .flat) .d8 [(aa 1)])]))]))) [(c8 (eP [(c7 (aq (aa 2) (xC (.int 0)))),(xS ": a truth has the values 0 and 1 alone")]) (aa 3))] [])])::(aR 4 (aq (aH (aH (aa 0) .flat) .goal) (xC (.int 1))))::(bo (ax c (aa 0) .look [(ik (aS false [(ai (aa 4) [(.sZ,(xC .none))]),(tX (xF c 173 [(aa 4),(aa 1)]))]) (xS "") (xS "the goal is no variable")),(aH (aa 0) .cb)]))::vY c N:=rfl
theorem Cw (R:Rd hp n x)(hN:60≤N)(sh:Bx)(hs:x.shown=Jv sh)(a b c:Option V) :
  Wq (bj (aF (vY (ag N (k+7)) N)) [some (.ref n),some (.int m),a,b,c] hp) (if By m sh then some (.ok ())else some (.error x.ss)) λa hp' _=>a=.ref (n+4)∧Ext hp hp':=by
 refine bC λnG=>?_;obtain⟨s,aN,e2,x2,Zx,es⟩:=Jw (N:=N) (k:=k+1) (m:=m) (hp:=hp) sh hN;refine nG ?_;rw[<- hs]at e2;have lk:=q8 (N:=N) (k:=k+6) (hp:=aN) (.ref n) Zx x.ss;rw[es]at lk;have R2:=x2.rd R;cases h:By m sh with
 |true =>
  rw[h,if_pos rfl]at lk;open_k with[vY,R.bA (k:=.look) rfl rfl,R.flat,R.Bf,e2,R2.zx,lk,R2.flat];exact .ok ⟨rfl,x2⟩
 |false =>
  rw[h,if_neg Bool.false_ne_true]at lk;open_k with[vY,R.bA (k:=.look) rfl rfl,R.flat,R.Bf,e2,R2.zx,lk];rfl
theorem GL (R:Rd hp n x){vl:List VD}(hl:vl.length≤1000)(hd:∀d∈vl,d.2.length≤10)(hN:60≤N)(hv:x.vs=vl.map VD.v)(tl:List TD)(SP:tl.length<N)(ht:x.ts=tl.map TD.v)(hq:x.qs=tl.map λd=>.int d.s)(kd:V)(g:Option Int)(hg:x.goal=[kd,eM g])(sh:Bx)(hs:x.shown=Jv sh) :
  Wq (bj (aF (GK (ag N (k+7)) N)) [some (.ref n),none,none,none,none] hp) (rj vl tl g x.gs sh x.ss) λa hp' _=>a=.ref (n+4)∧Ext hp hp':=by
 have DN:x.vs.length=vl.length:=by rw[hv,List.length_map]
 have CR:ag N (k+7) (.fix (.ref 140)) [.ref (n+4)] hp=.ok (.int vl.length) hp:=by
  rw[PG];open_k with[UR,R.fvars,len_list (N:=N) (k:=k+5) R.o6 (show x.vs.length≤1000000 by apply l9<;>first|assumption|exact rfl),DN]
 open_k with[MC,ip,R.flat,R.sG (k:=.size) rfl rfl,CR,R.Be,R.eN,X4 R.o7 R.o8];refine(Ju (k:=k+1) hl hd hN hv tl ht hq tl [] N none none R rfl SP).bind ?_;rintro _ ay _ ⟨a,b,rfl,x1⟩;have R1:=x1.rd R;have eg:bh ay (.tup x.goal) (.int 1)=some (eM g):=by rw[hg];exact bF (i:=1) rfl
 have ms:=(Cw (k:=k) (m:=vl.length) R1 hN sh hs a b (some (eM g))).mono (Q':=λa hp' _=>a=.ref (n+4)∧Ext hp hp') λ_ _ _ q=>⟨q.1,x1.trans q.2⟩;rw[fO]at ms;cases g with
 |none =>
  have lk:=q8 (N:=N) (k:=k+6) (hp:=ay) (.ref n) (s:=af "") (by decide) x.gs;rw[show(af ""==[])=true by decide,if_pos rfl]at lk;open_k with[R1.flat,R1.zy,eg,eM,R1.vL,R1.bA (k:=.look) rfl rfl,lk,hG];exact ms
 |some i =>
  have hv:=lT (N:=N) (k:=k+4) (hp:=ay) (m:=vl.length) i;refine bC λnG=>?_;cases h:inR vl.length i with
  |true =>
   refine nG ?_;have lk:=q8 (N:=N) (k:=k+6) (hp:=ay) (.ref n) (s:=af "") (by decide) x.gs;rw[show(af ""==[])=true by decide,if_pos rfl]at lk;rw[h]at hv;open_k with[R1.flat,R1.zy,eg,eM,R1.vL,R1.bA (k:=.look) rfl rfl,lk,hG,h,hv];exact ms
  |false =>
   refine nG ?_;have lk:=q8 (N:=N) (k:=k+6) (hp:=ay) (.ref n) (s:=af "the goal is no variable") (by decide) x.gs;rw[show(af "the goal is no variable"==[])=false by decide,if_neg Bool.false_ne_true]at lk;rw[h]at hv;open_k with[R1.flat,R1.zy,eg,eM,R1.vL,R1.bA (k:=.look) rfl rfl,lk,hG,h,hv];rfl
theorem RT.ex {T:List Nat}{ts:TS}{F:FD}(h:RT N hp n T ts F):∃t p q,Rd hp n (qW T p t q F):=by
 cases h.rd with
 |mk t q r p ok R=>exact⟨t,p,q,R⟩
theorem DO {T:List Nat}{ts:TS}{F:FD}(h:RT N hp n T ts F)(hN:60≤N)(j:Nat)(hj:j≤N)(post:TS×FD->Res Unit)
  (X6:∀b,kG j ts F=some (.ok b)->∃(vl:List VD) (tl:List TD) (kd:V) (g:Option Int) (sh:Bx),vl.length≤1000∧(∀d∈vl,d.2.length≤10)∧b.2.vs=vl.map VD.v∧tl.length<N∧b.2.ts=tl.map TD.v∧(b.2.qs=tl.map λd=>.int d.s)∧b.2.goal=[kd,eM g]∧b.2.shown=Jv sh∧post b=rj vl tl g b.2.gs sh b.2.ss) :
  Wq (ag N (k+12) (.fix (.ref 431)) [.ref n] hp) (ob (kG j ts F) λb=>ob (post b) λ_=>some (.ok b)) λa hp' b=>a=.ref (n+4)∧(∃t p q,Rd hp' n (qW T p t q b.2))∧Fr n hp hp':=by
 rw[Qe];open_k with[QJ];have rl:=Jm (k:=k) hN [none,none,none,none] j N h hj;cases e:kG j ts F with
 |none=>trivial
 |some r =>
  rw[e]at rl;cases r with
  |error k' =>
   have:dI sN (aF [(bo (ax (ag N (k+11)) (aa 0) .item []))]) N (some (.ref n)::[none,none,none,none]) hp=.gI k':=rl;rw[sN]at this;rw[this];rfl
  |ok b =>
   refine bC λnG=>?_;obtain⟨_,ay,e1,rfl,h1,f1⟩:=rl;refine nG ?_;rw[sN]at e1;rw[e1];refine bC λnG=>?_;refine ZT (X6 b e) λvl tl kd g sh a1 a2 a3 a4 a5 a6 a7 a8 a9=>?_;refine ow (h1.ex) λt p q R1=>?_;refine nG ?_;have mt:=GL (k:=k+4) R1 a1 a2 hN a3 tl a4 a5 a6 kd g a7 sh a8;rw[fO]at mt;open_k with[ob,a9];have:rj vl tl g b.2.gs sh b.2.ss=rj vl tl g (qW T p t q b.2).gs sh (qW T p t q b.2).ss:=rfl;rw[<- this]at mt
   revert mt
   generalize rj vl tl g b.2.gs sh b.2.ss=pe;intro mt;rcases pe with _|k'|u
   ·trivial
   ·exact mt
   ·refine bC λnG=>?_;refine cg mt λa aN e2 eQ x2=>?_;subst eQ;refine nG ?_;exact⟨_,aN,e2,rfl,⟨t,p,q,x2.rd R1⟩,f1.trans x2.fr⟩
end
section
variable {N k n L m:Nat}{hp hp':HP}{T:List Nat}
theorem pA {a d:Nat}{C:Addr}{es:List (Key×V)}(h1:hp[a]?=some (.inst C d))(h2:hp[d]?=some (.dict es))(key:Key)(v:V)(ok:attrOk C key=true)(hl:es.length≤100):dn hp (.ref a) key v=some (hp.set d (.dict (dput es key v))):=by
 exact Obj.put ⟨h1,h2⟩ (by rw[ok,decide_eq_true hl];rfl) rfl
theorem aA {a d:Nat}{C:Addr}{es:List (Key×V)}{v:V}(h1:hp[a]?=some (.inst C d))(h2:hp[d]?=some (.dict es))(key:Key)(ok:attrOk C key=true)(hv:eu es key=some v)(hf:∀f,v≠.fix f):eA hp (.ref a) key=some v:=by
 refine Obj.attr ⟨h1,h2⟩ ?_;rw[ok,hv];cases v with
 |fix f=>exact absurd rfl (hf f)
 |_=>rfl
theorem gA (i:Nat)(hp l:HP):(hp++l)[hp.length+i]?=l[i]?:=by rw[List.getElem?_append_right (Nat.le_add_right _ _),Nat.add_sub_cancel_left]
theorem DP (hp l:HP):(hp++l)[hp.length]?=l[0]?:=gA 0 hp l
theorem sA (i:Nat)(hp l:HP)(o:O):(hp++l).set (hp.length+i) o=hp++l.set i o:=by rw[List.set_append_right _ _ (Nat.le_add_right _ _),Nat.add_sub_cancel_left]
theorem QK (v:V):ag N (k+1) (.fix (.ref 273)) [v] hp=az (ag N k (.fix (.ref 228)) [.ref hp.length,v] (hp++[.inst 273 (hp.length+1),.dict []])) λr hp'=>match r with
  |.none=>.ok (.ref hp.length) hp'
  |_=>.bad:=rfl
theorem QL:ag N (k+1) (.fix (.ref 150)) [] hp=az (ag N k (.fix (.ref 119)) [.ref hp.length] (hp++[.inst 150 (hp.length+1),.dict []])) λr hp'=>match r with
  |.none=>.ok (.ref hp.length) hp'
  |_=>.bad:=rfl
theorem QM (v:V):ag N (k+1) (.fix (.ref 434)) [v] hp=az (ag N k (.fix (.ref 370)) [.ref hp.length,v] (hp++[.inst 434 (hp.length+1),.dict []])) λr hp'=>match r with
  |.none=>.ok (.ref hp.length) hp'
  |_=>.bad:=rfl
theorem Cy:ag N (k+2) (.fix (.ref 273)) [.str T] hp=.ok (.ref hp.length) (hp++[.inst 273 (hp.length+1),SD T 0]):=by
 have p1:=pA (hp:=hp++[.inst 273 (hp.length+1),.dict []]) (a:=hp.length) (d:=hp.length+1) (C:=273) (es:=[]) (DP _ _) (gA 1 _ _) .text (.str T) rfl (by decide);rw[sA]at p1;have p2:=pA (hp:=hp++[.inst 273 (hp.length+1),.dict [(.text,.str T)]]) (a:=hp.length) (d:=hp.length+1) (C:=273) (es:=[(.text,.str T)]) (DP _ _) (gA 1 _ _) .bG (.int 0) rfl (by show 1≤100;decide);rw[sA]at p2;rw[QK,PQ];open_k with[U0,p1,show(List.set [O.inst 273 (hp.length+1),O.dict []] 1 (O.dict (dput [] .text (.str T))))=[.inst 273 (hp.length+1),.dict [(.text,.str T)]]from rfl,p2];rfl
def F0:FD:=⟨[],[],[.str (af "satisfy"),.none],[],[],-1,-1⟩
theorem MD:ag N (k+2) (.fix (.ref 150)) [] hp=.ok (.ref hp.length) (hp++[.inst 150 (hp.length+1),.dict [(.vars,.ref (hp.length+2)),(.bZ,.ref (hp.length+3)),(.goal,.tup F0.goal),(.shown,.tup [])],.list [],.list []]):=by
 have st:∀(es:List (Key×V)) (l:HP) key v,attrOk 150 key=true->es.length≤100->dn (hp++(.inst 150 (hp.length+1)::.dict es::l)) (.ref hp.length) key v=some (hp++(.inst 150 (hp.length+1)::.dict (dput es key v)::l)):=λes l key v h1 h2=>by
  rw[pA (d:=hp.length+1) (C:=150) (es:=es) (DP _ _) (gA 1 _ _) key v h1 h2,sA];rfl
 have ln:∀(l:HP),(hp++l).length=hp.length+l.length:=λl=>List.length_append;rw[QL,PD];open_k with[UO,ln,List.append_assoc,List.cons_append,List.nil_append,List.length_cons,List.length_nil,Nat.zero_add,Nat.reduceAdd,st [] _ .vars _ rfl (by decide)];open_k with[show ∀v,dput [] Key.vars v=[(Key.vars,v)]from λ_=>rfl,ln,List.append_assoc,List.cons_append,List.nil_append,List.length_cons,List.length_nil,Nat.zero_add,Nat.reduceAdd,st [(.vars,.ref (hp.length+2))] _ .bZ _ rfl (by show 1≤100;decide)];open_k with[show ∀u v,dput [(Key.vars,u)] Key.bZ v=[(Key.vars,u),(Key.bZ,v)]from λ_ _=>rfl,st [(.vars,.ref (hp.length+2)),(.bZ,.ref (hp.length+3))] _ .goal _ rfl (by show 2≤100;decide)];open_k with[show ∀u v w,dput [(Key.vars,u),(Key.bZ,v)] Key.goal w=[(Key.vars,u),(Key.bZ,v),(Key.goal,w)]from λ_ _ _=>rfl,st [(.vars,.ref (hp.length+2)),(.bZ,.ref (hp.length+3)),(.goal,.tup [.str (af "satisfy"),.none])] _ .shown _ rfl (by show 3≤100;decide)];rfl
theorem Bz:-(1:Int)=-1:=rfl
theorem QN {a d:Nat}(c:Ca)(as:List Ex)(loc:Loc)(h:hp[a]?=some (.inst 434 d)):ji c as (some (.ref a)::loc) hp=az (xs as (some (.ref a)::loc) hp) λvs hp=>c (.fix (.ref 291)) (.ref a::vs) hp:=by
 show rI (me hp a) _=_;refine eB ?_;unfold me;rw[A7 h];rfl
theorem Rd.lay {x:RS}(hT:x.T.length≤1000000)(hC:aT x.T=true):Rd (hp++cells hp.length x) hp.length x:=⟨λj _ e=>(gA j _ _).trans e,hT,hC⟩
theorem GN {t:Tok}{b q:Nat}(nx:Bi N T 0 t b q)(hT:T.length≤1000000)(hC:aT T=true)(hN:T.length<N)(ht:t.g=[]) :
  ∃hp',ag N (k+7) (.fix (.ref 434)) [.str T] hp=.ok (.ref hp.length) hp'∧Ext hp hp'∧Rd hp' hp.length (qW T q t b F0):=by
 refine bC λnG=>?_;obtain⟨m,nn,len,sk,hl,hm,rfl,rfl,lx⟩:=nx;refine nG ?_
 have st:∀(es:List (Key×V)) (l:HP) key v,attrOk 434 key=true->es.length≤100->dn (hp++(.inst 434 (hp.length+1)::.dict es::l)) (.ref hp.length) key v=some (hp++(.inst 434 (hp.length+1)::.dict (dput es key v)::l)):=λes l key v h1 h2=>by
  rw[pA (d:=hp.length+1) (C:=434) (es:=es) (DP _ _) (gA 1 _ _) key v h1 h2,sA];rfl
 have ln:∀(l:HP),(hp++l).length=hp.length+l.length:=λl=>List.length_append;have S0:dy (hp++[.inst 434 (hp.length+1),.dict [(.bM,.ref (hp.length+2))],.inst 273 (hp.length+3),SD T 0]) (hp.length+2) (hp.length+3) T 0:=⟨gA 2 _ _,gA 3 _ _,hT,hC⟩;have tc:=DB (k:=k) (N:=N) S0 sk hl hN hm rfl lx;rw[ht,List.append_nil,sA]at tc
 have sn:ag N (k+4) (.fix (.ref 273)) [.str T] (hp++[.inst 434 (hp.length+1),.dict []])=.ok (.ref (hp.length+2)) (hp++[.inst 434 (hp.length+1),.dict [],.inst 273 (hp.length+3),SD T 0]):=by
  have sn:=Cy (N:=N) (k:=k+2) (T:=T) (hp:=hp++[.inst 434 (hp.length+1),.dict []]);rw[ln,List.append_assoc]at sn;exact sn
 have j9:∀l,eA (hp++(.inst 434 (hp.length+1)::.dict [(.bM,.ref (hp.length+2))]::l)) (.ref hp.length) .bM=some (.ref (hp.length+2)):=λl=>aA (DP _ _) (gA 1 _ _) .bM rfl rfl (λ_ h=>by cases h)
 have aa2:ag N (k+5) (.fix (.ref 291)) [.ref hp.length,.str T] (hp++[.inst 434 (hp.length+1),.dict []])=.ok .none (hp++[.inst 434 (hp.length+1),.dict [(.bM,.ref (hp.length+2)),(.ahead,t.v (0+nn))],.inst 273 (hp.length+3),SD T (0+nn+len)]):=by
  rw[PY];have p1:=st [] [.inst 273 (hp.length+3),SD T 0] .bM (.ref (hp.length+2)) rfl (by decide);rw[show dput [] Key.bM (.ref (hp.length+2))=[(Key.bM,.ref (hp.length+2))]from rfl]at p1;have p2:=st [(.bM,.ref (hp.length+2))] [.inst 273 (hp.length+3),SD T (0+nn+len)] .ahead (t.v (0+nn)) rfl (by show 1≤100;decide);simp only[List.set_cons_succ,List.set_cons_zero]at tc;open_k with[U6,sn,p1,j9,S0.mt,tc,p2];rfl
 have VR:=MD (N:=N) (k:=k+3) (hp:=hp++[.inst 434 (hp.length+1),.dict [(.bM,.ref (hp.length+2)),(.ahead,t.v (0+nn))],.inst 273 (hp.length+3),SD T (0+nn+len)]);rw[ln,List.append_assoc]at VR
 let D1 (es:List (Key×V)):O:=.dict ([(.bM,.ref (hp.length+2)),(.ahead,t.v (0+nn))]++es)
 let H (es:List (Key×V)) (l:HP):HP:=hp++(.inst 434 (hp.length+1)::.dict ([(.bM,.ref (hp.length+2)),(.ahead,t.v (0+nn))]++es)::[.inst 273 (hp.length+3),SD T (0+nn+len),.inst 150 (hp.length+5),.dict [(.vars,.ref (hp.length+6)),(.bZ,.ref (hp.length+7)),(.goal,.tup F0.goal),(.shown,.tup [])],.list [],.list []]++l)
 have X7:ag N (k+5) (.fix (.ref 150)) [] (hp++[.inst 434 (hp.length+1),.dict [(.bM,.ref (hp.length+2)),(.ahead,t.v (0+nn))],.inst 273 (hp.length+3),SD T (0+nn+len)])=.ok (.ref (hp.length+4)) (H [] []):=VR
 have sp (es:List (Key×V)) (l:HP) (key:Key) (v:V) (h1:attrOk 434 key=true) (h2:es.length≤50) (h3:dput ([(.bM,.ref (hp.length+2)),(.ahead,t.v (0+nn))]++es) key v=[(.bM,.ref (hp.length+2)),(.ahead,t.v (0+nn))]++(es++[(key,v)])):dn (H es l) (.ref hp.length) key v=some (H (es++[(key,v)]) l):=by
  have:=st ([(.bM,.ref (hp.length+2)),(.ahead,t.v (0+nn))]++es) ([.inst 273 (hp.length+3),SD T (0+nn+len),.inst 150 (hp.length+5),.dict [(.vars,.ref (hp.length+6)),(.bZ,.ref (hp.length+7)),(.goal,.tup F0.goal),(.shown,.tup [])],.list [],.list []]++l) key v h1 (by simp;(apply aI<;>trivial));rw[h3]at this;exact this
 have hl:∀es,(H es []).length=hp.length+8:=λes=>by simp[H]
 have aa3:∀es,H es []++[O.list []]=H es [.list []]:=λes=>by simp[H]
 let E4:List (Key×V):=[(.flat,.ref (hp.length+4)),(.eN,.ref (hp.length+8)),(.cb,.int (-1)),(.b9,.int (-1))]
 have hE:H E4 [.list []]=hp++cells hp.length (qW T (0+nn+len) t (0+nn) F0):=by
  show hp++(O.inst 434 (hp.length+1)::O.dict ([(.bM,.ref (hp.length+2)),(.ahead,t.v (0+nn))]++E4)::_)=_;rw[NY];rfl
 refine⟨H E4 [.list []],?_,⟨_,rfl⟩,hE▸Rd.lay hT hC⟩
 ·rw[QM,P5];open_k with[Va,QN (hp:=hp++[O.inst 434 (hp.length+1),O.dict []]) (d:=hp.length+1) _ _ _ (DP _ _),aa2,X7,sp [] [] .flat _ rfl (by decide) rfl,List.nil_append,hl,aa3];open_k with[sp [(.flat,.ref (hp.length+4))] [.list []] .eN _ rfl (by show 1≤50;decide) rfl,List.cons_append,List.nil_append,Bz];open_k with[sp [(.flat,.ref (hp.length+4)),(.eN,.ref (hp.length+8))] [.list []] .cb _ rfl (by show 2≤50;decide) rfl,List.cons_append,List.nil_append];open_k with[sp [(.flat,.ref (hp.length+4)),(.eN,.ref (hp.length+8)),(.cb,.int (-1))] [.list []] .b9 _ rfl (by show 3≤50;decide) rfl,List.cons_append,List.nil_append];rfl
deriving instance DecidableEq for Tok
def Bl (B:List Nat):Prop:=∃c B',B=c::B'∧(c=32∨c=10∨c=9)
theorem Bl.not {B:List Nat}(h:Bl B)(g:List Nat)(h1:g.contains 32=false)(h2:g.contains 10=false)(h3:g.contains 9=false):runN g B=0:=by
 obtain⟨c,B',rfl,rfl|rfl|rfl⟩:=h<;>simp only[runN,h1,h2,h3,Bool.false_eq_true,if_false]
theorem pN {g B:List Nat}(h:runN g B=0):∀l,runN g (l++B)=runN g l
 |[]=>h
 |c::r=>by simp only[List.cons_append,runN,pN h r]
theorem jg.app {l B:List Nat}{t:Tok}{q:Nat}(x:jg l t q)(hl:l≠[])(hB:Bl B):jg (l++B) t q:=by
 cases x with
 |fin=>exact absurd rfl hl
 |word c r h _ e =>
  have h1:=pN (hB.not (LT++DG) (by decide) (by decide) (by decide)) (c::r);have h2:((c::r)++B).take q=(c::r).take q:=List.take_append_of_le_length (e▸hV _ _);rw[<- h2];exact .word c (r++B) h q (e.trans h1.symm)
 |num c r h _ e hn i hi =>
  have h1:=pN (hB.not DG (by decide) (by decide) (by decide)) (c::r);have h2:((c::r)++B).take q=(c::r).take q:=List.take_append_of_le_length (e▸hV _ _);exact .num c (r++B) h q (e.trans h1.symm) hn i (by rw[<- h2]at hi;exact hi)
 |neg r n' e h0 hn i hi =>
  have h1:=pN (hB.not DG (by decide) (by decide) (by decide)) r;have h2:(r++B).take n'=r.take n':=List.take_append_of_le_length (e▸hV _ _);exact .neg (r++B) n' (e.trans h1.symm) h0 hn i (by rw[<- h2]at hi;exact hi)
 |text w r h =>
  have:=jg.text w (r++B) h
  simpa using this
 |Gr r=>exact .Gr _
 |sign c r h=>exact .sign c _ h
noncomputable def quoted:List Nat->List Nat
 |[]=>[]
 |c::r=>if c=34∨c=10∨c=92 then[]else c::quoted r
theorem yp:∀l,∀c∈quoted l,c≠34∧c≠10∧c≠92
 |[],c,h=>by cases h
 |d::r,c,h=>by
  unfold quoted at h;split at h
  ·cases h
  ·rename_i hd;rcases List.mem_cons.mp h with rfl|h
   ·exact⟨λe=>hd (.inl e),λe=>hd (.inr (.inl e)),λe=>hd (.inr (.inr e))⟩
   ·exact yp r c h
theorem vZ:∀l,l=quoted l++l.drop (quoted l).length
 |[]=>rfl
 |d::r=>by
  unfold quoted;split
  ·rfl
  ·exact congrArg (d::·) (vZ r)
def GO (l:List Nat):Option (Tok×Nat):=match l with
 |[]=>none
 |c::r=>if LT.contains c then some (.word ((c::r).take (runN (LT++DG) (c::r))),runN (LT++DG) (c::r))
  else if DG.contains c then(if runN DG (c::r)≤640 then(PySem.intText? (S ((c::r).take (runN DG (c::r))))).map λi=>(.number i,runN DG (c::r))else none)
  else if c=45 then(if 0<runN DG r∧runN DG r≤640 then(PySem.intText? (S (r.take (runN DG r)))).map λi=>(.number (-i),runN DG r+1)else none)
  else if c=34 then(if(r.drop (quoted r).length).head?=some 34 then some (.text (quoted r),(quoted r).length+2)else none)
  else if c=46 then(if r.head?=some 46 then some (.sign [46,46],2)else none)
  else if SG.contains c then some (.sign [c],1)else none
theorem kQ {A:Type}{c:Prop}[Decidable c]{a b x:A}{G:Prop}(h:(if c then a else b)=x)(k1:c->a=x->G)(k2:¬c->b=x->G):G:=by
 by_cases hc:c
 ·exact k1 hc ((if_pos hc).symm.trans h)
 ·exact k2 hc ((if_neg hc).symm.trans h)
theorem DQ {A:Type}{x:A}{P:Prop}(h:none=some x):P:=by cases h
theorem zE {A B:Type}{a a':A}{b b':B}{G:Prop}(h:some (a,b)=some (a',b'))(k:a=a'->b=b'->G):G:=by
 cases h;exact k rfl rfl
theorem N8 {r:List Nat}{c:Nat}(h:r.head?=some c):r=c::r.tail:=by
 cases r with
 |nil=>cases h
 |cons x y=>cases h;rfl
theorem QO {l:List Nat}{t:Tok}{q:Nat}(h:GO l=some (t,q)):jg l t q:=by
 cases l with
 |nil=>exact DQ h
 |cons c r =>
  unfold GO at h;refine kQ h (λh1 h=>zE h λe1 e2=>e1▸e2▸.word c r h1 _ rfl) λ_ h=>?_;refine kQ h (λh2 h=>kQ h (λh3 h=>?_) λ_ h=>DQ h) λ_ h=>?_
  ·refine aj (Option.map_eq_some_iff.mp h) λi hi e=>?_;cases e
   exact .num c r h2 _ rfl h3 i hi
  refine kQ h (λh4 h=>kQ h (λh3 h=>?_) λ_ h=>DQ h) λ_ h=>?_
  ·refine aj (Option.map_eq_some_iff.mp h) λi hi e=>?_;cases e
   exact h4▸.neg r _ rfl h3.1 h3.2 i hi
  refine kQ h (λh5 h=>kQ h (λh6 h=>zE h λe1 e2=>?_) λ_ h=>DQ h) λ_ h=>?_
  ·have e:r=quoted r++34::(r.drop (quoted r).length).tail:=(vZ r).trans (congrArg (quoted r++·) (N8 h6));have:=jg.text (quoted r) (r.drop (quoted r).length).tail (yp r);rw[<- e]at this;exact e1▸e2▸h5▸this
  refine kQ h (λh6 h=>kQ h (λh7 h=>zE h λe1 e2=>?_) λ_ h=>DQ h) λ_ h=>kQ h (λh7 h=>zE h λe1 e2=>e1▸e2▸.sign c r h7) λ_ h=>DQ h
  ·rw[N8 h7,h6,<- e1,<- e2];exact .Gr r.tail
def nu:Nat->Nat->List Nat->Option TS
 |0,_,_=>none
 |j+1,o,l=>match l.drop (runN BL l)with
  |[]=>if runN BL l=0 then some []else none
  |c::r=>if c=37 then none else match GO (c::r)with
   |none=>none
   |some (t,n)=>if j2 t=true∧n≤(c::r).length then(nu j (o+runN BL l+n) ((c::r).drop n)).map ((t,o+runN BL l)::·)else none
def Row (N:Nat)(U:List Nat):Nat->TS->Nat->Prop
 |p,[],q=>p=q
 |p,(t,b)::r,q=>j2 t=true∧∃q',Bi N U p t b q'∧Row N U q' r q
theorem Row.append {U:List Nat}:∀{p:Nat} {a:TS} {q:Nat} {b:TS} {r:Nat},Row N U p a q->Row N U q b r->Row N U p (a++b) r:=by
 intro p a q b r
 induction a generalizing p with
 |nil=>exact λh h'=>(show p=q from h)▸h'
 |cons x a ih=>exact λh h'=>⟨h.1,h.2.elim λq' h2=>⟨q',h2.1,ih h2.2 h'⟩⟩
theorem Row.toks {U:List Nat}{t:Tok}{b q':Nat}(ok:j2 t=true):∀{p:Nat} {a:TS} {q:Nat},Row N U p a q->Bi N U q t b q'->BU N U p (a++[(t,b)]):=by
 intro p a q
 induction a generalizing p with
 |nil=>exact λh h'=>⟨ok,q',(show p=q from h)▸h',trivial⟩
 |cons x a ih=>exact λh h'=>⟨h.1,h.2.elim λq h2=>⟨q,h2.1,ih h2.2 h'⟩⟩
noncomputable abbrev dh (a:Nat) (ts:TS):TS:=ts.map λx=>(x.1,a+x.2)
theorem QP {l B:List Nat}{c:Nat}{r:List Nat}(e:l.drop (runN BL l)=c::r)(hc:c≠37):jZ 0 (l++B) (runN BL l):=by
 have iF:runN BL l<l.length:=by
  have:=congrArg List.length e;simp at this;(apply Hg<;>trivial)
 have h1:∀(l:List Nat),runN BL l<l.length->runN BL (l++B)=runN BL l:=by
  intro l
  induction l with
  |nil=>intro h;exact absurd h (Nat.not_lt_zero _)
  |cons c r ih =>
   intro h;simp only[List.cons_append,runN]at h ⊢;by_cases hb:BL.contains c=true
   ·simp only[hb,if_true,List.length_cons]at h ⊢;rw[ih (by apply D9<;>trivial)]
   ·simp only[if_neg hb]
 have h2:(l++B).drop (runN BL l)=c::(r++B):=by rw[List.drop_append_of_le_length (Nat.le_of_lt iF),e];rfl
 have:=jZ.stop (l++B) (by rw[h1 l iF,h2];simpa using hc)
 rwa [h1 l iF]at this
theorem ME {U B:List Nat}(hB:Bl B)(a:Nat)(hN:0<N):∀(j o:Nat) (l:List Nat) {ts:TS},nu j o l=some ts->U.drop (a+o)=l++B->Row N U (a+o) (dh a ts) (a+o+l.length):=by
 intro j
 induction j with
 |zero=>exact λo l ts h=>by cases h
 |succ j I4 =>
  intro o l ts h hU;unfold nu at h;cases e:l.drop (runN BL l)with
  |nil =>
   rw[e]at h;simp only at h;by_cases h0:runN BL l=0
   ·rw[if_pos h0]at h;cases h
    rw[h0,List.drop_zero]at e;subst e;exact rfl
   ·rw[if_neg h0]at h;cases h
  |cons c r =>
   rw[e]at h;simp only at h;by_cases hc:c=37
   ·rw[if_pos hc]at h;cases h
   ·rw[if_neg hc]at h;cases hx:GO (c::r)with
    |none=>rw[hx]at h;cases h
    |some x =>
     obtain⟨t,n⟩:=x;rw[hx]at h;simp only at h;by_cases jb:j2 t=true∧n≤(c::r).length
     ·rw[if_pos jb]at h;refine aj (Option.map_eq_some_iff.mp h) λiu h' bH=>?_;subst bH;have hlen:=congrArg List.length e;rw[List.length_drop]at hlen;have hr:=hV BL l;have VS:=congrArg List.length hU;rw[List.length_drop,List.length_append]at VS;have hb:0<B.length:=by obtain⟨c,B',rfl,_⟩:=hB;simp
      have d1:U.drop (a+(o+runN BL l))=(c::r)++B:=by
       rw[<- Nat.add_assoc,<- List.drop_drop,hU,List.drop_append_of_le_length hr,e]
      have d2:U.drop (a+(o+runN BL l+n))=(c::r).drop n++B:=by
       rw[<- Nat.add_assoc,<- List.drop_drop,d1,List.drop_append_of_le_length jb.2]
      have ih:=I4 (o+runN BL l+n) ((c::r).drop n) h' d2;have el:a+(o+runN BL l+n)+((c::r).drop n).length=a+o+l.length:=by rw[List.length_drop,Nat.add_assoc a,Nat.add_assoc (o+runN BL l),Nat.add_sub_cancel' jb.2,<- hlen,Nat.add_assoc o,Nat.add_sub_cancel' hr,<- Nat.add_assoc]
      rw[el]at ih;refine⟨jb.1,a+(o+runN BL l+n),⟨0,runN BL l,n,?_,?_,hN,?_,?_,?_⟩,ih⟩
      ·rw[hU];exact QP e hc
      ·exact MW (Nat.le_of_lt (Nat.lt_of_sub_pos (VS▸Nat.lt_of_lt_of_le hb (Nat.le_add_left _ _)))) (VS▸Nat.le_trans hr (Nat.le_add_right _ _))
      ·exact(Nat.add_assoc _ _ _).symm
      ·exact(Nat.add_assoc _ _ _).symm
      ·rw[d1];exact(QO hx).app (by simp) hB
     ·rw[if_neg jb]at h;cases h
noncomputable def bu:Nat->List Nat
 |0=>[32]
 |1=>[10]
 |2=>[32,37,32,118,97,114,59,10]
 |_=>[9]
theorem VT (d:Nat)(l:List Nat):Bl (bu d++l):=match d with
 |0=>⟨32,l,rfl,.inl rfl⟩
 |1=>⟨10,l,rfl,.inr (.inl rfl)⟩
 |2=>⟨32,37::32::118::97::114::59::10::l,rfl,.inl rfl⟩
 |_+3=>⟨9,l,rfl,.inr (.inr rfl)⟩
theorem pO {g c:Nat}{r:List Nat}(hg:BL.contains g=true)(hc:BL.contains c=false)(qa:c≠37):jZ 0 (g::c::r) 1:=by
 have h:runN BL (g::c::r)=1:=by simp only[runN,hg,hc,if_true,Bool.false_eq_true,if_false]
 have:=jZ.stop (g::c::r) (by rw[h];simpa using qa)
 rwa [h]at this
theorem MF (d:Nat){c:Nat}{r:List Nat}(hc:BL.contains c=false)(qa:c≠37):∃m,m<2∧jZ m (bu d++c::r) (bu d).length:=match d with
 |0=>⟨0,by decide,pO (by decide) hc qa⟩
 |1=>⟨0,by decide,pO (by decide) hc qa⟩
 |2=>⟨1,by decide,by
  have h1:runN BL (bu 2++c::r)=1:=rfl;have:=jZ.rem (bu 2++c::r) [32,118,97,114,59] (c::r) 1 (by rw[h1];rfl) (by decide) (pO (by decide) hc qa);rw[h1]at this;exact this⟩
 |_+3=>⟨0,by decide,pO (by decide) hc qa⟩
def Lx (T:List Nat)(ts:TS):Prop:=∀N B,2≤N->Bl B->Row N (T++B) 0 ts T.length
theorem Lx.nil:Lx [] []:=λ_ _ _ _=>rfl
theorem Jx {j:Nat}{l:List Nat}{t:Tok}{ts:TS}(h:nu j 0 l=some ((t,0)::ts)):∃c r,l=c::r∧BL.contains c=false∧c≠37:=by
 cases j with
 |zero=>cases h
 |succ j =>
  unfold nu at h;cases e:l.drop (runN BL l)with
  |nil =>
   rw[e]at h;simp only at h;split at h<;>cases h
  |cons c r =>
   rw[e]at h;simp only at h;split at h
   ·cases h
   ·rename_i hc;split at h
    ·cases h
    ·split at h
     ·refine aj (Option.map_eq_some_iff.mp h) λiu _ e'=>?_
      have e0:runN BL l=0:=by
       have:=congrArg (λx=>(x.head?.map (·.2))) e'
       simpa using this
      rw[e0,List.drop_zero]at e;subst e;refine⟨c,r,rfl,?_,hc⟩;cases hb:BL.contains c with
      |false=>rfl
      |true =>
       simp only[runN,hb,if_true]at e0;exact absurd e0 (Nat.succ_ne_zero _)
     ·cases h
theorem Lx.put {ts:TS}(h:Lx T ts)(d:Nat){j:Nat}{l:List Nat}{t:Tok}{iu:TS}(hl:nu j 0 l=some ((t,0)::iu)):Lx (T++bu d++l) (ts++dh (T.length+(bu d).length) ((t,0)::iu)):=by
 intro N B hN hB;refine bC λnG=>?_;refine cg (Jx hl) λc r bH hc qa=>?_;subst bH;have r1:=h N (bu d++(c::r)++B) hN (by rw[List.append_assoc];exact VT d _);have eU:T++(bu d++(c::r)++B)=T++bu d++(c::r)++B:=by simp
 rw[eU]at r1
 have dU:(T++bu d++(c::r)++B).drop (T.length+(bu d).length+0)=(c::r)++B:=by
  rw[Nat.add_zero,<- List.length_append,List.append_assoc];simp
 obtain⟨ok,q',⟨_,n',len,_,hle,_,hb,hq,lx⟩,rest⟩:=ME (N:=N) hB (T.length+(bu d).length) (by apply bR<;>trivial) j 0 (c::r) hl dU;refine aj (MF d (r:=r++B) hc qa) λm hm sk=>?_;refine nG ?_;refine r1.append ⟨ok,q',⟨m,(bu d).length,len,?_,?_,by apply Nat.le_trans<;>trivial,rfl,hq,lx⟩,?_⟩
 ·have:(T++bu d++(c::r)++B).drop T.length=bu d++c::(r++B):=by simp
  rw[this];exact sk
 ·simp
 ·have e2:T.length+(bu d).length+0+(c::r).length=(T++bu d++(c::r)).length:=by simp;(apply Nat.add_assoc<;>trivial)
  rw[e2]at rest;exact rest
theorem Lx.end {ts:TS}(h:Lx T ts)(hN:2≤N):BU N (T++[10]) 0 (ts++[(.fin,T.length+1)]):=by
 refine(h N [10] hN ⟨10,[],rfl,.inr (.inl rfl)⟩).toks (q':=T.length+1) rfl ⟨0,1,0,?_,by simp,by apply bR<;>trivial,rfl,rfl,?_⟩
 ·have:(T++[10]).drop T.length=[10]:=by simp
  rw[this];exact jZ.stop [10] (by decide)
 ·have:(T++[10]).drop (T.length+1)=[]:=by simp
  rw[this];exact .fin
structure FS where
 cells:List Int
 p:Nat
 T:List Nat
 br:Int
 vs:List V
 ts:List V
 goal:V
 shown:V
noncomputable abbrev gF (st:FS):List (Key×V):=[(.cells,.ref 1),(.place,.int st.p),(.text,.str st.T),(.iA,.int st.br),(.vars,.ref 2),(.bZ,.ref 3),(.goal,st.goal),(.shown,st.shown)]
structure Fd (hp:HP)(st:FS):Prop where
 o1:hp[1]?=some (.list (st.cells.map .int))
 o2:hp[2]?=some (.list st.vs)
 o3:hp[3]?=some (.list st.ts)
 o4:hp[4]?=some (.dict (gF st))
structure FF (hp hp':HP):Prop where
 len:hp.length≤hp'.length
 same:∀j,5≤j->j<hp.length->hp'[j]?=hp[j]?
theorem FF.refl:FF hp hp:=⟨Nat.le_refl _,λ_ _ _=>rfl⟩
theorem FF.trans {au bJ:HP}(a:FF hp au)(b:FF au bJ):FF hp bJ:=⟨Nat.le_trans a.len b.len,λj h1 h2=>(b.same j h1 (Nat.lt_of_lt_of_le h2 a.len)).trans (a.same j h1 h2)⟩
theorem FF.set {j:Nat}(h:j<5)(o:O):FF hp (hp.set j o):=⟨Nat.le_of_eq List.length_set.symm,λi h1 _=>List.getElem?_set_ne (by apply Ru<;>trivial)⟩
theorem FF.app (l:List O):FF hp (hp++l):=⟨by simp,λi _ h=>List.getElem?_append_left h⟩
theorem FF.at {j:Nat}{o:O}(f:FF hp hp')(h5:5≤j)(h:hp[j]?=some o):hp'[j]?=some o:=(f.same j h5 (List.getElem?_eq_some_iff.mp h).1).trans h
theorem bV (u:V)(k:Key)(hp:HP):Ef k u hp=zU hp u k:=rfl
theorem aU (hp:HP)(a b:O):(hp.set 4 a).set 4 b=hp.set 4 b:=List.set_set _
theorem eC {a:Nat}{es:List (Key×V)}{v:V}(h:hp[a]?=some (.dict es))(k:Key)(hv:eu es k=some v):zU hp (.ref a) k=.ok v hp:=(gp (qS h)).trans (congrArg (bQ · hp) hv)
theorem mZ {a:Nat}{es:List (Key×V)}(h:hp[a]?=some (.dict es))(hl:es.length≤100)(k:Key)(v:V):sU hp (.ref a) k v=some (hp.set a (.dict (dput es k v))):=by
 refine(cA (qS h)).trans ?_;rw[decide_eq_true (Nat.le_trans hl (show 100≤sizeLine by rw[sizeLine_eq];decide))];rfl
variable {st:FS}
theorem Fd.len (F:Fd hp st):4<hp.length:=(List.getElem?_eq_some_iff.mp F.o4).1
theorem Fd.set (F:Fd hp st)(bz:FS)(h1:bz.cells=st.cells)(h2:bz.vs=st.vs)(h3:bz.ts=st.ts):Fd (hp.set 4 (.dict (gF bz))) bz :=
 ⟨by rw[List.getElem?_set_ne (by decide),h1];exact F.o1,by rw[List.getElem?_set_ne (by decide),h2];exact F.o2,by rw[List.getElem?_set_ne (by decide),h3];exact F.o3,List.getElem?_set_self F.len⟩
theorem Fd.app (F:Fd hp st)(l:List O):Fd (hp++l) st:=by
 have g:∀j,j<5->(hp++l)[j]?=hp[j]?:=λj hj=>List.getElem?_append_left (Nat.lt_of_lt_of_le hj F.len);exact⟨(g _ (by decide)).trans F.o1,(g _ (by decide)).trans F.o2,(g _ (by decide)).trans F.o3,(g _ (by decide)).trans F.o4⟩
theorem Fd.qU (F:Fd hp st){j:Nat}(hj:5≤j)(o:O):Fd (hp.set j o) st :=
 have g:∀i,i<5->(hp.set j o)[i]?=hp[i]?:=λi hi=>List.getElem?_set_ne (Nat.ne_of_gt (Nat.lt_of_lt_of_le hi hj))
 ⟨(g _ (by decide)).trans F.o1,(g _ (by decide)).trans F.o2,(g _ (by decide)).trans F.o3,(g _ (by decide)).trans F.o4⟩
noncomputable def GP (cells:List Int) (p:Nat):Int:=match cells[p]? with
 |some i=>i
 |none=>(5*(p:Int)*p+11*p+3*cells.length+4) % 89
noncomputable def ff (cells:List Int) (p many:Nat):Nat:=(GP cells p % (many:Int)).toNat
theorem BA (cells:List Int)(p:Nat){many:Nat}(h:0<many):ff cells p many<many:=by
 unfold ff;generalize GP cells p=z;have h1:=Int.emod_nonneg z (show(many:Int)≠0 by apply Eb<;>trivial);have h2:=Int.emod_lt_of_pos z (show(0:Int)<many by apply JY<;>trivial);lia
theorem GQ {i:Int}{j:Nat}(h:0<j):jy .Mod (.int i) (.int j) hp=.ok (.int (i % j)) hp:=eB (decide_eq_true (show(0:Int)<j by apply JY<;>trivial))
theorem zF {i j:Int}(h1:dz i=true)(h2:dz j=true):jy .Mult (.int i) (.int j) hp=.ok (.int (i*j)) hp:=eB (by rw[h1,h2];rfl)
theorem jJ {i:Int}(h0:0≤i)(h:i≤1000000000):dz i=true:=decide_eq_true (Int.ofNat_lt.mp (Int.lt_of_le_of_lt (Int.natAbs_of_nonneg h0▸h:((i.natAbs:Nat):Int)≤1000000000) (by decide)))
theorem N9 (F:Fd hp st)(bL:st.p≤3000)(hc:st.cells.length≤100){many:Nat}(hm:0<many) :
  ag N (k+2) (.fix (.ref 443)) [.ref 4,.int many] hp=.ok (.int (ff st.cells st.p many)) (hp.set 4 (.dict (gF {st with p:=st.p+1}))):=by
 have g1:=eC F.o4 .cells (v:=.ref 1) rfl;have g2:=eC F.o4 .place (v:=.int st.p) rfl;have p1:=mZ F.o4 (show(gF st).length≤100 by show 8≤100;decide) .place (.int ((st.p+1:Nat):Int));have F1:=F.set {st with p:=st.p+1} rfl rfl rfl
 have e0:∀z:Int,(V.int ((z % (many:Int)).toNat:Int))=.int (z % many):=λz=>by
  have h1:=Int.emod_nonneg z (show(many:Int)≠0 by apply Eb<;>trivial);rw[Int.toNat_of_nonneg h1]
 have ep:(dput (gF st) Key.place (.int ((st.p+1:Nat):Int)))=gF {st with p:=st.p+1}:=rfl;rw[ep]at p1;have ll:=len_list (N:=N) (k:=k) F1.o1 (show(st.cells.map V.int).length≤1000000 by rw[List.length_map];(apply aI<;>trivial));rw[List.length_map]at ll;rw[Qf];refine bC λnG=>?_;cases hd:decide ((st.p:Int)<(st.cells.length:Int))with
 |true =>
  refine nG ?_;have iF:st.p<st.cells.length:=by simpa using hd
  have hs:bh (hp.set 4 (.dict (gF {st with p:=st.p+1}))) (.ref 1) (.int st.p)=some (.int st.cells[st.p]):=by
   refine(cA (de F1.o1)).trans ((cA (n9 (show st.p<(st.cells.map V.int).length by rw[List.length_map];exact iF) (by apply aI<;>trivial))).trans ?_);rw[List.getElem?_map,List.getElem?_eq_getElem iF];rfl
  open_k with[Mb,g1,g2,nq,p1,ll,hd,hs,GQ hm,ff,GP,List.getElem?_eq_getElem iF,e0,aX,bV,aY,aL,aM,aU]
 |false =>
  refine nG ?_;have hle:st.cells.length≤st.p:=by simpa using hd
  have s1:(5*(st.p:Int))≤15000:=Int.ofNat_le.mpr (Nat.mul_le_mul_left 5 bL);have s2:(5*(st.p:Int)*st.p)≤1000000000:=Int.le_trans (Int.mul_le_mul s1 (show(st.p:Int)≤3000 by apply ZW<;>trivial) (by apply Int.natCast_nonneg<;>trivial) (by apply Int.natCast_nonneg<;>trivial)) (by decide);open_k with[Mb,g1,g2,nq,p1,ll,hd,zF (hp:=hp.set 4 (.dict (gF {st with p:=st.p+1}))) (jJ (i:=5) (by decide) (by decide)) (jJ (i:=st.p) (by apply Int.natCast_nonneg<;>trivial) (by apply D8<;>trivial)),zF (hp:=hp.set 4 (.dict (gF {st with p:=st.p+1}))) (jJ (i:=5*(st.p:Int)) (by apply Int.natCast_nonneg<;>trivial) (by omega)) (jJ (i:=st.p) (by apply Int.natCast_nonneg<;>trivial) (by apply D8<;>trivial)),zF (hp:=hp.set 4 (.dict (gF {st with p:=st.p+1}))) (jJ (i:=11) (by decide) (by decide)) (jJ (i:=st.p) (by apply Int.natCast_nonneg<;>trivial) (by apply D8<;>trivial)),zF (hp:=hp.set 4 (.dict (gF {st with p:=st.p+1}))) (jJ (i:=3) (by decide) (by decide)) (jJ (i:=st.cells.length) (by apply Int.natCast_nonneg<;>trivial) (by omega)),show jy .Mod (.int (5*(st.p:Int)*st.p+11*st.p+3*st.cells.length+4)) (.int 89) (hp.set 4 (.dict (gF {st with p:=st.p+1})))=.ok (.int ((5*(st.p:Int)*st.p+11*st.p+3*st.cells.length+4) % 89)) _ from GQ (j:=89) (by decide),GQ hm,ff,GP,List.getElem?_eq_none_iff.mpr hle,e0,aX,bV,aY,aL,aM,aU]
inductive VU (N k:Nat)(hp:HP)(st:FS)(many:Nat):Prop
 |mk (hp':HP) (h1:ag N (k+2) (.fix (.ref 443)) [.ref 4,.int many] hp=.ok (.int (ff st.cells st.p many)) hp') (h2:Fd hp' {st with p:=st.p+1}) (h3:FF hp hp')
theorem Oa (F:Fd hp st)(bL:st.p≤3000)(hc:st.cells.length≤100)(many:Nat)(hm:0<many):VU N k hp st many :=
 ⟨_,N9 F bL hc hm,F.set _ rfl rfl rfl,FF.set (by decide) _⟩
theorem X8 (d:Nat)(h:d<4):bh hp (.tup [.str (af " "),.str (af "\n"),.str (af " % var;\n"),.str (af "\t")]) (.int d)=some (.str (bu d)):=by
 have h2:af " % var;\n"=bu 2:=by decide
 have h0:af " "=bu 0:=by decide
 have h1:af "\n"=bu 1:=by decide
 have h3:af "\t"=bu 3:=by decide
 rw[h2,h1,h3,h0];exact aaP (P:=λd=>bh hp (.tup [.str (bu 0),.str (bu 1),.str (bu 2),.str (bu 3)]) (.int d)=some (.str (bu d))) (bF (i:=0) rfl) (bF (i:=1) rfl) (bF (i:=2) rfl) (bF (i:=3) rfl) d h
theorem xf (d:Nat):0<(bu d).length∧(bu d).length≤8:=match d with
 |0=>by decide
 |1=>by decide
 |2=>by decide
 |_+3=>⟨by show 0<1;decide,by show 1≤8;decide⟩
inductive VV (N k:Nat)(hp:HP)(st:FS)(l:List Nat):Prop
 |mk (hp':HP) (d:Nat) (h1:ag N (k+3) (.fix (.ref 450)) [.ref 4,.str l] hp=.ok (.int ((st.T.length+(bu d).length:Nat):Int)) hp') (h2:d<4) (h3:Fd hp' {st with p:=st.p+1,T:=st.T++bu d++l}) (h4:FF hp hp')
theorem Ob (F:Fd hp st)(bL:st.p≤3000)(hc:st.cells.length≤100)(hT:st.T.length≤100*st.p)(l:List Nat)(hl:l.length≤60):VV N k hp st l:=by
 have hd:=BA st.cells st.p (many:=4) (by decide);have gl:=xf (ff st.cells st.p 4);have dc:=N9 (N:=N) (k:=k) F bL hc (many:=4) (by decide);have F1:=F.set {st with p:=st.p+1} rfl rfl rfl;have g1:=eC F.o4 .text (v:=.str st.T) rfl;have p1:=mZ F1.o4 (show(gF {st with p:=st.p+1}).length≤100 by show 8≤100;decide) .text (.str (st.T++bu (ff st.cells st.p 4)));have F2:=F1.set {st with p:=st.p+1,T:=st.T++bu (ff st.cells st.p 4)} rfl rfl rfl;rw[show(dput (gF {st with p:=st.p+1}) Key.text (.str (st.T++bu (ff st.cells st.p 4))))=gF {st with p:=st.p+1,T:=st.T++bu (ff st.cells st.p 4)}from rfl,aU]at p1;rw[aU]at F2;have g2:=eC F2.o4 .text (v:=.str (st.T++bu (ff st.cells st.p 4))) rfl;have p2:=mZ F2.o4 (show(gF {st with p:=st.p+1,T:=st.T++bu (ff st.cells st.p 4)}).length≤100 by show 8≤100;decide) .text (.str (st.T++bu (ff st.cells st.p 4)++l));rw[show(dput (gF {st with p:=st.p+1,T:=st.T++bu (ff st.cells st.p 4)}) Key.text (.str (st.T++bu (ff st.cells st.p 4)++l)))=gF {st with p:=st.p+1,T:=st.T++bu (ff st.cells st.p 4)++l}from rfl,aU]at p2;have F3:=F2.set {st with p:=st.p+1,T:=st.T++bu (ff st.cells st.p 4)++l} rfl rfl rfl;rw[aU]at F3;have ls:=len_str (N:=N) (k:=k+1) (hp:=hp.set 4 (.dict (gF {st with p:=st.p+1,T:=st.T++bu (ff st.cells st.p 4)}))) (st.T++bu (ff st.cells st.p 4)) (by rw[List.length_append];omega);rw[List.length_append]at ls;refine⟨_,ff st.cells st.p 4,?_,hd,F3,FF.set (by decide) _⟩;have dc':ag N (k+2) (.fix (.ref 443)) [.ref 4,.int 4] hp=_:=dc;rw[Qg];open_k with[Vh,g1,dc',X8 _ hd,sE _ st.T (bu (ff st.cells st.p 4)) (by omega),p1,g2,ls,sE _ (st.T++bu (ff st.cells st.p 4)) l (by rw[List.length_append];lia),p2,aX,bV,aY,aL,aM,aU]
inductive yq (N k:Nat)(hp:HP)(st:FS)(s:Nat):Prop
 |mk (hp':HP) (h1:ag N (k+1) (.fix (.ref 457)) [.ref 4,.int s] hp=.ok .none hp') (h2:Fd hp' {st with br:=if st.br<0 then(s:Int)else st.br}) (h3:FF hp hp')
theorem uh (F:Fd hp st)(s:Nat):yq N k hp st s:=by
 have g1:=eC F.o4 .iA (v:=.int st.br) rfl;by_cases h:st.br<0
 ·have p1:=mZ F.o4 (show(gF st).length≤100 by show 8≤100;decide) .iA (.int s);refine⟨_,?_,F.set {st with br:=if st.br<0 then(s:Int)else st.br} rfl rfl rfl,FF.set (by decide) _⟩
  rw[Ds,if_pos h];open_k with[Mc,g1,decide_eq_true h,p1,aX,bV,aY,aL,aM,aU];rfl
 ·refine⟨hp,?_,?_,FF.refl⟩
  ·rw[Ds];open_k with[Mc,g1,decide_eq_false h,aX,bV,aY,aL,aM,aU]
  ·rw[if_neg h];exact F
noncomputable def zG (d:Nat):Int:=[0,1,0,2,0,1,0,0,1,0,3,-1].getD d 0
theorem v3 {l:List Int}{d:Nat}(h:d<l.length)(hd:d≤1000):bh hp (.tup (l.map .int)) (.int d)=some (.int (l.getD d 0)):=by
 refine GC ?_ (by apply aI<;>trivial);rw[List.getElem?_map,List.getD_eq_getElem?_getD,List.getElem?_eq_getElem h];rfl
inductive QQ (N k:Nat)(hp:HP)(st:FS):Prop
 |mk (hp':HP) (d:Nat) (h1:ag N (k+3) (.fix (.ref 471)) [.ref 4] hp=.ok (.int (zG d)) hp') (h2:d<12) (h3:Fd hp' {st with p:=st.p+1}) (h4:FF hp hp')
theorem VW (F:Fd hp st)(bL:st.p≤3000)(hc:st.cells.length≤100):QQ N k hp st:=by
 refine bC λnG=>?_;obtain⟨ay,e1,F1,f1⟩:=Oa (N:=N) (k:=k) F bL hc 12 (by decide);refine nG ?_;have hd:=BA st.cells st.p (many:=12) (by decide);have fW:ag N (k+2) (.fix (.ref 443)) [.ref 4,.int 12] hp=_:=e1;have cK:bh ay (.tup [.int 0,.int 1,.int 0,.int 2,.int 0,.int 1,.int 0,.int 0,.int 1,.int 0,.int 3,.int (-1)]) (.int (ff st.cells st.p 12))=some (.int (zG (ff st.cells st.p 12))):=v3 (l:=[0,1,0,2,0,1,0,0,1,0,3,-1]) hd (by apply lG<;>trivial);refine⟨ay,_,?_,hd,F1,f1⟩;rw[Qh];open_k with[Vj,fW,Bz,cK,aX,bV,aY,aL,aM,aU]
end
section
variable {N k n L m:Nat}{hp hp':HP}{T:List Nat}
theorem pP (last:Option Int)(lo hi:Int)(b1 b2 b3:Nat)(x:Tok×Nat)(r:TS):iL last ((.number lo,b1)::(.sign (af ".."),b2)::(.number hi,b3)::x::r)=if aZ lo hi last then some (.error (b1:Int))else some (.ok ((lo,hi),x::r)):=by kernel_rfl
theorem BB (t:Tok)(b:Nat)(x:Tok×Nat)(r:TS)(F:FD):cR ((t,b)::x::r) F=ob (mX t b (x::r) F) λx=>ob (gq (af ";") x.1) λy=>some (.ok (y.2,x.2)):=rfl
theorem ui (b:Nat)(ts:TS)(F:FD):mX (.word (af "var")) b ts F=fU ts F:=by kernel_rfl
theorem uj (b:Nat)(ts:TS)(F:FD):mX (.word (af "constraint")) b ts F=f7 ts F:=by kernel_rfl
theorem pQ (b:Nat)(ts:TS)(F:FD):mX (.word (af "solve")) b ts F=mW b ts F:=by kernel_rfl
theorem BC (b:Nat)(ts:TS)(F:FD):mX (.word (af "output")) b ts F=l0 b ts F:=by kernel_rfl
def hZ:Nat->Tok
 |0=>.word (af "x")
 |1=>.word (af "B_1")
 |2=>.text (af "a b")
 |3=>.text (af "")
 |_=>.word (af "var")
def iy:Nat->List Nat
 |0=>af "x"
 |1=>af "B_1"
 |2=>af "a b"
 |3=>af ""
 |_=>af "var"
def GR:Nat->List Nat
 |0=>af "x"
 |1=>af "B_1"
 |2=>af "\"a b\""
 |3=>af "\"\""
 |_=>af "var"
theorem QR (i:Nat):(hZ i).name=some (iy i):=match i with
 |0=>rfl
 |1=>rfl
 |2=>rfl
 |3=>rfl
 |_+4=>rfl
theorem aa4 (lo hi:Int)(b1 b2 b3:Nat)(x:Tok×Nat)(r:TS):jI ((.number lo,b1)::(.sign (af ".."),b2)::(.number hi,b3)::x::r)=if aZ lo hi none then some (.error (b1:Int))else some (.ok ([(lo,hi)],x::r)):=by
 show ob (iL none _) _=_;rw[pP];cases aZ lo hi none<;>rfl
theorem aa5 (lo hi qv lD:Int)(b0 b1 b2 b3 b4 b5 b6 b7 b8:Nat)(x:Tok×Nat)(r:TS):jI ((.sign (af "{"),b0)::(.number lo,b1)::(.sign (af ".."),b2)::(.number hi,b3)::(.sign (af ","),b4)::(.number qv,b5)::(.sign (af ".."),b6)::(.number lD,b7)::(.sign (af "}"),b8)::x::r) =
  if aZ lo hi none then some (.error (b1:Int))else if aZ qv lD (some hi)then some (.error (b5:Int))else some (.ok ([(lo,hi),(qv,lD)],x::r)):=by
 have e1:∀ts,jI ((.sign (af "{"),b0)::(.number lo,b1)::ts)=ob (ob (iL none ((.number lo,b1)::ts)) λx=>gX 8 [x.1] x.2) λy=>ob (zA y.2) λz=>some (.ok (y.1,z.2)):=λts=>by kernel_rfl
 have e2:∀(q:Int×Int) (t:Tok×Nat) ts,gX 8 [q] ((.sign (af ","),b4)::t::ts)=ob (iL (some q.2) (t::ts)) λx=>gX 7 [q,x.1] x.2:=λq t ts=>by kernel_rfl
 have e3:∀(f:List (Int×Int)) ts,gX 7 f ((.sign (af "}"),b8)::ts)=some (.ok (f,(.sign (af "}"),b8)::ts)):=λf ts=>by kernel_rfl
 rw[e1,pP];cases aZ lo hi none with
 |true=>rfl
 |false =>
  simp only[Bool.false_eq_true,if_false,ob,e2,pP];cases aZ qv lD (some hi)with
  |true=>rfl
  |false=>simp only[Bool.false_eq_true,if_false,ob,e3];rfl
theorem BD (d:List (Int×Int))(i:Nat)(b b1 b2:Nat)(x:Tok×Nat)(r ts:TS)(F:FD)(hF:F.vs.length≤1000)(hd:jI ts=some (.ok (d,(.sign (af ":"),b)::(hZ i,b1)::(.sign (af ";"),b2)::x::r))) :
  (ob (fU ts F) λx=>ob (gq (af ";") x.1) λy=>some (.ok (y.2,x.2)))=some (.ok (x::r,{F with vs:=F.vs++[VD.v (iy i,d)]})):=by
 have e1:∀t,gq (af ":") ((.sign (af ":"),b)::t::(.sign (af ";"),b2)::x::r)=some (.ok ((),t::(.sign (af ";"),b2)::x::r)):=λt=>by kernel_rfl
 have e2:gq (af ";") ((.sign (af ";"),b2)::x::r)=some (.ok ((),x::r)):=by kernel_rfl
 simp only[fU,hd,ob,e1,QR,nz,if_pos hF,e2]
theorem Jy (lo hi:Int)(i b0 b1 b2 b3 b4 b5 b6:Nat)(x:Tok×Nat)(r:TS)(F:FD)(hF:F.vs.length≤1000):cR ((.word (af "var"),b0)::(.number lo,b1)::(.sign (af ".."),b2)::(.number hi,b3)::(.sign (af ":"),b4)::(hZ i,b5)::(.sign (af ";"),b6)::x::r) F =
  if aZ lo hi none then some (.error (b1:Int))else some (.ok (x::r,{F with vs:=F.vs++[VD.v (iy i,[(lo,hi)])]})):=by
 rw[BB,ui];have e:=aa4 lo hi b1 b2 b3 (.sign (af ":"),b4) ((hZ i,b5)::(.sign (af ";"),b6)::x::r);cases h:aZ lo hi none with
 |true =>
  rw[h,if_pos rfl]at e;simp only[fU,e,ob,if_true]
 |false =>
  rw[h,if_neg Bool.false_ne_true]at e;rw[if_neg Bool.false_ne_true];exact BD _ i b4 b5 b6 x r _ F hF e
theorem Jz (lo hi qv lD:Int)(i c b0 b1 b2 b3 b4 b5 b6 b7 b8 c1 c2 c3:Nat)(x:Tok×Nat)(r:TS)(F:FD)(hF:F.vs.length≤1000):cR ((.word (af "var"),c)::(.sign (af "{"),b0)::(.number lo,b1)::(.sign (af ".."),b2)::(.number hi,b3)::(.sign (af ","),b4)::(.number qv,b5)::(.sign (af ".."),b6)::(.number lD,b7)::(.sign (af "}"),b8)::(.sign (af ":"),c1)::(hZ i,c2)::(.sign (af ";"),c3)::x::r) F =
  if aZ lo hi none then some (.error (b1:Int))else if aZ qv lD (some hi)then some (.error (b5:Int))else some (.ok (x::r,{F with vs:=F.vs++[VD.v (iy i,[(lo,hi),(qv,lD)])]})):=by
 rw[BB,ui];have e:=aa5 lo hi qv lD b0 b1 b2 b3 b4 b5 b6 b7 b8 (.sign (af ":"),c1) ((hZ i,c2)::(.sign (af ";"),c3)::x::r);cases h:aZ lo hi none with
 |true =>
  rw[h,if_pos rfl]at e;simp only[fU,e,ob,if_true]
 |false =>
  rw[h,if_neg Bool.false_ne_true]at e;rw[if_neg Bool.false_ne_true];cases h':aZ qv lD (some hi)with
  |true =>
   rw[h',if_pos rfl]at e;simp only[fU,e,ob,if_true]
  |false =>
   rw[h',if_neg Bool.false_ne_true]at e;rw[if_neg Bool.false_ne_true];exact BD _ i c1 c2 c3 x r _ F hF e
def j3:Nat->List Nat
 |0=>af "linear_le([1, -2], [X, Y], 3)"
 |1=>af "all_different([X, Y], \"bounds\")"
 |2=>af "clause([X], [Y])"
 |3=>af "xor(X, Y, X)"
 |4=>af "disjunctive([X, Y], [2, 0])"
 |5=>af "linear_ne([4], [X, Y], 0)"
 |_=>af "max([], X)"
def kI:Nat->List Nat
 |0=>af "[int(X), text(\", \"), bool(Y)]"
 |1=>af "[list([int(X), int(Y)])]"
 |_=>af "[if(X, [], [int(Y)])]"
def wr (l:List Nat)(x y:Int):List Nat:=ic 89 (bS y) (ic 88 (bS x) l)
def bD (l:List Nat):TS:=(nu 40 0 l).getD []
def dY (l:List Nat):Bool:=decide (l.length≤60)&&aT l&&(match nu 40 0 l with|some ((_,o)::_)=>o==0|_=>false)
def RD (l:List Nat)(v:V):Prop:=∀a t more,sX (dh a (bD l)++t::more)=some (.ok (v,t::more))
noncomputable def dM:List Int:=[0,1,2,3,-1]
theorem VX {d:Nat}(h:d<12):zG d∈dM:=by
 have:∀d<12,zG d∈dM:=by decide
 exact this d h
theorem QS:∀w<7,∀x∈dM,∀y∈dM,dY (wr (j3 w) x y)=true:=by decide +kernel
theorem DR:∀w<3,∀x∈dM,∀y∈dM,dY (wr (kI w) x y)=true:=by decide +kernel
theorem gG {P:Int->Prop}(h1:P 0)(h2:P 1)(h3:P 2)(h4:P 3)(h5:P (-1)):∀x∈dM,P x:=by
 intro x hx;unfold dM at hx;simp at hx;rcases hx with rfl|rfl|rfl|rfl|rfl<;>assumption
theorem VY:∀x∈dM,∀y∈dM,RD (wr (j3 0) x y) (bl 0 x y):=by
 apply gG<;>apply gG<;>(intro a t more;kernel_rfl)
theorem VZ:∀x∈dM,∀y∈dM,RD (wr (j3 1) x y) (bl 1 x y):=by
 apply gG<;>apply gG<;>(intro a t more;kernel_rfl)
theorem V0:∀x∈dM,∀y∈dM,RD (wr (j3 2) x y) (bl 2 x y):=by
 apply gG<;>apply gG<;>(intro a t more;kernel_rfl)
theorem V1:∀x∈dM,∀y∈dM,RD (wr (j3 3) x y) (bl 3 x y):=by
 apply gG<;>apply gG<;>(intro a t more;kernel_rfl)
theorem V2:∀x∈dM,∀y∈dM,RD (wr (j3 4) x y) (bl 4 x y):=by
 apply gG<;>apply gG<;>(intro a t more;kernel_rfl)
theorem V3:∀x∈dM,∀y∈dM,RD (wr (j3 5) x y) (bl 5 x y):=by
 apply gG<;>apply gG<;>(intro a t more;kernel_rfl)
theorem V4:∀x∈dM,∀y∈dM,RD (wr (j3 6) x y) (bl 6 x y):=by
 apply gG<;>apply gG<;>(intro a t more;kernel_rfl)
theorem V5:∀x∈dM,∀y∈dM,RD (wr (kI 0) x y) (.tup (bN 0 x y)):=by
 apply gG<;>apply gG<;>(intro a t more;kernel_rfl)
theorem V6:∀x∈dM,∀y∈dM,RD (wr (kI 1) x y) (.tup (bN 1 x y)):=by
 apply gG<;>apply gG<;>(intro a t more;kernel_rfl)
theorem V7:∀x∈dM,∀y∈dM,RD (wr (kI 2) x y) (.tup (bN 2 x y)):=by
 apply gG<;>apply gG<;>(intro a t more;kernel_rfl)
structure eG (st:FS)(b:Nat):Prop where
 p:st.p≤b
 c:st.cells.length≤100
 t:st.T.length≤100*st.p
 o:aT st.T=true
structure W (st bz:FS)(its:TS)(c:Nat):Prop where
 e1:bz.cells=st.cells
 e2:bz.br=st.br
 e3:bz.vs=st.vs
 e4:bz.ts=st.ts
 e5:bz.goal=st.goal
 e6:bz.shown=st.shown
 b:∀b,eG st b->eG bz (b+c)
 lx:∀ts,Lx st.T ts->Lx bz.T (ts++its)
variable {st bz pR:FS}{i1 i2:TS}{c1 c2 b:Nat}
theorem W.trans (x:W st bz i1 c1)(y:W bz pR i2 c2):W st pR (i1++i2) (c1+c2) :=
 ⟨y.e1.trans x.e1,y.e2.trans x.e2,y.e3.trans x.e3,y.e4.trans x.e4,y.e5.trans x.e5,y.e6.trans x.e6,λb h=>Nat.add_assoc b c1 c2▸y.b _ (x.b b h),λts h=>List.append_assoc ts i1 i2▸y.lx _ (x.lx ts h)⟩
theorem W.ZC (st:FS):W st {st with p:=st.p+1} [] 1 :=
 ⟨rfl,rfl,rfl,rfl,rfl,rfl,λb h=>⟨Nat.succ_le_succ h.p,h.c,Nat.le_trans h.t (Nat.mul_le_mul_left 100 (Nat.le_succ st.p)),h.o⟩,λts h=>(List.append_nil ts).symm▸h⟩
theorem q9 {l:List Nat}(h:dY l=true):l.length≤60∧aT l=true∧∃t ts,nu 40 0 l=some ((t,0)::ts)∧bD l=(t,0)::ts:=by
 unfold dY at h;simp only[Bool.and_eq_true,decide_eq_true_eq]at h;refine⟨h.1.1,h.1.2,?_⟩;have h2:=h.2;unfold bD;cases e:nu 40 0 l with
 |none=>rw[e]at h2;cases h2
 |some ts =>
  rw[e]at h2;cases ts with
  |nil=>cases h2
  |cons x ts =>
   obtain⟨t,o⟩:=x;have:o=0:=by simpa using h2
   subst this;exact⟨t,ts,rfl,rfl⟩
theorem V8 (d:Nat):aT (bu d)=true:=match d with
 |0=>rfl
 |1=>rfl
 |2=>rfl
 |_+3=>rfl
theorem W.put (st:FS){l:List Nat}(hl:dY l=true)(d:Nat):W st {st with p:=st.p+1,T:=st.T++bu d++l} (dh (st.T.length+(bu d).length) (bD l)) 1:=by
 refine bC λnG=>?_;obtain⟨h1,h2,t,ts,e1,e2⟩:=q9 hl;refine nG ?_;have g:=(xf d).2;refine⟨rfl,rfl,rfl,rfl,rfl,rfl,λb h=>⟨Nat.succ_le_succ h.p,h.c,?_,l6 (l6 h.o (V8 d)) h2⟩,λiu h=>?_⟩
 ·have:=h.t;simp only[List.length_append];lia
 ·rw[e2];exact h.put d e1
inductive JA (N k:Nat)(hp:HP)(st:FS)(many:Nat):Prop
 |mk (hp':HP) (bz:FS) (d:Nat) (h1:ag N (k+2) (.fix (.ref 443)) [.ref 4,.int many] hp=.ok (.int (d:Nat)) hp') (h2:d<many) (h3:Fd hp' bz) (h4:FF hp hp') (h5:W st bz [] 1)
theorem j4 (F:Fd hp st)(B:eG st b)(hb:b≤3000)(many:Nat)(hm:0<many):JA N k hp st many:=by
 refine bC λnG=>?_;obtain⟨hp',e,F',f⟩:=Oa (N:=N) (k:=k) F (Nat.le_trans B.p hb) B.c many hm;refine nG ?_;exact⟨hp',_,_,e,BA _ _ hm,F',f,W.ZC st⟩
inductive V9 (N k:Nat)(hp:HP)(st:FS)(l:List Nat):Prop
 |mk (hp':HP) (bz:FS) (s:Nat) (h1:ag N (k+3) (.fix (.ref 450)) [.ref 4,.str l] hp=.ok (.int (s:Nat)) hp') (h2:Fd hp' bz) (h3:FF hp hp') (h4:W st bz (dh s (bD l)) 1)
theorem gu (F:Fd hp st)(B:eG st b)(hb:b≤3000){l:List Nat}(hl:dY l=true):V9 N k hp st l:=by
 refine bC λnG=>?_;obtain⟨hp',d,e,hd,F',f⟩:=Ob (N:=N) (k:=k) F (Nat.le_trans B.p hb) B.c B.t l (q9 hl).1;refine nG ?_;exact⟨hp',_,_,e,F',f,W.put st hl d⟩
inductive QT (N k:Nat)(hp:HP)(st:FS):Prop
 |mk (hp':HP) (bz:FS) (x:Int) (h1:ag N (k+3) (.fix (.ref 471)) [.ref 4] hp=.ok (.int x) hp') (h2:x∈dM) (h3:Fd hp' bz) (h4:FF hp hp') (h5:W st bz [] 1)
theorem rf (F:Fd hp st)(B:eG st b)(hb:b≤3000):QT N k hp st:=by
 refine bC λnG=>?_;obtain⟨hp',d,e,hd,F',f⟩:=VW (N:=N) (k:=k) F (Nat.le_trans B.p hb) B.c;refine nG ?_;exact⟨hp',_,_,e,VX hd,F',f,W.ZC st⟩
theorem v5 {i:Int}(h:dz i=true):ag N (k+1) (.fix (.type "str")) [.int i] hp=.ok (.str (bS i)) hp:=by
 rw[wY (g:=Ez) "str" rfl];show bQ (Option.map V.str (if dz i=true then some (bS i)else none)) hp=_
 rw[if_pos h];rfl
def BE (lo hi:Int):List Nat:=bS lo++af ".."++bS hi
abbrev j8 (i:Int):Prop:=-3≤i∧i≤13
noncomputable def v7:List Int:=(List.range 17).map λ(j:Nat)=>(j:Int) - 3
theorem xg {i:Int}(h:j8 i):i∈v7:=by
 unfold v7;have h0:0≤i+3:=Int.add_le_add_right h.1 3;exact List.mem_map.mpr ⟨(i+3).toNat,List.mem_range.mpr ((Int.toNat_lt h0).mpr (Int.add_lt_add_right (Int.lt_of_le_of_lt h.2 (by decide:(13:Int)<14)) 3)),by rw[Int.toNat_of_nonneg h0];exact Int.add_sub_cancel i 3⟩
theorem QU:∀lo∈v7,∀hi∈v7,dY (BE lo hi)=true∧bD (BE lo hi)=[(.number lo,0),(.sign (af ".."),(bS lo).length),(.number hi,(bS lo).length+2)]∧(bS lo).length≤10:=by decide +kernel
theorem MG:∀i<5,dY (GR i)=true∧bD (GR i)=[(hZ i,0)]:=by decide +kernel
theorem QV:∀x∈dM,dY (bS x)=true∧bD (bS x)=[(.number x,0)]:=by decide +kernel
inductive Wa (N k:Nat)(hp:HP)(st:FS)(lo hi:Int):Prop
 |mk (ay aN:HP) (cu:FS) (T1 T2 T3:List Nat) (s a c:Nat) (h1:ag N (k+3) (.fix (.ref 450)) [.ref 4,.str (bS lo)] hp=.ok (.int (s:Nat)) ay) (h2:FF hp ay) (h3:zU ay (.ref 4) .text=.ok (.str T1) ay) (h4:jy .Add (.str T1) (.str (af "..")) ay=.ok (.str T2) ay) (h5:jy .Add (.str T2) (.str (bS hi)) ay=.ok (.str T3) ay) (h6:sU ay (.ref 4) .text (.str T3)=some aN) (h7:Fd aN cu) (h8:FF hp aN) (h9:W st cu [(.number lo,s),(.sign (af ".."),a),(.number hi,c)] 1)
theorem Oc (F:Fd hp st)(B:eG st b)(hb:b≤3000){lo hi:Int}(h1:j8 lo)(h2:j8 hi):Wa N k hp st lo hi:=by
 refine bC λnG=>?_;refine ke (QU lo (xg h1) hi (xg h2)) λo t l10=>?_;obtain⟨hp',d,e,hd,F',f⟩:=Ob (N:=N) (k:=k) F (Nat.le_trans B.p hb) B.c B.t (bS lo) (by apply aI<;>trivial);refine nG ?_;have w:=W.put st o d;have l60:=(q9 o).1;have g:=(xf d).2;have ht:=B.t;have hpb:=B.p;have l2:(af "..").length=2:=by decide
 simp only[BE,List.length_append,l2]at l60;rw[t]at w;have e2:st.T++bu d++BE lo hi=st.T++bu d++bS lo++af ".."++bS hi:=by simp[BE]
 rw[e2]at w;have p2:=mZ F'.o4 (show(gF {st with p:=st.p+1,T:=st.T++bu d++bS lo}).length≤100 by show 8≤100;decide) .text (.str (st.T++bu d++bS lo++af ".."++bS hi));exact⟨hp',_,{st with p:=st.p+1,T:=st.T++bu d++bS lo++af ".."++bS hi},st.T++bu d++bS lo,st.T++bu d++bS lo++af "..",st.T++bu d++bS lo++af ".."++bS hi,st.T.length+(bu d).length,_,_,e,f,eC F'.o4 .text rfl,sE _ _ _ (by simp only[List.length_append];lia),sE _ _ _ (by simp only[List.length_append];lia),p2,F'.set {st with p:=st.p+1,T:=st.T++bu d++bS lo++af ".."++bS hi} rfl rfl rfl,f.trans (FF.set (by decide) _),w⟩
end
section
variable {N k n L m:Nat}{hp hp':HP}{T:List Nat}
structure Rec where
 vl:List VD
 tl:List TD
 g:Option (Nat×Option Int×Nat)
 sh:Option (Nat×Int×Int×Nat×Nat)
def cB:Nat->List Nat
 |0=>af "satisfy"
 |1=>af "minimize"
 |_=>af "maximize"
abbrev Rec.F (r:Rec):FD:=⟨r.vl.map VD.v,r.tl.map TD.v,(match r.g with|none=>F0.goal|some d=>[.str (cB d.1),eM d.2.1]),(match r.sh with|none=>[]|some d=>bN d.1 d.2.1 d.2.2.1),r.tl.map λd=>.int d.s,(match r.g with|none=>-1|some d=>d.2.2),(match r.sh with|none=>-1|some d=>d.2.2.2.1)⟩
structure eE (hp:HP)(st:FS)(r:Rec):Prop where
 hv:st.vs=r.vl.map VD.v
 ht:st.ts=r.tl.map λd=>.tup [d.v,.int d.s]
 hg:st.goal=match r.g with|none=>.none|some d=>.tup [.str (cB d.1),eM d.2.1,.int d.2.2]
 hs:st.shown=match r.sh with|none=>.none|some d=>.tup [.tup (bN d.1 d.2.1 d.2.2.1),.ref d.2.2.2.2,.int d.2.2.2.1]
 ha:∀d,r.sh=some d->5≤d.2.2.2.2∧hp[d.2.2.2.2]?=some (.list [.int d.2.1,.int d.2.2.1])
 dm:∀d∈r.vl,d.2.length≤10∧aT d.1=true
 lv:r.vl.length≤100
 lt:r.tl.length≤100
noncomputable def dZ (b:Int):Option Nat->Int
 |none=>b
 |some s=>if b<0 then(s:Int)else b
structure nv (st:FS)(r:Rec)(hp':HP)(bz:FS)(r':Rec)(its:TS)(brk:Option Nat)(hp:HP)(c:Nat):Prop where
 F:Fd hp' bz
 f:FF hp hp'
 R:r'.vl.length≤100->r'.tl.length≤100->eE hp' bz r'
 e1:bz.cells=st.cells
 br:bz.br=dZ st.br brk
 b:∀b,eG st b->eG bz (b+c)
 lx:∀ts,Lx st.T ts->Lx bz.T (ts++its)
 lv:r'.vl.length≤r.vl.length+1
 lt:r'.tl.length≤r.tl.length+1
 hd:∀t b l,its=(t,b)::l->t.g=[]
 item:∀b x more,cR (its++(.sign (af ";"),b)::x::more) r.F=match brk with|none=>some (.ok (x::more,r'.F))|some s=>some (.error (s:Int))
inductive zH {α:Type}(f:HP->R α)(v:α)(st:FS)(r:Rec)(hp:HP)(c:Nat):Prop
 |mk (hp':HP) (bz:FS) (r':Rec) (its:TS) (brk:Option Nat) (e:f hp=.ok v hp') (H:nv st r hp' bz r' its brk hp c)
variable {st bz pR:FS}{i1 i2:TS}{c1 c2 b:Nat}{r:Rec}
theorem eE.w (R:eE hp st r)(f:FF hp hp'){its:TS}{c:Nat}(w:W st bz its c):eE hp' bz r :=
 ⟨w.e3.trans R.hv,w.e4.trans R.ht,w.e5.trans R.hg,w.e6.trans R.hs,λd h=>⟨(R.ha d h).1,f.at (R.ha d h).1 (R.ha d h).2⟩,R.dm,R.lv,R.lt⟩
theorem i7 {l:List Nat}{t:Tok}(h:bD l=[(t,0)])(s:Nat):dh s (bD l)=[(t,s)]:=by rw[h];rfl
theorem rg:(dY (af "var")=true∧bD (af "var")=[(.word (af "var"),0)])∧(dY (af "{")=true∧bD (af "{")=[(.sign (af "{"),0)])∧(dY (af "}")=true∧bD (af "}")=[(.sign (af "}"),0)])∧(dY (af ",")=true∧bD (af ",")=[(.sign (af ","),0)])∧(dY (af ":")=true∧bD (af ":")=[(.sign (af ":"),0)])∧(dY (af ";")=true∧bD (af ";")=[(.sign (af ";"),0)]):=by decide +kernel
theorem sP:(dY (af "constraint")=true∧bD (af "constraint")=[(.word (af "constraint"),0)])∧(dY (af "solve")=true∧bD (af "solve")=[(.word (af "solve"),0)])∧(dY (af "output")=true∧bD (af "output")=[(.word (af "output"),0)])∧(∀w<3,dY (cB w)=true∧bD (cB w)=[(.word (cB w),0)]):=by decide +kernel
def zI (c:Ca)(N:Nat):List Sx:=[(bo (xF c 450 [(aa 0),(xS ":")])),(eI [5,6] (aq (ao [(ao [(xS "x"),(xS "x")]),(ao [(xS "B_1"),(xS "B_1")]),(ao [(xS "a b"),(xS "\"a b\"")]),(ao [(xS ""),(xS "\"\"")]),(ao [(xS "var"),(xS "var")])]) (xF c 443 [(aa 0),(xC (.int 5))]))),(bo (xF c 450 [(aa 0),(aa 6)])),(bo (ax c (bO (aa 0) .vars) .append [(ao [(aa 5),(aD c (xC (.fix (.type "tuple"))) [(aa 2)])])]))]
def v8 (c:Ca)(N:Nat):List Sx:=[(bc (ai (aa 3) [(.eq,(xC (.int 1)))]) [(bo (xF c 450 [(aa 0),(xS ",")]))] []),(aR 4 (xF c 450 [(aa 0),(aD c (xC (.fix (.type "str"))) [(aq (aq (aa 2) (aa 3)) (xC (.int 0)))])])),(iS (aa 0) .text (bw .Add (bw .Add (bO (aa 0) .text) (xS "..")) (aD c (xC (.fix (.type "str"))) [(aq (aq (aa 2) (aa 3)) (xC (.int 1)))]))),(bc (aS false [(ai (aq (aq (aa 2) (aa 3)) (xC (.int 1))) [(.lt,(aq (aq (aa 2) (aa 3)) (xC (.int 0))))]),(aS true [(ai (aa 3) [(.eq,(xC (.int 1)))]),(ai (aq (aq (aa 2) (xC (.int 1))) (xC (.int 0))) [(.lt,(bw .Add (aq (aq (aa 2) (xC (.int 0))) (xC (.int 1))) (xC (.int 2))))])])]) [(bo (xF c 457 [(aa 0),(aa 4)]))] [])]
def zJ (c:Ca)(N:Nat):List Sx:=(bc (ai (aD c (xC (bi "len")) [(aa 2)]) [(.eq,(xC (.int 2)))]) [(bo (xF c 450 [(aa 0),(xS "{")]))] [])::ib N (.one 3) (mf (aD c (xC (bi "len")) [(aa 2)])) (v8 c N)::(bc (ai (aD c (xC (bi "len")) [(aa 2)]) [(.eq,(xC (.int 2)))]) [(bo (xF c 450 [(aa 0),(xS "}")]))] [])::zI c N
theorem DS (c:Ca)(N:Nat):Vi c N=(bo (xF c 450 [(aa 0),(xS "var")]))::(aR 1 (bw .Sub (xF c 443 [(aa 0),(xC (.int 3))]) (xC (.int 1))))::(aR 2 (cp [(ao [(aa 1),(bw .Add (aa 1) (aq (ao [(xC (.int 0)),(xC (.int 1)),(xC (.int 1)),(xC (.int 2)),(xC (.int 0)),(xC (.int 1)),(xC (.int 1)),(xC (.int 3)),(gO (xC (.int 1)))]) (xF c 443 [(aa 0),(xC (.int 9))])))])]))::(bc (ai (xF c 443 [(aa 0),(xC (.int 3))]) [(.eq,(xC (.int 2)))]) [(aR 1 (bw .Add (aq (aq (aa 2) (xC (.int 0))) (xC (.int 1))) (aq (ao [(xC (.int 2)),(xC (.int 3)),(xC (.int 2)),(xC (.int 4)),(xC (.int 2)),(xC (.int 3)),(xC (.int 2)),(xC (.int 1)),(xC (.int 0))]) (xF c 443 [(aa 0),(xC (.int 9))])))),(bo (ax c (aa 2) .append [(ao [(aa 1),(bw .Add (aa 1) (xC (.int 1)))])]))] [])::zJ c N:=rfl
theorem Wb:∀i:Nat,i<5->bh hp (.tup [.tup [.str (af "x"),.str (af "x")],.tup [.str (af "B_1"),.str (af "B_1")],.tup [.str (af "a b"),.str (af "\"a b\"")],.tup [.str (af ""),.str (af "\"\"")],.tup [.str (af "var"),.str (af "var")]]) (.int i)=some (.tup [.str (iy i),.str (GR i)]):=aaQ (bF (i:=0) rfl) (bF (i:=1) rfl) (bF (i:=2) rfl) (bF (i:=3) rfl) (bF (i:=4) rfl)
inductive MH (N k:Nat)(hp:HP)(st:FS)(a:Nat)(rs:List (Int×Int))(l1 x y z:Option V):Prop
 |mk (hp':HP) (cK:FS) (i b1 b2:Nat) (h1:bj (aF (zI (ag N (k+3)) N)) [some (.ref 4),l1,some (.ref a),x,y,z,none] hp=.ok .none hp') (h2:i<5) (h3:W st cK [(.sign (af ":"),b1),(hZ i,b2)] 3) (h4:Fd hp' {cK with vs:=st.vs++[VD.v (iy i,rs)]}) (h5:FF hp hp')
theorem DT (F:Fd hp st)(B:eG st b)(hb:b≤2900){a:Nat}(ha:5≤a){rs:List (Int×Int)}(h:hp[a]?=some (.list (rs.map pv)))(hr:rs.length≤2)(hv:st.vs.length≤1000)(l1 x y z:Option V):MH N k hp st a rs l1 x y z:=by
 refine bC λnG=>?_;obtain⟨_,_,_,_,⟨k1,k2⟩,_⟩:=rg;obtain⟨ay,cK,s1,e1,F1,f1,w1⟩:=gu (N:=N) (k:=k) F B (by apply aI<;>trivial) k1;rw[i7 k2]at w1;have B1:=w1.b _ B;obtain⟨aN,cu,i,e2,hi,F2,f2,w2⟩:=j4 (N:=N) (k:=k+1) F1 B1 (by apply di<;>trivial) 5 (by decide);have lE:ag N (k+3) (.fix (.ref 443)) [.ref 4,.int 5] ay=_:=e2;have B2:=w2.b _ B1;refine bp (MG i hi) λn1 n2=>?_;obtain⟨bL,jn,s3,e3,F3,f3,w3⟩:=gu (N:=N) (k:=k) F2 B2 (by apply jA<;>trivial) n1;refine nG ?_;rw[i7 n2]at w3;have w:=(w1.trans w2).trans w3;have ZD:jn.vs=st.vs:=w.e3;have g1:=eC F3.o4 .vars (v:=.ref 2) rfl;have h3:=((f1.trans f2).trans f3).at ha h;have ap:=i0 (N:=N) (k:=k+2) F3.o2 (by rw[ZD];(apply aI<;>trivial)) (.tup [.str (iy i),.tup (rs.map pv)]);refine⟨bL.set 2 (.list (jn.vs++[V.tup [.str (iy i),.tup (rs.map pv)]])),jn,i,s1,s3,?_,hi,w,⟨?_,?_,?_,?_⟩,((f1.trans f2).trans f3).trans (FF.set (j:=2) (by decide) _)⟩
 ·open_k with[zI,e1,lE,Wb i hi,e3,g1,i5 F3.o2,w9 h3 (show(rs.map pv).length≤1000000 by rw[List.length_map];(apply aI<;>trivial)),ap,aX,bV,aY,aL,aM,aU]
 ·rw[List.getElem?_set_ne (by decide)];exact F3.o1
 ·rw[kF F3.o2,ZD]
 ·rw[List.getElem?_set_ne (by decide)];exact F3.o3
 ·rw[List.getElem?_set_ne (by decide)];exact F3.o4
theorem pS {i:Int}(h:j8 i):dz i=true:=(show ∀i∈v7,dz i=true by decide +kernel) i (xg h)
theorem oo (q:Int×Int):bh hp (pv q) (.int 0)=some (.int q.1):=bF (i:=0) rfl
theorem l7 (q:Int×Int):bh hp (pv q) (.int 1)=some (.int q.2):=bF (i:=1) rfl
theorem sQ {a i:Nat}{l:List V}{v:V}(h:hp[a]?=some (.list l))(hi:l[i]?=some v)(h2:i≤2000000):bh hp (.ref a) (.int i)=some v:=by
 exact(cA (de h)).trans ((cA (n9 (List.getElem?_eq_some_iff.mp hi).1 h2)).trans hi)
theorem yr (c:Ca)(N:Nat):zJ c N=(bc (ai (aD c (xC (bi "len")) [(aa 2)]) [(.eq,(xC (.int 2)))]) [(bo (xF c 450 [(aa 0),(xS "{")]))] [])::ib N (.one 3) (mf (aD c (xC (bi "len")) [(aa 2)])) (v8 c N)::(bc (ai (aD c (xC (bi "len")) [(aa 2)]) [(.eq,(xC (.int 2)))]) [(bo (xF c 450 [(aa 0),(xS "}")]))] [])::zI c N:=rfl
inductive Wc (N k:Nat)(hp:HP)(st:FS)(a:Nat)(q:Int×Int)(l1 o:Option V):Prop
 |mk (hp':HP) (bz:FS) (s a' c:Nat) (h1:aF (v8 (ag N (k+3)) N) [some (.ref 4),l1,some (.ref a),some (.int 0),o,none,none] hp=.ok (.next,[some (.ref 4),l1,some (.ref a),some (.int 0),some (.int (s:Nat)),none,none]) hp') (h2:Fd hp' {bz with br:=dZ st.br (if aZ q.1 q.2 none then some s else none)}) (h3:FF hp hp') (h4:W st bz [(.number q.1,s),(.sign (af ".."),a'),(.number q.2,c)] 1)
theorem Od (F:Fd hp st)(B:eG st b)(hb:b≤2900){a:Nat}(ha:5≤a){q:Int×Int}{rs:List (Int×Int)}(h:hp[a]?=some (.list ((q::rs).map pv)))(h1:j8 q.1)(h2:j8 q.2)(l1 o:Option V):Wc N k hp st a q l1 o:=by
 refine bC λnG=>?_;obtain⟨ay,aN,cu,T1,T2,T3,s,a',c,e1,f1,g1,DU,DV,p1,F2,f2,w2⟩:=Oc (N:=N) (k:=k) F B (by apply aI<;>trivial) h1 h2;have sb:∀{hp'},FF hp hp'->bh hp' (.ref a) (.int 0)=some (pv q):=λf=>sQ (i:=0) (f.at ha h) rfl (by decide);obtain⟨bL,e3,F3,f3⟩:=uh (N:=N) (k:=k+2) F2 s;refine nG ?_;rw[show cu.br=st.br from w2.e2]at F3;have DW:=v5 (N:=N) (k:=k+2) (hp:=hp) (pS h1);have DX:=v5 (N:=N) (k:=k+2) (hp:=ay) (pS h2);refine bC λnG=>?_;cases hd:decide (q.2<q.1)with
 |true =>
  refine nG ?_;refine⟨bL,cu,s,a',c,?_,?_,f2.trans f3,w2⟩
  ·open_k with[v8,show((0:Int)==1)=false from rfl,sb FF.refl,oo,l7,DW,e1,g1,DU,sb f1,DX,DV,p1,sb f2,hd,e3,aX,bV,aY,aL,aM,aU]
  ·rw[show aZ q.1 q.2 none=true from hd,if_pos rfl];exact F3
 |false =>
  refine nG ?_;refine⟨aN,cu,s,a',c,?_,?_,f2,w2⟩
  ·open_k with[v8,show((0:Int)==1)=false from rfl,sb FF.refl,oo,l7,DW,e1,g1,DU,sb f1,DX,DV,p1,sb f2,hd,aX,bV,aY,aL,aM,aU]
  ·rw[show aZ q.1 q.2 none=false from hd,if_neg Bool.false_ne_true];show Fd aN {cu with br:=st.br};rw[<- show cu.br=st.br from w2.e2];exact F2
inductive Wd (N k:Nat)(hp:HP)(st:FS)(a:Nat)(q0 q:Int×Int)(l1 o:Option V):Prop
 |mk (hp':HP) (bz:FS) (s a' c b':Nat) (h1:aF (v8 (ag N (k+3)) N) [some (.ref 4),l1,some (.ref a),some (.int 1),o,none,none] hp=.ok (.next,[some (.ref 4),l1,some (.ref a),some (.int 1),some (.int (s:Nat)),none,none]) hp') (h2:Fd hp' {bz with br:=dZ st.br (if aZ q.1 q.2 (some q0.2)then some s else none)}) (h3:FF hp hp') (h4:W st bz [(.sign (af ","),b'),(.number q.1,s),(.sign (af ".."),a'),(.number q.2,c)] 2)
theorem X9 (F:Fd hp st)(B:eG st b)(hb:b≤2900){a:Nat}(ha:5≤a){q0 q:Int×Int}(h:hp[a]?=some (.list ([q0,q].map pv)))(h1:j8 q.1)(h2:j8 q.2)(l1 o:Option V):Wd N k hp st a q0 q l1 o:=by
 refine bC λnG=>?_;obtain⟨_,_,_,⟨k1,k2⟩,_⟩:=rg;obtain⟨iM,lF,b',e0,F0,f0,w0⟩:=gu (N:=N) (k:=k) F B (by apply aI<;>trivial) k1;rw[i7 k2]at w0;have B0:=w0.b _ B;obtain⟨ay,aN,cu,T1,T2,T3,s,a',c,e1,f1,g1,DU,DV,p1,F2,f2,w2⟩:=Oc (N:=N) (k:=k) F0 B0 (by apply di<;>trivial) h1 h2;have w:=w0.trans w2;have sb:∀{hp'},FF hp hp'->bh hp' (.ref a) (.int 1)=some (pv q):=λf=>sQ (i:=1) (f.at ha h) rfl (by decide);have ZE:∀{hp'},FF hp hp'->bh hp' (.ref a) (.int 0)=some (pv q0):=λf=>sQ (i:=0) (f.at ha h) rfl (by decide);obtain⟨bL,e3,F3,f3⟩:=uh (N:=N) (k:=k+2) F2 s;refine nG ?_;rw[show cu.br=st.br from w.e2]at F3;have DW:=v5 (N:=N) (k:=k+2) (hp:=iM) (pS h1);have DX:=v5 (N:=N) (k:=k+2) (hp:=ay) (pS h2);have yt:=f0.trans f2;have We:=f0.trans f1
 have UH:decide (q.1<q0.2+2)=decide (q.1≤q0.2+1):=by
  by_cases h:q.1≤q0.2+1
  ·rw[decide_eq_true h,decide_eq_true (by omega)]
  ·rw[decide_eq_false h,decide_eq_false (by omega)]
 cases hd:decide (q.2<q.1)with
 |true =>
  refine⟨bL,cu,s,a',c,b',?_,?_,yt.trans f3,w⟩
  ·open_k with[v8,show((1:Int)==1)=true from rfl,e0,sb f0,oo,l7,DW,e1,g1,DU,sb We,DX,DV,p1,sb yt,hd,e3,aX,bV,aY,aL,aM,aU]
  ·rw[show aZ q.1 q.2 (some q0.2)=true from by simp only[aZ,hd,Bool.true_or],if_pos rfl];exact F3
 |false =>
  cases hd2:decide (q.1≤q0.2+1)with
  |true =>
   refine⟨bL,cu,s,a',c,b',?_,?_,yt.trans f3,w⟩
   ·open_k with[v8,show((1:Int)==1)=true from rfl,e0,sb f0,oo,l7,DW,e1,g1,DU,sb We,DX,DV,p1,sb yt,ZE yt,hd,UH,hd2,e3,aX,bV,aY,aL,aM,aU]
   ·rw[show aZ q.1 q.2 (some q0.2)=true from by simp only[aZ,hd,hd2,Bool.false_or],if_pos rfl];exact F3
  |false =>
   refine⟨aN,cu,s,a',c,b',?_,?_,yt,w⟩
   ·open_k with[v8,show((1:Int)==1)=true from rfl,e0,sb f0,oo,l7,DW,e1,g1,DU,sb We,DX,DV,p1,sb yt,ZE yt,hd,UH,hd2,aX,bV,aY,aL,aM,aU]
   ·rw[show aZ q.1 q.2 (some q0.2)=false from by simp only[aZ,hd,hd2,Bool.false_or],if_neg Bool.false_ne_true];show Fd aN {cu with br:=st.br};rw[<- show cu.br=st.br from w.e2];exact F2
end
section
variable {N k n L m:Nat}{hp hp':HP}{T:List Nat}
variable {st bz pR:FS}{i1 i2:TS}{c1 c2 b:Nat}{r:Rec}
theorem W.br {its:TS}{c:Nat}(w:W st bz its c)(x:Int):W {st with br:=x} {bz with br:=x} its c :=
 ⟨w.e1,rfl,w.e3,w.e4,w.e5,w.e6,λb h=>⟨(w.b b ⟨h.p,h.c,h.t,h.o⟩).p,(w.b b ⟨h.p,h.c,h.t,h.o⟩).c,(w.b b ⟨h.p,h.c,h.t,h.o⟩).t,(w.b b ⟨h.p,h.c,h.t,h.o⟩).o⟩,w.lx⟩
theorem eG.br (h:eG st b)(x:Int):eG {st with br:=x} b:=⟨h.p,h.c,h.t,h.o⟩
theorem eG.vs (h:eG st b)(x:List V):eG {st with vs:=x} b:=⟨h.p,h.c,h.t,h.o⟩
noncomputable def JB:List Int:=[0,1,1,2,0,1,1,3,-1]
noncomputable def JC:List Int:=[2,3,2,4,2,3,2,1,0]
theorem Wf:∀d<9,-1≤JB.getD d 0∧JB.getD d 0≤3:=by decide
theorem Wg:∀d<9,0≤JC.getD d 0∧JC.getD d 0≤4:=by decide
theorem v9 {a:Nat}{l:List V}(h:hp[a]?=some (.list l))(j:Nat)(hj:l.length=j)(hl:j≤1000):ag N (k+1) (bi "len") [.ref a] hp=.ok (.int (j:Nat)) hp:=by
 rw[len_list h (by apply l9<;>first|assumption|exact rfl),hj]
theorem DY:∀i,aT (iy i)=true
 |0=>by decide
 |1=>by decide
 |2=>by decide
 |3=>by decide
 |_+4=>show aT (af "var")=true by decide
theorem Oe (R:eE hp st r)(f:FF hp hp')(d:VD)(hd:d.2.length≤10∧aT d.1=true)(e1:bz.vs=st.vs++[VD.v d])(e2:bz.ts=st.ts)(e3:bz.goal=st.goal)(e4:bz.shown=st.shown)(l1:(r.vl++[d]).length≤100):eE hp' bz {r with vl:=r.vl++[d]} :=
 ⟨by rw[e1,R.hv,List.map_append];rfl,e2.trans R.ht,e3.trans R.hg,e4.trans R.hs,λd h=>⟨(R.ha d h).1,f.at (R.ha d h).1 (R.ha d h).2⟩,λd' h=>by
  rcases List.mem_append.mp h with h|h
  ·exact R.dm d' h
  ·rw[List.mem_singleton.mp h];exact hd,l1,R.lt⟩
theorem JD (F:Fd hp st)(B:eG st b)(hb:b≤2800)(R:eE hp st r){a:Nat}(ha:5≤a){q:Int×Int}(h:hp[a]?=some (.list [pv q]))(h1:j8 q.1)(h2:j8 q.2)(hN:20≤N)(l1:Option V)(b0:Nat){lF:FS}{c0:Nat}(w0:W lF st [(.word (af "var"),b0)] c0) :
  zH (bj (aF (zJ (ag N (k+3)) N)) [some (.ref 4),l1,some (.ref a),none,none,none,none]) .none lF r hp (c0+4):=by
 refine bC λnG=>?_;obtain⟨M,rfl⟩:∃M,N=M+1+1:=⟨N - 2,by apply um<;>first|with_reducible assumption|exact rfl⟩;have ll:=v9 (N:=M+1+1) (k:=k+2) h 1 rfl (by decide);obtain⟨ay,cK,s,a',c,e1,F1,f1,w1⟩:=Od (N:=M+1+1) (k:=k) F B (by apply aI<;>first|with_reducible assumption|exact rfl) ha (q:=q) (rs:=[]) h h1 h2 l1 none;have h':=f1.at ha h;have ll1:=v9 (N:=M+1+1) (k:=k+2) h' 1 rfl (by decide);have B1:=(w1.b _ B).br (dZ st.br (if aZ q.1 q.2 none then some s else none))
 obtain⟨aN,cu,i,b1,b2,e2,hi,w2,F2,f2⟩:=DT (N:=M+1+1) (k:=k) F1 B1 (by apply di<;>first|with_reducible assumption|exact rfl) ha (rs:=[q]) h' (by show 1≤2;decide) (by show cK.vs.length≤1000;rw[w1.e3,R.hv,List.length_map];have:=R.lv;(apply aI<;>first|with_reducible assumption|exact rfl)) l1 (some (.int 0)) (some (.int s)) none;refine nG ?_;rw[fO]at e2;have e5:cu.br=dZ lF.br (if aZ q.1 q.2 none then some s else none):=by rw[w2.e2,<- w0.e2]
 refine⟨aN,_,{r with vl:=r.vl++[(iy i,[q])]},[(.word (af "var"),b0),(.number q.1,s),(.sign (af ".."),a'),(.number q.2,c),(.sign (af ":"),b1),(hZ i,b2)],if aZ q.1 q.2 none then some s else none,?_,F2,f1.trans f2,?_,?_,e5,?_,?_,?_,?_,λ_ _ _ e=>by cases e;rfl,?_⟩
 ·have Wh:(List.range ((1:Nat):Int).toNat).map (λ(k:Nat)=>V.int k)=[.int 0]:=rfl;open_k with[yr,ip,ll,ll1,show(((1:Nat):Int)==2)=false from rfl,kC,show(decide (((1:Nat):Int)≤1000)&&dz ((1:Nat):Int))=true by decide +kernel,Wh,lP,jx,lQ,e1,e2,aX,bV,aY,aL,aM,aU]
 ·exact λDI qe=>Oe R (f1.trans f2) (iy i,[q]) ⟨by show 1≤10;decide,DY i⟩ (by show cK.vs++_=_;rw[w1.e3]) (w2.e4.trans w1.e4) (w2.e5.trans w1.e5) (w2.e6.trans w1.e6) DI
 ·exact w2.e1.trans (w1.e1.trans w0.e1)
 ·intro b hB;exact(Nat.add_assoc b c0 (1+3)▸Nat.add_assoc (b+c0) 1 3▸(w2.b _ ((w1.b _ (w0.b _ hB)).br _)).vs _)
 ·intro ts hx;have:=w2.lx _ (w1.lx _ (w0.lx ts hx))
  simpa using this
 ·simp
 ·exact Nat.le_succ _
 ·intro b x more;have:=Jy q.1 q.2 i b0 s a' c b1 b2 b x more r.F (by rw[List.length_map];have:=R.lv;(apply aI<;>first|with_reducible assumption|exact rfl));refine this.trans ?_;cases aZ q.1 q.2 none with
  |true=>rfl
  |false=>simp[Rec.F]
theorem JE (F:Fd hp st)(B:eG st b)(hb:b≤2800)(R:eE hp st r){a:Nat}(ha:5≤a){q0 q:Int×Int}(h:hp[a]?=some (.list [pv q0,pv q]))(g1:j8 q0.1)(g2:j8 q0.2)(h1:j8 q.1)(h2:j8 q.2)(hN:20≤N)(l1:Option V)(b0:Nat){lF:FS}{c0:Nat}(w0:W lF st [(.word (af "var"),b0)] c0) :
  zH (bj (aF (zJ (ag N (k+3)) N)) [some (.ref 4),l1,some (.ref a),none,none,none,none]) .none lF r hp (c0+8):=by
 refine bC λnG=>?_;obtain⟨_,⟨k1,k2⟩,⟨k3,k4⟩,_⟩:=rg;obtain⟨M,rfl⟩:∃M,N=M+1+1+1:=⟨N - 3,by apply Rq<;>first|with_reducible assumption|exact rfl⟩;obtain⟨hpa,JF,ba,ea,Fa,fa,wa⟩:=gu (N:=M+1+1+1) (k:=k) F B (by apply aI<;>first|with_reducible assumption|exact rfl) k1;rw[i7 k2]at wa;have Ba:=wa.b _ B;have hA:=fa.at ha h;obtain⟨ay,cK,s,a',c,e1,F1,f1,w1⟩:=Od (N:=M+1+1+1) (k:=k) Fa Ba (by apply di<;>first|with_reducible assumption|exact rfl) ha (q:=q0) (rs:=[q]) hA g1 g2 l1 none;have h':=f1.at ha hA;have B1:=(w1.b _ Ba).br (dZ JF.br (if aZ q0.1 q0.2 none then some s else none))
 obtain⟨aN,cu,s',a2,c2,b',e2,F2,f2,w2⟩:=X9 (N:=M+1+1+1) (k:=k) F1 B1 (by apply jA<;>first|with_reducible assumption|exact rfl) ha (q0:=q0) (q:=q) h' h1 h2 l1 (some (.int s));have dH:=f2.at ha h';have B2:=(w2.b _ B1).br (dZ (dZ JF.br (if aZ q0.1 q0.2 none then some s else none)) (if aZ q.1 q.2 (some q0.2)then some s' else none))
 obtain⟨bL,jn,b3,e3,F3,f3,w3⟩:=gu (N:=M+1+1+1) (k:=k) F2 B2 (by apply nB<;>first|with_reducible assumption|exact rfl) k3;rw[i7 k4]at w3;have h3:=f3.at ha dH;have B3:=w3.b _ B2;obtain⟨lh,oq,i,b4,b5,e4,hi,w4,F4,f4⟩:=DT (N:=M+1+1+1) (k:=k) F3 B3 (by apply nC<;>first|with_reducible assumption|exact rfl) ha (rs:=[q0,q]) h3 (by show 2≤2;decide) (by show jn.vs.length≤1000;rw[w3.e3];show cu.vs.length≤1000;rw[w2.e3];show cK.vs.length≤1000;rw[w1.e3,wa.e3,R.hv,List.length_map];have:=R.lv;(apply aI<;>first|with_reducible assumption|exact rfl)) l1 (some (.int 1)) (some (.int s')) none;refine nG ?_;rw[fO]at e4
 have e5:oq.br=dZ lF.br (if aZ q0.1 q0.2 none then some s else if aZ q.1 q.2 (some q0.2)then some s' else none):=by
  rw[w4.e2,w3.e2];show dZ (dZ JF.br _) _=_;rw[wa.e2,w0.e2];cases aZ q0.1 q0.2 none<;>cases aZ q.1 q.2 (some q0.2)<;>simp only[if_true,if_false,Bool.false_eq_true,dZ]
  split<;>simp[*]<;>(apply zT<;>first|with_reducible assumption|exact rfl)
 have ll:=v9 (N:=M+1+1+1) (k:=k+2) h 2 rfl (by decide);have llA:=v9 (N:=M+1+1+1) (k:=k+2) hA 2 rfl (by decide);have ll2:=v9 (N:=M+1+1+1) (k:=k+2) dH 2 rfl (by decide);have ft:=(((fa.trans f1).trans f2).trans f3).trans f4;refine⟨lh,_,{r with vl:=r.vl++[(iy i,[q0,q])]},[(.word (af "var"),b0),(.sign (af "{"),ba),(.number q0.1,s),(.sign (af ".."),a'),(.number q0.2,c),(.sign (af ","),b'),(.number q.1,s'),(.sign (af ".."),a2),(.number q.2,c2),(.sign (af "}"),b3),(.sign (af ":"),b4),(hZ i,b5)],if aZ q0.1 q0.2 none then some s else if aZ q.1 q.2 (some q0.2)then some s' else none,?_,F4,ft,?_,?_,e5,?_,?_,?_,?_,λ_ _ _ e=>by cases e;rfl,?_⟩
 ·have Wh:(List.range ((2:Nat):Int).toNat).map (λ(k:Nat)=>V.int k)=[.int 0,.int 1]:=rfl;open_k with[yr,ip,ll,llA,ll2,show(((2:Nat):Int)==2)=true from rfl,ea,kC,show(decide (((2:Nat):Int)≤1000)&&dz ((2:Nat):Int))=true by decide +kernel,Wh,lP,jx,lQ,e1,e2,e3,e4,aX,bV,aY,aL,aM,aU]
 ·exact λDI qe=>Oe R ft (iy i,[q0,q]) ⟨by show 2≤10;decide,DY i⟩ (by show jn.vs++_=_;rw[w3.e3];show cu.vs++_=_;rw[w2.e3];show cK.vs++_=_;rw[w1.e3,wa.e3]) (w4.e4.trans (w3.e4.trans (w2.e4.trans (w1.e4.trans wa.e4)))) (w4.e5.trans (w3.e5.trans (w2.e5.trans (w1.e5.trans wa.e5)))) (w4.e6.trans (w3.e6.trans (w2.e6.trans (w1.e6.trans wa.e6)))) DI
 ·exact w4.e1.trans (w3.e1.trans (w2.e1.trans (w1.e1.trans (wa.e1.trans w0.e1))))
 ·intro b hB;have:=(w4.b _ (w3.b _ ((w2.b _ ((w1.b _ (wa.b _ (w0.b _ hB))).br (dZ JF.br (if aZ q0.1 q0.2 none then some s else none)))).br (dZ (dZ JF.br (if aZ q0.1 q0.2 none then some s else none)) (if aZ q.1 q.2 (some q0.2)then some s' else none))))).vs (jn.vs++[VD.v (iy i,[q0,q])])
  have e:b+c0+1+1+2+1+3=b+(c0+8):=by apply Nat.add_right_comm<;>first|with_reducible assumption|exact rfl
  rw[e]at this;exact this
 ·intro ts hx;have:=w4.lx _ (w3.lx _ (w2.lx _ (w1.lx _ (wa.lx _ (w0.lx ts hx)))))
  simpa using this
 ·simp
 ·exact Nat.le_succ _
 ·intro b x more;have:=Jz q0.1 q0.2 q.1 q.2 i b0 ba s a' c b' s' a2 c2 b3 b4 b5 b x more r.F (by rw[List.length_map];have:=R.lv;(apply aI<;>first|with_reducible assumption|exact rfl));refine this.trans ?_;cases aZ q0.1 q0.2 none with
  |true=>rfl
  |false =>
   cases aZ q.1 q.2 (some q0.2)with
   |true=>rfl
   |false=>simp[Rec.F]
end
section
variable {N k n L m:Nat}{hp hp':HP}{T:List Nat}
variable {st bz pR:FS}{i1 i2:TS}{c1 c2 b:Nat}{r:Rec}
theorem FF.qU (f:FF hp hp'){a:Nat}(h:hp.length≤a)(o:O):FF hp (hp'.set a o):=⟨by rw[List.length_set];exact f.len,λj h1 h2=>by rw[List.getElem?_set_ne (by apply MS<;>trivial)];exact f.same j h1 h2⟩
theorem nv.base {iM:HP}{r':Rec}{its:TS}{brk:Option Nat}{c:Nat}(h:nv st r hp' bz r' its brk hp c)(f:FF iM hp):nv st r hp' bz r' its brk iM c :=
 ⟨h.F,f.trans h.f,h.R,h.e1,h.br,h.b,h.lx,h.lv,h.lt,h.hd,h.item⟩
theorem nv.le {r':Rec}{its:TS}{brk:Option Nat}{c c':Nat}(h:nv st r hp' bz r' its brk hp c)(hc:c≤c'):nv st r hp' bz r' its brk hp c' :=
 ⟨h.F,h.f,h.R,h.e1,h.br,λb hB=>⟨Nat.le_trans (h.b b hB).p (Nat.add_le_add_left hc b),(h.b b hB).c,(h.b b hB).t,(h.b b hB).o⟩,h.lx,h.lv,h.lt,h.hd,h.item⟩
def rh (N k:Nat)(a:Addr)(hp:HP)(st:FS)(r:Rec):Prop:=zH (ag N (k+4) (.fix (.ref a)) [.ref 4]) .none st r hp 20
theorem JG (F:Fd hp st)(B:eG st b)(hb:b≤2700)(R:eE hp st r)(hN:20≤N):rh N k 464 hp st r:=by
 refine bC λnG=>?_;obtain⟨⟨k1,k2⟩,_⟩:=rg;obtain⟨ay,cK,b0,e1,F1,f1,w1⟩:=gu (N:=N) (k:=k) F B (by apply aI<;>trivial) k1;rw[i7 k2]at w1;have B1:=w1.b _ B;obtain⟨aN,cu,d1,e2,DF,F2,f2,w2⟩:=j4 (N:=N) (k:=k+1) F1 B1 (by apply di<;>trivial) 3 (by decide);have lE:ag N (k+3) (.fix (.ref 443)) [.ref 4,.int 3] ay=_:=e2;have B2:=w2.b _ B1;obtain⟨bL,jn,d2,e3,hd2,F3,f3,w3⟩:=j4 (N:=N) (k:=k+1) F2 B2 (by apply jA<;>trivial) 9 (by decide);refine nG ?_;have Of:ag N (k+3) (.fix (.ref 443)) [.ref 4,.int 9] aN=_:=e3;have B3:=w3.b _ B2;have t0:∀hp,bh hp (.tup [.int 0,.int 1,.int 1,.int 2,.int 0,.int 1,.int 1,.int 3,.int (-1)]) (.int d2)=some (.int (JB.getD d2 0)):=λhp=>v3 (l:=JB) hd2 (by apply lG<;>trivial);have r0:=Wf d2 hd2;generalize ht0:JB.getD d2 0=x0 at t0 r0;have l5:=F3.len;have F4:=F3.app [.list [pv ((d1:Int) - 1,(d1:Int) - 1+x0)]];refine bC λnG=>?_;obtain⟨JH,mS,d3,e5,hd3,F5,f5,w5⟩:=j4 (N:=N) (k:=k+1) F4 B3 (by apply nB<;>trivial) 3 (by decide);refine nG ?_;have ZF:ag N (k+3) (.fix (.ref 443)) [.ref 4,.int 3] (bL++[.list [pv ((d1:Int) - 1,(d1:Int) - 1+x0)]])=_:=e5;have B5:=w5.b _ B3;have f4:FF bL (bL++[.list [pv ((d1:Int) - 1,(d1:Int) - 1+x0)]]):=FF.app _;have h5:=f5.at (j:=bL.length) (by assumption) (bK bL (.list [pv ((d1:Int) - 1,(d1:Int) - 1+x0)]));have Wi:=((w1.trans w2).trans w3).trans w5;have ZG:=(f1.trans f2).trans f3;have Wj:=(ZG.trans f4).trans f5;cases hd:((d3:Int)==2)with
 |false =>
  obtain⟨hp',bz,r',its,brk,e,H⟩:=JD (N:=N) (k:=k) F5 B5 (by apply nC<;>trivial) (R.w Wj Wi) (a:=bL.length) (by assumption) h5 (by constructor<;>show _≤_<;>simp only<;>lia) (by constructor<;>show _≤_<;>simp only<;>omega) hN (some (.int ((d1:Int) - 1))) b0 Wi;rw[fO]at e;refine⟨hp',bz,r',its,brk,?_,(H.base Wj).le (by decide)⟩;rw[Dt];open_k with[DS,e1,lE,Of,Bz,t0,ZF,hd,e,aX,bV,aY,aL,aM,aU]
 |true =>
  obtain⟨ZH,Zg,d4,e6,ZI,F6,f6,w6⟩:=j4 (N:=N) (k:=k+1) F5 B5 (by apply nC<;>trivial) 9 (by decide);have e6':ag N (k+3) (.fix (.ref 443)) [.ref 4,.int 9] JH=_:=e6;have B6:=w6.b _ B5;have t1:∀hp,bh hp (.tup [.int 2,.int 3,.int 2,.int 4,.int 2,.int 3,.int 2,.int 1,.int 0]) (.int d4)=some (.int (JC.getD d4 0)):=λhp=>v3 (l:=JC) ZI (by apply lG<;>trivial);have r1:=Wg d4 ZI;generalize ht1:JC.getD d4 0=x1 at t1 r1;have s0:bh JH (.ref bL.length) (.int 0)=some (pv ((d1:Int) - 1,(d1:Int) - 1+x0)):=sQ (i:=0) h5 rfl (by decide);have h6:=f6.at (j:=bL.length) (by assumption) h5;have ap:=i0 (N:=N) (k:=k+2) h6 (show([pv ((d1:Int) - 1,(d1:Int) - 1+x0)]:List V).length≤1000000 by show 1≤1000000;decide) (pv ((d1:Int) - 1+x0+x1,(d1:Int) - 1+x0+x1+1));have F7:=F6.qU (j:=bL.length) (by assumption) (.list [pv ((d1:Int) - 1,(d1:Int) - 1+x0),pv ((d1:Int) - 1+x0+x1,(d1:Int) - 1+x0+x1+1)]);have ZJ:=(Wj.trans f6).qU ZG.len (.list [pv ((d1:Int) - 1,(d1:Int) - 1+x0),pv ((d1:Int) - 1+x0+x1,(d1:Int) - 1+x0+x1+1)]);have ZK:=Wi.trans w6;refine bC λnG=>?_;obtain⟨hp',bz,r',its,brk,e,H⟩:=JE (N:=N) (k:=k) F7 B6 (by apply OA<;>trivial) (R.w ZJ ZK) (a:=bL.length) (by assumption) (kF h6) (by constructor<;>show _≤_<;>simp only<;>omega) (by constructor<;>show _≤_<;>simp only<;>omega) (by constructor<;>show _≤_<;>simp only<;>omega) (by constructor<;>show _≤_<;>simp only<;>omega) hN (some (.int ((d1:Int) - 1+x0+x1))) b0 ZK;refine nG ?_;rw[fO]at e;refine⟨hp',bz,r',its,brk,?_,(H.base ZJ).le (by decide)⟩;rw[Dt];open_k with[DS,e1,lE,Of,Bz,t0,ZF,hd,s0,l7,e6',t1,i5 h6,aX,bV,aY,aL,aM,aU];rw[ap];open_k with[aX,bV,aY,aL,aM,aU];exact e
end
section
variable {N k n L m:Nat}{hp hp':HP}{T:List Nat}
variable {st bz pR:FS}{i1 i2:TS}{c1 c2 b:Nat}{r:Rec}
noncomputable def zK (d:Nat):Nat:=[0,1,2,3,4,0,1,2,3,4,5,6].getD d 0
theorem Wk:∀d<12,zK d<7:=by decide
theorem Yb (d:Nat)(h:d<12):bh hp (.tup [.int 0,.int 1,.int 2,.int 3,.int 4,.int 0,.int 1,.int 2,.int 3,.int 4,.int 5,.int 6]) (.int d)=some (.int (zK d:Nat)):=by
 have h1:=v3 (hp:=hp) (l:=[0,1,2,3,4,0,1,2,3,4,5,6]) (d:=d) h (by apply lG<;>trivial);have h2:∀d<12,([0,1,2,3,4,0,1,2,3,4,5,6]:List Int).getD d 0=(zK d:Nat):=by decide
 rw[h2 d h]at h1;exact h1
def DZ (x y:Int):List V:=[.tup [.str (af "linear_le"),.tup [.int 1,.int (-2)],.tup [.int x,.int y],.int 3],.tup [.str (af "all_different"),.tup [.int x,.int y],.str (af "bounds")],.tup [.str (af "clause"),.tup [.int x],.tup [.int y]],.tup [.str (af "xor"),.int x,.int y,.int x],.tup [.str (af "disjunctive"),.tup [.int x,.int y],.tup [.int 2,.int 0]],.tup [.str (af "linear_ne"),.tup [.int 4],.tup [.int x,.int y],.int 0],.tup [.str (af "max"),.tup [],.int x]]
def JI:List V:=[.str (af "linear_le([1, -2], [X, Y], 3)"),.str (af "all_different([X, Y], \"bounds\")"),.str (af "clause([X], [Y])"),.str (af "xor(X, Y, X)"),.str (af "disjunctive([X, Y], [2, 0])"),.str (af "linear_ne([4], [X, Y], 0)"),.str (af "max([], X)")]
theorem Wl (x y:Int):∀w:Nat,w<7->bh hp (.tup (DZ x y)) (.int w)=some (bl w x y):=Mg (bF (i:=0) rfl) (bF (i:=1) rfl) (bF (i:=2) rfl) (bF (i:=3) rfl) (bF (i:=4) rfl) (bF (i:=5) rfl) (bF (i:=6) rfl)
theorem Yc:∀w:Nat,w<7->bh hp (.tup JI) (.int w)=some (.str (j3 w)):=Mg (bF (i:=0) rfl) (bF (i:=1) rfl) (bF (i:=2) rfl) (bF (i:=3) rfl) (bF (i:=4) rfl) (bF (i:=5) rfl) (bF (i:=6) rfl)
def Og (x y:Int):List V:=[.tup [.tup [.str (af "int"),.int x],.tup [.str (af "text"),.str (af ", ")],.tup [.str (af "bool"),.int y]],.tup [.tup [.str (af "list"),.tup [.tup [.str (af "int"),.int x],.tup [.str (af "int"),.int y]]]],.tup [.tup [.str (af "if"),.int x,.tup [],.tup [.tup [.str (af "int"),.int y]]]]]
def JJ:List V:=[.str (af "[int(X), text(\", \"), bool(Y)]"),.str (af "[list([int(X), int(Y)])]"),.str (af "[if(X, [], [int(Y)])]")]
theorem aa6 (x y:Int):∀w:Nat,w<3->bh hp (.tup (Og x y)) (.int w)=some (.tup (bN w x y)):=Gq (bF (i:=0) rfl) (bF (i:=1) rfl) (bF (i:=2) rfl)
theorem Yd:∀w:Nat,w<3->bh hp (.tup JJ) (.int w)=some (.str (kI w)):=Gq (bF (i:=0) rfl) (bF (i:=1) rfl) (bF (i:=2) rfl)
theorem JK (c:Nat)(o x:Ex)(loc:Loc)(hp:HP):jN c o x loc hp=az (o loc hp) (Kr c x loc):=rfl
theorem D0 (c:Nat)(x:Ex)(loc:Loc)(l:List Nat)(hp:HP):Kr c x loc (.str l) hp=az (x loc hp) (Ew c l):=rfl
theorem wb (c:Nat)(hc:c=88∨c=89){l:List Nat}(hl:l.length≤1000){x:Int}(hx:x∈dM):Ew c l (.int x) hp=.ok (.str (ic c (bS x) l)) hp:=by
 have h:∀x∈dM,dz x=true∧(bS x).length≤20∧(bS x==[88])=false∧(bS x==[89])=false:=by decide +kernel
 refine zQ (h x hx) λh1 h2 h3 h4=>?_;refine eB ?_;unfold Ho;rw[h1,decide_eq_true h2,decide_eq_true hl];rcases hc with rfl|rfl
 ·rw[h3];rfl
 ·rw[h4];rfl
theorem D2:∀w<7,(j3 w).length≤1000∧∀x∈dM,(ic 88 (bS x) (j3 w)).length≤1000:=by decide +kernel
theorem D3:∀w<3,(kI w).length≤1000∧∀x∈dM,(ic 88 (bS x) (kI w)).length≤1000:=by decide +kernel
theorem Ye:∀w<7,∀x∈dM,∀y∈dM,RD (wr (j3 w) x y) (bl w x y):=Mg VY VZ V0 V1 V2 V3 V4
theorem Yg:∀w<3,∀x∈dM,∀y∈dM,RD (wr (kI w) x y) (.tup (bN w x y)):=Gq V5 V6 V7
theorem f9 {t:Tok}{b:Nat}{ts:TS}(h:ts≠[])(F:FD):cR ((t,b)::ts) F=ob (mX t b ts F) λx=>ob (gq (af ";") x.1) λy=>some (.ok (y.2,x.2)):=by
 cases ts with
 |nil=>exact absurd rfl h
 |cons x r=>rfl
theorem m5 (b:Nat)(x:Tok×Nat)(r:TS):gq (af ";") ((.sign (af ";"),b)::x::r)=some (.ok ((),x::r)):=by kernel_rfl
theorem MI {l:List Nat}(hl:dY l=true){v:V}(hd:RD l v)(b0 s b:Nat)(x:Tok×Nat)(more:TS)(F:FD)(h1:F.qs.length≤1000)(h2:F.ts.length≤1000):cR ((.word (af "constraint"),b0)::dh s (bD l)++(.sign (af ";"),b)::x::more) F=some (.ok (x::more,{F with qs:=F.qs++[.int s],ts:=F.ts++[v]})):=by
 refine bC λnG=>?_;obtain⟨_,_,t,ts,_,e⟩:=q9 hl;have hd:=hd s (.sign (af ";"),b) (x::more);refine nG ?_;rw[List.cons_append,f9 (by simp),uj];rw[e]at hd ⊢;simp only[List.map_cons,List.cons_append,Nat.add_zero]at hd ⊢;simp only[f7,h1,h2,and_self,if_true,hd,ob,m5]
theorem aa7 (c:Ca)(N:Nat):Vk c N=[(bo (xF c 450 [(aa 0),(xS "constraint")])),(aR 1 (aq (ao [(xC (.int 0)),(xC (.int 1)),(xC (.int 2)),(xC (.int 3)),(xC (.int 4)),(xC (.int 0)),(xC (.int 1)),(xC (.int 2)),(xC (.int 3)),(xC (.int 4)),(xC (.int 5)),(xC (.int 6))]) (xF c 443 [(aa 0),(xC (.int 12))]))),(eI [2,3] (ao [(xF c 471 [(aa 0)]),(xF c 471 [(aa 0)])])),(aR 4 (aq (ao [(ao [(xS "linear_le"),(ao [(xC (.int 1)),(gO (xC (.int 2)))]),(ao [(aa 2),(aa 3)]),(xC (.int 3))]),(ao [(xS "all_different"),(ao [(aa 2),(aa 3)]),(xS "bounds")]),(ao [(xS "clause"),(ao [(aa 2)]),(ao [(aa 3)])]),(ao [(xS "xor"),(aa 2),(aa 3),(aa 2)]),(ao [(xS "disjunctive"),(ao [(aa 2),(aa 3)]),(ao [(xC (.int 2)),(xC (.int 0))])]),(ao [(xS "linear_ne"),(ao [(xC (.int 4))]),(ao [(aa 2),(aa 3)]),(xC (.int 0))]),(ao [(xS "max"),(ao []),(aa 2)])]) (aa 1))),(aR 5 (aq (ao [(xS "linear_le([1, -2], [X, Y], 3)"),(xS "all_different([X, Y], \"bounds\")"),(xS "clause([X], [Y])"),(xS "xor(X, Y, X)"),(xS "disjunctive([X, Y], [2, 0])"),(xS "linear_ne([4], [X, Y], 0)"),(xS "max([], X)")]) (aa 1))),(bo (ax c (bO (aa 0) .bZ) .append [(ao [(aa 4),(xF c 450 [(aa 0),(jN 89 (jN 88 (aa 5) (aa 2)) (aa 3))])])]))]:=rfl
theorem Wm (F:Fd hp st)(B:eG st b)(hb:b≤2700)(R:eE hp st r)(hN:20≤N):rh N k 478 hp st r:=by
 refine bC λnG=>?_;obtain⟨⟨k1,k2⟩,_⟩:=sP;obtain⟨ay,cK,b0,e1,F1,f1,w1⟩:=gu (N:=N) (k:=k) F B (by apply aI<;>trivial) k1;rw[i7 k2]at w1;have B1:=w1.b _ B;obtain⟨aN,cu,d,e2,hd,F2,f2,w2⟩:=j4 (N:=N) (k:=k+1) F1 B1 (by apply di<;>trivial) 12 (by decide);refine nG ?_;have lE:ag N (k+3) (.fix (.ref 443)) [.ref 4,.int 12] ay=_:=e2;have B2:=w2.b _ B1;have hw:=Wk d hd;have wv:=λhp=>Yb (hp:=hp) d hd;generalize zK d=w at hw wv;refine bC λnG=>?_;obtain⟨bL,jn,x,e3,hx,F3,f3,w3⟩:=rf (N:=N) (k:=k) F2 B2 (by apply jA<;>trivial);have B3:=w3.b _ B2;obtain⟨lh,oq,y,e4,hy,F4,f4,w4⟩:=rf (N:=N) (k:=k) F3 B3 (by apply nB<;>trivial);have B4:=w4.b _ B3;have lx:=QS w hw x hx y hy;obtain⟨JH,mS,s,e5,F5,f5,w5⟩:=gu (N:=N) (k:=k) F4 B4 (by apply nC<;>trivial) lx;refine nG ?_;have wc:=(((w1.trans w2).trans w3).trans w4).trans w5;have ZL:=(((f1.trans f2).trans f3).trans f4).trans f5;have g4:=eC F4.o4 .bZ (v:=.ref 3) rfl
 have JL:mS.ts.length≤1000000:=by
  rw[wc.e4,R.ht,List.length_map];have:=R.lt;(apply aI<;>trivial)
 have hts':=F5.o3;have ap:=i0 (N:=N) (k:=k+2) F5.o3 JL (.tup [bl w x y,.int s]);have tv:=Wl (hp:=lh) x y w hw;have cv:=Yc (hp:=lh) w hw;simp only[DZ]at tv;simp only[JI]at cv;have Wn:=wb (hp:=lh) 88 (.inl rfl) (D2 w hw).1 hx;have Wo:=wb (hp:=lh) 89 (.inr rfl) ((D2 w hw).2 x hx) hy;refine⟨JH.set 3 (.list (mS.ts++[.tup [bl w x y,.int s]])),{mS with ts:=mS.ts++[.tup [bl w x y,.int s]]},{r with tl:=r.tl++[⟨w,x,y,s⟩]},_,none,?_,⟨⟨?_,?_,?_,?_⟩,ZL.trans (FF.set (by decide) _),?_,wc.e1,wc.e2,?_,wc.lx,Nat.le_succ _,?_,λ_ _ _ e=>by cases e;rfl,?_⟩⟩
 ·rw[Qi];open_k with[aa7,JK,D0,e1,lE,wv,e3,e4,Bz,tv,cv,g4,i5 F4.o3,Wn,Wo,aX,bV,aY,aL,aM,aU];rw[show ic 89 (bS y) (ic 88 (bS x) (j3 w))=wr (j3 w) x y from rfl,e5];open_k with[ap,aX,bV,aY,aL,aM,aU]
 ·rw[List.getElem?_set_ne (by decide)];exact F5.o1
 ·rw[List.getElem?_set_ne (by decide)];exact F5.o2
 ·exact kF F5.o3
 ·rw[List.getElem?_set_ne (by decide)];exact F5.o4
 ·intro h1 h2;exact⟨wc.e3.trans R.hv,by show mS.ts++_=_;rw[wc.e4,R.ht,List.map_append];rfl,wc.e5.trans R.hg,wc.e6.trans R.hs,λd h=>⟨(R.ha d h).1,(ZL.trans (FF.set (by decide) _)).at (R.ha d h).1 (R.ha d h).2⟩,R.dm,h1,h2⟩
 ·intro b hB;have:=wc.b b hB;exact⟨Nat.le_trans this.p (by apply dA<;>trivial),this.c,this.t,this.o⟩
 ·show(r.tl++[_]).length≤_;simp
 ·intro b x' more;have:=MI lx (Ye w hw x hx y hy) b0 s b x' more r.F (by rw[List.length_map];have:=R.lt;(apply aI<;>trivial)) (by rw[List.length_map];have:=R.lt;(apply aI<;>trivial));refine(Eq.trans ?_ this).trans ?_
  ·congr 1
  ·simp[Rec.F]
end
section
variable {N k n L m:Nat}{hp hp':HP}{T:List Nat}
variable {st bz pR:FS}{i1 i2:TS}{c1 c2 b:Nat}{r:Rec}
theorem JM:∀w:Nat,w<3->bh hp (.tup [.str (af "satisfy"),.str (af "minimize"),.str (af "maximize")]) (.int w)=some (.str (cB w)):=Gq (bF (i:=0) rfl) (bF (i:=1) rfl) (bF (i:=2) rfl)
theorem zL (F:Fd hp st)(s:Nat):yq N k hp st s:=uh F s
theorem BF (s0 b w:Nat)(gi:Option Int)(g:Nat)(ts:TS)(JL:ts≠[])(F:FD)(hg:F.gs=(g:Int)):cR ((.word (af "solve"),s0)::ts) F=some (.error (s0:Int)):=by
 rw[f9 JL,pQ];simp only[mW,hg,decide_eq_true (Int.natCast_nonneg g),if_true,ob]
theorem JN (s0 g:Nat)(ts:TS)(JL:ts≠[])(F:FD)(hg:F.ss=(g:Int)):cR ((.word (af "output"),s0)::ts) F=some (.error (s0:Int)):=by
 rw[f9 JL,BC];simp only[l0,hg,decide_eq_true (Int.natCast_nonneg g),if_true,ob]
theorem JO (s0 s b:Nat)(x:Tok×Nat)(more:TS)(F:FD)(hg:F.gs=-1):cR ((.word (af "solve"),s0)::(.word (cB 0),s)::(.sign (af ";"),b)::x::more) F=some (.ok (x::more,{F with gs:=s,goal:=[.str (cB 0),.none]})):=by
 rw[f9 (by simp),pQ];simp only[mW,hg,show decide ((0:Int)≤-1)=false from rfl,Bool.false_eq_true,if_false,nz,ob,show([af "satisfy",af "minimize",af "maximize"].any (·==cB 0))=true by decide,show(cB 0==af "satisfy")=true by decide,if_true,m5]
theorem JP (w:Nat)(hw:w=1∨w=2)(i:Int)(s0 s s1 b:Nat)(x:Tok×Nat)(more:TS)(F:FD)(hg:F.gs=-1):cR ((.word (af "solve"),s0)::(.word (cB w),s)::(.number i,s1)::(.sign (af ";"),b)::x::more) F=some (.ok (x::more,{F with gs:=s,goal:=[.str (cB w),.int i]})):=by
 have h1:([af "satisfy",af "minimize",af "maximize"].any (·==cB w))=true∧(cB w==af "satisfy")=false:=by rcases hw with rfl|rfl<;>decide
 rw[f9 (by simp),pQ];simp only[mW,hg,show decide ((0:Int)≤-1)=false from rfl,Bool.false_eq_true,if_false,nz,ob,h1.1,h1.2,if_true,BR,m5]
def zM (c:Ca)(N:Nat):List Sx:=[(aR 2 (xF c 443 [(aa 0),(xC (.int 3))])),(eI [1,3] (ao [(xF c 450 [(aa 0),(aq (ao [(xS "satisfy"),(xS "minimize"),(xS "maximize")]) (aa 2))]),(xC .none)])),(bc (ai (aa 2) [(.gt,(xC (.int 0)))]) [(aR 3 (xF c 471 [(aa 0)])),(bo (xF c 450 [(aa 0),(aD c (xC (.fix (.type "str"))) [(aa 3)])]))] []),(iS (aa 0) .goal (ao [(aq (ao [(xS "satisfy"),(xS "minimize"),(xS "maximize")]) (aa 2)),(aa 3),(aa 1)]))]
theorem D4 (c:Ca)(N:Nat):Vl c N=(aR 1 (xF c 450 [(aa 0),(xS "solve")]))::(bc (ai (bO (aa 0) .goal) [(.gP,(xC .none))]) [(bo (xF c 457 [(aa 0),(aa 1)]))] [])::zM c N:=rfl
theorem eG.g (h:eG st b)(x y:V):eG {st with goal:=x,shown:=y} b:=⟨h.p,h.c,h.t,h.o⟩
inductive GS (N k:Nat)(hp:HP)(st:FS)(s0:Nat):Prop
 |mk (hp':HP) (cK:FS) (w:Nat) (gi:Option Int) (s:Nat) (its:TS) (h1:bj (aF (zM (ag N (k+3)) N)) [some (.ref 4),some (.int (s0:Nat)),none,none] hp=.ok .none hp') (h2:FF hp hp') (h3:W st cK its 4) (h4:Fd hp' {cK with goal:=.tup [.str (cB w),eM gi,.int (s:Nat)]}) (h5:(∀b x more F,F.gs=-1->cR ((.word (af "solve"),s0)::its++(.sign (af ";"),b)::x::more) F=some (.ok (x::more,{F with gs:=s,goal:=[.str (cB w),eM gi]}))))
theorem yu (F:Fd hp st)(B:eG st b)(hb:b≤2800)(s0:Nat):GS N k hp st s0:=by
 refine bC λnG=>?_;refine zQ sP λ_ _ _ kk=>?_;obtain⟨ay,cK,w,e1,hw,F1,f1,w1⟩:=j4 (N:=N) (k:=k+1) F B (by apply aI<;>trivial) 3 (by decide);have fW:ag N (k+3) (.fix (.ref 443)) [.ref 4,.int 3] hp=_:=e1;have B1:=w1.b _ B;refine bp (kk w hw) λk1 k2=>?_;obtain⟨aN,cu,s,e2,F2,f2,w2⟩:=gu (N:=N) (k:=k) F1 B1 (by apply di<;>trivial) k1;refine nG ?_;rw[i7 k2]at w2;have B2:=w2.b _ B1;cases hd:decide ((0:Int)<(w:Int))with
 |false =>
  obtain rfl:w=0:=by simpa using hd
  have p1:=mZ F2.o4 (show(gF cu).length≤100 by show 8≤100;decide) .goal (.tup [.str (cB 0),.none,.int s]);refine⟨_,cu,0,none,s,[(.word (cB 0),s)],?_,(f1.trans f2).trans (FF.set (by decide) _),⟨w2.e1.trans w1.e1,w2.e2.trans w1.e2,w2.e3.trans w1.e3,w2.e4.trans w1.e4,w2.e5.trans w1.e5,w2.e6.trans w1.e6,?_,(w1.trans w2).lx⟩,F2.set {cu with goal:=.tup [.str (cB 0),.none,.int s]} rfl rfl rfl,?_⟩
  ·open_k with[zM,fW,JM 0 hw,e2,hd,p1,aX,bV,aY,aL,aM,aU];rfl
  ·intro b hB;have:=(w1.trans w2).b b hB;exact⟨Nat.le_trans this.p (by apply dA<;>trivial),this.c,this.t,this.o⟩
  ·exact λb x more F hg=>JO s0 s b x more F hg
 |true =>
  have hw':w=1∨w=2:=by
   have:=of_decide_eq_true hd;lia
  refine bC λnG=>?_;obtain⟨bL,jn,x,e3,hx,F3,f3,w3⟩:=rf (N:=N) (k:=k) F2 B2 (by apply jA<;>trivial);have B3:=w3.b _ B2;refine bp (QV x hx) λn1 n2=>?_;obtain⟨lh,oq,s1,e4,F4,f4,w4⟩:=gu (N:=N) (k:=k) F3 B3 (by apply nB<;>trivial) n1;refine nG ?_;rw[i7 n2]at w4
  have hs:dz x=true:=by
   have:∀x∈dM,dz x=true:=by decide +kernel
   exact this x hx
  have p1:=mZ F4.o4 (show(gF oq).length≤100 by show 8≤100;decide) .goal (.tup [.str (cB w),.int x,.int s]);refine⟨_,oq,w,some x,s,[(.word (cB w),s),(.number x,s1)],?_,(((f1.trans f2).trans f3).trans f4).trans (FF.set (by decide) _),((w1.trans w2).trans w3).trans w4,F4.set {oq with goal:=.tup [.str (cB w),.int x,.int s]} rfl rfl rfl,?_⟩
  ·open_k with[zM,fW,JM w hw,e2,hd,e3,v5 hs,e4,p1,aX,bV,aY,aL,aM,aU];rfl
  ·exact λb x more F hg=>JP w hw' _ s0 s s1 b x more F hg
theorem QW (F:Fd hp st)(B:eG st b)(hb:b≤2700)(R:eE hp st r)(hN:20≤N):rh N k 485 hp st r:=by
 refine bC λnG=>?_;obtain⟨_,⟨k1,k2⟩,_⟩:=sP;obtain⟨ay,cK,s0,e1,F1,f1,w1⟩:=gu (N:=N) (k:=k) F B (by apply aI<;>trivial) k1;refine nG ?_;rw[i7 k2]at w1;have B1:=w1.b _ B;have g1:=eC F1.o4 .goal (v:=cK.goal) rfl;have i8:cK.goal=_:=w1.e5.trans R.hg;cases hr:r.g with
 |none =>
  rw[hr]at i8;simp only at i8;rw[i8]at g1;refine bC λnG=>?_;obtain⟨aN,cu,w,gi,s,its,e2,f2,w2,F2,it⟩:=yu (N:=N) (k:=k) F1 B1 (by apply di<;>trivial) s0;refine nG ?_;rw[fO]at e2;refine⟨aN,_,{r with g:=some (w,gi,s)},(.word (af "solve"),s0)::its,none,?_,⟨F2,f1.trans f2,?_,w2.e1.trans w1.e1,w2.e2.trans w1.e2,?_,?_,Nat.le_succ _,Nat.le_succ _,λ_ _ _ e=>by cases e;rfl,?_⟩⟩
  ·rw[Du];open_k with[D4,e1,g1,Option.map_some,Option.map,Bool.not_true,e2,aX,bV,aY,aL,aM,aU]
  ·exact λh1 h2=>⟨w2.e3.trans (w1.e3.trans R.hv),w2.e4.trans (w1.e4.trans R.ht),rfl,w2.e6.trans (w1.e6.trans R.hs),λd h=>⟨(R.ha d h).1,(f1.trans f2).at (R.ha d h).1 (R.ha d h).2⟩,R.dm,h1,h2⟩
  ·intro b hB;have:=w2.b _ (w1.b b hB);exact⟨Nat.le_trans this.p (by apply dA<;>trivial),this.c,this.t,this.o⟩
  ·intro ts h;have:=w2.lx _ (w1.lx ts h)
   simpa using this
  ·intro b x more;exact it b x more r.F (by show(match r.g with|none=>(-1:Int)|some d=>d.2.2)=_;rw[hr])
 |some d =>
  rw[hr]at i8;simp only at i8;rw[i8]at g1;refine bC λnG=>?_;obtain⟨aa8,fW,Wr,Oh⟩:=zL (N:=N) (k:=k+2) F1 s0;obtain⟨aN,cu,w,gi,s,its,e2,f2,w2,F2,it⟩:=yu (N:=N) (k:=k) Wr (B1.br _) (by apply di<;>trivial) s0;refine nG ?_;rw[fO]at e2;refine⟨aN,_,{r with g:=some (w,gi,s)},(.word (af "solve"),s0)::its,some s0,?_,⟨F2,(f1.trans Oh).trans f2,?_,w2.e1.trans w1.e1,?_,?_,?_,Nat.le_succ _,Nat.le_succ _,λ_ _ _ e=>by cases e;rfl,?_⟩⟩
  ·rw[Du];open_k with[D4,e1,g1,Option.map_some,Option.map,Bool.not_false,fW,e2,aX,bV,aY,aL,aM,aU]
  ·exact λh1 h2=>⟨w2.e3.trans (w1.e3.trans R.hv),w2.e4.trans (w1.e4.trans R.ht),rfl,w2.e6.trans (w1.e6.trans R.hs),λd h=>⟨(R.ha d h).1,((f1.trans Oh).trans f2).at (R.ha d h).1 (R.ha d h).2⟩,R.dm,h1,h2⟩
  ·show cu.br=_;rw[w2.e2];show dZ cK.br (some s0)=dZ st.br (some s0);rw[w1.e2]
  ·intro b hB;have:=w2.b _ ((w1.b b hB).br (dZ cK.br (some s0)));exact⟨Nat.le_trans this.p (by apply dA<;>trivial),this.c,this.t,this.o⟩
  ·intro ts h;have:=w2.lx _ (w1.lx ts h)
   simpa using this
  ·intro b x more;exact BF s0 b w gi d.2.2 _ (by simp) r.F (by show(match r.g with|none=>(-1:Int)|some d=>d.2.2)=_;rw[hr])
def GU (c:Ca)(N:Nat):List Sx:=[(eI [2,3] (ao [(xF c 471 [(aa 0)]),(xF c 471 [(aa 0)])])),(aR 4 (xF c 443 [(aa 0),(xC (.int 3))])),(aR 5 (aq (ao [(ao [(ao [(xS "int"),(aa 2)]),(ao [(xS "text"),(xS ", ")]),(ao [(xS "bool"),(aa 3)])]),(ao [(ao [(xS "list"),(ao [(ao [(xS "int"),(aa 2)]),(ao [(xS "int"),(aa 3)])])])]),(ao [(ao [(xS "if"),(aa 2),(ao []),(ao [(ao [(xS "int"),(aa 3)])])])])]) (aa 4))),(aR 6 (aq (ao [(xS "[int(X), text(\", \"), bool(Y)]"),(xS "[list([int(X), int(Y)])]"),(xS "[if(X, [], [int(Y)])]")]) (aa 4))),(aR 6 (jN 89 (jN 88 (aa 6) (aa 2)) (aa 3))),(iS (aa 0) .shown (ao [(aa 5),(cp [(aa 2),(aa 3)]),(xF c 450 [(aa 0),(aa 6)])]))]
theorem D5 (c:Ca)(N:Nat):Vm c N=(aR 1 (xF c 450 [(aa 0),(xS "output")]))::(bc (ai (bO (aa 0) .shown) [(.gP,(xC .none))]) [(bo (xF c 457 [(aa 0),(aa 1)]))] [])::GU c N:=rfl
theorem QX {l:List Nat}(hl:dY l=true){v:List V}(hd:RD l (.tup v))(b0 s b:Nat)(x:Tok×Nat)(more:TS)(F:FD)(hs:F.ss=-1):cR ((.word (af "output"),b0)::dh s (bD l)++(.sign (af ";"),b)::x::more) F=some (.ok (x::more,{F with ss:=s,shown:=v})):=by
 refine bC λnG=>?_;obtain⟨_,_,t,ts,_,e⟩:=q9 hl;have hd:=hd s (.sign (af ";"),b) (x::more);refine nG ?_;rw[List.cons_append,f9 (by simp),BC];rw[e]at hd ⊢;simp only[List.map_cons,List.cons_append,Nat.add_zero]at hd ⊢;simp only[l0,hs,show decide ((0:Int)≤-1)=false from rfl,Bool.false_eq_true,if_false,hd,ob,m5]
inductive JQ (N k:Nat)(hp:HP)(st:FS)(s0:Nat):Prop
 |mk (hp':HP) (cK:FS) (w:Nat) (x y:Int) (s a:Nat) (h1:bj (aF (GU (ag N (k+3)) N)) [some (.ref 4),some (.int (s0:Nat)),none,none,none,none,none] hp=.ok .none hp') (h2:FF hp hp') (h3:w<3) (h4:x∈dM) (h5:y∈dM) (h6:W st cK (dh s (bD (wr (kI w) x y))) 4) (h7:Fd hp' {cK with shown:=.tup [.tup (bN w x y),.ref a,.int (s:Nat)]}) (h8:5≤a) (h9:hp'[a]?=some (.list [.int x,.int y]))
theorem BG (F:Fd hp st)(B:eG st b)(hb:b≤2800)(s0:Nat):JQ N k hp st s0:=by
 refine bC λnG=>?_;obtain⟨ay,cK,x,e1,hx,F1,f1,w1⟩:=rf (N:=N) (k:=k) F B (by apply aI<;>trivial);have B1:=w1.b _ B;obtain⟨aN,cu,y,e2,hy,F2,f2,w2⟩:=rf (N:=N) (k:=k) F1 B1 (by apply di<;>trivial);have B2:=w2.b _ B1;obtain⟨bL,jn,w,e3,hw,F3,f3,w3⟩:=j4 (N:=N) (k:=k+1) F2 B2 (by apply jA<;>trivial) 3 (by decide);have Of:ag N (k+3) (.fix (.ref 443)) [.ref 4,.int 3] aN=_:=e3;have B3:=w3.b _ B2;have F3':=F3.app [.list [.int x,.int y]];have lx:=DR w hw x hx y hy;obtain⟨lh,oq,s,e4,F4,f4,w4⟩:=gu (N:=N) (k:=k) F3' B3 (by apply nB<;>trivial) lx;refine nG ?_;have l5:=F3.len;have h4:=f4.at (j:=bL.length) (by assumption) (bK bL (.list [.int x,.int y]));have p1:=mZ F4.o4 (show(gF oq).length≤100 by show 8≤100;decide) .shown (.tup [.tup (bN w x y),.ref bL.length,.int s]);have sv:=aa6 (hp:=bL) x y w hw;have ov:=Yd (hp:=bL) w hw;simp only[Og]at sv;simp only[JJ]at ov;have Wn:=wb (hp:=bL) 88 (.inl rfl) (D3 w hw).1 hx;have Wo:=wb (hp:=bL) 89 (.inr rfl) ((D3 w hw).2 x hx) hy;have f04:=(((f1.trans f2).trans f3).trans (FF.app [.list [.int x,.int y]])).trans f4;refine⟨_,oq,w,x,y,s,bL.length,?_,f04.trans (FF.set (j:=4) (by decide) (.dict (gF {oq with shown:=.tup [.tup (bN w x y),.ref bL.length,.int s]}))),hw,hx,hy,((w1.trans w2).trans w3).trans w4,F4.set {oq with shown:=.tup [.tup (bN w x y),.ref bL.length,.int s]} rfl rfl rfl,by assumption,?_⟩
 ·open_k with[GU,JK,D0,e1,e2,Of,sv,ov,Wn,Wo,aX,bV,aY,aL,aM,aU];rw[show ic 89 (bS y) (ic 88 (bS x) (kI w))=wr (kI w) x y from rfl,e4];open_k with[p1,aX,bV,aY,aL,aM,aU];rfl
 ·rw[List.getElem?_set_ne (by apply WU<;>trivial)];exact h4
theorem JR (F:Fd hp st)(B:eG st b)(hb:b≤2700)(R:eE hp st r)(hN:20≤N):rh N k 492 hp st r:=by
 refine bC λnG=>?_;obtain⟨_,_,⟨k1,k2⟩,_⟩:=sP;obtain⟨ay,cK,s0,e1,F1,f1,w1⟩:=gu (N:=N) (k:=k) F B (by apply aI<;>trivial) k1;refine nG ?_;rw[i7 k2]at w1;have B1:=w1.b _ B;have g1:=eC F1.o4 .shown (v:=cK.shown) rfl;have gC:cK.shown=_:=w1.e6.trans R.hs;cases hr:r.sh with
 |none =>
  rw[hr]at gC;simp only at gC;rw[gC]at g1;refine bC λnG=>?_;obtain⟨aN,cu,w,x,y,s,a,e2,f2,hw,hx,hy,w2,F2,ha,h2⟩:=BG (N:=N) (k:=k) F1 B1 (by apply di<;>trivial) s0;refine nG ?_;rw[fO]at e2;refine⟨aN,_,{r with sh:=some (w,x,y,s,a)},(.word (af "output"),s0)::dh s (bD (wr (kI w) x y)),none,?_,⟨F2,f1.trans f2,?_,w2.e1.trans w1.e1,w2.e2.trans w1.e2,?_,?_,Nat.le_succ _,Nat.le_succ _,λ_ _ _ e=>by cases e;rfl,?_⟩⟩
  ·rw[Dv];open_k with[D5,e1,g1,Option.map_some,Option.map,Bool.not_true,e2,aX,bV,aY,aL,aM,aU]
  ·exact λh1 qe=>⟨w2.e3.trans (w1.e3.trans R.hv),w2.e4.trans (w1.e4.trans R.ht),w2.e5.trans (w1.e5.trans R.hg),rfl,λd h=>by cases h;exact⟨ha,h2⟩,R.dm,h1,qe⟩
  ·intro b hB;have:=w2.b _ (w1.b b hB);exact⟨Nat.le_trans this.p (by apply dA<;>trivial),this.c,this.t,this.o⟩
  ·intro ts h;have:=w2.lx _ (w1.lx ts h)
   simpa using this
  ·intro b x' more;exact QX (DR w hw x hx y hy) (Yg w hw x hx y hy) s0 s b x' more r.F (by show(match r.sh with|none=>(-1:Int)|some d=>d.2.2.2.1)=_;rw[hr])
 |some d =>
  rw[hr]at gC;simp only at gC;rw[gC]at g1;refine bC λnG=>?_;obtain⟨aa8,fW,Wr,Oh⟩:=zL (N:=N) (k:=k+2) F1 s0;obtain⟨aN,cu,w,x,y,s,a,e2,f2,hw,hx,hy,w2,F2,ha,h2⟩:=BG (N:=N) (k:=k) Wr (B1.br _) (by apply di<;>trivial) s0;refine nG ?_;rw[fO]at e2;refine⟨aN,_,{r with sh:=some (w,x,y,s,a)},(.word (af "output"),s0)::dh s (bD (wr (kI w) x y)),some s0,?_,⟨F2,(f1.trans Oh).trans f2,?_,w2.e1.trans w1.e1,?_,?_,?_,Nat.le_succ _,Nat.le_succ _,λ_ _ _ e=>by cases e;rfl,?_⟩⟩
  ·rw[Dv];open_k with[D5,e1,g1,Option.map_some,Option.map,Bool.not_false,fW,e2,aX,bV,aY,aL,aM,aU]
  ·exact λh1 qe=>⟨w2.e3.trans (w1.e3.trans R.hv),w2.e4.trans (w1.e4.trans R.ht),w2.e5.trans (w1.e5.trans R.hg),rfl,λd h=>by cases h;exact⟨ha,h2⟩,R.dm,h1,qe⟩
  ·show cu.br=_;rw[w2.e2];show dZ cK.br (some s0)=dZ st.br (some s0);rw[w1.e2]
  ·intro b hB;have:=w2.b _ ((w1.b b hB).br (dZ cK.br (some s0)));exact⟨Nat.le_trans this.p (by apply dA<;>trivial),this.c,this.t,this.o⟩
  ·intro ts h;have:=w2.lx _ (w1.lx ts h)
   simpa using this
  ·intro b x' more;exact JN s0 d.2.2.2.1 _ (by simp) r.F (by show(match r.sh with|none=>(-1:Int)|some d=>d.2.2.2.1)=_;rw[hr])
end
section
variable {N k n L m:Nat}{hp hp':HP}{T:List Nat}
variable {st bz pR:FS}{i1 i2:TS}{c1 c2 b:Nat}{r:Rec}
def gf:Nat->List Nat
 |0=>af ""
 |1=>af "var 0..1"
 |2=>af "var 0..1 : x"
 |3=>af "solve"
 |4=>af "constraint max ( [ 0 ] , 0"
 |5=>af "constraint"
 |6=>af "var 0 .."
 |_=>af "var 0..1 :"
def Oj:Nat->List Nat
 |0=>af "find"
 |1=>af "x"
 |2=>af "y"
 |3=>af "least"
 |4=>af "]"
 |5=>af ":"
 |6=>af ":"
 |_=>af "7"
def gh:Nat->Tok
 |0=>.word (af "find")
 |1=>.word (af "x")
 |2=>.word (af "y")
 |3=>.word (af "least")
 |4=>.sign (af "]")
 |5=>.sign (af ":")
 |6=>.sign (af ":")
 |_=>.number 7
theorem JS:∀i<8,(i=0∨dY (gf i)=true)∧dY (Oj i)=true∧bD (Oj i)=[(gh i,0)]∧aT (gf i)=true∧((gf i==af "")=decide (i=0))∧((gf i==af "solve")=decide (i=3)):=by decide +kernel
theorem GV:∀i:Nat,i<8->bh hp (.tup [.tup [.str (af ""),.str (af "find")],.tup [.str (af "var 0..1"),.str (af "x")],.tup [.str (af "var 0..1 : x"),.str (af "y")],.tup [.str (af "solve"),.str (af "least")],.tup [.str (af "constraint max ( [ 0 ] , 0"),.str (af "]")],.tup [.str (af "constraint"),.str (af ":")],.tup [.str (af "var 0 .."),.str (af ":")],.tup [.str (af "var 0..1 :"),.str (af "7")]]) (.int i)=some (.tup [.str (gf i),.str (Oj i)]):=Vv (bF (i:=0) rfl) (bF (i:=1) rfl) (bF (i:=2) rfl) (bF (i:=3) rfl) (bF (i:=4) rfl) (bF (i:=5) rfl) (bF (i:=6) rfl) (bF (i:=7) rfl)
theorem un0 (s2:Nat)(x:Tok×Nat)(ts:TS)(F:FD):cR ((gh 0,s2)::x::ts) F=some (.error (s2:Int)):=by kernel_rfl
theorem un1 (s s2:Nat)(x:Tok×Nat)(ts:TS)(F:FD):cR (dh s (bD (gf 1))++(gh 1,s2)::x::ts) F=some (.error (s2:Int)):=by kernel_rfl
theorem un6 (s s2:Nat)(x:Tok×Nat)(ts:TS)(F:FD):cR (dh s (bD (gf 6))++(gh 6,s2)::x::ts) F=some (.error (s2:Int)):=by kernel_rfl
theorem un7 (s s2:Nat)(x:Tok×Nat)(ts:TS)(F:FD):cR (dh s (bD (gf 7))++(gh 7,s2)::x::ts) F=some (.error (s2:Int)):=by kernel_rfl
theorem un2 (s s2:Nat)(x:Tok×Nat)(ts:TS)(F:FD)(h:F.vs.length≤1000):cR (dh s (bD (gf 2))++(gh 2,s2)::x::ts) F=some (.error (s2:Int)):=by
 have e:bD (gf 2)=[(.word (af "var"),0),(.number 0,4),(.sign (af ".."),5),(.number 1,7),(.sign (af ":"),9),(.word (af "x"),11)]:=by decide +kernel
 rw[e];show cR ((.word (af "var"),s+0)::(.number 0,s+4)::(.sign (af ".."),s+5)::(.number 1,s+7)::(.sign (af ":"),s+9)::(.word (af "x"),s+11)::(gh 2,s2)::x::ts) F=_;have hd:jI ((.number 0,s+4)::(.sign (af ".."),s+5)::(.number 1,s+7)::(.sign (af ":"),s+9)::(.word (af "x"),s+11)::(gh 2,s2)::x::ts)=some (.ok ([(0,1)],(.sign (af ":"),s+9)::(.word (af "x"),s+11)::(gh 2,s2)::x::ts)):=by kernel_rfl
 have hw:gq (af ":") ((.sign (af ":"),s+9)::(.word (af "x"),s+11)::(gh 2,s2)::x::ts)=some (.ok ((),(.word (af "x"),s+11)::(gh 2,s2)::x::ts)):=by kernel_rfl
 have h2:gq (af ";") ((gh 2,s2)::x::ts)=some (.error (s2:Int)):=by kernel_rfl
 rw[f9 (by simp),ui];simp only[fU,hd,ob,hw,Tok.name,nz,if_pos h,h2]
theorem un3 (s s2:Nat)(x:Tok×Nat)(ts:TS)(F:FD)(h:F.gs=-1):cR (dh s (bD (gf 3))++(gh 3,s2)::x::ts) F=some (.error (s2:Int)):=by
 have e:bD (gf 3)=[(.word (af "solve"),0)]:=by decide +kernel
 rw[e];show cR ((.word (af "solve"),s+0)::(.word (af "least"),s2)::x::ts) F=_;rw[f9 (by simp),pQ];simp only[mW,h,show decide ((0:Int)≤-1)=false from rfl,Bool.false_eq_true,if_false,nz,ob,show([af "satisfy",af "minimize",af "maximize"].any (·==af "least"))=false by decide]
theorem un4 (s s2:Nat)(x:Tok×Nat)(ts:TS)(F:FD)(h:F.qs.length≤1000)(h':F.ts.length≤1000):cR (dh s (bD (gf 4))++(gh 4,s2)::x::ts) F=some (.error (s2:Int)):=by
 have e:bD (gf 4)=[(.word (af "constraint"),0),(.word (af "max"),11),(.sign (af "("),15),(.sign (af "["),17),(.number 0,19),(.sign (af "]"),21),(.sign (af ","),23),(.number 0,25)]:=by decide +kernel
 rw[e];show cR ((.word (af "constraint"),s+0)::(.word (af "max"),s+11)::(.sign (af "("),s+15)::(.sign (af "["),s+17)::(.number 0,s+19)::(.sign (af "]"),s+21)::(.sign (af ","),s+23)::(.number 0,s+25)::(gh 4,s2)::x::ts) F=_;have hd:sX ((.word (af "max"),s+11)::(.sign (af "("),s+15)::(.sign (af "["),s+17)::(.number 0,s+19)::(.sign (af "]"),s+21)::(.sign (af ","),s+23)::(.number 0,s+25)::(gh 4,s2)::x::ts)=some (.error (s2:Int)):=by kernel_rfl
 rw[f9 (by simp),uj];simp only[f7,h,h',and_self,if_true,hd,ob]
theorem un5 (s s2:Nat)(x:Tok×Nat)(ts:TS)(F:FD)(h:F.qs.length≤1000)(h':F.ts.length≤1000):cR (dh s (bD (gf 5))++(gh 5,s2)::x::ts) F=some (.error (s2:Int)):=by
 have e:bD (gf 5)=[(.word (af "constraint"),0)]:=by decide +kernel
 rw[e];show cR ((.word (af "constraint"),s+0)::(gh 5,s2)::x::ts) F=_;have hd:sX ((gh 5,s2)::x::ts)=some (.error (s2:Int)):=by kernel_rfl
 rw[f9 (by simp),uj];simp only[f7,h,h',and_self,if_true,hd,ob]
theorem Ws (i:Nat)(hi:i<8)(h0:i≠0)(s s2:Nat)(x:Tok×Nat)(ts:TS)(F:FD)(h1:F.vs.length≤1000)(h2:F.qs.length≤1000)(h3:F.ts.length≤1000)(h4:i=3->F.gs=-1):cR (dh s (bD (gf i))++(gh i,s2)::x::ts) F=some (.error (s2:Int)) :=
 Vv (P:=λi=>i≠0->(i=3->F.gs=-1)->cR (dh s (bD (gf i))++(gh i,s2)::x::ts) F=some (.error (s2:Int))) (λq _=>(q rfl).elim) (λ_ _=>un1 s s2 x ts F) (λ_ _=>un2 s s2 x ts F h1) (λ_ h=>un3 s s2 x ts F (h rfl)) (λ_ _=>un4 s s2 x ts F h2 h3) (λ_ _=>un5 s s2 x ts F h2 h3) (λ_ _=>un6 s s2 x ts F) (λ_ _=>un7 s s2 x ts F) i hi h0 h4
def GW (c:Ca)(N:Nat):List Sx:=[(bo (xF c 457 [(aa 0),(xF c 450 [(aa 0),(aa 2)])]))]
theorem sR (c:Ca)(N:Nat):Vn c N=(eI [1,2] (aq (ao [(ao [(xS ""),(xS "find")]),(ao [(xS "var 0..1"),(xS "x")]),(ao [(xS "var 0..1 : x"),(xS "y")]),(ao [(xS "solve"),(xS "least")]),(ao [(xS "constraint max ( [ 0 ] , 0"),(xS "]")]),(ao [(xS "constraint"),(xS ":")]),(ao [(xS "var 0 .."),(xS ":")]),(ao [(xS "var 0..1 :"),(xS "7")])]) (xF c 443 [(aa 0),(xC (.int 8))])))::(bc (ai (aa 1) [(.ne,(xS ""))]) [(aR 3 (xF c 450 [(aa 0),(aa 1)])),(bc (aS true [(ai (aa 1) [(.eq,(xS "solve"))]),(ai (bO (aa 0) .goal) [(.gP,(xC .none))])]) [(bo (xF c 457 [(aa 0),(aa 3)]))] [])] [])::GW c N:=rfl
inductive MJ (N k:Nat)(hp:HP)(st:FS)(i:Nat)(h:V)(sp:Option V):Prop
 |mk (hp':HP) (cK:FS) (s2:Nat) (h1:bj (aF (GW (ag N (k+3)) N)) [some (.ref 4),some h,some (.str (Oj i)),sp] hp=.ok .none hp') (h2:FF hp hp') (h3:W st cK [(gh i,s2)] 1) (h4:Fd hp' {cK with br:=dZ st.br (some s2)})
theorem xh (F:Fd hp st)(B:eG st b)(hb:b≤2900)(i:Nat)(hi:i<8)(h:V)(sp:Option V):MJ N k hp st i h sp:=by
 refine bC λnG=>?_;refine zQ (JS i hi) λ_ k1 k2 _=>?_;obtain⟨ay,cK,s2,e1,F1,f1,w1⟩:=gu (N:=N) (k:=k) F B (by apply aI<;>trivial) k1;rw[i7 k2]at w1;obtain⟨aN,e2,F2,f2⟩:=zL (N:=N) (k:=k+2) F1 s2;refine nG ?_;rw[w1.e2]at F2;refine⟨aN,cK,s2,?_,f1.trans f2,w1,F2⟩;open_k with[GW,e1,e2,aX,bV,aY,aL,aM,aU]
theorem GX (R:eE hp st r)(f:FF hp hp')(e3:bz.vs=st.vs)(e4:bz.ts=st.ts)(e5:bz.goal=st.goal)(e6:bz.shown=st.shown):eE hp' bz r :=
 ⟨e3.trans R.hv,e4.trans R.ht,e5.trans R.hg,e6.trans R.hs,λd h=>⟨(R.ha d h).1,f.at (R.ha d h).1 (R.ha d h).2⟩,R.dm,R.lv,R.lt⟩
theorem Ol:∀i<8,((bD (gf i)).all λx=>x.1.g.isEmpty)=true∧(gh i).g=[]:=by
 have h:∀i<8,((bD (gf i)).all λx=>x.1.g.isEmpty)=true∧(gh i).g.isEmpty=true:=by decide +kernel
 exact λi hi=>⟨(h i hi).1,List.isEmpty_iff.mp (h i hi).2⟩
theorem Om (i:Nat)(hi:i<8)(s s2:Nat)(t:Tok)(b:Nat)(l:TS)(e:dh s (bD (gf i))++[(gh i,s2)]=(t,b)::l):t.g=[]:=by
 refine bp (Ol i hi) λh1 h2=>?_;cases h:bD (gf i)with
 |nil=>rw[h]at e;cases e;exact h2
 |cons x r =>
  rw[h]at e h1;cases e
  exact List.isEmpty_iff.mp (List.all_eq_true.mp h1 x List.mem_cons_self)
theorem Yh (F:Fd hp st)(B:eG st b)(hb:b≤2700)(R:eE hp st r)(hN:20≤N):rh N k 499 hp st r:=by
 have l1:r.F.vs.length≤1000:=by rw[List.length_map];have:=R.lv;(apply aI<;>trivial)
 have l2:r.F.qs.length≤1000:=by rw[List.length_map];have:=R.lt;(apply aI<;>trivial)
 have l3:r.F.ts.length≤1000:=by rw[List.length_map];have:=R.lt;(apply aI<;>trivial)
 refine bC λnG=>?_;obtain⟨ay,cK,i,e1,hi,F1,f1,w1⟩:=j4 (N:=N) (k:=k+1) F B (by apply aI<;>trivial) 8 (by decide);have fW:ag N (k+3) (.fix (.ref 443)) [.ref 4,.int 8] hp=_:=e1;have B1:=w1.b _ B;refine ZP (JS i hi) λk0 _ _ ko kn ks=>?_;refine nG ?_;have cn:=lS ko (kq "") ay;rw[kn]at cn;by_cases h0:i=0
 ·refine bC λnG=>?_;obtain⟨aN,cu,s2,e2,f2,w2,F2⟩:=xh (N:=N) (k:=k) F1 B1 (by apply di<;>trivial) i hi (.str (gf i)) none;refine nG ?_;rw[fO]at e2;have w:=w1.trans w2;refine⟨aN,_,r,[(gh i,s2)],some s2,?_,⟨F2,f1.trans f2,?_,w.e1,?_,?_,w.lx,Nat.le_succ _,Nat.le_succ _,λ_ _ _ e=>by cases e;exact(Ol i hi).2,?_⟩⟩
  ·rw[wV];open_k with[sR,fW,GV i hi,cn,decide_eq_true h0,e2,aX,bV,aY,aL,aM,aU]
  ·exact λ_ _=>GX R (f1.trans f2) w.e3 w.e4 w.e5 w.e6
  ·show dZ cK.br (some s2)=_;rw[w1.e2]
  ·intro b hB;have:=w.b b hB;exact⟨Nat.le_trans this.p (by apply dA<;>trivial),this.c,this.t,this.o⟩
  ·intro b x more;subst h0;exact un0 s2 (.sign (af ";"),b) (x::more) r.F
 ·have kh:=k0.resolve_left h0;refine bC λnG=>?_;obtain⟨aN,cu,s,e2,F2,f2,w2⟩:=gu (N:=N) (k:=k) F1 B1 (by apply di<;>trivial) kh;refine nG ?_;have B2:=w2.b _ B1;have cs:=aE ko (kq "solve") aN;rw[ks]at cs;have g1:=eC F2.o4 .goal (v:=cu.goal) rfl;have i8:cu.goal=_:=w2.e5.trans (w1.e5.trans R.hg);by_cases h3:i=3∧r.g.isSome=true
  ·refine bp h3 λh3 hg=>?_;cases hr:r.g with
   |none=>rw[hr]at hg;cases hg
   |some d =>
    rw[hr]at i8;simp only at i8;rw[i8]at g1;refine bC λnG=>?_;obtain⟨bL,e3,F3,f3⟩:=zL (N:=N) (k:=k+2) F2 s;obtain⟨lh,oq,s2,e4,f4,w4,F4⟩:=xh (N:=N) (k:=k) F3 (B2.br _) (by apply jA<;>trivial) i hi (.str (gf i)) (some (.int s));refine nG ?_;rw[fO]at e4;refine⟨lh,_,r,dh s (bD (gf i))++[(gh i,s2)],some s,?_,⟨F4,((f1.trans f2).trans f3).trans f4,?_,w4.e1.trans (w2.e1.trans w1.e1),?_,?_,?_,Nat.le_succ _,Nat.le_succ _,Om i hi s s2,?_⟩⟩
    ·rw[wV];open_k with[sR,fW,GV i hi,cn,decide_eq_false h0,e2,cs,decide_eq_true h3,g1,Option.map_some,Option.map,e3,e4,aX,bV,aY,aL,aM,aU]
    ·exact λ_ _=>GX R (((f1.trans f2).trans f3).trans f4) (w4.e3.trans (w2.e3.trans w1.e3)) (w4.e4.trans (w2.e4.trans w1.e4)) (w4.e5.trans (w2.e5.trans w1.e5)) (w4.e6.trans (w2.e6.trans w1.e6))
    ·show dZ (dZ cu.br (some s)) (some s2)=_;rw[w2.e2,w1.e2];simp only[dZ];split<;>simp[*]<;>(apply zT<;>trivial)
    ·intro b hB;have:=w4.b _ ((w2.b _ (w1.b b hB)).br (dZ cu.br (some s)));exact⟨Nat.le_trans this.p (by apply dA<;>trivial),this.c,this.t,this.o⟩
    ·intro ts h;have:=w4.lx _ (w2.lx _ (w1.lx ts h))
     simpa using this
    ·intro b x more;subst h3;have e:bD (gf 3)=[(.word (af "solve"),0)]:=by decide +kernel
     rw[e];exact BF s b 0 none d.2.2 _ (by simp) r.F (by show(match r.g with|none=>(-1:Int)|some d=>d.2.2)=_;rw[hr])
  ·refine bC λnG=>?_;obtain⟨lh,oq,s2,e4,f4,w4,F4⟩:=xh (N:=N) (k:=k) F2 B2 (by apply jA<;>trivial) i hi (.str (gf i)) (some (.int s));refine nG ?_;rw[fO]at e4;have w:=(w1.trans w2).trans w4;refine⟨lh,_,r,dh s (bD (gf i))++[(gh i,s2)],some s2,?_,⟨F4,(f1.trans f2).trans f4,?_,w.e1,?_,?_,w.lx,Nat.le_succ _,Nat.le_succ _,Om i hi s s2,?_⟩⟩
   ·rw[wV];refine bC λnG=>?_;by_cases Wt:i=3
    ·refine nG ?_
     have IS:r.g=none:=by
      cases hr:r.g with
      |none=>rfl
      |some d=>exact absurd ⟨Wt,by rw[hr];rfl⟩ h3
     rw[IS]at i8;simp only at i8;rw[i8]at g1;open_k with[sR,fW,GV i hi,cn,decide_eq_false h0,e2,cs,decide_eq_true Wt,g1,Option.map_some,Option.map,e4,aX,bV,aY,aL,aM,aU]
    ·refine nG ?_;open_k with[sR,fW,GV i hi,cn,decide_eq_false h0,e2,cs,decide_eq_false Wt,e4,aX,bV,aY,aL,aM,aU]
   ·exact λ_ _=>GX R ((f1.trans f2).trans f4) w.e3 w.e4 w.e5 w.e6
   ·show dZ cu.br (some s2)=_;rw[w2.e2,w1.e2]
   ·intro b hB;have:=w.b b hB;exact⟨Nat.le_trans this.p (by apply dA<;>trivial),this.c,this.t,this.o⟩
   ·intro b x more
    have:=Ws i hi h0 s s2 (.sign (af ";"),b) (x::more) r.F l1 l2 l3 (λh=>by
     have IS:r.g=none:=by
      cases hr:r.g with
      |none=>rfl
      |some d=>exact absurd ⟨h,by rw[hr];rfl⟩ h3
     show(match r.g with|none=>(-1:Int)|some d=>d.2.2)=_;rw[IS])
    rw[List.append_assoc];exact this
end
section
variable {N k n L m:Nat}{hp hp':HP}{T:List Nat}
variable {st bz pR:FS}{i1 i2:TS}{c1 c2 b:Nat}{r:Rec}
theorem Row.le {U:List Nat}:∀{p:Nat} {a:TS} {q:Nat},Row N U p a q->p≤q:=by
 intro p a q
 induction a generalizing p with
 |nil=>exact Nat.le_of_eq
 |cons x a ih=>exact λh=>h.2.elim λq' h=>h.1.is.elim λ_ h0=>h0.elim λn h0=>h0.elim λl h0=>Nat.le_trans (h0.2.2.2.2.1▸h0.2.2.2.1▸Nat.le_trans (Nat.le_add_right p n) (Nat.le_add_right _ l)) (ih h.2)
theorem QY {u:List Nat}{n:Nat}(h:jg u .fin n):u=[]:=by cases h;rfl
theorem Row.GY {U:List Nat}:∀{p:Nat} {a:TS} {q:Nat},Row N U p a q->q<U.length->∀x∈a,(x.1.kind==af "end")=false:=by
 intro p a q
 induction a generalizing p with
 |nil=>exact λ_ _ x hx=>nomatch hx
 |cons tb a ih =>
  intro h hq x hx;refine aj h.2 λq' nx hr=>?_;refine(List.mem_cons.mp hx).elim (λe=>?_) (ih hr hq x);rw[e];obtain⟨t,b⟩:=tb
  ·cases t with
   |fin =>
    refine nx.is.elim λ_ h0=>h0.elim λn h0=>h0.elim λl h0=>absurd (List.drop_eq_nil_iff.mp (QY h0.2.2.2.2.2)) (Nat.not_le.mpr (Nat.lt_of_le_of_lt ?_ hq));exact Nat.le_trans (Nat.le_trans (Nat.le_add_right b l) (Nat.le_of_eq h0.2.2.2.2.1.symm)) (Row.le hr)
   |text l=>exact(nb "text" "end")
   |number i=>exact(nb "number" "end")
   |word l=>exact(nb "word" "end")
   |sign l=>exact(nb "sign" "end")
theorem Lx.GY {ts:TS}(h:Lx T ts):∀x∈ts,(x.1.kind==af "end")=false :=
 Row.GY (h 2 [10] (by decide) ⟨10,[],rfl,.inr (.inl rfl)⟩) (by simp)
def GZ (st:FS)(r:Rec)(ts:TS)(j:Nat):Prop:=(st.br=-1∧∀k x more,kG (j+k) (ts++x::more) F0=kG k (x::more) r.F)∨(∃s:Nat,st.br=(s:Int)∧∀k x more,kG (j+k) (ts++x::more) F0=some (.error (s:Int)))
structure BS (hp:HP)(st:FS)(r:Rec)(ts:TS)(j:Nat):Prop where
 F:Fd hp st
 R:eE hp st r
 lx:Lx st.T ts
 B:eG st (1+60*j)
 lv:r.vl.length≤j
 lt:r.tl.length≤j
 run:GZ st r ts j
 hd:∀t b l,ts=(t,b)::l->t.g=[]
theorem MK {ts its:TS}{r':Rec}{brk:Option Nat}{j b0:Nat}(h:GZ st r ts j)(hf:∀x∈its,(x.1.kind==af "end")=false)(Wu:bz.br=dZ st.br brk)
  (item:∀b x more,cR (its++(.sign (af ";"),b)::x::more) r.F=match brk with|none=>some (.ok (x::more,r'.F))|some s=>some (.error (s:Int))):GZ bz r' (ts++its++[(.sign (af ";"),b0)]) (j+1):=by
 have e0:∀x more,ts++its++[(Tok.sign (af ";"),b0)]++x::more=ts++(its++(Tok.sign (af ";"),b0)::x::more):=λx more=>by simp
 rcases h with⟨h1,h2⟩|⟨s,h1,h2⟩
 ·have hd:∀k x more,kG (j+1+k) (ts++(its++(Tok.sign (af ";"),b0)::x::more)) F0=ob (cR (its++(Tok.sign (af ";"),b0)::x::more) r.F) λx=>kG k x.1 x.2:=λk x more=>by
   obtain⟨⟨t,b⟩,l,e,ht⟩:∃y l,its++(Tok.sign (af ";"),b0)::x::more=y::l∧(y.1.kind==af "end")=false:=by
    cases its with
    |nil=>exact⟨_,_,rfl,nb "sign" "end"⟩
    |cons y l=>exact⟨y,_,rfl,hf y List.mem_cons_self⟩
   rw[e,show j+1+k=j+(k+1)by apply Nat.add_right_comm<;>trivial,h2];simp only[kG,ht,Bool.false_eq_true,if_false]
  refine bC λnG=>?_;cases brk with
  |none =>
   refine nG ?_;refine .inl ⟨by rw[Wu];exact h1,λk x more=>?_⟩;rw[e0,hd,item];rfl
  |some s =>
   refine nG ?_;refine .inr ⟨s,by rw[Wu,h1];rfl,λk x more=>?_⟩;rw[e0,hd,item];rfl
 ·refine .inr ⟨s,?_,λk x more=>?_⟩
  ·rw[Wu,h1];cases brk with
   |none=>rfl
   |some s' =>
    show(if(s:Int)<0 then(s':Int)else(s:Int))=s
    exact if_neg (by apply zT<;>trivial)
  ·obtain⟨y,l,e⟩:∃y l,its++(Tok.sign (af ";"),b0)::x::more=y::l:=by cases its<;>exact⟨_,_,rfl⟩
   rw[e0,e,show j+1+k=j+(1+k)by apply Nat.add_assoc<;>trivial,h2]
def I8 (c:Ca):Sx:=(bc (aS true [(ai (aa 3) [(.eq,(xC (.int 8)))]),(ai (xF c 443 [(aa 1),(xC (.int 3))]) [(.eq,(xC (.int 2)))])]) [(bo (xF c 499 [(aa 1)]))] [(bo (xF c 464 [(aa 1)]))])
def I7 (c:Ca):Sx:=(bc (aS true [(ai (aa 3) [(.eq,(xC (.int 7)))]),(aS false [(ai (bO (aa 1) .shown) [(.sZ,(xC .none))]),(ai (xF c 443 [(aa 1),(xC (.int 2))]) [(.eq,(xC (.int 1)))])])]) [(bo (xF c 492 [(aa 1)]))] [I8 c])
def I5 (c:Ca):Sx:=(bc (aS false [(ai (aa 3) [(.eq,(xC (.int 5)))]),(aS true [(ai (aa 3) [(.eq,(xC (.int 6)))]),(ai (bO (aa 1) .goal) [(.sZ,(xC .none))])])]) [(bo (xF c 485 [(aa 1)]))] [I7 c])
def I3 (c:Ca):Sx:=(bc (aS false [(ai (aa 3) [(.eq,(xC (.int 3)))]),(ai (aa 3) [(.eq,(xC (.int 4)))])]) [(bo (xF c 478 [(aa 1)]))] [I5 c])
def BH (c:Ca):List Sx:=[(aR 3 (xF c 443 [(aa 1),(xC (.int 9))])),I3 c,(bo (xF c 450 [(aa 1),(xS ";")]))]
def G0 (N k:Nat)(I:Ca->Sx)(hp:HP)(st:FS)(r:Rec)(c:Nat):Prop:=∀(d:Nat) (s l:Option V) (rest:Loc),zH (I (ag N (k+4)) (s::some (.ref 4)::l::some (.int d)::rest)) (.next,s::some (.ref 4)::l::some (.int d)::rest) st r hp c
theorem nv.pre {iM:HP}{lF:FS}{r':Rec}{its:TS}{brk:Option Nat}{c:Nat}(h:nv st r hp' bz r' its brk hp c)(f:FF iM hp)(w:W lF st [] 1):nv lF r hp' bz r' its brk iM (c+1) :=
 ⟨h.F,f.trans h.f,h.R,h.e1.trans w.e1,by rw[h.br,w.e2],λb hB=>by have:=h.b _ (w.b b hB);exact⟨Nat.le_trans this.p (by apply ZX<;>trivial),this.c,this.t,this.o⟩,λts hx=>by have:=h.lx _ (w.lx ts hx);rwa [List.append_nil]at this,h.lv,h.lt,h.hd,h.item⟩
theorem BI (F:Fd hp st)(B:eG st b)(hb:b≤3000)(many:Nat)(hm:0<many) :
  JA N (k+2) hp st many:=j4 (k:=k+2) F B hb many hm
theorem Oo (F:Fd hp st)(B:eG st b)(hb:b≤2600)(R:eE hp st r)(hN:20≤N):G0 N k I8 hp st r 21:=by
 intro d s l rest;cases e8:((d:Int)==8)with
 |false =>
  obtain⟨hp',bz,r',its,brk,e,H⟩:=JG (N:=N) (k:=k) F B (by apply aI<;>trivial) R hN;exact⟨hp',bz,r',its,brk,by open_k with[I8,e8,e,aX,bV,aY,aL,aM,aU],H.le (by decide)⟩
 |true =>
  refine bC λnG=>?_;obtain⟨ay,cK,d1,e1,_,F1,f1,w1⟩:=BI (N:=N) (k:=k) F B (by apply aI<;>trivial) 3 (by decide);have fW:ag N (k+4) (.fix (.ref 443)) [.ref 4,.int 3] hp=_:=e1;cases e2:((d1:Int)==2)with
  |true =>
   refine nG ?_;obtain⟨hp',bz,r',its,brk,e,H⟩:=Yh (N:=N) (k:=k) F1 (w1.b _ B) (by apply di<;>trivial) (R.w f1 w1) hN;exact⟨hp',bz,r',its,brk,by open_k with[I8,e8,fW,e2,e,aX,bV,aY,aL,aM,aU],H.pre f1 w1⟩
  |false =>
   refine nG ?_;obtain⟨hp',bz,r',its,brk,e,H⟩:=JG (N:=N) (k:=k) F1 (w1.b _ B) (by apply di<;>trivial) (R.w f1 w1) hN;exact⟨hp',bz,r',its,brk,by open_k with[I8,e8,fW,e2,e,aX,bV,aY,aL,aM,aU],H.pre f1 w1⟩
theorem Yi (F:Fd hp st)(B:eG st b)(hb:b≤2500)(R:eE hp st r)(hN:20≤N):G0 N k I7 hp st r 22:=by
 intro d s l rest;cases e7:((d:Int)==7)with
 |false =>
  obtain⟨hp',bz,r',its,brk,e,H⟩:=Oo (k:=k) F B (by apply aI<;>trivial) R hN d s l rest;exact⟨hp',bz,r',its,brk,by open_k with[I7,e7,e,aX,bV,aY,aL,aM,aU],H.le (by decide)⟩
 |true =>
  have g1:=eC F.o4 .shown (v:=st.shown) rfl;have gC:=R.hs;cases hr:r.sh with
  |none =>
   rw[hr]at gC;simp only at gC;rw[gC]at g1;refine bC λnG=>?_;obtain⟨hp',bz,r',its,brk,e,H⟩:=JR (N:=N) (k:=k) F B (by apply aI<;>trivial) R hN;refine nG ?_;exact⟨hp',bz,r',its,brk,by open_k with[I7,e7,g1,e,aX,bV,aY,aL,aM,aU],H.le (by decide)⟩
  |some q =>
   rw[hr]at gC;simp only at gC;rw[gC]at g1;refine bC λnG=>?_;obtain⟨ay,cK,d1,e1,_,F1,f1,w1⟩:=BI (N:=N) (k:=k) F B (by apply aI<;>trivial) 2 (by decide);refine nG ?_;have fW:ag N (k+4) (.fix (.ref 443)) [.ref 4,.int 2] hp=_:=e1;cases e2:((d1:Int)==1)with
   |true =>
    obtain⟨hp',bz,r',its,brk,e,H⟩:=JR (N:=N) (k:=k) F1 (w1.b _ B) (by apply di<;>trivial) (R.w f1 w1) hN;exact⟨hp',bz,r',its,brk,by open_k with[I7,e7,g1,fW,e2,e,aX,bV,aY,aL,aM,aU],(H.pre f1 w1).le (by decide)⟩
   |false =>
    obtain⟨hp',bz,r',its,brk,e,H⟩:=Oo (k:=k) F1 (w1.b _ B) (by apply di<;>trivial) (R.w f1 w1) hN d s l rest;exact⟨hp',bz,r',its,brk,by open_k with[I7,e7,g1,fW,e2,e,aX,bV,aY,aL,aM,aU],H.pre f1 w1⟩
theorem Yj (F:Fd hp st)(B:eG st b)(hb:b≤2500)(R:eE hp st r)(hN:20≤N):G0 N k I5 hp st r 22:=by
 intro d s l rest;obtain⟨hp',bz,r',its,brk,e,H⟩:=QW (N:=N) (k:=k) F B (by apply aI<;>trivial) R hN;obtain⟨aN,cu,r2,jd,G1,e',H2⟩:=Yi (k:=k) F B (by assumption) R hN d s l rest;cases e5:((d:Int)==5)with
 |true=>exact⟨hp',bz,r',its,brk,by open_k with[I5,e5,e,aX,bV,aY,aL,aM,aU],H.le (by decide)⟩
 |false =>
  cases e6:((d:Int)==6)with
  |false=>exact⟨aN,cu,r2,jd,G1,by open_k with[I5,e5,e6,e',aX,bV,aY,aL,aM,aU],H2⟩
  |true =>
   have g1:=eC F.o4 .goal (v:=st.goal) rfl;have gC:=R.hg;cases hr:r.g with
   |none =>
    rw[hr]at gC;simp only at gC;rw[gC]at g1;exact⟨hp',bz,r',its,brk,by open_k with[I5,e5,e6,g1,e,aX,bV,aY,aL,aM,aU],H.le (by decide)⟩
   |some q =>
    rw[hr]at gC;simp only at gC;rw[gC]at g1;exact⟨aN,cu,r2,jd,G1,by open_k with[I5,e5,e6,g1,e',aX,bV,aY,aL,aM,aU],H2⟩
theorem Yk (F:Fd hp st)(B:eG st b)(hb:b≤2500)(R:eE hp st r)(hN:20≤N):G0 N k I3 hp st r 22:=by
 intro d s l rest;obtain⟨hp',bz,r',its,brk,e,H⟩:=Wm (N:=N) (k:=k) F B (by apply aI<;>trivial) R hN;obtain⟨aN,cu,r2,jd,G1,e',H2⟩:=Yj (k:=k) F B (by assumption) R hN d s l rest;cases e3:((d:Int)==3)with
 |true=>exact⟨hp',bz,r',its,brk,by open_k with[I3,e3,e,aX,bV,aY,aL,aM,aU],H.le (by decide)⟩
 |false =>
  cases e4:((d:Int)==4)with
  |false=>exact⟨aN,cu,r2,jd,G1,by open_k with[I3,e3,e4,e',aX,bV,aY,aL,aM,aU],H2⟩
  |true=>exact⟨hp',bz,r',its,brk,by open_k with[I3,e3,e4,e,aX,bV,aY,aL,aM,aU],H.le (by decide)⟩
inductive Wv (N k:Nat)(hp:HP)(j:Nat)(s l w:Option V)(rest:Loc):Prop
 |mk (hp':HP) (bz:FS) (r':Rec) (iu:TS) (w':Option V) (h1:aF (BH (ag N (k+4))) (s::some (.ref 4)::l::w::rest) hp=.ok (.next,s::some (.ref 4)::l::w'::rest) hp') (h2:BS hp' bz r' iu (j+1))
theorem Yl {ts:TS}{j:Nat}(I:BS hp st r ts j)(hj:j≤30)(hN:20≤N)(s l w:Option V)(rest:Loc):Wv N k hp j s l w rest:=by
 refine bC λnG=>?_;obtain⟨ay,cK,d,e1,_,F1,f1,w1⟩:=BI (N:=N) (k:=k) I.F I.B (by apply ml1<;>trivial) 9 (by decide);have fW:ag N (k+4) (.fix (.ref 443)) [.ref 4,.int 9] hp=_:=e1;obtain⟨aN,cu,r2,its,brk,e2,H⟩:=Yk (k:=k) F1 (w1.b _ I.B) (by apply Ys<;>trivial) (I.R.w f1 w1) hN d s l rest;have H:=H.pre f1 w1;have B2:=H.b _ I.B;refine ZQ rg λ_ _ _ _ _ k1 k2=>?_;obtain⟨bL,jn,b0,e3,F3,f3,w3⟩:=gu (N:=N) (k:=k+1) H.F B2 (by apply Ys<;>trivial) k1;refine nG ?_;rw[i7 k2]at w3;have lx:=w3.lx _ (H.lx _ I.lx);have lvv:=H.lv;have ltt:=H.lt;have i1:=I.lv;have i2:=I.lt;refine⟨bL,jn,r2,ts++its++[(.sign (af ";"),b0)],some (.int d),?_,F3,(H.R (by lia) (by lia)).w f3 w3,lx,?_,by apply Rw<;>trivial,by apply Rw<;>trivial,?_,?_⟩
 ·open_k with[BH,fW,e2,e3,aX,bV,aY,aL,aM,aU]
 ·have:=w3.b _ B2;exact⟨Nat.le_trans this.p (by lia),this.c,this.t,this.o⟩
 ·exact MK I.run (λx hx=>(H.lx _ I.lx).GY x (List.mem_append_right _ hx)) (by rw[w3.e2];exact H.br) H.item
 ·have hI:=I.hd;have hH:=H.hd;intro t b l e;cases ts with
  |cons y ts=>cases e;exact hI _ _ _ rfl
  |nil =>
   cases its with
   |cons y its=>cases e;exact hH _ _ _ rfl
   |nil=>cases e;rfl
theorem Ww (hN:20≤N)(s:Option V)(rest:Loc):∀(q M j:Nat) (vs:List V) {hp:HP} {st:FS} {r:Rec} {ts:TS} (l w:Option V),BS hp st r ts j->vs.length=q->j+q≤30->q<M ->
  ∃hp' bz r' iu l' w',cJ (.one 2) (aF (BH (ag N (k+4)))) M (.vals vs) (s::some (.ref 4)::l::w::rest) hp=.ok (.next,s::some (.ref 4)::l'::w'::rest) hp'∧BS hp' bz r' iu (j+q):=by
 intro q
 induction q with
 |zero =>
  intro M j vs hp st r ts l w I hv _ hM;cases M with
  |zero=>(apply Eb<;>trivial)
  |succ M=>exact⟨hp,st,r,ts,l,w,by rw[List.length_eq_zero_iff.mp hv,jx],I⟩
 |succ q ih =>
  intro M j vs hp st r ts l w I hv hj hM;cases M with
  |zero=>lia
  |succ M =>
  cases vs with
  |nil=>simp at hv
  |cons v vs =>
  refine bC λnG=>?_;obtain⟨ay,cK,r1,mV,w1,e1,I1⟩:=Yl (k:=k) I (by apply ma<;>trivial) hN s (some v) w rest;refine Ro (ih M (j+1) vs (some v) w1 I1 (by simpa using hv) (by apply MU<;>trivial) (by apply D9<;>trivial)) λaN cu r2 qZ l2 w2 e2 I2=>?_;refine nG ?_;refine⟨aN,cu,r2,qZ,l2,w2,?_,by rw[show j+(q+1)=j+1+q by lia];exact I2⟩;rw[lP,lQ];open_k with[e1,e2,aX,bV,aY,aL,aM,aU]
end
section
variable {N k n L m:Nat}{hp hp':HP}{T:List Nat}
def Gd (n:Nat)(v:V):Prop:=∃d,hO v=some d∧d.canLay0=true∧d.depth≤n∧PyData.eqv d d=true
def ot (n:Nat)(vs:List V):Prop:=∃ds,fQ vs=some ds∧PyData.canLayAll0 ds=true∧PyData.depthAll ds≤n∧PyData.eqvAll ds ds=true
theorem ju:∀{vs:List V},(∀v∈vs,Gd n v)->ot n vs
 |[],_=>⟨[],by simp only[fQ],by simp only[PyData.canLayAll0],by simp[PyData.depthAll],by simp only[PyData.eqvAll]⟩
 |v::vs,h=>by
  refine bC λnG=>?_;refine fj (h v List.mem_cons_self) λd h1 h2 h3 h4=>?_;refine fj (ju λv hv=>h v (List.mem_cons_of_mem _ hv)) λds g1 g2 g3 g4=>?_;refine nG ?_;exact⟨d::ds,by simp only[fQ,h1,g1],by simp only[PyData.canLayAll0,h2,g2,Bool.and_self],by simp only[PyData.depthAll];(apply Z0<;>first|assumption|exact rfl),by simp only[PyData.eqvAll,h4,g4,Bool.and_self]⟩
theorem bY {vs:List V}(h:∀v∈vs,Gd n v):Gd (n+1) (.tup vs):=by
 refine bC λnG=>?_;refine fj (ju h) λds g1 g2 g3 g4=>?_;refine nG ?_;exact⟨.tuple ds,by simp only[hO,g1,Option.map_some],by simp only[PyData.canLay0,g2],by simp only[PyData.depth];(apply Z1<;>first|assumption|exact rfl),by simp only[PyData.eqv,g4]⟩
theorem ck (i:Int):Gd n (.int i):=⟨.int i,by simp only[hO],by simp only[PyData.canLay0],by simp[PyData.depth],by simp[PyData.eqv]⟩
theorem D6:Gd n .none:=⟨.none,by simp only[hO],by simp only[PyData.canLay0],by simp[PyData.depth],by simp[PyData.eqv]⟩
theorem BJ {l:List Nat}(h:aT l=true):Gd n (.str l) :=
 ⟨.str (S l),by simp only[hO],by simp only[PyData.canLay0];unfold PyData.strOk aT at *;simpa [S]using h,by simp[PyData.depth],by simp[PyData.eqv]⟩
theorem Oq (q:Int×Int):Gd 1 (pv q):=bY (n:=0) λv hv=>by
 simp at hv;rcases hv with rfl|rfl<;>exact ck _
theorem G2 {v:V}{n':Nat}(h:Gd n v)(hn:n≤n'):Gd n' v:=by
 refine fj h λd h1 h2 h3 h4=>?_;exact⟨d,h1,h2,by apply Nat.le_trans<;>first|assumption|exact rfl,h4⟩
theorem BK {ds:List PyData}(h:PyData.canLayAll0 ds=true)(hd:PyData.depthAll ds≤20):shaped (.list ds)=true:=by
 have e:PyData.depth (.list ds)=PyData.depthAll ds+1:=by simp[PyData.depth,Nat.add_comm]
 simp only[SeqAt.shaped,PyData.canLay0,h,e,Bool.true_and,decide_eq_true_eq]
 (apply di<;>first|assumption|exact rfl)
theorem JV {a b:Nat}{l:List V}(h1:hp[a]?=some (.list l))(h2:hp[b]?=some (.list []))(g:ot 20 l):tG hp (.ref a) (.ref b)=some l.isEmpty:=by
 refine fj g λds g1 g2 g3 g4=>?_;have e2:shaped (.list [])=true:=BK (by simp only[PyData.canLayAll0]) (by simp[PyData.depthAll])
 have e3:PyData.eqv (.list ds) (.list [])=l.isEmpty:=by
  cases l with
  |nil=>simp only[fQ]at g1;cases g1;simp[PyData.eqv,PyData.eqvAll]
  |cons v vs =>
   cases ds with
   |nil=>simp only[fQ]at g1;split at g1<;>cases g1
   |cons d ds=>simp[PyData.eqv,PyData.eqvAll]
 exact Dx ((cA (de h1)).trans (cA g1)) ((cA (de h2)).trans (cA (by unfold fQ;rfl))) (BK g2 g3) e2 e3
theorem wg {a b:Nat}{l:List V}(h1:hp[a]?=some (.list l))(h2:hp[b]?=some (.list []))(g:ot 20 l):dB .ne (.ref a) (.ref b) hp=some (!l.isEmpty):=by
 simp only[dB,JV h1 h2 g,Option.map_some]
theorem QZ {a b:Nat}{l:List V}(h1:hp[a]?=some (.list l))(h2:hp[b]?=some (.list []))(g:ot 20 l):dB .eq (.ref a) (.ref b) hp=some l.isEmpty:=by
 simp only[dB,JV h1 h2 g]
theorem sS (l:List Int):ot 20 (l.map V.int):=ju λv hv=>by
 refine aj (List.mem_map.mp hv) λi _ bH=>?_;subst bH;exact ck i
theorem Wx (l:List (Int×Int)):ot 20 (l.map pv):=ju λv hv=>by
 refine aj (List.mem_map.mp hv) λi _ bH=>?_;subst bH;exact G2 (Oq i) (by decide)
def iP (vl:List VD)(w:Nat)(x y:Int):Bool:=dG w x y vl.length&&(cZ w x y).all λi=>du (cw vl i)
def iQ (hp:HP)(a:Nat)(vl:List VD):Prop:=hp[a]?=some (.list (vl.map λd=>.tup (d.2.map pv)))
theorem ML {a:Nat}{vl:List VD}(h:iQ hp a vl)(hl:vl.length≤1000){i:Int}(hi:inR vl.length i=true):bh hp (.ref a) (.int i)=some (.tup ((cw vl i).map pv)):=by
 simp only[inR,Bool.and_eq_true,decide_eq_true_eq]at hi;refine aQ (Int.eq_ofNat_of_zero_le hi.1) λj aC=>?_;subst aC;have hj:j<vl.length:=by apply Ea<;>first|assumption|exact rfl
 refine sQ h ?_ (by apply MT<;>first|assumption|exact rfl);rw[List.getElem?_map,List.getElem?_eq_getElem hj];simp only[cw,Int.toNat_natCast,List.getElem?_eq_getElem hj,Option.map_some]
theorem BM {c:Ca}{a:Nat}{vl:List VD}(hc:c=ag N (k+1))(h:iQ hp a vl)(hl:vl.length≤1000)(l:List Int)(hN:l.length<N)(pZ:l.length≤1000){i:Ix}{it:It}{loc:Loc}(ei:i loc hp=.ok it hp)(hi:jh hp it (l.map .int))(j:Nat)(hj:loc[j]?=some (some (.ref a))) :
  pL (cq N i [none,none,some j] (.one 1) (aS true [(cW (ai (xC (.int 0)) [(.le,(aa 1)),(.lt,(aD c (xC (bi "len")) [(aa 2)]))]))]) (aa 1) loc) ((l.filter λi=>!inR vl.length i).map .int) hp:=by
 let p:V->Bool:=λv=>match v with|.int i=>!inR vl.length i|_=>false
 subst hc
 obtain⟨ay,e1,x1⟩:=mF (N:=N) (hp:=hp) (i:=i) (mp:=[none,none,some j]) (tg:=.one 1) (ifs:=aS true [(cW (ai (xC (.int 0)) [(.le,(aa 1)),(.lt,(aD (ag N (k+1)) (xC (bi "len")) [(aa 2)]))]))]) (elt:=aa 1) (loc:=loc) (λloc=>∃y,loc=[none,y,some (.ref a)]) p (λv=>v) (l:=l.map .int) (it:=it) ei hi ⟨none,by simp only[kM,List.map_cons,List.map_nil,hj];rfl⟩ (by simpa using hN) (by simpa using pZ) (by
  rintro v hv loc ay ⟨y,rfl⟩ xx;refine aj (List.mem_map.mp hv) λi _ bH=>?_;subst bH;have h1:iQ ay a vl:=xx.at h;have ll:=len_list (N:=N) (k:=k) h1 (by rw[List.length_map];(apply aI<;>first|assumption|exact rfl));rw[List.length_map]at ll;refine⟨_,ay,rfl,⟨_,rfl⟩,?_,Ext.refl,λ_=>⟨ay,rfl,Ext.refl⟩⟩;cases h0:decide (0≤i)<;>cases h2:decide (i<(vl.length:Int))<;>open_k with[h0,h2,ll,p,inR,Bool.and_true,Bool.and_false,Bool.and_self])
 refine⟨ay,?_,x1⟩;rw[e1];congr 3;rw[List.filter_map];simp only[List.map_map];rfl
noncomputable def pT (q:Int×Int):Bool:=decide (q.1<0)||decide (1<q.2)
theorem JT (l:List (Int×Int)):(l.filter pT).isEmpty=du l:=by
 induction l with
 |nil=>rfl
 |cons q l ih =>
  have:pT q=!(decide (0≤q.1)&&decide (q.2≤1)):=by
   simp only[pT,Bool.not_and,<- decide_not,Int.not_le]
  simp only[du,List.all_cons,List.filter_cons,this]at ih ⊢;cases h:(decide (0≤q.1)&&decide (q.2≤1))with
  |true=>simpa [h]using ih
  |false=>simp[h]
def Ot (N:Nat):Ex:=cq N (cx (aq (aa 2) (aa 1))) [none,none] (.one 1) (aS true [(aS false [(ai (aq (aa 1) (xC (.int 0))) [(.lt,(xC (.int 0)))]),(ai (aq (aa 1) (xC (.int 1))) [(.gt,(xC (.int 1)))])])]) (aa 1)
theorem aa9 (q:Int×Int):bh hp (pv q) (.int 0)=some (.int q.1):=bF (i:=0) rfl
theorem aba (q:Int×Int):bh hp (pv q) (.int 1)=some (.int q.2):=bF (i:=1) rfl
theorem Q1 {a:Nat}{vl:List VD}{i:Int}(h:iQ hp a vl)(hl:vl.length≤1000)(hi:inR vl.length i=true)(hd:(cw vl i).length≤10)(hN:20≤N)(x:Option V) :
  pL (Ot N [x,some (.int i),some (.ref a)]) (((cw vl i).filter pT).map pv) hp:=by
 let p:V->Bool:=λv=>match v with|.tup [.int a,.int b]=>pT (a,b)|_=>false
 obtain⟨ay,e1,x1⟩:=mF (N:=N) (hp:=hp) (i:=cx (aq (aa 2) (aa 1))) (mp:=[none,none]) (tg:=.one 1) (ifs:=(aS true [(aS false [(ai (aq (aa 1) (xC (.int 0))) [(.lt,(xC (.int 0)))]),(ai (aq (aa 1) (xC (.int 1))) [(.gt,(xC (.int 1)))])])])) (elt:=aa 1) (loc:=[x,some (.int i),some (.ref a)]) (λloc=>∃y,loc=[none,y]) p (λv=>v) (l:=(cw vl i).map pv) (it:=.vals ((cw vl i).map pv)) (by
   open_k with[gU,ML h hl hi,jf,mH,n7]) (.vals _) ⟨none,rfl⟩ (by rw[List.length_map];(apply ij<;>trivial)) (by rw[List.length_map];(apply aI<;>trivial)) (by
  rintro v hv loc ay ⟨y,rfl⟩ xx;refine aj (List.mem_map.mp hv) λq _ bH=>?_;subst bH;refine⟨_,ay,rfl,⟨_,rfl⟩,?_,Ext.refl,λ_=>⟨ay,rfl,Ext.refl⟩⟩;have hp:p (pv q)=(decide (q.1<0)||decide (1<q.2)):=rfl;cases h0:decide (q.1<0)<;>cases h2:decide (1<q.2)<;>open_k with[aa9,aba,h0,h2,hp,Bool.or_true,Bool.or_false,Bool.or_self,show decide (q.2>1)=decide (1<q.2)from rfl])
 refine⟨ay,?_,x1⟩;rw[Ot,e1];congr 3;rw[List.filter_map];simp only[List.map_map];rfl
def MM (N:Nat):Ex:=cq N (cx (aa 3)) [none,none,some 1] (.one 1) (aS true [(ai (Ot N) [(.ne,(cp []))])]) (aa 1)
theorem G3 {a:Nat}{vl:List VD}{l:List Int}(h:iQ hp a vl)(hl:vl.length≤1000)(hd:∀d∈vl,d.2.length≤10)(hi:l.all (inR vl.length)=true)(pZ:l.length≤10)(hN:20≤N)(x y:Option V) :
  pL (MM N [x,some (.ref a),y,some (.tup (l.map .int))]) ((l.filter λi=>!du (cw vl i)).map .int) hp:=by
 let p:V->Bool:=λv=>match v with|.int i=>!du (cw vl i)|_=>false
 obtain⟨ay,e1,x1⟩:=mF (N:=N) (hp:=hp) (i:=cx (aa 3)) (mp:=[none,none,some 1]) (tg:=.one 1) (ifs:=(aS true [(ai (Ot N) [(.ne,(cp []))])])) (elt:=aa 1) (loc:=[x,some (.ref a),y,some (.tup (l.map .int))]) (λloc=>∃y,loc=[none,y,some (.ref a)]) p (λv=>v) (l:=l.map .int) (it:=.vals (l.map .int)) (by
   open_k with[gU,jf,mH,n7]) (.vals _) ⟨none,rfl⟩ (by rw[List.length_map];(apply ij<;>trivial)) (by rw[List.length_map];(apply aI<;>trivial)) (by
  rintro v hv loc ay ⟨y,rfl⟩ xx;refine aj (List.mem_map.mp hv) λi him bH=>?_;subst bH;have lD:=List.all_eq_true.mp hi i him
  have hdi:(cw vl i).length≤10:=by
   simp only[cw];cases hv:vl[i.toNat]? with
   |none=>simp only[hv];decide
   |some d=>exact hd d (List.mem_of_getElem? hv)
  obtain⟨aN,e2,x2⟩:=Q1 (N:=N) (xx.at h) hl lD hdi hN none;refine⟨_,aN++[.list (((cw vl i).filter pT).map pv)]++[.list []],rfl,⟨_,rfl⟩,?_,(x2.trans (Ext.new _)).trans (Ext.new _),λ_=>⟨_,rfl,Ext.refl⟩⟩;have g1:=wg (hp:=aN++[.list (((cw vl i).filter pT).map pv)]++[.list []]) (a:=aN.length) (b:=(aN++[O.list (((cw vl i).filter pT).map pv)]).length) (l:=((cw vl i).filter pT).map pv) ((Ext.new _).at (bK _ _)) (bK _ _) (Wx _);rw[List.isEmpty_map,JT]at g1;have iM:p (V.int i)=!du (cw vl i):=rfl;open_k with[e2,g1,iM];cases du (cw vl i)<;>rfl)
 refine⟨ay,?_,x1⟩;rw[MM,e1];congr 3;rw[List.filter_map];simp only[List.map_map];rfl
def Wy (c:Ca)(N:Nat):Ex:=cq N (cx (aa 3)) [none,none,some 1] (.one 1) (aS true [(cW (ai (xC (.int 0)) [(.le,(aa 1)),(.lt,(aD c (xC (bi "len")) [(aa 2)]))]))]) (aa 1)
def kR (c:Ca)(N:Nat):List Sx:=[(bc (ai (Wy c N) [(.ne,(cp []))]) [(aW (xC (.bool false)))] []),
 (bc (ai (aa 2) [(.gj,(ao [(xS "clause"),(xS "xor")]))]) [(aW (xC (.bool true)))] []),
 (aW (xB (ai (MM N) [(.eq,(cp []))])))]
theorem pW {α:Type}(p:α->Bool)(l:List α):(l.filter λi=>!p i).isEmpty=l.all p:=by
 induction l with
 |nil=>rfl
 |cons a l ih=>cases h:p a<;>simp[h,ih]
theorem j5 {c:Ca}{a:Nat}{vl:List VD}{l:List Int}{nm:List Nat}{tr:Bool}(hc:c=ag N (k+1))(h:iQ hp a vl)(hl:vl.length≤1000)(hd:∀d∈vl,d.2.length≤10)(pZ:l.length≤10)(hN:20≤N)(hn:aT nm=true)(ht:(af "clause"==nm||af "xor"==nm)=tr)(x:Option V) :
  mE (bj (aF (kR c N)) [x,some (.ref a),some (.str nm),some (.tup (l.map .int))]) (.bool (l.all (inR vl.length)&&(!tr||l.all λi=>du (cw vl i)))) hp:=by
 obtain⟨ay,e1,x1⟩:=BM (N:=N) (k:=k) hc h hl l (by apply ij<;>trivial) (by apply aI<;>trivial) (i:=cx (aa 3)) (it:=.vals (l.map .int)) (loc:=[x,some (.ref a),some (.str nm),some (.tup (l.map .int))]) rfl (.vals _) 1 rfl;have g1:=wg (hp:=ay++[.list ((l.filter λi=>!inR vl.length i).map .int)]++[.list []]) (a:=ay.length) (b:=(ay++[O.list ((l.filter λi=>!inR vl.length i).map .int)]).length) ((Ext.new _).at (bK _ _)) (bK _ _) (sS _);rw[List.isEmpty_map,pW]at g1;have fW:Wy c N [x,some (.ref a),some (.str nm),some (.tup (l.map .int))] hp=.ok (.ref ay.length) (ay++[.list ((l.filter λi=>!inR vl.length i).map .int)]):=e1;have x2:Ext hp (ay++[.list ((l.filter λi=>!inR vl.length i).map .int)]++[.list []]):=(x1.trans (Ext.new _)).trans (Ext.new _);cases ha:l.all (inR vl.length)with
 |false =>
  rw[ha]at g1;exact⟨_,by open_k with[kR,fW,g1,Bool.false_and],x2⟩
 |true =>
  rw[ha]at g1;have i2:=j0 (hp:=ay++[.list ((l.filter λi=>!inR vl.length i).map .int)]++[.list []]) (a:=af "clause") (b:=af "xor") (x:=nm) (by decide) (by decide) hn;rw[ht]at i2;cases tr with
  |false=>exact⟨_,by open_k with[kR,fW,g1,i2,Bool.true_and,Bool.true_or],x2⟩
  |true =>
   obtain⟨bL,e3,x3⟩:=G3 (N:=N) (x2.at h) hl hd ha pZ hN x (some (.str nm));have g2:=QZ (hp:=bL++[.list ((l.filter λi=>!du (cw vl i)).map .int)]++[.list []]) (a:=bL.length) (b:=(bL++[O.list ((l.filter λi=>!du (cw vl i)).map .int)]).length) ((Ext.new _).at (bK _ _)) (bK _ _) (sS _);rw[List.isEmpty_map,pW]at g2;exact⟨bL++[.list ((l.filter λi=>!du (cw vl i)).map .int)]++[.list []],by open_k with[kR,fW,g1,i2,e3,g2,Bool.true_and,Bool.false_or],x2.trans ((x3.trans (Ext.new _)).trans (Ext.new _))⟩
theorem kJ (c:Ca)(N:Nat):Vo c N=(aR 2 (aq (aa 0) (xC (.int 0))))::(bc (aS false [(ai (aa 2) [(.eq,(xS "max"))]),(ai (aa 2) [(.eq,(xS "linear_ne"))])]) [(aW (xC (.bool false)))] [])::(aR 3 (ik (ai (aa 2) [(.eq,(xS "linear_le"))]) (aq (aa 0) (xC (.int 2))) (ik (ai (aa 2) [(.jM,(ao [(xS "all_different"),(xS "disjunctive")]))]) (aq (aa 0) (xC (.int 1))) (cV (aa 0) (xC (.int 1)) (xC .none)))))::(bc (ai (aa 2) [(.eq,(xS "clause"))]) [(aR 3 (bw .Add (aq (aa 0) (xC (.int 1))) (aq (aa 0) (xC (.int 2)))))] [])::kR c N:=rfl
theorem BN {nm:List Nat}(vs:List V)(ok:aT nm=true)(h:(nm==af "max")=true∨(nm==af "max")=false∧(nm==af "linear_ne")=true)(a:V) :
  ag N (k+1) (.fix (.ref 504)) [.tup (.str nm::vs),a] hp=.ok (.bool false) hp:=by
 have e0:bh hp (.tup (.str nm::vs)) (.int 0)=some (.str nm):=bF (i:=0) rfl;rw[lX];refine bC λnG=>?_;rcases h with h|⟨h,h'⟩
 ·refine nG ?_;open_k with[kJ,e0,aE ok (kq "max"),h]
 ·refine nG ?_;open_k with[kJ,e0,aE ok (kq "max"),h,aE ok (kq "linear_ne"),h']
theorem Q2 (x y:Int)(a:V):ag N (k+1) (.fix (.ref 504)) [bl 0 x y,a] hp=bj (aF (kR (ag N k) N)) [some (bl 0 x y),some a,some (.str (af "linear_le")),some (.tup ([x,y].map .int))] hp:=by
 have e0:bh hp (bl 0 x y) (.int 0)=some (.str (af "linear_le")):=bF (i:=0) rfl;have e2:bh hp (bl 0 x y) (.int 2)=some (.tup ([x,y].map .int)):=bF (i:=2) rfl;rw[lX];open_k with[kJ,e0,e2,aE (kq "linear_le") (kq "max"),nb "linear_le" "max",aE (kq "linear_le") (kq "linear_ne"),nb "linear_le" "linear_ne",aE (kq "linear_le") (kq "clause"),nb "linear_le" "clause",aE (kq "linear_le") (kq "linear_le"),yb "linear_le" "linear_le"]
theorem Q3 (x y:Int)(a:V):ag N (k+1) (.fix (.ref 504)) [bl 1 x y,a] hp=bj (aF (kR (ag N k) N)) [some (bl 1 x y),some a,some (.str (af "all_different")),some (.tup ([x,y].map .int))] hp:=by
 have e0:bh hp (bl 1 x y) (.int 0)=some (.str (af "all_different")):=bF (i:=0) rfl;have e1:bh hp (bl 1 x y) (.int 1)=some (.tup ([x,y].map .int)):=bF (i:=1) rfl;have i1:=j0 (hp:=hp) (a:=af "all_different") (b:=af "disjunctive") (x:=af "all_different") (by decide) (by decide) (by decide);rw[show(af "all_different"==af "all_different"||af "disjunctive"==af "all_different")=true by decide]at i1;rw[lX];open_k with[kJ,e0,e1,i1,aE (kq "all_different") (kq "max"),nb "all_different" "max",aE (kq "all_different") (kq "linear_ne"),nb "all_different" "linear_ne",aE (kq "all_different") (kq "clause"),nb "all_different" "clause",aE (kq "all_different") (kq "linear_le"),nb "all_different" "linear_le"]
theorem Q4 (x y:Int)(a:V):ag N (k+1) (.fix (.ref 504)) [bl 4 x y,a] hp=bj (aF (kR (ag N k) N)) [some (bl 4 x y),some a,some (.str (af "disjunctive")),some (.tup ([x,y].map .int))] hp:=by
 have e0:bh hp (bl 4 x y) (.int 0)=some (.str (af "disjunctive")):=bF (i:=0) rfl;have e1:bh hp (bl 4 x y) (.int 1)=some (.tup ([x,y].map .int)):=bF (i:=1) rfl;have i1:=j0 (hp:=hp) (a:=af "all_different") (b:=af "disjunctive") (x:=af "disjunctive") (by decide) (by decide) (by decide);rw[show(af "all_different"==af "disjunctive"||af "disjunctive"==af "disjunctive")=true by decide]at i1;rw[lX];open_k with[kJ,e0,e1,i1,aE (kq "disjunctive") (kq "max"),nb "disjunctive" "max",aE (kq "disjunctive") (kq "linear_ne"),nb "disjunctive" "linear_ne",aE (kq "disjunctive") (kq "clause"),nb "disjunctive" "clause",aE (kq "disjunctive") (kq "linear_le"),nb "disjunctive" "linear_le"]
theorem Q5 (x y:Int)(a:V):ag N (k+1) (.fix (.ref 504)) [bl 2 x y,a] hp=bj (aF (kR (ag N k) N)) [some (bl 2 x y),some a,some (.str (af "clause")),some (.tup ([x,y].map .int))] hp:=by
 have e0:bh hp (bl 2 x y) (.int 0)=some (.str (af "clause")):=bF (i:=0) rfl;have e1:bh hp (bl 2 x y) (.int 1)=some (.tup [.int x]):=bF (i:=1) rfl;have e2:bh hp (bl 2 x y) (.int 2)=some (.tup [.int y]):=bF (i:=2) rfl;have e3:gZ hp (bl 2 x y) (some 1) none=.ok (.tup [.tup [.int x],.tup [.int y]]) hp:=lY [.str (af "clause"),.tup [.int x],.tup [.int y]] (some 1) none (by show 3≤1000;decide) (by show 2<3;decide);have i1:=j0 (hp:=hp) (a:=af "all_different") (b:=af "disjunctive") (x:=af "clause") (by decide) (by decide) (by decide);rw[show(af "all_different"==af "clause"||af "disjunctive"==af "clause")=false by decide]at i1;rw[lX];open_k with[kJ,e0,e1,e2,e3,i1,aE (kq "clause") (kq "max"),nb "clause" "max",aE (kq "clause") (kq "linear_ne"),nb "clause" "linear_ne",aE (kq "clause") (kq "linear_le"),nb "clause" "linear_le",aE (kq "clause") (kq "clause"),yb "clause" "clause",show ia (.int 1)=some (some 1)from rfl,bX,Jp [V.int x] [.int y] (by show 2≤100000;decide),List.map_cons,List.map_nil,List.cons_append,List.nil_append]
theorem Q6 (x y:Int)(a:V):ag N (k+1) (.fix (.ref 504)) [bl 3 x y,a] hp=bj (aF (kR (ag N k) N)) [some (bl 3 x y),some a,some (.str (af "xor")),some (.tup ([x,y,x].map .int))] hp:=by
 have e0:bh hp (bl 3 x y) (.int 0)=some (.str (af "xor")):=bF (i:=0) rfl;have e3:gZ hp (bl 3 x y) (some 1) none=.ok (.tup ([x,y,x].map .int)) hp:=lY [.str (af "xor"),.int x,.int y,.int x] (some 1) none (by show 4≤1000;decide) (by show 3<4;decide);have i1:=j0 (hp:=hp) (a:=af "all_different") (b:=af "disjunctive") (x:=af "xor") (by decide) (by decide) (by decide);rw[show(af "all_different"==af "xor"||af "disjunctive"==af "xor")=false by decide]at i1;rw[lX];open_k with[kJ,e0,e3,i1,aE (kq "xor") (kq "max"),nb "xor" "max",aE (kq "xor") (kq "linear_ne"),nb "xor" "linear_ne",aE (kq "xor") (kq "linear_le"),nb "xor" "linear_le",aE (kq "xor") (kq "clause"),nb "xor" "clause",show ia (.int 1)=some (some 1)from rfl,bX]
theorem G4 {a:Nat}{vl:List VD}(h:iQ hp a vl)(hl:vl.length≤1000)(hd:∀d∈vl,d.2.length≤10)(hN:20≤N)(w:Nat)(x y:Int) :
  mE (ag N (k+2) (.fix (.ref 504)) [bl w x y,.ref a]) (.bool (iP vl w x y)) hp:=by
 match w with
 |0 =>
  obtain⟨hp',e,x1⟩:=j5 (N:=N) (k:=k) (tr:=false) rfl h hl hd (show[x,y].length≤10 by show 2≤10;decide) hN (kq "linear_le") (by decide) (some (bl 0 x y));exact⟨hp',by rw[Q2,e];simp[iP,dG,cZ],x1⟩
 |1 =>
  obtain⟨hp',e,x1⟩:=j5 (N:=N) (k:=k) (tr:=false) rfl h hl hd (show[x,y].length≤10 by show 2≤10;decide) hN (kq "all_different") (by decide) (some (bl 1 x y));exact⟨hp',by rw[Q3,e];simp[iP,dG,cZ],x1⟩
 |2 =>
  obtain⟨hp',e,x1⟩:=j5 (N:=N) (k:=k) (tr:=true) rfl h hl hd (show[x,y].length≤10 by show 2≤10;decide) hN (kq "clause") (by decide) (some (bl 2 x y));exact⟨hp',by rw[Q5,e];simp[iP,dG,cZ],x1⟩
 |3 =>
  obtain⟨hp',e,x1⟩:=j5 (N:=N) (k:=k) (tr:=true) rfl h hl hd (show[x,y,x].length≤10 by show 3≤10;decide) hN (kq "xor") (by decide) (some (bl 3 x y))
  exact⟨hp',by
   rw[Q6,e];cases hx:inR vl.length x<;>cases hy:inR vl.length y<;>simp[iP,dG,cZ,hx,hy],x1⟩
 |4 =>
  obtain⟨hp',e,x1⟩:=j5 (N:=N) (k:=k) (tr:=false) rfl h hl hd (show[x,y].length≤10 by show 2≤10;decide) hN (kq "disjunctive") (by decide) (some (bl 4 x y));exact⟨hp',by rw[Q4,e];simp[iP,dG,cZ],x1⟩
 |5 =>
  refine⟨hp,?_,Ext.refl⟩;rw[show iP vl 5 x y=false by simp[iP,dG]];exact BN _ (by decide) (.inr ⟨by decide,by decide⟩) _
 |w+6 =>
  refine⟨hp,?_,Ext.refl⟩;rw[show iP vl (w+6) x y=false by rw[iP,dG,decide_eq_false (show ¬w+6<5 by lia)];rfl];exact BN _ (by decide) (.inl (by decide)) _
end
section
variable {N k n L m:Nat}{hp hp':HP}{T:List Nat}{st:FS}{r:Rec}
theorem Ou {α:Type}(l:List α):l.filter (λ_=>true)=l:=List.filter_eq_self.mpr λ_ _=>rfl
theorem wd {a:Nat}{l:List V}(h:hp[a]?=some (.list l)):El hp (.ref a)=some (.lst a 0):=cA (de h)
theorem zN {a:Nat}{l:List V}(h:hp[a]?=some (.list l)):jh hp (.lst a 0) l:=.lst a 0 l h
def Ov (N:Nat):Ex:=cq N (cx (bO (aa 1) .vars)) [none,none,none] (.many [1,2]) (aS true []) (aa 2)
def we (N:Nat):Ex:=cq N (cx (bO (aa 1) .bZ)) [none,none,none] (.many [1,2]) (aS true []) (aa 1)
def ri (c:Ca)(N:Nat):Ex:=cq N (cx (bO (aa 1) .bZ)) [none,none,none,some 4] (.many [1,2]) (aS true [(cW (tX (xF c 504 [(aa 1),(aa 3)])))]) (aa 2)
theorem Wz (F:Fd hp st){vl:List VD}(hv:st.vs=vl.map VD.v)(hl:vl.length≤100)(hN:200≤N)(s:Option V)(rest:Loc) :
  pL (Ov N (s::some (.ref 4)::rest)) (vl.map λd=>.tup (d.2.map pv)) hp:=by
 have o2:=F.o2;rw[hv]at o2
 obtain⟨ay,e1,x1⟩:=vU (N:=N) (hp:=hp) (i:=cx (bO (aa 1) .vars)) (mp:=[none,none,none]) (tg:=.many [1,2]) (ifs:=aS true []) (elt:=aa 2) (loc:=s::some (.ref 4)::rest) VD.v (λloc=>∃x y,loc=[none,x,y]) (λ_=>true) (λd=>.tup (d.2.map pv)) (l:=vl) (it:=.lst 2 0) (by
   open_k with[gU,eC F.o4 .vars (v:=.ref 2) rfl,wd o2,aX,bV,aY,aL,aM,aU]) (zN o2) ⟨none,none,rfl⟩ (by apply ij<;>trivial) (by apply aI<;>trivial) (by
  rintro d _ loc ay ⟨x,y,rfl⟩ xx;exact⟨_,ay,rfl,⟨_,_,rfl⟩,rfl,Ext.refl,λ_=>⟨ay,rfl,Ext.refl⟩⟩)
 rw[Ou]at e1;exact⟨ay,e1,x1⟩
theorem Q7 (F:Fd hp st){tl:List TD}(ht:st.ts=tl.map λd=>.tup [d.v,.int d.s])(hl:tl.length≤100)(hN:200≤N)(s:Option V)(rest:Loc) :
  pL (we N (s::some (.ref 4)::rest)) (tl.map TD.v) hp:=by
 have o3:=F.o3;rw[ht]at o3
 obtain⟨ay,e1,x1⟩:=vU (N:=N) (hp:=hp) (i:=cx (bO (aa 1) .bZ)) (mp:=[none,none,none]) (tg:=.many [1,2]) (ifs:=aS true []) (elt:=aa 1) (loc:=s::some (.ref 4)::rest) (λd:TD=>V.tup [d.v,.int d.s]) (λloc=>∃x y,loc=[none,x,y]) (λ_=>true) TD.v (l:=tl) (it:=.lst 3 0) (by
   open_k with[gU,eC F.o4 .bZ (v:=.ref 3) rfl,wd o3,aX,bV,aY,aL,aM,aU]) (zN o3) ⟨none,none,rfl⟩ (by apply ij<;>trivial) (by apply aI<;>trivial) (by
  rintro d _ loc ay ⟨x,y,rfl⟩ xx;exact⟨_,ay,rfl,⟨_,_,rfl⟩,rfl,Ext.refl,λ_=>⟨ay,rfl,Ext.refl⟩⟩)
 rw[Ou]at e1;exact⟨ay,e1,x1⟩
theorem Q8 {c:Ca}(hc:c=ag N (k+2))(F:Fd hp st){vl:List VD}{tl:List TD}{a:Nat}(h:iQ hp a vl)(DN:vl.length≤1000)(hd:∀d∈vl,d.2.length≤10)(ht:st.ts=tl.map λd=>.tup [d.v,.int d.s])(hl:tl.length≤100)(hN:200≤N)(s l w:Option V)(rest:Loc) :
  pL (ri c N (s::some (.ref 4)::l::w::some (.ref a)::rest)) (((tl.filter λd=>!d.right vl).map λd=>(d.s:Int)).map .int) hp:=by
 have o3:=F.o3;rw[ht]at o3;subst hc
 obtain⟨ay,e1,x1⟩:=vU (N:=N) (hp:=hp) (i:=cx (bO (aa 1) .bZ)) (mp:=[none,none,none,some 4]) (tg:=.many [1,2]) (ifs:=(aS true [(cW (tX (aD (ag N (k+2)) (xC (.fix (.ref 504))) [(aa 1),(aa 3)])))])) (elt:=aa 2) (loc:=s::some (.ref 4)::l::w::some (.ref a)::rest) (λd:TD=>V.tup [d.v,.int d.s]) (λloc=>∃x y,loc=[none,x,y,some (.ref a)]) (λd=>!d.right vl) (λd=>.int d.s) (l:=tl) (it:=.lst 3 0) (by
   open_k with[gU,eC F.o4 .bZ (v:=.ref 3) rfl,wd o3,aX,bV,aY,aL,aM,aU]) (zN o3) ⟨none,none,rfl⟩ (by apply ij<;>trivial) (by apply aI<;>trivial) (by
  rintro d _ loc ay ⟨x,y,rfl⟩ xx;obtain⟨aN,e2,x2⟩:=G4 (N:=N) (k:=k) (xx.at h) DN hd (by apply bR<;>trivial) d.w d.x d.y;refine⟨_,aN,rfl,⟨_,_,rfl⟩,?_,x2,λ_=>⟨aN,rfl,Ext.refl⟩⟩;open_k with[e2,show iP vl d.w d.x d.y=d.right vl from rfl];cases d.right vl<;>rfl)
 refine⟨ay,?_,x1⟩;rw[ri,e1];simp only[List.map_map];rfl
theorem Yp {a b:Nat}{u v:List V}(h1:hp[a]?=some (.list u))(h2:hp[b]?=some (.list v))(hl:u.length+v.length≤100000):jy .Add (.ref a) (.ref b) hp=.ok (.ref hp.length) (hp++[.list (u++v)]):=by
 exact(gp (de h1)).trans ((gp (DH h2)).trans (eB (gH (Nat.le_trans hl (by decide)))))
abbrev gV:Option (Nat×Option Int×Nat)->V
 |none=>.none
 |some d=>.tup [.str (cB d.1),eM d.2.1,.int d.2.2]
abbrev kS:Option (Nat×Option Int×Nat)->List V
 |none=>F0.goal
 |some d=>[.str (cB d.1),eM d.2.1]
def gL (m:Nat):Option (Nat×Option Int×Nat)->List Int
 |none=>[]
 |some d=>if hG m d.2.1 then[]else[(d.2.2:Int)]
abbrev sV:Option (Nat×Int×Int×Nat×Nat)->V
 |none=>.none
 |some d=>.tup [.tup (bN d.1 d.2.1 d.2.2.1),.ref d.2.2.2.2,.int d.2.2.2.1]
abbrev i9:Option (Nat×Int×Int×Nat×Nat)->List V
 |none=>[]
 |some d=>bN d.1 d.2.1 d.2.2.1
def sL (m:Nat):Option (Nat×Int×Int×Nat×Nat)->List Int
 |none=>[]
 |some d=>if[d.2.1,d.2.2.1].all (inR m)then[]else[(d.2.2.2.1:Int)]
def L4 (c:Ca):Sx:=(bc (ai (bO (aa 1) .goal) [(.gP,(xC .none))]) [(aR 6 (cV (bO (aa 1) .goal) (xC .none) (xC (.int 2)))),
 (aR 9 (bw .Add (aa 9) (ik (aS true [(ai (aq (aa 6) (xC (.int 1))) [(.gP,(xC .none))]),(cW (ai (xC (.int 0)) [(.le,(aq (aa 6) (xC (.int 1)))),(.lt,(aD c (xC (bi "len")) [(aa 4)]))]))]) (cp [(aq (bO (aa 1) .goal) (xC (.int 2)))]) (cp []))))] [])
theorem pU {b:Nat}{u:List Int}(v:List Int)(h:hp[b]?=some (.list (u.map .int)))(hu:u.length≤1000)(hv:v.length≤1000) :
  jy .Add (.ref b) (.ref hp.length) (hp++[.list (v.map .int)])=.ok (.ref (hp++[O.list (v.map .int)]).length) (hp++[.list (v.map .int)]++[.list ((u++v).map .int)]):=by
 rw[Yp ((Ext.new _).at h) (bK _ _) (by simp only[List.length_map];(apply Rv<;>trivial)),List.map_append]
theorem b2:ia (.int 2)=some (some 2):=rfl
inductive MN (c:Ca)(hp:HP)(g:Option (Nat×Option Int×Nat))(a b:Nat)(vl:List VD)(u:List Int)(s l w d5 t7 t8 x y:Option V):Prop
 |mk (hp':HP) (b':Nat) (h1:L4 c [s,some (.ref 4),l,w,some (.ref a),d5,some (.tup F0.goal),t7,t8,some (.ref b),x,y] hp=.ok (.next,[s,some (.ref 4),l,w,some (.ref a),d5,some (.tup (kS g)),t7,t8,some (.ref b'),x,y]) hp') (h2:Ext hp hp') (h3:hp'[b']?=some (.list ((u++gL vl.length g).map .int)))
theorem Q9 {c:Ca}(hc:c=ag N (k+1))(F:Fd hp st)(g:Option (Nat×Option Int×Nat))(hg:st.goal=gV g){a b:Nat}{vl:List VD}(h:iQ hp a vl)(DN:vl.length≤1000){u:List Int}(h9:hp[b]?=some (.list (u.map .int)))(hu:u.length≤1000)(s l w d5 t7 t8 x y:Option V):MN c hp g a b vl u s l w d5 t7 t8 x y:=by
 have g1:=eC F.o4 .goal (v:=st.goal) rfl;rw[hg]at g1;subst hc;cases g with
 |none =>
  refine⟨hp,b,?_,Ext.refl,by rw[gL,List.append_nil];exact h9⟩;open_k with[L4,g1,gV,aX,bV,aY,aL,aM,aU]
 |some d =>
  obtain⟨kd,o,q⟩:=d;have e3:gZ hp (.tup [.str (cB kd),eM o,.int q]) none (some 2)=.ok (.tup [.str (cB kd),eM o]) hp:=lY [.str (cB kd),eM o,.int q] none (some 2) (by show 3≤1000;decide) (by show 2<3;decide);have e1:bh hp (.tup [.str (cB kd),eM o]) (.int 1)=some (eM o):=bF (i:=1) rfl;have e2:bh hp (.tup [.str (cB kd),eM o,.int q]) (.int 2)=some (.int q):=bF (i:=2) rfl
  have no:hG vl.length o=true->L4 (ag N (k+1)) [s,some (.ref 4),l,w,some (.ref a),d5,some (.tup F0.goal),t7,t8,some (.ref b),x,y] hp=.ok (.next,[s,some (.ref 4),l,w,some (.ref a),d5,some (.tup [.str (cB kd),eM o]),t7,t8,some (.ref (hp++[O.list (([]:List Int).map .int)]).length),x,y]) (hp++[.list (([]:List Int).map .int)]++[.list ((u++[]).map .int)]):=λok=>by
   have ad:=pU [] h9 hu (by decide);rw[List.map_nil]at ad;refine bC λnG=>?_;cases o with
   |none=>refine nG ?_;open_k with[L4,g1,gV,e3,e1,b2,bX,eM,ad,List.map_nil,aX,bV,aY,aL,aM,aU]
   |some i =>
    refine nG ?_;have ll:=len_list (N:=N) (k:=k) h (by rw[List.length_map];(apply aI<;>trivial));rw[List.length_map]at ll;simp only[hG,inR,Bool.and_eq_true]at ok;open_k with[L4,g1,gV,e3,e1,b2,bX,eM,ll,ok.1,ok.2,ad,List.map_nil,aX,bV,aY,aL,aM,aU]
  have ye:hG vl.length o=false->L4 (ag N (k+1)) [s,some (.ref 4),l,w,some (.ref a),d5,some (.tup F0.goal),t7,t8,some (.ref b),x,y] hp=.ok (.next,[s,some (.ref 4),l,w,some (.ref a),d5,some (.tup [.str (cB kd),eM o]),t7,t8,some (.ref (hp++[O.list ([(q:Int)].map .int)]).length),x,y]) (hp++[.list ([(q:Int)].map .int)]++[.list ((u++[(q:Int)]).map .int)]):=λok=>by
   have ad:=pU [(q:Int)] h9 hu (by show 1≤1000;decide);rw[List.map_cons,List.map_nil]at ad;cases o with
   |none=>cases ok
   |some i =>
    have ll:=len_list (N:=N) (k:=k) h (by rw[List.length_map];(apply aI<;>trivial));rw[List.length_map]at ll;have NZ:(decide (0≤i)&&decide (i<(vl.length:Int)))=false:=ok;cases h0:decide (0≤i)with
    |false=>open_k with[L4,g1,gV,e3,e1,e2,b2,bX,eM,h0,ad,List.map_nil,List.map_cons,aX,bV,aY,aL,aM,aU]
    |true =>
     rw[h0,Bool.true_and]at NZ;open_k with[L4,g1,gV,e3,e1,e2,b2,bX,eM,ll,h0,NZ,ad,List.map_nil,List.map_cons,aX,bV,aY,aL,aM,aU]
  cases ok:hG vl.length o with
  |true=>exact⟨_,_,no ok,(Ext.new _).trans (Ext.new _),by rw[gL,if_pos ok];exact bK _ _⟩
  |false=>exact⟨_,_,ye ok,(Ext.new _).trans (Ext.new _),by rw[gL,if_neg (by rw[ok];decide)];exact bK _ _⟩
def WA (c:Ca)(N:Nat):Ex:=cq N (cx (aq (bO (aa 1) .shown) (xC (.int 1)))) [none,none,some 4] (.one 1) (aS true [(cW (ai (xC (.int 0)) [(.le,(aa 1)),(.lt,(aD c (xC (bi "len")) [(aa 2)]))]))]) (aa 1)
def L5 (c:Ca)(N:Nat):Sx:=(bc (ai (bO (aa 1) .shown) [(.gP,(xC .none))]) [(aR 7 (aq (bO (aa 1) .shown) (xC (.int 0)))),
 (aR 9 (bw .Add (aa 9) (ik (ai (WA c N) [(.ne,(cp []))]) (cp [(aq (bO (aa 1) .shown) (xC (.int 2)))]) (cp []))))] [])
inductive JU (c:Ca)(N:Nat)(hp:HP)(sh:Option (Nat×Int×Int×Nat×Nat))(a b:Nat)(vl:List VD)(u:List Int)(s l w d5 t6 t8 x y:Option V):Prop
 |mk (hp':HP) (b':Nat) (h1:L5 c N [s,some (.ref 4),l,w,some (.ref a),d5,t6,some (.tup []),t8,some (.ref b),x,y] hp=.ok (.next,[s,some (.ref 4),l,w,some (.ref a),d5,t6,some (.tup (i9 sh)),t8,some (.ref b'),x,y]) hp') (h2:Ext hp hp') (h3:hp'[b']?=some (.list ((u++sL vl.length sh).map .int)))
theorem MO {c:Ca}(hc:c=ag N (k+1))(F:Fd hp st)(sh:Option (Nat×Int×Int×Nat×Nat))(hs:st.shown=sV sh)(ha:∀d,sh=some d->hp[d.2.2.2.2]?=some (.list [.int d.2.1,.int d.2.2.1])){a b:Nat}{vl:List VD}(h:iQ hp a vl)(DN:vl.length≤1000){u:List Int}(h9:hp[b]?=some (.list (u.map .int)))(hu:u.length≤1000)(hN:20≤N)(s l w d5 t6 t8 x y:Option V):JU c N hp sh a b vl u s l w d5 t6 t8 x y:=by
 have g1:=eC F.o4 .shown (v:=st.shown) rfl;rw[hs]at g1;cases sh with
 |none =>
  refine⟨hp,b,?_,Ext.refl,by rw[sL,List.append_nil];exact h9⟩;open_k with[L5,g1,sV,aX,bV,aY,aL,aM,aU]
 |some d =>
  obtain⟨kd,o,o',q,z⟩:=d;have hz:hp[z]?=some (.list ([o,o'].map .int)):=ha _ rfl;have e0 (hp:HP):bh hp (.tup [.tup (bN kd o o'),.ref z,.int q]) (.int 0)=some (.tup (bN kd o o')):=bF (i:=0) rfl;have e1 (hp:HP):bh hp (.tup [.tup (bN kd o o'),.ref z,.int q]) (.int 1)=some (.ref z):=bF (i:=1) rfl;have e2 (hp:HP):bh hp (.tup [.tup (bN kd o o'),.ref z,.int q]) (.int 2)=some (.int q):=bF (i:=2) rfl
  obtain⟨ay,o1,x1⟩:=BM (N:=N) (k:=k) hc h DN [o,o'] (by show 2<N;(apply bR<;>trivial)) (by show 2≤1000;decide) (i:=cx (aq (bO (aa 1) .shown) (xC (.int 1)))) (it:=.lst z 0) (loc:=[s,some (.ref 4),l,w,some (.ref a),d5,t6,some (.tup (bN kd o o')),t8,some (.ref b),x,y]) (by
   open_k with[gU,g1,sV,e1,wd hz,aX,bV,aY,aL,aM,aU]) (zN hz) 4 rfl
  have ZM:WA c N [s,some (.ref 4),l,w,some (.ref a),d5,t6,some (.tup (bN kd o o')),t8,some (.ref b),x,y] hp=.ok (.ref ay.length) (ay++[.list (([o,o'].filter λi=>!inR vl.length i).map .int)]):=o1;have gn:=wg (hp:=ay++[.list (([o,o'].filter λi=>!inR vl.length i).map .int)]++[.list []]) (a:=ay.length) (b:=(ay++[O.list (([o,o'].filter λi=>!inR vl.length i).map .int)]).length) ((Ext.new _).at (bK _ _)) (bK _ _) (sS _);rw[List.isEmpty_map,pW]at gn;generalize Ow:(ay++[O.list (([o,o'].filter λi=>!inR vl.length i).map .int)]++[O.list []])=aN at gn;have x2:Ext hp aN:=by rw[<- Ow];exact(x1.trans (Ext.new _)).trans (Ext.new _)
  have g2:zU aN (.ref 4) .shown=.ok (sV (some (kd,o,o',q,z))) aN:=eC (x2.at F.o4) .shown (by rw[<- hs];rfl);cases ok:[o,o'].all (inR vl.length)with
  |true =>
   have ad:=pU (hp:=aN) [] (x2.at h9) hu (by decide);rw[List.map_nil]at ad;rw[ok]at gn;refine⟨aN++[.list []]++[.list ((u++[]).map .int)],(aN++[O.list []]).length,?_,(x2.trans (Ext.new _)).trans (Ext.new _),by rw[sL,if_pos ok];exact bK _ _⟩;open_k with[L5,g1,sV,e0,ZM,Ow,gn,ad,aX,bV,aY,aL,aM,aU]
  |false =>
   have ad:=pU (hp:=aN) [(q:Int)] (x2.at h9) hu (by show 1≤1000;decide);rw[List.map_cons,List.map_nil]at ad;rw[ok]at gn;refine⟨aN++[.list [.int q]]++[.list ((u++[(q:Int)]).map .int)],(aN++[O.list [.int q]]).length,?_,(x2.trans (Ext.new _)).trans (Ext.new _),by rw[sL,if_neg (by rw[ok];decide)];exact bK _ _⟩;open_k with[L5,g1,sV,e0,ZM,Ow,gn,g2,e2,ad,aX,bV,aY,aL,aM,aU]
def L6:Sx:=(bc (aS true [(ai (aa 5) [(.lt,(xC (.int 0)))]),(ai (aa 9) [(.ne,(cp []))])]) [(aR 5 (aq (aa 9) (xC (.int 0))))] [])
noncomputable def j6 (br:Int):List Int->Int
 |[]=>br
 |s::_=>if br<0 then s else br
theorem WB {b:Nat}{u:List Int}(br:Int)(h9:hp[b]?=some (.list (u.map .int)))(hu:u.length≤1000)(s f l w d4 t6 t7 t8 x y:Option V) :
  mE (L6 [s,f,l,w,d4,some (.int br),t6,t7,t8,some (.ref b),x,y]) (.next,[s,f,l,w,d4,some (.int (j6 br u)),t6,t7,t8,some (.ref b),x,y]) hp:=by
 have gn:=wg (hp:=hp++[.list []]) (a:=b) (b:=hp.length) ((Ext.new _).at h9) (bK _ _) (sS u);cases hb:decide (br<0)with
 |false =>
  refine⟨hp,?_,Ext.refl⟩;have:j6 br u=br:=by cases u with|nil=>rfl|cons i u=>rw[j6,if_neg (of_decide_eq_false hb)]
  open_k with[L6,hb,this]
 |true =>
  cases u with
  |nil =>
   refine⟨_,?_,Ext.new (.list [])⟩;simp only[List.map_nil,List.isEmpty_nil]at gn;open_k with[L6,hb,gn,j6]
  |cons i u =>
   refine⟨_,?_,Ext.new (.list [])⟩;simp only[List.map_cons,List.isEmpty_cons]at gn;have e1:bh (hp++[O.list []]) (.ref b) (.int (0:Nat))=some (.int i):=sQ ((Ext.new _).at h9) rfl (by decide);have fW:bh (hp++[O.list []]) (.ref b) (.int 0)=some (.int i):=e1;open_k with[L6,hb,gn,fW,j6,if_pos (of_decide_eq_true hb)]
def L1 (N:Nat):Sx:=(eI [4,5,6,7] (ao [Ov N,(bO (aa 1) .iA),(ao [(xS "satisfy"),(xC .none)]),(ao [])]))
def j7 (r:Rec):List Int:=((r.tl.filter λd=>!d.right r.vl).map λd=>(d.s:Int))++gL r.vl.length r.g++sL r.vl.length r.sh
theorem Ext.fd (e:Ext hp hp')(F:Fd hp st):Fd hp' st:=by obtain⟨l,rfl⟩:=e;exact F.app l
theorem Ym (m:Nat)(g:Option (Nat×Option Int×Nat)):(gL m g).length≤1:=by
 cases g with
 |none=>exact Nat.zero_le 1
 |some d=>rw[gL];split<;>simp
inductive WC (c:Ca)(N:Nat)(hp:HP)(st:FS)(r:Rec)(s l w:Option V):Prop
 |mk (hp':HP) (a4 a8 a9:Nat) (h1:aF [L1 N,aR 8 (we N),aR 9 (ri c N),L4 c,L5 c N,L6] [s,some (.ref 4),l,w,none,none,none,none,none,none,none,none] hp=.ok (.next,[s,some (.ref 4),l,w,some (.ref a4),some (.int (j6 st.br (j7 r))),some (.tup (kS r.g)),some (.tup (i9 r.sh)),some (.ref a8),some (.ref a9),none,none]) hp') (h2:Ext hp hp') (h3:hp'[a8]?=some (.list (r.tl.map TD.v)))
theorem Yn {c:Ca}(hc:c=ag N (k+2))(F:Fd hp st)(R:eE hp st r)(hN:200≤N)(s l w:Option V):WC c N hp st r s l w:=by
 have lv:=R.lv;have lt:=R.lt;refine bC λnG=>?_;obtain⟨ay,e1,x1⟩:=Wz F R.hv lv hN s [l,w,none,none,none,none,none,none,none,none];refine nG ?_;have y1:=x1.trans (Ext.new (.list (r.vl.map λd=>V.tup (d.2.map pv))));have h1:iQ (ay++[.list (r.vl.map λd=>V.tup (d.2.map pv))]) ay.length r.vl:=bK _ _;generalize ay++[O.list (r.vl.map λd=>V.tup (d.2.map pv))]=hq1 at e1 y1 h1;generalize ay.length=a4 at e1 h1;refine bC λnG=>?_;obtain⟨aN,e2,x2⟩:=Q7 (y1.fd F) R.ht lt hN s [l,w,some (.ref a4),some (.int st.br),some (.tup F0.goal),some (.tup []),none,none,none,none];refine nG ?_;have y2:=x2.trans (Ext.new (.list (r.tl.map TD.v)));have h2:(aN++[.list (r.tl.map TD.v)])[aN.length]?=some (.list (r.tl.map TD.v)):=bK _ _;generalize aN++[O.list (r.tl.map TD.v)]=Ow at e2 y2 h2;generalize aN.length=a8 at e2 h2;have z2:=y1.trans y2;refine bC λnG=>?_;obtain⟨bL,e3,x3⟩:=Q8 hc (z2.fd F) (y2.at h1) (by apply aI<;>trivial) (λd h=>(R.dm d h).1) R.ht lt hN s l w [some (.int st.br),some (.tup F0.goal),some (.tup []),some (.ref a8),none,none,none];refine nG ?_
 have hu:(((r.tl.filter λd=>!d.right r.vl).map λd=>(d.s:Int))).length≤100:=by
  rw[List.length_map];exact Nat.le_trans (List.length_filter_le _ _) lt
 have hl:j7 r=((r.tl.filter λd=>!d.right r.vl).map λd=>(d.s:Int))++gL r.vl.length r.g++sL r.vl.length r.sh:=rfl;generalize ((r.tl.filter λd=>!d.right r.vl).map λd=>(d.s:Int))=u at e3 hu hl;have y3:=x3.trans (Ext.new (.list (u.map V.int)));have h3:(bL++[.list (u.map V.int)])[bL.length]?=some (.list (u.map V.int)):=bK _ _;generalize bL++[O.list (u.map V.int)]=hq3 at e3 y3 h3;generalize bL.length=b3 at e3 h3;have z3:=z2.trans y3;refine bC λnG=>?_;obtain⟨lh,b4,e4,y4,h4⟩:=Q9 (k:=k+1) hc (z3.fd F) r.g R.hg ((y2.trans y3).at h1) (by apply aI<;>trivial) h3 (by apply aI<;>trivial) s l w (some (.int st.br)) (some (.tup [])) (some (.ref a8)) none none;have z4:=z3.trans y4;have hg:=Ym r.vl.length r.g;obtain⟨JH,b5,e5,y5,h5⟩:=MO (k:=k+1) hc (z4.fd F) r.sh R.hs (λd hd=>z4.at (R.ha d hd).2) (((y2.trans y3).trans y4).at h1) (by apply aI<;>trivial) h4 (by simp only[List.length_append];(apply Rv<;>trivial)) (by apply bR<;>trivial) s l w (some (.int st.br)) (some (.tup (kS r.g))) (some (.ref a8)) none none;rw[<- hl]at h5
 have hs:(j7 r).length≤1000:=by
  rw[hl]
  have:(sL r.vl.length r.sh).length≤1:=by
   cases r.sh with
   |none=>exact Nat.zero_le 1
   |some d=>rw[sL];split<;>simp
  simp only[List.length_append];(apply WN<;>trivial)
 obtain⟨ZH,e6,y6⟩:=WB st.br h5 hs s (some (.ref 4)) l w (some (.ref a4)) (some (.tup (kS r.g))) (some (.tup (i9 r.sh))) (some (.ref a8)) none none;refine nG ?_;refine⟨ZH,a4,a8,b5,?_,(z4.trans y5).trans y6,(((y3.trans y4).trans y5).trans y6).at h2⟩;have g1:=eC (y1.fd F).o4 .iA (v:=.int st.br) rfl
 have e0:L1 N [s,some (.ref 4),l,w,none,none,none,none,none,none,none,none] hp=.ok (.next,[s,some (.ref 4),l,w,some (.ref a4),some (.int st.br),some (.tup F0.goal),some (.tup []),none,none,none,none]) hq1:=by
  open_k with[L1,e1,g1,aX,bV,aY,aL,aM,aU];rfl
 simp only[n5,qQ,qR,qP,r8,qO,e0,e2,e3,e4,e5,e6,jf,List.set_cons_zero,List.set_cons_succ]
theorem MP (r:Rec)(gs ss:Int)(hg:∀d,r.g=some d->gs=d.2.2)(hs:∀d,r.sh=some d->ss=d.2.2.2.1) :
  rj r.vl r.tl (r.g.bind λd=>d.2.1) gs (r.sh.map λd=>(d.1,d.2.1,d.2.2.1)) ss=match j7 r with
   |[]=>some (.ok ())
   |s::_=>some (.error s):=by
 have ht:∀tl:List TD,(om r.vl tl)=match ((tl.filter λd=>!d.right r.vl).map λd=>(d.s:Int))with
   |[]=>some (.ok ())
   |s::_=>some (.error s):=by
  intro tl
  induction tl with
  |nil=>rfl
  |cons d tl ih =>
   rw[om,List.filter_cons];cases h:d.right r.vl with
   |true=>exact ih
   |false=>rfl
 rw[rj,ht,j7];cases ((r.tl.filter λd=>!d.right r.vl).map λd=>(d.s:Int))with
 |cons s u=>rfl
 |nil =>
  have h1:hG r.vl.length (r.g.bind λd=>d.2.1)=(gL r.vl.length r.g).isEmpty∧∀s u,gL r.vl.length r.g=s::u->gs=s:=by
   cases hr:r.g with
   |none=>exact⟨rfl,λs u e=>by cases e⟩
   |some d =>
    have hgd:=hg d hr;show hG r.vl.length d.2.1=_∧_;rw[gL];cases hG r.vl.length d.2.1 with
    |true=>exact⟨rfl,λs u e=>by cases e⟩
    |false=>exact⟨rfl,λs u e=>by cases e;exact hgd⟩
  have h2:By r.vl.length (r.sh.map λd=>(d.1,d.2.1,d.2.2.1))=(sL r.vl.length r.sh).isEmpty∧∀s u,sL r.vl.length r.sh=s::u->ss=s:=by
   cases hr:r.sh with
   |none=>exact⟨rfl,λs u e=>by cases e⟩
   |some d =>
    have hsd:=hs d hr;show(inR r.vl.length d.2.1&&inR r.vl.length d.2.2.1)=_∧_;rw[sL,show[d.2.1,d.2.2.1].all (inR r.vl.length)=(inR r.vl.length d.2.1&&inR r.vl.length d.2.2.1)by simp];cases (inR r.vl.length d.2.1&&inR r.vl.length d.2.2.1)with
    |true=>exact⟨rfl,λs u e=>by cases e⟩
    |false=>exact⟨rfl,λs u e=>by cases e;exact hsd⟩
  simp only[ob,List.nil_append,h1.1,h2.1];cases hg':gL r.vl.length r.g with
  |cons s u=>simp only[List.isEmpty_cons,Bool.false_eq_true,if_false,List.cons_append,h1.2 s u hg']
  |nil =>
   cases tq:sL r.vl.length r.sh with
   |cons s u=>simp only[List.isEmpty_nil,if_true,List.isEmpty_cons,Bool.false_eq_true,if_false,List.nil_append,h2.2 s u tq]
   |nil=>rfl
theorem BO (c:Ca)(N:Nat):u0.map ((gv c N deep).st cz)=[ib N (.one 2) (mf (xF c 443 [(aa 1),(xC (.int 8))])) (BH c),L1 N,aR 8 (we N),aR 9 (ri c N),L4 c,L5 c N,L6]:=by kernel_rfl
theorem G5 (c:Ca)(N:Nat)(a0:Addr)(l:List V):wO (gv c N deep) a0 l=aR 1 (lI [(.cells,nX cz a0 l),(.place,(xC (.int 0))),(.text,(xS "")),(.iA,(gO (xC (.int 1)))),(.vars,(cp [])),(.bZ,(cp [])),(.goal,(xC .none)),(.shown,(xC .none))]):=by kernel_rfl
theorem BP (c:Ca)(N:Nat):(gv c N deep).ex cz fJ=(ax c (xF c 434 [(bw .Add (bO (aa 1) .text) (xS "\n"))]) .model []):=by kernel_rfl
theorem BQ (c:Ca)(N:Nat):(gv c N deep).ex cz qM=(gk true [(xB (ai (aa 5) [(.lt,(xC (.int 0)))])),(xB (ai (ao [(aH (aa 10) .vars),(aH (aa 10) .bZ),(aH (aa 10) .goal),(aH (aa 10) .shown)]) [(.eq,(ao [(bO (aa 1) .vars),(aa 8),(aa 6),(aa 7)]))]))]):=by kernel_rfl
theorem Rc (a0:Addr):nY a0=[some (.fix (.ref a0)),none,none,none,none,none,none,none,none,none,none,none]:=by kernel_rfl
theorem G6 (a0:Addr)(loc:Loc)(hp:HP):gQ cz "script" (some (.fix (.ref a0))::loc) hp=.ok (.fix (.ref a0)) hp:=by kernel_rfl
noncomputable def lF (zs:List Int):FS:=⟨zs,0,[],-1,[],[],.none,.none⟩
def iM (zs:List Int):HP:=[.list (zs.map V.int),.list (zs.map V.int),.list [],.list [],.dict (gF (lF zs))]
theorem fd0 (zs:List Int):Fd (iM zs) (lF zs):=⟨rfl,rfl,rfl,rfl⟩
theorem WD {l:List V}(h:l.length≤63):cut l none (some 63)=l:=by
 show(l.take 63).drop 0=l;rw[List.drop_zero,List.take_of_length_le h]
theorem Rf {l:List V}(h:l.length≤63)(a0:Addr)(loc:Loc):nX cz a0 l (some (.fix (.ref a0))::loc) []=.ok (.ref 1) [.list l,.list l]:=by
 have e:A3 cz a0 l (some (.fix (.ref a0))::loc) []=.ok (.ref 0) [.list l]:=by
  unfold A3;rw[G6];show(if a0=a0 then _ else _)=_
  rw[if_pos rfl,WD h];rfl
 unfold nX;rw[e];show rI (okN l.length) _=_;exact eB (decide_eq_true (Nat.le_trans h (by rw[sizeLine_eq];decide)))
theorem WE (c:Ca)(N:Nat)(a0:Addr)(zs:List Int)(h:zs.length≤63):wO (gv c N deep) a0 (zs.map V.int) (nY a0) []=.ok (.next,[some (.fix (.ref a0)),some (.ref 4),none,none,none,none,none,none,none,none,none,none]) (iM zs):=by
 rw[G5,Rc];open_k with[aR,lI,List.map_cons,List.map_nil,Rf (l:=zs.map V.int) (by rw[List.length_map];exact h) a0,aX,bV,aY,aL,aM,aU];rfl
theorem FF.ext (e:Ext hp hp'):FF hp hp':=by obtain⟨l,rfl⟩:=e;exact FF.app l
theorem Yo (zs:List Int):eE (iM zs) (lF zs) ⟨[],[],none,none⟩ :=
 ⟨rfl,rfl,rfl,rfl,λ_ h=>(by cases h),λ_ h=>(by cases h),by decide,by decide⟩
theorem WG (zs:List Int)(a0:Addr)(hz:zs.length≤63)(hN:200≤N):∃ay st r ts q l w a4 a8 a9,
  oX (gv (ag N 20) N deep) a0 (zs.map V.int) (nY a0) []=.ok (.next,[some (.fix (.ref a0)),some (.ref 4),l,w,some (.ref a4),some (.int (j6 st.br (j7 r))),some (.tup (kS r.g)),some (.tup (i9 r.sh)),some (.ref a8),some (.ref a9),none,none]) ay ∧
   BS ay st r ts q∧q≤7∧ay[a8]?=some (.list (r.tl.map TD.v)):=by
 have B0:eG (lF zs) 0:=⟨Nat.le_refl 0,Nat.le_trans hz (by decide),Nat.zero_le _,rfl⟩;refine bC λnG=>?_;obtain⟨ay,cK,d,e1,hd,F1,f1,w1⟩:=j4 (N:=N) (k:=18) (fd0 zs) B0 (by decide) 8 (by decide);have fW:ag N 20 (.fix (.ref 443)) [.ref 4,.int 8] (iM zs)=_:=e1;have I:BS ay cK ⟨[],[],none,none⟩ [] 0:=⟨F1,(Yo zs).w f1 w1,w1.lx _ Lx.nil,w1.b _ B0,by decide,by decide,.inl ⟨w1.e2,λk x more=>by rw[Nat.zero_add];rfl⟩,λ_ _ _ e=>by cases e⟩;refine Ro (Ww (N:=N) (k:=16) (by apply bR<;>trivial) (some (.fix (.ref a0))) [none,none,none,none,none,none,none,none] d N 0 ((List.range ((d:Nat):Int).toNat).map λ(k:Nat)=>V.int k) none none I (by simp) (by apply WS<;>trivial) (by apply Rp<;>trivial)) λaN cu r2 qZ l2 w2 e2 I2=>?_;obtain⟨bL,a4,a8,a9,e3,x3,h8⟩:=Yn (N:=N) (k:=18) (c:=ag N 20) rfl I2.F I2.R hN (some (.fix (.ref a0))) l2 w2;refine nG ?_;refine⟨bL,cu,r2,qZ,d,l2,w2,a4,a8,a9,?_,⟨x3.fd I2.F,⟨I2.R.hv,I2.R.ht,I2.R.hg,I2.R.hs,λd h=>⟨(I2.R.ha d h).1,x3.at (I2.R.ha d h).2⟩,I2.R.dm,I2.R.lv,I2.R.lt⟩,I2.lx,?_,?_,?_,?_,I2.hd⟩,by apply lG<;>trivial,h8⟩
 ·unfold oX;rw[WE _ _ _ _ hz,jf,BO,n5];generalize [L1 N,aR 8 (we N),aR 9 (ri (ag N 20) N),L4 (ag N 20),L5 (ag N 20) N,L6]=rest at e3 ⊢;have lE:cJ (.one 2) (aF (BH (ag N 20))) N (.vals ((List.range ((d:Nat):Int).toNat).map λ(k:Nat)=>V.int k)) [some (.fix (.ref a0)),some (.ref 4),none,none,none,none,none,none,none,none,none,none] ay=_:=e2
  have hs:(decide (((d:Nat):Int)≤1000)&&dz ((d:Nat):Int))=true:=by
   rw[yj (by apply lG<;>trivial),Bool.and_true,decide_eq_true_eq];(apply Rt<;>trivial)
  open_k with[ip,kC,fW,hs,lE,e3,aX,bV,aY,aL,aM,aU]
 ·simpa using I2.B
 ·simpa using I2.lv
 ·simpa using I2.lt
 ·simpa using I2.run
theorem gn {n:Nat}:∀v∈([]:List V),Gd n v:=λ_ h=>by cases h
theorem gc {n:Nat}{v:V}{vs:List V}(h:Gd n v)(g:∀v∈vs,Gd n v):∀u∈v::vs,Gd n u:=λu hu=>by
 rcases List.mem_cons.mp hu with rfl|hu
 ·exact h
 ·exact g u hu
theorem ig {s:String}{n:Nat}(h:aT (af s)=true):Gd n (.str (af s)):=BJ h
theorem Rg (w:Nat)(x y:Int):Gd 6 (bl w x y):=match w with
 |0=>bY (gc (ig (by decide)) (gc (bY (gc (ck _) (gc (ck _) gn))) (gc (bY (gc (ck _) (gc (ck _) gn))) (gc (ck _) gn))))
 |1=>bY (gc (ig (by decide)) (gc (bY (gc (ck _) (gc (ck _) gn))) (gc (ig (by decide)) gn)))
 |2=>bY (gc (ig (by decide)) (gc (bY (gc (ck _) gn)) (gc (bY (gc (ck _) gn)) gn)))
 |3=>bY (gc (ig (by decide)) (gc (ck _) (gc (ck _) (gc (ck _) gn))))
 |4=>bY (gc (ig (by decide)) (gc (bY (gc (ck _) (gc (ck _) gn))) (gc (bY (gc (ck _) (gc (ck _) gn))) gn)))
 |5=>bY (gc (ig (by decide)) (gc (bY (gc (ck _) gn)) (gc (bY (gc (ck _) (gc (ck _) gn))) (gc (ck _) gn))))
 |_+6=>bY (gc (ig (s:="max") (by decide)) (gc (bY gn) (gc (ck _) gn)))
theorem MQ (w:Nat)(x y:Int):∀v∈bN w x y,Gd 9 v:=match w with
 |0=>gc (bY (gc (ig (by decide)) (gc (ck _) gn))) (gc (bY (gc (ig (by decide)) (gc (ig (by decide)) gn))) (gc (bY (gc (ig (by decide)) (gc (ck _) gn))) gn))
 |1=>gc (bY (gc (ig (by decide)) (gc (bY (gc (bY (gc (ig (by decide)) (gc (ck _) gn))) (gc (bY (gc (ig (by decide)) (gc (ck _) gn))) gn))) gn))) gn
 |_+2=>gc (bY (gc (ig (s:="if") (by decide)) (gc (ck _) (gc (bY gn) (gc (bY (gc (bY (gc (ig (by decide)) (gc (ck _) gn))) gn)) gn))))) gn
theorem Rh (g:Option (Nat×Option Int×Nat)):ot 9 (kS g):=by
 have ho:∀o:Option Int,Gd 9 (eM o):=λo=>by
  cases o with
  |none=>exact D6
  |some x=>exact ck x
 cases g with
 |none=>exact ju (gc (ig (by decide)) (gc D6 gn))
 |some d =>
  refine ju (gc (BJ ?_) (gc (ho d.2.1) gn))
  exact match d.1 with
   |0=>show aT (af "satisfy")=true by decide
   |1=>show aT (af "minimize")=true by decide
   |_+2=>show aT (af "maximize")=true by decide
theorem Ri {vl:List VD}(h:∀d∈vl,d.2.length≤10∧aT d.1=true):ot 9 (vl.map VD.v):=ju λv hv=>by
 refine aj (List.mem_map.mp hv) λd hd bH=>?_;subst bH
 exact bY (gc (BJ (h d hd).2) (gc (bY (n:=7) λv hv=>by
  refine aj (List.mem_map.mp hv) λq _ bH=>?_;subst bH;exact G2 (Oq q) (by decide)) gn))
theorem Ox {u v w x:V}{a b c d:PyData}(h1:mc hp u=some a)(h2:mc hp v=some b)(h3:mc hp w=some c)(h4:mc hp x=some d):wh hp (.tup [u,v,w,x])=some (.tuple [a,b,c,d]):=by
 show oB (md hp [u,v,w,x]) _=_;unfold md;rw[h1,cA rfl];unfold md;rw[h2,cA rfl];unfold md;rw[h3,cA rfl];unfold md;rw[h4];rfl
theorem zO {a:Nat}{l:List V}{d:List PyData}(h:hp[a]?=some (.list l))(e:fQ l=some d):mc hp (.ref a)=some (.list d):=(cA (de h)).trans (cA e)
theorem zP {l:List V}{d:List PyData}(e:fQ l=some d):mc hp (.tup l)=some (.tuple d):=by
 show hO _=_;unfold hO;rw[e];rfl
theorem abb {a b a' b':Nat}{l m g s:List V}(h1:hp[a]?=some (.list l))(h2:hp[b]?=some (.list m))(h3:hp[a']?=some (.list l))(h4:hp[b']?=some (.list m))(gl:ot 9 l)(gm:ot 9 m)(gg:ot 9 g)(gs:ot 9 s) :
  dB .eq (.tup [.ref a,.ref b,.tup g,.tup s]) (.tup [.ref a',.ref b',.tup g,.tup s]) hp=some true:=by
 refine bC λnG=>?_;refine fj gl λdl l1 l2 l3 l4=>?_;refine fj gm λdm m1 m2 m3 m4=>?_;refine fj gg λdg g1 g2 g3 g4=>?_;refine fj gs λds s1 s2 s3 s4=>?_;refine nG ?_
 have hs:shaped (.tuple [.list dl,.list dm,.tuple dg,.tuple ds])=true:=by
  simp only[SeqAt.shaped,PyData.canLay0,PyData.canLayAll0,l2,m2,g2,s2,Bool.and_self,Bool.true_and,decide_eq_true_eq,PyData.depth,PyData.depthAll];refine decide_eq_true ?_;exact nA (m:=10) (Nat.max_le.mpr ⟨Nat.succ_le_succ l3,Nat.max_le.mpr ⟨Nat.succ_le_succ m3,Nat.max_le.mpr ⟨Nat.succ_le_succ g3,Nat.max_le.mpr ⟨Nat.succ_le_succ s3,Nat.zero_le _⟩⟩⟩⟩) rfl
 exact Dx (Ox (zO h1 l1) (zO h2 m1) (zP g1) (zP s1)) (Ox (zO h3 l1) (zO h4 m1) (zP g1) (zP s1)) hs hs (by simp only[PyData.eqv,PyData.eqvAll,l4,m4,g4,s4,Bool.and_self])
theorem WH:∀r:Rec,r.F.goal=[(match r.g with|none=>V.str (af "satisfy")|some d=>.str (cB d.1)),eM (r.g.bind λd=>d.2.1)]
 |⟨_,_,none,_⟩=>rfl
 |⟨_,_,some _,_⟩=>rfl
theorem Rj:∀r:Rec,r.F.shown=Jv (r.sh.map λd=>(d.1,d.2.1,d.2.2.1))
 |⟨_,_,_,none⟩=>rfl
 |⟨_,_,_,some _⟩=>rfl
theorem WI (hN:50000≤N){ay:HP}{ts:TS}{q a4 a8 a9:Nat}(I:BS ay st r ts q)(hq:q≤7)(h8:ay[a8]?=some (.list (r.tl.map TD.v)))(s l w:Option V) :
  ∃aN,oY (gv (ag N 20) N deep) [s,some (.ref 4),l,w,some (.ref a4),some (.int (j6 st.br (j7 r))),some (.tup (kS r.g)),some (.tup (i9 r.sh)),some (.ref a8),some (.ref a9),none,none] ay=.ok (.bool true) aN:=by
 have hT:st.T.length≤42100:=Nat.le_trans I.B.t (by have:=I.B.p;lia);have HV:(st.T++[10]).length≤42101:=by rw[List.length_append];show st.T.length+1≤_;(apply di<;>trivial)
 have hC:aT (st.T++[10])=true:=l6 I.B.o (by decide);have tk:=Lx.end (N:=N) I.lx (by apply bR<;>trivial);have g1:=eC I.F.o4 .text (v:=.str st.T) rfl;have ad:=sE ay st.T [10] (by show st.T.length+1≤_;(apply di<;>trivial));have e0:af "\n"=[10]:=sD;refine bC λnG=>?_
 obtain⟨t,b,iu,e1,ht,ok,p,nx,xI⟩:∃t b iu,ts++[(Tok.fin,st.T.length+1)]=(t,b)::iu∧t.g=[]∧j2 t=true∧∃p,Bi N (st.T++[10]) 0 t b p∧BU N (st.T++[10]) p iu:=by
  cases ts with
  |nil =>
   obtain⟨ok,p,nx,xI⟩:=tk;exact⟨_,_,_,rfl,rfl,ok,p,nx,xI⟩
  |cons x r =>
   obtain⟨ok,p,nx,xI⟩:=tk;exact⟨_,_,_,rfl,I.hd _ _ _ rfl,ok,p,nx,xI⟩
 refine dQ (GN (N:=N) (k:=13) (hp:=ay) nx (by apply aI<;>trivial) hC (by apply ij<;>trivial) ht) λaN e2 x2 R2=>?_;refine nG ?_;have lE:ag N 20 (.fix (.ref 434)) [.str (st.T++[10])] ay=_:=e2;have rt:RT N aN ay.length (st.T++[10]) (ts++[(Tok.fin,st.T.length+1)]) F0:=⟨t,b,iu,p,e1,ok,R2,xI,by apply ij<;>trivial⟩;have em:dN aN (.ref ay.length) .model=some (.fix (.ref 431)):=R2.bA rfl rfl
 have et:∀(loc:Loc),loc[1]?=some (some (.ref 4))->(ax (ag N 20) (aD (ag N 20) (xC (.fix (.ref 434))) [(bw .Add (bO (aa 1) .text) (xS "\n"))]) .model []) loc ay=ag N 20 (.fix (.ref 431)) [.ref ay.length] aN:=λloc hl=>by
  open_k with[hl,g1,e0,ad,lE,em,aX,bV,aY,aL,aM,aU]
 have et:=et [s,some (.ref 4),l,w,some (.ref a4),some (.int (j6 st.br (j7 r))),some (.tup (kS r.g)),some (.tup (i9 r.sh)),some (.ref a8),some (.ref a9),none,none] rfl;unfold oY;rw[BP,BQ,r8,et];refine bC λnG=>?_;rcases I.run with⟨br,run⟩|⟨s1,br,run⟩
 ·refine nG ?_;have run:=run 1 (Tok.fin,st.T.length+1) [];have run:kG (q+1) (ts++[(Tok.fin,st.T.length+1)]) F0=some (.ok ([(Tok.fin,st.T.length+1)],r.F)):=run
  have mp:=DO (k:=8) rt (by apply bR<;>trivial) (q+1) (by apply ij<;>trivial) (λ_=>rj r.vl r.tl (r.g.bind λd=>d.2.1) r.F.gs (r.sh.map λd=>(d.1,d.2.1,d.2.2.1)) r.F.ss) (λb hb=>by
   rw[run]at hb;cases hb
   refine⟨r.vl,r.tl,(match r.g with|none=>.str (af "satisfy")|some d=>.str (cB d.1)),(r.g.bind λd=>d.2.1),(r.sh.map λd=>(d.1,d.2.1,d.2.2.1)),by have:=I.lv;(apply Rz<;>trivial),λd h=>(I.R.dm d h).1,rfl,by have:=I.lt;(apply OB<;>trivial),rfl,rfl,WH r,Rj r,rfl⟩)
  have mp:Wq (ag N 20 (.fix (.ref 431)) [.ref ay.length] aN) _ _:=mp;rw[run,MP r r.F.gs r.F.ss (λd h=>by show(match r.g with|none=>(-1:Int)|some d=>d.2.2)=_;rw[h]) (λd h=>by show(match r.sh with|none=>(-1:Int)|some d=>d.2.2.2.1)=_;rw[h])]at mp
  cases hl:j7 r with
  |cons s1 u =>
   rw[hl]at mp;have mp:ag N 20 (.fix (.ref 431)) [.ref ay.length] aN=.gI s1:=mp;rw[mp,sj,br];exact⟨ay,by show R.ok (V.bool (s1==s1)) ay=_;rw[beq_self_eq_true]⟩
  |nil =>
   rw[hl]at mp;refine bC λnG=>?_;obtain⟨a,bL,e3,rfl,⟨t3,p3,q3,R3⟩,f3⟩:=mp;refine nG ?_;rw[e3,jf,br]
   have h2:bL[2]?=some (.list (r.vl.map VD.v)):=by
    have:=(f3.same 2 (.inl (by have:=I.F.len;(apply bR<;>trivial))) (by have:=I.F.len;have:=R2.lt;(apply bR<;>trivial))).trans (x2.at I.F.o2);rw[I.R.hv]at this;exact this
   have h8':bL[a8]?=some (.list (r.tl.map TD.v)):=by
    have iF:=(List.getElem?_eq_some_iff.mp h8).1;exact(f3.same a8 (.inl iF) (by have:=R2.lt;(apply WO<;>trivial))).trans (x2.at h8)
   have h4:bL[4]?=some (.dict (gF st)):=(f3.same 4 (.inl (by have:=I.F.len;assumption)) (by have:=I.F.len;have:=R2.lt;(apply bR<;>trivial))).trans (x2.at I.F.o4);have g4:=eC h4 .vars (v:=.ref 2) rfl
   have hs:ot 9 (i9 r.sh):=by
    cases r.sh with
    |none=>exact ju gn
    |some d=>exact ju (MQ _ _ _)
   have eq:=abb (g:=kS r.g) (s:=i9 r.sh) R3.o6 R3.o7 h2 h8' (Ri I.R.dm) (ju λv hv=>by
    refine aj (List.mem_map.mp hv) λd _ bH=>?_;subst bH;exact G2 (Rg _ _ _) (by decide)) (Rh _) hs
   refine⟨bL,?_⟩;have hg:eA bL (.ref (ay.length+4)) .goal=some (.tup (kS r.g)):=R3.zy;have gC:eA bL (.ref (ay.length+4)) .shown=some (.tup (i9 r.sh)):=R3.Bf;open_k with[j6,show decide ((-1:Int)<0)=true from rfl,R3.fvars,R3.Be,hg,gC,g4,eq,aX,bV,aY,aL,aM,aU]
 ·refine nG ?_;have run:=run 1 (Tok.fin,st.T.length+1) [];have mp:=DO (k:=8) rt (by apply bR<;>trivial) (q+1) (by apply ij<;>trivial) (λ_=>none) (λb hb=>by rw[run]at hb;cases hb)
  have mp:Wq (ag N 20 (.fix (.ref 431)) [.ref ay.length] aN) _ _:=mp;rw[run]at mp;have mp:ag N 20 (.fix (.ref 431)) [.ref ay.length] aN=.gI (s1:Int):=mp
  have hd:j6 st.br (j7 r)=(s1:Int):=by
   rw[br];cases j7 r with
   |nil=>rfl
   |cons x u =>
    show(if(s1:Int)<0 then x else(s1:Int))=s1
    exact if_neg (by apply zT<;>trivial)
  rw[mp,sj,hd];exact⟨ay,by show R.ok (V.bool ((s1:Int)==(s1:Int))) ay=_;rw[beq_self_eq_true]⟩
theorem ZN (zs:List Int)(a0:Addr)(hz:zs.length≤63):∃N je ay aN,oX (gv (ag N 20) N deep) a0 (zs.map V.int) (nY a0) []=.ok (.next,je) ay∧oY (gv (ag N 20) N deep) je ay=.ok (.bool true) aN:=by
 refine bC λnG=>?_;obtain⟨N,hN⟩:∃N:Nat,50000≤N:=⟨50000,Nat.le_refl _⟩;obtain⟨ay,st,r,ts,q,l,w,a4,a8,a9,e1,I,hq,h8⟩:=WG (N:=N) zs a0 hz (by apply bR<;>trivial);refine aQ (WI hN I hq h8 (some (.fix (.ref a0))) l w (a4:=a4) (a9:=a9)) λaN e2=>?_;refine nG ?_;exact⟨N,_,ay,aN,e1,e2⟩
end
end
end Mine.Internal
theorem PySem.Challenge.cw_pq0375_01_holds : PySem.Challenge.rw_pq0375_01.Holds :=
  Mine.Internal.Zn Mine.Internal.ZN
