import PyProof.Rows.All
import Wide.All
import OpenK.AllK
import Wide.FinOn
import Lean
import PySem.Challenge.RW_pq0375_01
open PySem PySem.W PyProof.Rows PySem.Calls PySem.Spec PySem.SeqAt
set_option Elab.async false
set_option maxRecDepth 100000
set_option maxHeartbeats 0
set_option linter.all false
set_option autoImplicit false
set_option genSizeOf false
set_option genInjectivity false
set_option bootstrap.genMatcherCode false
set_option backward.match.sparseCases false
set_option compiler.extract_closed false
namespace Mine.Internal
noncomputable section
section
theorem bp {P1 P2:Prop}{G:Prop}(h:P1∧P2)(k:P1->P2->G):G:=by obtain⟨p1,p2⟩:=h;exact k p1 p2
theorem j9 {P1 P2 P3:Prop}{G:Prop}(h:P1∧P2∧P3)(k:P1->P2->P3->G):G:=by obtain⟨p1,p2,p3⟩:=h;exact k p1 p2 p3
theorem zO {P1 P2 P3 P4:Prop}{G:Prop}(h:P1∧P2∧P3∧P4)(k:P1->P2->P3->P4->G):G:=by obtain⟨p1,p2,p3,p4⟩:=h;exact k p1 p2 p3 p4
theorem ZQ {P1 P2 P3 P4 P5:Prop}{G:Prop}(h:P1∧P2∧P3∧P4∧P5)(k:P1->P2->P3->P4->P5->G):G:=by obtain⟨p1,p2,p3,p4,p5⟩:=h;exact k p1 p2 p3 p4 p5
theorem ZR {P1 P2 P3 P4 P5 P6:Prop}{G:Prop}(h:P1∧P2∧P3∧P4∧P5∧P6)(k:P1->P2->P3->P4->P5->P6->G):G:=by obtain⟨p1,p2,p3,p4,p5,p6⟩:=h;exact k p1 p2 p3 p4 p5 p6
theorem ZS {P1 P2 P3 P4 P5 P6 P7:Prop}{G:Prop}(h:P1∧P2∧P3∧P4∧P5∧P6∧P7)(k:P1->P2->P3->P4->P5->P6->P7->G):G:=by obtain⟨p1,p2,p3,p4,p5,p6,p7⟩:=h;exact k p1 p2 p3 p4 p5 p6 p7
theorem aQ {A1:Sort _}{P1:A1->Prop}{G:Prop}(h:∃a1,P1 a1)(k:∀a1,P1 a1->G):G:=by obtain⟨a1,p1⟩:=h;exact k a1 p1
theorem aj {A1:Sort _}{P1 P2:A1->Prop}{G:Prop}(h:∃a1,P1 a1∧P2 a1)(k:∀a1,P1 a1->P2 a1->G):G:=by obtain⟨a1,p1,p2⟩:=h;exact k a1 p1 p2
theorem dP {A1:Sort _}{P1 P2 P3:A1->Prop}{G:Prop}(h:∃a1,P1 a1∧P2 a1∧P3 a1)(k:∀a1,P1 a1->P2 a1->P3 a1->G):G:=by obtain⟨a1,p1,p2,p3⟩:=h;exact k a1 p1 p2 p3
theorem fi {A1:Sort _}{P1 P2 P3 P4:A1->Prop}{G:Prop}(h:∃a1,P1 a1∧P2 a1∧P3 a1∧P4 a1)(k:∀a1,P1 a1->P2 a1->P3 a1->P4 a1->G):G:=by obtain⟨a1,p1,p2,p3,p4⟩:=h;exact k a1 p1 p2 p3 p4
theorem zP {A1:Sort _}{P1 P2 P3 P4 P5:A1->Prop}{G:Prop}(h:∃a1,P1 a1∧P2 a1∧P3 a1∧P4 a1∧P5 a1)(k:∀a1,P1 a1->P2 a1->P3 a1->P4 a1->P5 a1->G):G:=by obtain⟨a1,p1,p2,p3,p4,p5⟩:=h;exact k a1 p1 p2 p3 p4 p5
theorem jI {A1:Sort _}{A2:Sort _}{P1:A1->A2->Prop}{G:Prop}(h:∃a1 a2,P1 a1 a2)(k:∀a1 a2,P1 a1 a2->G):G:=by obtain⟨a1,a2,p1⟩:=h;exact k a1 a2 p1
theorem eG {A1:Sort _}{A2:Sort _}{P1 P2:A1->A2->Prop}{G:Prop}(h:∃a1 a2,P1 a1 a2∧P2 a1 a2)(k:∀a1 a2,P1 a1 a2->P2 a1 a2->G):G:=by obtain⟨a1,a2,p1,p2⟩:=h;exact k a1 a2 p1 p2
theorem cb {A1:Sort _}{A2:Sort _}{P1 P2 P3:A1->A2->Prop}{G:Prop}(h:∃a1 a2,P1 a1 a2∧P2 a1 a2∧P3 a1 a2)(k:∀a1 a2,P1 a1 a2->P2 a1 a2->P3 a1 a2->G):G:=by obtain⟨a1,a2,p1,p2,p3⟩:=h;exact k a1 a2 p1 p2 p3
theorem tC {A1:Sort _}{A2:Sort _}{P1 P2 P3 P4:A1->A2->Prop}{G:Prop}(h:∃a1 a2,P1 a1 a2∧P2 a1 a2∧P3 a1 a2∧P4 a1 a2)(k:∀a1 a2,P1 a1 a2->P2 a1 a2->P3 a1 a2->P4 a1 a2->G):G:=by obtain⟨a1,a2,p1,p2,p3,p4⟩:=h;exact k a1 a2 p1 p2 p3 p4
theorem ot {A1:Sort _}{A2:Sort _}{A3:Sort _}{P1:A1->A2->A3->Prop}{G:Prop}(h:∃a1 a2 a3,P1 a1 a2 a3)(k:∀a1 a2 a3,P1 a1 a2 a3->G):G:=by obtain⟨a1,a2,a3,p1⟩:=h;exact k a1 a2 a3 p1
theorem lq {A1:Sort _}{A2:Sort _}{A3:Sort _}{P1 P2:A1->A2->A3->Prop}{G:Prop}(h:∃a1 a2 a3,P1 a1 a2 a3∧P2 a1 a2 a3)(k:∀a1 a2 a3,P1 a1 a2 a3->P2 a1 a2 a3->G):G:=by obtain⟨a1,a2,a3,p1,p2⟩:=h;exact k a1 a2 a3 p1 p2
theorem m6 {A1:Sort _}{A2:Sort _}{A3:Sort _}{P1 P2 P3:A1->A2->A3->Prop}{G:Prop}(h:∃a1 a2 a3,P1 a1 a2 a3∧P2 a1 a2 a3∧P3 a1 a2 a3)(k:∀a1 a2 a3,P1 a1 a2 a3->P2 a1 a2 a3->P3 a1 a2 a3->G):G:=by obtain⟨a1,a2,a3,p1,p2,p3⟩:=h;exact k a1 a2 a3 p1 p2 p3
theorem fj {A1:Sort _}{A2:Sort _}{A3:Sort _}{P1 P2 P3 P4:A1->A2->A3->Prop}{G:Prop}(h:∃a1 a2 a3,P1 a1 a2 a3∧P2 a1 a2 a3∧P3 a1 a2 a3∧P4 a1 a2 a3)(k:∀a1 a2 a3,P1 a1 a2 a3->P2 a1 a2 a3->P3 a1 a2 a3->P4 a1 a2 a3->G):G:=by obtain⟨a1,a2,a3,p1,p2,p3,p4⟩:=h;exact k a1 a2 a3 p1 p2 p3 p4
theorem wg {A1:Sort _}{A2:Sort _}{A3:Sort _}{A4:Sort _}{P1:A1->A2->A3->A4->Prop}{G:Prop}(h:∃a1 a2 a3 a4,P1 a1 a2 a3 a4)(k:∀a1 a2 a3 a4,P1 a1 a2 a3 a4->G):G:=by obtain⟨a1,a2,a3,a4,p1⟩:=h;exact k a1 a2 a3 a4 p1
theorem ZT {A1:Sort _}{A2:Sort _}{A3:Sort _}{A4:Sort _}{P1 P2:A1->A2->A3->A4->Prop}{G:Prop}(h:∃a1 a2 a3 a4,P1 a1 a2 a3 a4∧P2 a1 a2 a3 a4)(k:∀a1 a2 a3 a4,P1 a1 a2 a3 a4->P2 a1 a2 a3 a4->G):G:=by obtain⟨a1,a2,a3,a4,p1,p2⟩:=h;exact k a1 a2 a3 a4 p1 p2
theorem ka {A1:Sort _}{A2:Sort _}{A3:Sort _}{A4:Sort _}{P1 P2 P3 P4:A1->A2->A3->A4->Prop}{G:Prop}(h:∃a1 a2 a3 a4,P1 a1 a2 a3 a4∧P2 a1 a2 a3 a4∧P3 a1 a2 a3 a4∧P4 a1 a2 a3 a4)(k:∀a1 a2 a3 a4,P1 a1 a2 a3 a4->P2 a1 a2 a3 a4->P3 a1 a2 a3 a4->P4 a1 a2 a3 a4->G):G:=by obtain⟨a1,a2,a3,a4,p1,p2,p3,p4⟩:=h;exact k a1 a2 a3 a4 p1 p2 p3 p4
theorem ZU {A1:Sort _}{A2:Sort _}{A3:Sort _}{A4:Sort _}{P1 P2 P3 P4 P5:A1->A2->A3->A4->Prop}{G:Prop}(h:∃a1 a2 a3 a4,P1 a1 a2 a3 a4∧P2 a1 a2 a3 a4∧P3 a1 a2 a3 a4∧P4 a1 a2 a3 a4∧P5 a1 a2 a3 a4)(k:∀a1 a2 a3 a4,P1 a1 a2 a3 a4->P2 a1 a2 a3 a4->P3 a1 a2 a3 a4->P4 a1 a2 a3 a4->P5 a1 a2 a3 a4->G):G:=by obtain⟨a1,a2,a3,a4,p1,p2,p3,p4,p5⟩:=h;exact k a1 a2 a3 a4 p1 p2 p3 p4 p5
theorem ZV {A1:Sort _}{A2:Sort _}{A3:Sort _}{A4:Sort _}{A5:Sort _}{P1 P2 P3 P4 P5 P6 P7 P8 P9:A1->A2->A3->A4->A5->Prop}{G:Prop}(h:∃a1 a2 a3 a4 a5,P1 a1 a2 a3 a4 a5∧P2 a1 a2 a3 a4 a5∧P3 a1 a2 a3 a4 a5∧P4 a1 a2 a3 a4 a5∧P5 a1 a2 a3 a4 a5∧P6 a1 a2 a3 a4 a5∧P7 a1 a2 a3 a4 a5∧P8 a1 a2 a3 a4 a5∧P9 a1 a2 a3 a4 a5)(k:∀a1 a2 a3 a4 a5,P1 a1 a2 a3 a4 a5->P2 a1 a2 a3 a4 a5->P3 a1 a2 a3 a4 a5->P4 a1 a2 a3 a4 a5->P5 a1 a2 a3 a4 a5->P6 a1 a2 a3 a4 a5->P7 a1 a2 a3 a4 a5->P8 a1 a2 a3 a4 a5->P9 a1 a2 a3 a4 a5->G):G:=by obtain⟨a1,a2,a3,a4,a5,p1,p2,p3,p4,p5,p6,p7,p8,p9⟩:=h;exact k a1 a2 a3 a4 a5 p1 p2 p3 p4 p5 p6 p7 p8 p9
theorem Ry {A1:Sort _}{A2:Sort _}{A3:Sort _}{A4:Sort _}{A5:Sort _}{A6:Sort _}{P1 P2:A1->A2->A3->A4->A5->A6->Prop}{G:Prop}(h:∃a1 a2 a3 a4 a5 a6,P1 a1 a2 a3 a4 a5 a6∧P2 a1 a2 a3 a4 a5 a6)(k:∀a1 a2 a3 a4 a5 a6,P1 a1 a2 a3 a4 a5 a6->P2 a1 a2 a3 a4 a5 a6->G):G:=by obtain⟨a1,a2,a3,a4,a5,a6,p1,p2⟩:=h;exact k a1 a2 a3 a4 a5 a6 p1 p2
theorem ZW {A1:Sort _}{A2:Sort _}{A3:Sort _}{A4:Sort _}{A5:Sort _}{A6:Sort _}{P1 P2 P3:A1->A2->A3->A4->A5->A6->Prop}{G:Prop}(h:∃a1 a2 a3 a4 a5 a6,P1 a1 a2 a3 a4 a5 a6∧P2 a1 a2 a3 a4 a5 a6∧P3 a1 a2 a3 a4 a5 a6)(k:∀a1 a2 a3 a4 a5 a6,P1 a1 a2 a3 a4 a5 a6->P2 a1 a2 a3 a4 a5 a6->P3 a1 a2 a3 a4 a5 a6->G):G:=by obtain⟨a1,a2,a3,a4,a5,a6,p1,p2,p3⟩:=h;exact k a1 a2 a3 a4 a5 a6 p1 p2 p3
theorem ZX {A1:Sort _}{A2:Sort _}{A3:Sort _}{A4:Sort _}{A5:Sort _}{A6:Sort _}{A7:Sort _}{P1 P2 P3 P4 P5 P6:A1->A2->A3->A4->A5->A6->A7->Prop}{G:Prop}(h:∃a1 a2 a3 a4 a5 a6 a7,P1 a1 a2 a3 a4 a5 a6 a7∧P2 a1 a2 a3 a4 a5 a6 a7∧P3 a1 a2 a3 a4 a5 a6 a7∧P4 a1 a2 a3 a4 a5 a6 a7∧P5 a1 a2 a3 a4 a5 a6 a7∧P6 a1 a2 a3 a4 a5 a6 a7)(k:∀a1 a2 a3 a4 a5 a6 a7,P1 a1 a2 a3 a4 a5 a6 a7->P2 a1 a2 a3 a4 a5 a6 a7->P3 a1 a2 a3 a4 a5 a6 a7->P4 a1 a2 a3 a4 a5 a6 a7->P5 a1 a2 a3 a4 a5 a6 a7->P6 a1 a2 a3 a4 a5 a6 a7->G):G:=by obtain⟨a1,a2,a3,a4,a5,a6,a7,p1,p2,p3,p4,p5,p6⟩:=h;exact k a1 a2 a3 a4 a5 a6 a7 p1 p2 p3 p4 p5 p6
theorem bC {p:Prop}(h:¬p->False):p:=Classical.byContradiction h
theorem oi {α:Type _}{a b:α}(h:some a=some b):a=b:=Option.some.inj h
section
variable {a b c k l m n p:Nat}
theorem aI (h:a≤m)(d:m.ble n=true):a≤n:=Nat.le_trans h (Nat.le_of_ble_eq_true d)
theorem dh (h:a≤m)(d:m.blt n=true):a<n:=Nat.lt_of_le_of_lt h (Nat.le_of_ble_eq_true d)
theorem Hi (h:a<m)(d:m.ble n=true):a<n:=Nat.lt_of_lt_of_le h (Nat.le_of_ble_eq_true d)
theorem lF (h:a<m)(d:m.ble (n+1)=true):a≤n:=Nat.le_of_lt_succ (Hi h d)
theorem nv (h:a≤m)(d:(m+k).ble n=true):a+k≤n:=aI (Nat.add_le_add_right h k) d
theorem jy (h:a≤m)(d:(m+k+l).ble n=true):a+k+l≤n:=aI (Nat.add_le_add_right (Nat.add_le_add_right h k) l) d
theorem nA (h:a≤m)(d:(m+k+l+p).ble n=true):a+k+l+p≤n:=aI (Nat.add_le_add_right (Nat.add_le_add_right (Nat.add_le_add_right h k) l) p) d
theorem nB {q:Nat}(h:a≤m)(d:(m+k+l+p+q).ble n=true):a+k+l+p+q≤n:=aI (Nat.add_le_add_right (Nat.add_le_add_right (Nat.add_le_add_right (Nat.add_le_add_right h k) l) p) q) d
theorem bR (h:m≤a)(d:n.ble m=true):n≤a:=Nat.le_trans (Nat.le_of_ble_eq_true d) h
theorem ie (h:a≤m)(h':n≤b)(d:m.blt n=true):a<b:=Nat.lt_of_lt_of_le (dh h d) h'
theorem Rz (h:a<m)(h':n≤b)(d:m.ble n=true):a<b:=Nat.lt_of_lt_of_le (Hi h d) h'
theorem Hj (h:m≤a)(d:Nat.ble 1 m=true):a=a - 1+1:=(Nat.sub_add_cancel (bR h d)).symm
theorem uj (h:m≤a)(d:Nat.ble 2 m=true):a=a - 2+1+1:=(Nat.sub_add_cancel (bR h d)).symm
theorem RA (h:m≤a)(d:Nat.ble 3 m=true):a=a - 3+1+1+1:=(Nat.sub_add_cancel (bR h d)).symm
theorem zQ (h:m≤a)(d:Nat.ble 4 m=true):a=a - 4+1+1+1+1:=(Nat.sub_add_cancel (bR h d)).symm
theorem dz (d:k.blt l=true):a+k<a+l:=Nat.add_lt_add_left (Nat.le_of_ble_eq_true d) a
theorem OA (d:k.ble l=true):a+k≤a+l:=Nat.add_le_add_left (Nat.le_of_ble_eq_true d) a
theorem l8 (e:a=b)(h:b≤m)(d:m.ble n=true):a≤n:=e▸aI h d
theorem OB (e:b=a)(h:b≤m)(d:m.ble n=true):a≤n:=e▸aI h d
theorem RB (e:b=a)(h:b≤m)(h':n≤c)(d:m.blt n=true):a<c:=e▸ie h h' d
theorem J2 (h:a<b):(a:Int)<(b:Int):=Int.ofNat_lt.mpr h
theorem ZY (h:a≤b):(a:Int)≤(b:Int):=Int.ofNat_le.mpr h
theorem J3 (h:a=b):(a:Int)=(b:Int):=congrArg Int.ofNat h
theorem zR {P:Prop}(h:(a:Int)<0):P:=absurd h (Int.not_lt.mpr (Int.natCast_nonneg a))
theorem Ec (h:a≤m)(d:m.ble n=true):(a:Int)≤(OfNat.ofNat n:Int):=Int.ofNat_le.mpr (aI h d)
theorem RC (h:a<m)(d:m.ble (n+1)=true):(a:Int)≤(OfNat.ofNat n:Int):=Int.ofNat_le.mpr (lF h d)
theorem yy:a+b - a=b:=by rw[Nat.add_sub_cancel_left]
theorem Hk (h:a - b=c+1):b<a:=Nat.lt_of_sub_pos (h▸Nat.succ_pos c)
theorem MU (h:a<n)(h':n≤b):¬b=a:=λe=>Nat.not_le_of_lt h (e▸h')
theorem RE (h:a<n)(h':n≤b):¬a=b:=λe=>MU h h' e.symm
theorem RF (h:a≤m)(h':b≤n)(d:(m+n).ble k=true):a+b≤k:=aI (Nat.add_le_add h h') d
theorem WS (h:a≤m)(h':b≤n)(dG:c≤p)(d:(m+n+p).ble k=true):a+b+c≤k:=aI (Nat.add_le_add (Nat.add_le_add h h') dG) d
theorem RG {x y:Nat}(h:x≤y+1)(h':y≤a):x≤a+1:=Nat.le_trans h (Nat.succ_le_succ h')
theorem Ed (h:a+1<b+1):a<b:=Nat.lt_of_succ_lt_succ h
theorem WT {h1 h2 x:Nat}(h:x<h1)(h':h1+k<h2):x<h2:=Nat.lt_trans h (Nat.lt_of_le_of_lt (Nat.le_add_right _ _) h')
theorem l9 (h:a+b≤m):a≤m:=Nat.le_trans (Nat.le_add_right a b) h
theorem Hl (h:a+b≤m)(d:m.ble n=true):a≤n:=aI (l9 h) d
theorem uk (h:a+b≤m)(d:m.blt n=true):a<n:=dh (l9 h) d
theorem Hm (h:a+b≤m)(d:(m+k).blt n=true):a+k<n:=Nat.lt_of_le_of_lt (Nat.add_le_add_right (l9 h) k) (Nat.le_of_ble_eq_true d)
theorem yz (h:a+k<n)(d:l.ble k=true):a+l<n:=Nat.lt_of_le_of_lt (OA d) h
theorem RH (h:a+k<n)(d:(l+p).ble k=true):a+l+p<n:=Nat.add_assoc a l p▸yz h d
theorem WU (h:a+k<n):a<n:=Nat.lt_of_le_of_lt (Nat.le_add_right a k) h
theorem OC {q r:Nat}(h:a≤m)(d:(m+k+l+p+q+r).ble n=true):a+k+l+p+q+r≤n:=nv (nB (n:=m+k+l+p+q) h (Nat.ble_eq_true_of_le (Nat.le_refl _))) d
theorem RI {j x:Nat}(h:j<x)(h':x≤m)(d:m.ble n=true):j≤n:=Nat.le_trans (Nat.le_of_lt h) (aI h' d)
theorem RJ {r q:Nat}(h:r≤q)(h':q≤m)(d:m.ble n=true):r≤n:=Nat.le_trans h (aI h' d)
theorem OD {r q N:Nat}(h:r≤q)(h':q≤m)(dG:n≤N)(d:m.blt n=true):r<N:=Nat.lt_of_le_of_lt h (ie h' dG d)
theorem OE (h:a≤n)(h':b≤m)(dG:n+m≤k):a+b≤k:=Nat.le_trans (Nat.add_le_add h h') dG
theorem J4 {x:Nat}(h:x≤m)(d:m.ble n=true):0+x≤n:=(Nat.zero_add x).symm▸aI h d
theorem WV {x y:Nat}(e:x=y)(h:x≤m)(d:m.ble n=true):0+y≤n:=J4 (e▸h) d
theorem WW {x:Nat}(h:x<m)(d:m.ble (n+1)=true):0+x≤n:=J4 (Nat.le_refl x) (Nat.ble_eq_true_of_le (lF h d))
theorem ml1 {j:Nat}(h:j≤m)(d:(k+l*m).ble n=true):k+l*j≤n:=aI (Nat.add_le_add_left (Nat.mul_le_mul_left l h) k) d
theorem Yu {j:Nat}(h:j≤m)(d:(k+l*m+p).ble n=true):k+l*j+p≤n:=nv (Nat.add_le_add_left (Nat.mul_le_mul_left l h) k) d
theorem Ee {P:Prop}(h:P∧(a:Int)<(b:Int)):a<b:=Int.ofNat_lt.mp h.2
theorem MV {P:Prop}(h:P∧(a:Int)<(b:Int))(h':b≤m)(d:m.ble n=true):a≤n:=RI (Ee h) h' d
theorem Ef {P:Prop}(h:0<a)(e:(a:Int)=0):P:=absurd (Int.ofNat.inj e) (Nat.ne_of_gt h)
theorem RK {P:Prop}(e:(a:Int)+1=0):P:=absurd (Int.ofNat.inj e) (Nat.succ_ne_zero a)
theorem ZZ:a+k+c≤a+(c+k):=Nat.le_of_eq (by rw[Nat.add_assoc,Nat.add_comm k c])
theorem MW (h:a+(b+k)≤m):a+k+b≤m:=(by rw[Nat.add_assoc,Nat.add_comm k b];exact h)
theorem MX {a' b':Nat}(h:a+b≤m)(e:a'=a)(f:b'=b):a'+b'≤m:=e▸f▸h
theorem RL {a' b':Nat}(h:a+b≤m)(e:a'=a)(f:b'=b):a'+b'≤m+k:=Nat.le_trans (MX h e f) (Nat.le_add_right m k)
theorem RM {a':Nat}(h:a+b≤m)(e:a'=a):a'≤m:=e▸l9 h
theorem RN {x:Nat}{P:Prop}(h:a≤m)(h':m<x∧P):a≤x:=Nat.le_of_lt (Nat.lt_of_le_of_lt h h'.1)
theorem MY {x y:Nat}(h:p≤x)(h':y≤x - p):p+y≤x:=Nat.add_comm p y▸Nat.add_le_of_le_sub h h'
theorem WX {x y N:Nat}(h:x<N)(h':y≤x - p):y<N:=Nat.lt_of_le_of_lt (Nat.le_trans h' (Nat.sub_le x p)) h
theorem Z0 (h:¬a≤b):b - a=0:=Nat.sub_eq_zero_of_le (Nat.le_of_not_le h)
theorem Z1 (h:a≤b):min a b=a:=Nat.min_eq_left h
theorem Z2 (h:a≤n)(h':b≤n):max a b≤n:=Nat.max_le.mpr ⟨h,h'⟩
theorem Z3 (h:a≤n):a+k≤n+k:=Nat.add_le_add_right h k
theorem Z4 {d:Nat}:a+k+b+l=a+(b+(k+l)):=by rw[Nat.add_right_comm a k b,Nat.add_assoc,Nat.add_assoc]
theorem WY {P:Prop}(h:a<b)(e:a=b):P:=absurd e (Nat.ne_of_lt h)
end
end
noncomputable abbrev sq (s:String) (n:Nat):Value:=.str (Str.ofString s) n
abbrev dk (P:Params)(s:String)(n:Nat)(v:Value):DictEntry:=⟨PyData.keyHash P (Str.ofString s),sq s n,v⟩
noncomputable abbrev pw:Program:=PySem.Challenge.pw_pq0375_01
def bg (i:Nat):Stmt:=(pw.main.body[i]?).getD (.Pass default)
def aK (i j:Nat):Stmt:=match bg i with
 |.ClassDef _ _ _ b _ _ _ _ _ _ _=>(b[j]?).getD (.Pass default)
 |s=>s
noncomputable def bf:Stmt->Arguments
 |.FunctionDef _ a _ _ _ _ _ _ _ _=>a
 |_=>default
noncomputable def di:Stmt->List Stmt
 |.FunctionDef _ _ b _ _ _ _ _ _ _=>b
 |_=>[]
noncomputable def aw:Stmt->Scope
 |.FunctionDef _ _ _ _ _ _ s _ _ _=>s
 |_=>default
def qe (name qual:Str)(st:Stmt)(cl:List (Str×Addr))(pm code ct:Value):FuncData :=
 {name:=name,qualname:=qual,params:=bf st,body:=.stmts (di st),scope:=aw st,globals:=3,closure:=cl,
  defaults:=.none,kwdefaults:=.none,doc:=.none,pyModule:=pm,annotations:=none,code:=code,closureTuple:=ct,builtins:=0}
abbrev co (a:Addr)(n:String)(s:Nat)(q:String)(s1 s2:Nat)(l b i1 i2 i3:Int)(r r1 r2 r3 r4:Addr)(x:Int)(y:Nat):Addr×Obj :=
 (a,⟨(.type "code"),none,(.fields #[sq n s,sq q s1,sq "/claim/cut.py" s2,.int l 0,.int b 0,.int i1 0,.int i2 0,.int i3 0,.ref r,.bool true,.int 181 0,.ref r1,.none,.ref r2,.ref r3,.ref r4,.int x 0,.int l 0,sq "/claim/cut.py" y]),#[]⟩)
abbrev fo (a:Addr)(n q:String)(st:Stmt)(cl:List (Str×Addr))(m:Value)(c:Addr)(t:Value):Addr×Obj :=
 (a,⟨(.type "function"),none,(.func (qe (Str.ofString n) (Str.ofString q) st cl m (.ref c) t)),#[]⟩)
def K (P:Params):Frag :=
 [
 (2,⟨.none,none,(.dict #[dk P "type.__subclasses__.Exception.0" 223 (.int 40 0),dk P "type.__subclasses__.Exception.n" 224 (.int 1 0)] 2),#[]⟩),
 (3,⟨(.type "dict"),none,(.dict #[dk P "__name__" 165 (sq "law_pq0375_01" 849),dk P "__doc__" 166 .none,dk P "__package__" 167 .none,dk P "__loader__" 168 (.builtin "__main__.__loader__#opaque"),dk P "__spec__" 169 .none,dk P "__annotations__" 170 (.ref 6),dk P "__builtins__" 171 (.ref 4),dk P "__file__" 173 (sq "/claim/cut.py" 172),dk P "__cached__" 174 .none,dk P "FdError" 226 (.ref 40),dk P "SpotFault" 261 (.ref 69),dk P "TextFault" 277 (.ref 81),dk P "GOALS" 283 (.ref 84),dk P "LINEAR" 287 (.ref 85),dk P "STRENGTHS" 290 (.ref 86),dk P "DIGITS" 292 (sq "0123456789" 291),dk P "LETTERS" 294 (sq "abcdefghijklmnopqrstuvwxyzABCDEFGHIJKLMNOPQRSTUVWXYZ_" 293),dk P "SIGNS" 296 (sq "()[]{},;:" 295),dk P "MOST_DIGITS" 298 (.int (1000) 297),dk P "FORMS" 392 (.ref 87),dk P "PAIRS" 425 (.ref 89),dk P "Flat" 488 (.ref 150),dk P "is_number" 495 (.ref 161),dk P "is_row_of_numbers" 501 (.ref 166),dk P "is_var" 509 (.ref 173),dk P "fits" 515 (.ref 178),dk P "machine_fault" 521 (.ref 183),dk P "told_fault" 527 (.ref 188),dk P "truths_of" 535 (.ref 195),dk P "is_truth" 541 (.ref 200),dk P "piece_fault" 550 (.ref 207),dk P "shown_fault" 562 (.ref 214),dk P "FlatScanner" 646 (.ref 273),dk P "DataReader" 744 (.ref 350),dk P "FlatReader" 848 (.ref 434),dk P "_law_dip" 860 (.ref 443),dk P "_law_put" 869 (.ref 450),dk P "_law_broken" 877 (.ref 457),dk P "_law_variable" 890 (.ref 464),dk P "_law_var" 897 (.ref 471),dk P "_law_constraint" 909 (.ref 478),dk P "_law_goal" 919 (.ref 485),dk P "_law_output" 932 (.ref 492),dk P "_law_unread" 942 (.ref 499),dk P "_law_is_right" 948 (.ref 504),dk P "law" 954 (.ref 509)] 46),#[]⟩),
 (18,⟨(.type "cell"),none,(.cell (some (.ref 40))),#[]⟩),
 co 29 "__init__" 201 "FdError.__init__" 202 203 4 2 0 0 3 24 25 26 27 28 207 208,
 fo 30 "__init__" "FdError.__init__" (aK 1 0) [((Str.ofString "__class__"),18)] (sq "fdsolve.errors" 187) 29 (.ref 23),
 (38,⟨(.type "tuple"),none,(.seq #[(sq "what" 217)] 0),#[]⟩),
 (39,⟨(.type "dict"),none,(.dict #[dk P "__module__" 196 (sq "fdsolve.errors" 187),dk P "__firstlineno__" 200 (.int (2) 199),dk P "__init__" 209 (.ref 30),dk P "told" 216 (.ref 37),dk P "__static_attributes__" 218 (.ref 38),dk P "__weakref__" 221 (.ref 41),dk P "__doc__" 222 .none] 4),#[]⟩),
 (40,⟨(.type "type"),none,(.cls {name:=(Str.ofString "FdError"),bases:=[(.type "Exception")],mro:=[(.ref 40),(.type "Exception"),(.type "BaseException"),(.type "object")],ns:=39,qualname:=(Str.ofString "FdError"),hasDict:=true,slotNames:=[],subclasses:=[(.ref 69)],abstract:=false,collection:=none,hasDel:=false}),#[(some (.ref 15)),none,(some (sq "FdError" 189)),(some (sq "FdError" 197)),(some (.builtin "Exception.__new__")),(some (.bool true))]⟩),
 (41,⟨(.type "getset_descriptor"),none,(.fields #[(sq "__weakref__" 220),(.ref 40),(.builtin "ExceptionGroup.__weakref__"),.none]),#[]⟩),
 (47,⟨(.type "cell"),none,(.cell (some (.ref 69))),#[]⟩),
 co 58 "__init__" 239 "SpotFault.__init__" 240 241 12 3 0 0 3 53 54 55 56 57 246 247,
 fo 59 "__init__" "SpotFault.__init__" (aK 2 0) [((Str.ofString "__class__"),47)] (sq "fdsolve.errors" 187) 58 (.ref 52),
 (68,⟨(.type "dict"),none,(.dict #[dk P "__module__" 234 (sq "fdsolve.errors" 187),dk P "__firstlineno__" 238 (.int (10) 237),dk P "__init__" 248 (.ref 59),dk P "told" 255 (.ref 66),dk P "__static_attributes__" 257 (.ref 67),dk P "__doc__" 259 .none] 3),#[]⟩),
 (69,⟨(.type "type"),none,(.cls {name:=(Str.ofString "SpotFault"),bases:=[(.ref 40)],mro:=[(.ref 69),(.ref 40),(.type "Exception"),(.type "BaseException"),(.type "object")],ns:=68,qualname:=(Str.ofString "SpotFault"),hasDict:=true,slotNames:=[],subclasses:=[(.ref 81)],abstract:=false,collection:=none,hasDel:=false}),#[(some (.ref 44)),none,(some (sq "SpotFault" 227)),(some (sq "SpotFault" 235)),(some (.builtin "Exception.__new__")),(some (.bool true))]⟩),
 (80,⟨(.type "dict"),none,(.dict #[dk P "__module__" 269 (sq "fdsolve.errors" 187),dk P "__firstlineno__" 273 (.int (18) 272),dk P "__static_attributes__" 274 (.ref 79),dk P "__doc__" 275 .none] 2),#[]⟩),
 (81,⟨(.type "type"),none,(.cls {name:=(Str.ofString "TextFault"),bases:=[(.ref 69)],mro:=[(.ref 81),(.ref 69),(.ref 40),(.type "Exception"),(.type "BaseException"),(.type "object")],ns:=80,qualname:=(Str.ofString "TextFault"),hasDict:=true,slotNames:=[],subclasses:=[],abstract:=false,collection:=none,hasDel:=false}),#[(some (.ref 72)),none,(some (sq "TextFault" 262)),(some (sq "TextFault" 270)),(some (.builtin "Exception.__new__")),(some (.bool true))]⟩),
 (84,⟨(.type "tuple"),none,(.seq #[(sq "satisfy" 280),(sq "minimize" 281),(sq "maximize" 282)] 0),#[]⟩),
 (85,⟨(.type "tuple"),none,(.seq #[(sq "linear_le" 284),(sq "linear_eq" 285),(sq "linear_ne" 286)] 0),#[]⟩),
 (86,⟨(.type "tuple"),none,(.seq #[(sq "bounds" 288),(sq "values" 289)] 0),#[]⟩),
 (87,⟨(.type "dict"),none,(.dict #[dk P "linear_le" 299 (sq "NXn" 300),dk P "linear_eq" 302 (sq "NXn" 303),dk P "linear_ne" 305 (sq "NXn" 306),dk P "times" 308 (sq "xxx" 309),dk P "div" 311 (sq "xxx" 312),dk P "mod" 314 (sq "xxx" 315),dk P "abs" 317 (sq "xx" 318),dk P "max" 320 (sq "Xx" 321),dk P "min" 323 (sq "Xx" 324),dk P "element" 326 (sq "xXx" 327),dk P "element_of" 329 (sq "xNx" 330),dk P "table" 332 (sq "XR" 333),dk P "all_different" 335 (sq "Xs" 336),dk P "count" 338 (sq "Xnx" 339),dk P "nvalue" 341 (sq "Xx" 342),dk P "cardinality" 344 (sq "XNNN" 345),dk P "cumulative" 347 (sq "XNNn" 348),dk P "disjunctive" 350 (sq "XN" 351),dk P "circuit" 352 (sq "X" 353),dk P "inverse" 354 (sq "XX" 355),dk P "regular" 356 (sq "XnnRnN" 357),dk P "lex_le" 358 (sq "XX" 359),dk P "lex_lt" 360 (sq "XX" 361),dk P "increasing" 362 (sq "X" 363),dk P "precede" 364 (sq "nnX" 365),dk P "clause" 366 (sq "XX" 367),dk P "and" 368 (sq "Xx" 369),dk P "or" 370 (sq "Xx" 371),dk P "xor" 372 (sq "xxx" 373),dk P "reif" 374 (sq "xt" 375),dk P "imp" 376 (sq "xt" 377)] 31),#[]⟩),
 (88,⟨(.type "dict"),none,(.dict #[dk P "disjunctive" 350 (sq "XN" 351),dk P "circuit" 352 (sq "X" 353),dk P "inverse" 354 (sq "XX" 355),dk P "regular" 356 (sq "XnnRnN" 357),dk P "lex_le" 358 (sq "XX" 359),dk P "lex_lt" 360 (sq "XX" 361),dk P "increasing" 362 (sq "X" 363),dk P "precede" 364 (sq "nnX" 365),dk P "clause" 366 (sq "XX" 367),dk P "and" 368 (sq "Xx" 369),dk P "or" 370 (sq "Xx" 371),dk P "xor" 372 (sq "xxx" 373),dk P "reif" 374 (sq "xt" 375),dk P "imp" 376 (sq "xt" 377)] 14),#[]⟩),
 (89,⟨(.type "dict"),none,(.dict #[dk P "linear_le" 393 (.ref 91),dk P "linear_eq" 396 (.ref 93),dk P "linear_ne" 399 (.ref 95),dk P "cardinality" 402 (.ref 98),dk P "cumulative" 407 (.ref 101),dk P "disjunctive" 412 (.ref 103),dk P "inverse" 415 (.ref 105)] 7),#[]⟩),
 (90,⟨(.type "tuple"),none,(.seq #[(.int (1) 394),(.int (2) 395)] 0),#[]⟩),
 (91,⟨(.type "tuple"),none,(.seq #[(.ref 90)] 0),#[]⟩),
 (92,⟨(.type "tuple"),none,(.seq #[(.int (1) 397),(.int (2) 398)] 0),#[]⟩),
 (93,⟨(.type "tuple"),none,(.seq #[(.ref 92)] 0),#[]⟩),
 (94,⟨(.type "tuple"),none,(.seq #[(.int (1) 400),(.int (2) 401)] 0),#[]⟩),
 (95,⟨(.type "tuple"),none,(.seq #[(.ref 94)] 0),#[]⟩),
 (96,⟨(.type "tuple"),none,(.seq #[(.int (2) 403),(.int (3) 404)] 0),#[]⟩),
 (97,⟨(.type "tuple"),none,(.seq #[(.int (2) 405),(.int (4) 406)] 0),#[]⟩),
 (98,⟨(.type "tuple"),none,(.seq #[(.ref 96),(.ref 97)] 0),#[]⟩),
 (99,⟨(.type "tuple"),none,(.seq #[(.int (1) 408),(.int (2) 409)] 0),#[]⟩),
 (100,⟨(.type "tuple"),none,(.seq #[(.int (1) 410),(.int (3) 411)] 0),#[]⟩),
 (101,⟨(.type "tuple"),none,(.seq #[(.ref 99),(.ref 100)] 0),#[]⟩),
 (102,⟨(.type "tuple"),none,(.seq #[(.int (1) 413),(.int (2) 414)] 0),#[]⟩),
 (103,⟨(.type "tuple"),none,(.seq #[(.ref 102)] 0),#[]⟩),
 (104,⟨(.type "tuple"),none,(.seq #[(.int (1) 416),(.int (2) 417)] 0),#[]⟩),
 (105,⟨(.type "tuple"),none,(.seq #[(.ref 104)] 0),#[]⟩),
 co 118 "__init__" 438 "Flat.__init__" 439 440 32 1 0 0 3 113 114 115 116 117 442 443,
 fo 119 "__init__" "Flat.__init__" (aK 14 0) [] (sq "fdsolve.flat" 278) 118 .none,
 co 125 "new_var" 445 "Flat.new_var" 446 447 38 3 0 0 3 120 121 122 123 124 451 452,
 fo 126 "new_var" "Flat.new_var" (aK 14 1) [] (sq "fdsolve.flat" 278) 125 .none,
 co 132 "post" 454 "Flat.post" 455 456 42 2 0 0 3 127 128 129 130 131 459 460,
 fo 133 "post" "Flat.post" (aK 14 2) [] (sq "fdsolve.flat" 278) 132 .none,
 co 139 "size" 462 "Flat.size" 463 464 45 1 0 0 3 134 135 136 137 138 466 467,
 fo 140 "size" "Flat.size" (aK 14 3) [] (sq "fdsolve.flat" 278) 139 .none,
 co 146 "domain_of" 469 "Flat.domain_of" 470 471 48 2 0 0 3 141 142 143 144 145 474 475,
 fo 147 "domain_of" "Flat.domain_of" (aK 14 4) [] (sq "fdsolve.flat" 278) 146 .none,
 (149,⟨(.type "dict"),none,(.dict #[dk P "__module__" 433 (sq "fdsolve.flat" 278),dk P "__firstlineno__" 437 (.int (30) 436),dk P "__init__" 444 (.ref 119),dk P "new_var" 453 (.ref 126),dk P "post" 461 (.ref 133),dk P "size" 468 (.ref 140),dk P "domain_of" 476 (.ref 147),dk P "__static_attributes__" 481 (.ref 148),dk P "__dict__" 483 (.ref 151),dk P "__weakref__" 485 (.ref 152),dk P "__doc__" 486 .none] 4),#[]⟩),
 (150,⟨(.type "type"),none,(.cls {name:=(Str.ofString "Flat"),bases:=[(.type "object")],mro:=[(.ref 150),(.type "object")],ns:=149,qualname:=(Str.ofString "Flat"),hasDict:=true,slotNames:=[],subclasses:=[],abstract:=false,collection:=none,hasDel:=false}),#[none,none,(some (sq "Flat" 426)),(some (sq "Flat" 434)),(some (.builtin "object.__new__")),(some (.bool true))]⟩),
 (151,⟨(.type "getset_descriptor"),none,(.fields #[(sq "__dict__" 482),(.ref 150),(.builtin "function.__dict__"),(.builtin "function.__dict__#set")]),#[]⟩),
 (152,⟨(.type "getset_descriptor"),none,(.fields #[(sq "__weakref__" 484),(.ref 150),(.builtin "ExceptionGroup.__weakref__"),.none]),#[]⟩),
 co 160 "is_number" 489 "is_number" 490 491 50 1 0 0 3 155 156 157 158 159 493 494,
 fo 161 "is_number" "is_number" (bg 15) [] (sq "fdsolve.flat" 278) 160 .none,
 (165,⟨(.type "code"),none,(.fields #[(sq "is_row_of_numbers" 496),(sq "is_row_of_numbers" 497),(sq "/claim/cut.py" 498),(.int 52 0),(.int 1 0),(.int 0 0),(.int 0 0),(.int 3 0),(.ref 162),(.bool true),(.int 181 0),(.ref 163),.none,.none,.none,(.ref 164),(.int 499 0),(.int 52 0),(sq "/claim/cut.py" 500)]),#[]⟩),
 fo 166 "is_row_of_numbers" "is_row_of_numbers" (bg 16) [] (sq "fdsolve.flat" 278) 165 .none,
 co 172 "is_var" 502 "is_var" 503 504 54 2 0 0 3 167 168 169 170 171 507 508,
 fo 173 "is_var" "is_var" (bg 17) [] (sq "fdsolve.flat" 278) 172 .none,
 (177,⟨(.type "code"),none,(.fields #[(sq "fits" 510),(sq "fits" 511),(sq "/claim/cut.py" 512),(.int 56 0),(.int 3 0),(.int 0 0),(.int 0 0),(.int 3 0),(.ref 174),(.bool true),(.int 181 0),(.ref 175),.none,.none,.none,(.ref 176),(.int 513 0),(.int 56 0),(sq "/claim/cut.py" 514)]),#[]⟩),
 fo 178 "fits" "fits" (bg 18) [] (sq "fdsolve.flat" 278) 177 .none,
 (187,⟨(.type "code"),none,(.fields #[(sq "told_fault" 522),(sq "told_fault" 523),(sq "/claim/cut.py" 524),(.int 79 0),(.int 2 0),(.int 0 0),(.int 0 0),(.int 3 0),(.ref 184),(.bool true),(.int 181 0),(.ref 185),.none,.none,.none,(.ref 186),(.int 525 0),(.int 79 0),(sq "/claim/cut.py" 526)]),#[]⟩),
 fo 188 "told_fault" "told_fault" (bg 20) [] (sq "fdsolve.flat" 278) 187 .none,
 co 194 "truths_of" 528 "truths_of" 529 530 100 1 0 0 3 189 190 191 192 193 533 534,
 fo 195 "truths_of" "truths_of" (bg 21) [] (sq "fdsolve.flat" 278) 194 .none,
 (199,⟨(.type "code"),none,(.fields #[(sq "is_truth" 536),(sq "is_truth" 537),(sq "/claim/cut.py" 538),(.int 109 0),(.int 1 0),(.int 0 0),(.int 0 0),(.int 3 0),(.ref 196),(.bool true),(.int 181 0),(.ref 197),.none,.none,.none,(.ref 198),(.int 539 0),(.int 109 0),(sq "/claim/cut.py" 540)]),#[]⟩),
 fo 200 "is_truth" "is_truth" (bg 22) [] (sq "fdsolve.flat" 278) 199 .none,
 co 206 "piece_fault" 542 "piece_fault" 543 544 111 3 0 0 3 201 202 203 204 205 548 549,
 fo 207 "piece_fault" "piece_fault" (bg 23) [] (sq "fdsolve.flat" 278) 206 .none,
 co 213 "shown_fault" 551 "shown_fault" 552 553 125 2 0 0 3 208 209 210 211 212 560 561,
 fo 214 "shown_fault" "shown_fault" (bg 24) [] (sq "fdsolve.flat" 278) 213 .none,
 co 227 "__init__" 575 "FlatScanner.__init__" 576 577 138 2 0 0 3 222 223 224 225 226 580 581,
 fo 228 "__init__" "FlatScanner.__init__" (aK 25 0) [] (sq "fdsolve.flat" 278) 227 .none,
 co 234 "sign" 583 "FlatScanner.sign" 584 585 142 1 0 0 3 229 230 231 232 233 587 588,
 fo 235 "sign" "FlatScanner.sign" (aK 25 1) [] (sq "fdsolve.flat" 278) 234 .none,
 co 241 "skip" 590 "FlatScanner.skip" 591 592 145 1 0 0 3 236 237 238 239 240 595 596,
 fo 242 "skip" "FlatScanner.skip" (aK 25 2) [] (sq "fdsolve.flat" 278) 241 .none,
 co 248 "run_of" 598 "FlatScanner.run_of" 599 600 152 2 0 0 3 243 244 245 246 247 605 606,
 fo 249 "run_of" "FlatScanner.run_of" (aK 25 3) [] (sq "fdsolve.flat" 278) 248 .none,
 co 255 "quotation" 608 "FlatScanner.quotation" 609 610 159 1 0 0 3 250 251 252 253 254 615 616,
 fo 256 "quotation" "FlatScanner.quotation" (aK 25 4) [] (sq "fdsolve.flat" 278) 255 .none,
 co 262 "number" 618 "FlatScanner.number" 619 620 176 1 0 0 3 257 258 259 260 261 625 626,
 fo 263 "number" "FlatScanner.number" (aK 25 5) [] (sq "fdsolve.flat" 278) 262 .none,
 co 269 "token" 628 "FlatScanner.token" 629 630 185 1 0 0 3 264 265 266 267 268 634 635,
 fo 270 "token" "FlatScanner.token" (aK 25 6) [] (sq "fdsolve.flat" 278) 269 .none,
 (272,⟨(.type "dict"),none,(.dict #[dk P "__module__" 570 (sq "fdsolve.flat" 278),dk P "__firstlineno__" 574 (.int (136) 573),dk P "__init__" 582 (.ref 228),dk P "sign" 589 (.ref 235),dk P "skip" 597 (.ref 242),dk P "run_of" 607 (.ref 249),dk P "quotation" 617 (.ref 256),dk P "number" 627 (.ref 263),dk P "token" 636 (.ref 270),dk P "__static_attributes__" 639 (.ref 271),dk P "__dict__" 641 (.ref 274),dk P "__weakref__" 643 (.ref 275),dk P "__doc__" 644 .none] 4),#[]⟩),
 (273,⟨(.type "type"),none,(.cls {name:=(Str.ofString "FlatScanner"),bases:=[(.type "object")],mro:=[(.ref 273),(.type "object")],ns:=272,qualname:=(Str.ofString "FlatScanner"),hasDict:=true,slotNames:=[],subclasses:=[],abstract:=false,collection:=none,hasDel:=false}),#[none,none,(some (sq "FlatScanner" 563)),(some (sq "FlatScanner" 571)),(some (.builtin "object.__new__")),(some (.bool true))]⟩),
 (274,⟨(.type "getset_descriptor"),none,(.fields #[(sq "__dict__" 640),(.ref 273),(.builtin "function.__dict__"),(.builtin "function.__dict__#set")]),#[]⟩),
 (275,⟨(.type "getset_descriptor"),none,(.fields #[(sq "__weakref__" 642),(.ref 273),(.builtin "ExceptionGroup.__weakref__"),.none]),#[]⟩),
 co 290 "__init__" 659 "DataReader.__init__" 660 661 205 2 0 0 3 285 286 287 288 289 664 665,
 fo 291 "__init__" "DataReader.__init__" (aK 26 0) [] (sq "fdsolve.flat" 278) 290 .none,
 co 297 "take" 667 "DataReader.take" 668 669 209 1 0 0 3 292 293 294 295 296 672 673,
 fo 298 "take" "DataReader.take" (aK 26 1) [] (sq "fdsolve.flat" 278) 297 .none,
 co 304 "is_sign" 675 "DataReader.is_sign" 676 677 214 2 0 0 3 299 300 301 302 303 680 681,
 fo 305 "is_sign" "DataReader.is_sign" (aK 26 2) [] (sq "fdsolve.flat" 278) 304 .none,
 co 311 "want" 683 "DataReader.want" 684 685 217 2 0 0 3 306 307 308 309 310 688 689,
 fo 312 "want" "DataReader.want" (aK 26 3) [] (sq "fdsolve.flat" 278) 311 .none,
 co 318 "number" 691 "DataReader.number" 692 693 222 1 0 0 3 313 314 315 316 317 695 696,
 fo 319 "number" "DataReader.number" (aK 26 4) [] (sq "fdsolve.flat" 278) 318 .none,
 co 325 "word_value" 698 "DataReader.word_value" 699 700 227 2 0 0 3 320 321 322 323 324 703 704,
 fo 326 "word_value" "DataReader.word_value" (aK 26 5) [] (sq "fdsolve.flat" 278) 325 .none,
 co 332 "opened" 706 "DataReader.opened" 707 708 234 2 0 0 3 327 328 329 330 331 712 713,
 fo 333 "opened" "DataReader.opened" (aK 26 6) [] (sq "fdsolve.flat" 278) 332 .none,
 co 339 "closed" 715 "DataReader.closed" 716 717 247 2 0 0 3 334 335 336 337 338 722 723,
 fo 340 "closed" "DataReader.closed" (aK 26 7) [] (sq "fdsolve.flat" 278) 339 .none,
 co 346 "data" 725 "DataReader.data" 726 727 256 1 0 0 3 341 342 343 344 345 732 733,
 fo 347 "data" "DataReader.data" (aK 26 8) [] (sq "fdsolve.flat" 278) 346 .none,
 (349,⟨(.type "dict"),none,(.dict #[dk P "__module__" 654 (sq "fdsolve.flat" 278),dk P "__firstlineno__" 658 (.int (203) 657),dk P "__init__" 666 (.ref 291),dk P "take" 674 (.ref 298),dk P "is_sign" 682 (.ref 305),dk P "want" 690 (.ref 312),dk P "number" 697 (.ref 319),dk P "word_value" 705 (.ref 326),dk P "opened" 714 (.ref 333),dk P "closed" 724 (.ref 340),dk P "data" 734 (.ref 347),dk P "__static_attributes__" 737 (.ref 348),dk P "__dict__" 739 (.ref 351),dk P "__weakref__" 741 (.ref 352),dk P "__doc__" 742 .none] 4),#[]⟩),
 (350,⟨(.type "type"),none,(.cls {name:=(Str.ofString "DataReader"),bases:=[(.type "object")],mro:=[(.ref 350),(.type "object")],ns:=349,qualname:=(Str.ofString "DataReader"),hasDict:=true,slotNames:=[],subclasses:=[(.ref 434)],abstract:=false,collection:=none,hasDel:=false}),#[none,none,(some (sq "DataReader" 647)),(some (sq "DataReader" 655)),(some (.builtin "object.__new__")),(some (.bool true))]⟩),
 (351,⟨(.type "getset_descriptor"),none,(.fields #[(sq "__dict__" 738),(.ref 350),(.builtin "function.__dict__"),(.builtin "function.__dict__#set")]),#[]⟩),
 (352,⟨(.type "getset_descriptor"),none,(.fields #[(sq "__weakref__" 740),(.ref 350),(.builtin "ExceptionGroup.__weakref__"),.none]),#[]⟩),
 (358,⟨(.type "cell"),none,(.cell (some (.ref 434))),#[]⟩),
 co 369 "__init__" 757 "FlatReader.__init__" 758 759 267 2 0 0 3 364 365 366 367 368 763 764,
 fo 370 "__init__" "FlatReader.__init__" (aK 27 0) [((Str.ofString "__class__"),358)] (sq "fdsolve.flat" 278) 369 (.ref 363),
 co 376 "stretch" 766 "FlatReader.stretch" 767 768 274 2 0 0 3 371 372 373 374 375 774 775,
 fo 377 "stretch" "FlatReader.stretch" (aK 27 1) [] (sq "fdsolve.flat" 278) 376 .none,
 co 383 "domain" 777 "FlatReader.domain" 778 779 282 1 0 0 3 378 379 380 381 382 782 783,
 fo 384 "domain" "FlatReader.domain" (aK 27 2) [] (sq "fdsolve.flat" 278) 383 .none,
 co 390 "variable" 785 "FlatReader.variable" 786 787 294 1 0 0 3 385 386 387 388 389 790 791,
 fo 391 "variable" "FlatReader.variable" (aK 27 3) [] (sq "fdsolve.flat" 278) 390 .none,
 co 397 "constraint" 793 "FlatReader.constraint" 794 795 301 1 0 0 3 392 393 394 395 396 797 798,
 fo 398 "constraint" "FlatReader.constraint" (aK 27 4) [] (sq "fdsolve.flat" 278) 397 .none,
 co 404 "goal" 800 "FlatReader.goal" 801 802 305 2 0 0 3 399 400 401 402 403 806 807,
 fo 405 "goal" "FlatReader.goal" (aK 27 5) [] (sq "fdsolve.flat" 278) 404 .none,
 co 411 "output" 809 "FlatReader.output" 810 811 314 2 0 0 3 406 407 408 409 410 814 815,
 fo 412 "output" "FlatReader.output" (aK 27 6) [] (sq "fdsolve.flat" 278) 411 .none,
 co 418 "item" 817 "FlatReader.item" 818 819 320 1 0 0 3 413 414 415 416 417 822 823,
 fo 419 "item" "FlatReader.item" (aK 27 7) [] (sq "fdsolve.flat" 278) 418 .none,
 co 425 "look" 825 "FlatReader.look" 826 827 334 3 0 0 3 420 421 422 423 424 831 832,
 fo 426 "look" "FlatReader.look" (aK 27 8) [] (sq "fdsolve.flat" 278) 425 .none,
 (430,⟨(.type "code"),none,(.fields #[(sq "model" 834),(sq "FlatReader.model" 835),(sq "/claim/cut.py" 836),(.int 338 0),(.int 1 0),(.int 0 0),(.int 0 0),(.int 3 0),(.ref 427),(.bool true),(.int 181 0),(.ref 428),.none,.none,.none,(.ref 429),(.int 837 0),(.int 338 0),(sq "/claim/cut.py" 838)]),#[]⟩),
 fo 431 "model" "FlatReader.model" (aK 27 9) [] (sq "fdsolve.flat" 278) 430 .none,
 (433,⟨(.type "dict"),none,(.dict #[dk P "__module__" 752 (sq "fdsolve.flat" 278),dk P "__firstlineno__" 756 (.int (265) 755),dk P "__init__" 765 (.ref 370),dk P "stretch" 776 (.ref 377),dk P "domain" 784 (.ref 384),dk P "variable" 792 (.ref 391),dk P "constraint" 799 (.ref 398),dk P "goal" 808 (.ref 405),dk P "output" 816 (.ref 412),dk P "item" 824 (.ref 419),dk P "look" 833 (.ref 426),dk P "model" 839 (.ref 431),dk P "__static_attributes__" 844 (.ref 432),dk P "__doc__" 846 .none] 3),#[]⟩),
 (434,⟨(.type "type"),none,(.cls {name:=(Str.ofString "FlatReader"),bases:=[(.ref 350)],mro:=[(.ref 434),(.ref 350),(.type "object")],ns:=433,qualname:=(Str.ofString "FlatReader"),hasDict:=true,slotNames:=[],subclasses:=[],abstract:=false,collection:=none,hasDel:=false}),#[(some (.ref 355)),none,(some (sq "FlatReader" 745)),(some (sq "FlatReader" 753)),(some (.builtin "object.__new__")),(some (.bool true))]⟩),
 co 442 "_law_dip" 851 "_law_dip" 852 853 351 2 0 0 3 437 438 439 440 441 858 859,
 fo 443 "_law_dip" "_law_dip" (bg 29) [] (sq "law_pq0375_01" 849) 442 .none,
 co 449 "_law_put" 861 "_law_put" 862 863 357 2 0 0 3 444 445 446 447 448 867 868,
 fo 450 "_law_put" "_law_put" (bg 30) [] (sq "law_pq0375_01" 849) 449 .none,
 co 456 "_law_broken" 870 "_law_broken" 871 872 362 2 0 0 3 451 452 453 454 455 875 876,
 fo 457 "_law_broken" "_law_broken" (bg 31) [] (sq "law_pq0375_01" 849) 456 .none,
 co 463 "_law_variable" 878 "_law_variable" 879 880 365 1 0 0 3 458 459 460 461 462 888 889,
 fo 464 "_law_variable" "_law_variable" (bg 32) [] (sq "law_pq0375_01" 849) 463 .none,
 co 470 "_law_var" 891 "_law_var" 892 893 387 1 0 0 3 465 466 467 468 469 895 896,
 fo 471 "_law_var" "_law_var" (bg 33) [] (sq "law_pq0375_01" 849) 470 .none,
 co 477 "_law_constraint" 898 "_law_constraint" 899 900 389 1 0 0 3 472 473 474 475 476 907 908,
 fo 478 "_law_constraint" "_law_constraint" (bg 34) [] (sq "law_pq0375_01" 849) 477 .none,
 co 484 "_law_goal" 910 "_law_goal" 911 912 396 1 0 0 3 479 480 481 482 483 917 918,
 fo 485 "_law_goal" "_law_goal" (bg 35) [] (sq "law_pq0375_01" 849) 484 .none,
 co 491 "_law_output" 920 "_law_output" 921 922 406 1 0 0 3 486 487 488 489 490 930 931,
 fo 492 "_law_output" "_law_output" (bg 36) [] (sq "law_pq0375_01" 849) 491 .none,
 co 498 "_law_unread" 933 "_law_unread" 934 935 416 1 0 0 3 493 494 495 496 497 940 941,
 fo 499 "_law_unread" "_law_unread" (bg 37) [] (sq "law_pq0375_01" 849) 498 .none,
 (503,⟨(.type "code"),none,(.fields #[(sq "_law_is_right" 943),(sq "_law_is_right" 944),(sq "/claim/cut.py" 945),(.int 423 0),(.int 2 0),(.int 0 0),(.int 0 0),(.int 3 0),(.ref 500),(.bool true),(.int 181 0),(.ref 501),.none,.none,.none,(.ref 502),(.int 946 0),(.int 423 0),(sq "/claim/cut.py" 947)]),#[]⟩),
 fo 504 "_law_is_right" "_law_is_right" (bg 38) [] (sq "law_pq0375_01" 849) 503 .none,
 (508,⟨(.type "code"),none,(.fields #[(sq "law" 949),(sq "law" 950),(sq "/claim/cut.py" 951),(.int 435 0),(.int 1 0),(.int 0 0),(.int 0 0),(.int 3 0),(.ref 505),(.bool true),(.int 181 0),(.ref 506),.none,.none,.none,(.ref 507),(.int 952 0),(.int 435 0),(sq "/claim/cut.py" 953)]),#[]⟩),
 fo 509 "law" "law" (bg 39) [] (sq "law_pq0375_01" 849) 508 .none]
def Q0:Program:={pw with main:={pw.main with body:=pw.main.body.drop 39}}
def kR:List Str:=pw.boundNames.filter λn=>!(n==("law":Str))
noncomputable def Yv:List Addr:=[2,3,18,29,30,38,39,40,41,47,58,59,68,69,80,81,84,85,86,87,88,89,90,91,92,93,94,95,96,97,98,99,100,101,102,103,104,105,118,119,125,126,132,133,139,140,146,147,149,150,151,152,160,161,165,166,172,173,177,178,187,188,194,195,199,200,206,207,213,214,227,228,234,235,241,242,248,249,255,256,262,263,269,270,272,273,274,275,290,291,297,298,304,305,311,312,318,319,325,326,332,333,339,340,346,347,349,350,351,352,358,369,370,376,377,383,384,390,391,397,398,404,405,411,412,418,419,425,426,430,431,433,434,442,443,449,450,456,457,463,464,470,471,477,478,484,485,491,492,498,499,503,504,508,509]
theorem RO:∀P,Yv=(K P).map (·.1):=λP=>by kernel_rfl
abbrev HK:Hook:=kHook K Yv RO
noncomputable abbrev row:String:="special-get-raises"
theorem WZ:∀w:World,(fencedOpening treeTable pw w 4200).map (λs=>(s.heap,s.gens,s.drawn,s.toks))=some (boot_heap w.params,Array.mk [],boot_drawn,boot_toks) :=
 boot_open (by kernel_rfl) (by decide) (λs=>by kernel_rfl)
noncomputable abbrev MZ (s:Shared):Bool:=recOk (PySem.Challenge.rw_pq0375_01.row.toRowW.records) s
theorem W0 (w:World)(os:OsState):(topFrom treeTable pw (w.withFollow row false) 4200 ⟨boot_heap w.params,Array.mk [],boot_drawn,boot_toks,os⟩).map
   (λs=>(openSeen Q0 kR (importedModules pw.main.body) MZ true s,HK.obs s))=some (openGood Q0 kR,HK.val (w.withFollow row false)):=by
 unfold topFrom;rw[PySem.W.Fast.te14082659384304107361,PySem.W.Fast.te14364793385576792824,PySem.W.Fast.te4187177175401517315,PySem.W.Fast.te5923862056798008813];kernel_rfl
theorem W2 (w:World)(os:OsState):(topFrom treeTable pw (w.withFollow row true) 4200 ⟨boot_heap w.params,Array.mk [],boot_drawn,boot_toks,os⟩).map
   (λs=>(openSeen Q0 kR (importedModules pw.main.body) MZ true s,HK.obs s))=some (openGood Q0 kR,HK.val (w.withFollow row true)):=by
 unfold topFrom;rw[PySem.W.Fast.te14082659384304107361,PySem.W.Fast.te14364793385576792824,PySem.W.Fast.te4187177175401517315,PySem.W.Fast.te5923862056798008813];kernel_rfl
theorem W3:LeftO pw Q0 kR MZ HK.obs HK.val 4200:=by
 refine LeftO.of_split row λw=>?_;obtain⟨⟨h,gs,d,k,os⟩,e,e'⟩:=Option.map_eq_some_iff.mp (WZ w);obtain⟨rfl,rfl,rfl,rfl⟩:h=boot_heap w.params∧gs=Array.mk []∧d=boot_drawn∧k=boot_toks:=by simpa using e'
 rw[e];exact congrArg some (Prod.ext (W0 w os) (W2 w os))
def M0:DefRec×List (Str×Expr):=(defOf Q0 "law").getD ⟨⟨"",default,[],default,default⟩,[]⟩
theorem W4:OpenLaw.wellSaid PySem.Challenge.rw_pq0375_01=true:=by
 rw[PySem.W.Fast.te9446332074065402090];kernel_rfl
theorem yu (call:WalkO Q0 kR (λ_ _=>True) HK.says PySem.Challenge.rw_pq0375_01.row.toRowW M0.1 M0.2 λf vs=>PySem.call f vs):PySem.Challenge.rw_pq0375_01.Holds:=by
 refine holds_law W4 λZ5=>?_
 refine holds_open (q:=Q0) (loose:=kR) (Xt:=MZ) (XP:=λ_ _=>True) (Yf:=HK.obs) (Ya:=HK.val) (YP:=HK.says) (N:=4200) W3 HK.of HK.keeps (λ_ _=>trivial) (λ_ _ _ _ _=>trivial)
  (by kernel_rfl) (by kernel_rfl) (by kernel_rfl) (λs e=>recFacts_of e) (by kernel_rfl) Z5 (by kernel_rfl) ⟨rfl,rfl,rfl,rfl,rfl,by decide +kernel⟩ ?_ call
 w_witness2
inductive V where
 |none
 |bool (b:Bool)
 |int (i:Int)
 |str (l:List Nat)
 |tup (vs:List V)
 |ref (i:Nat)
 |fix (v:Value)
inductive Key where
 |vars|bY|goal|shown|text|bG|bM|ahead|flat|eM|b9|bZ|cells|place|iy
 |ke|post|size|d7|sign|skip|jJ|kS|number|token|take|cM|want|fk|opened|closed|data
 |iP|domain|jz|constraint|output|item|look|model
 |append|pop|extend|find|replace|join|get|init
noncomputable def Key.str:Key->Str
 |vars=>"vars"|bY=>"tolds"|goal=>"goal"|shown=>"shown"|text=>"text"|bG=>"spot"|bM=>"scanner"|ahead=>"ahead"|flat=>"flat"|eM=>"spots"
 |b9=>"goal_spot"|bZ=>"shown_spot"|cells=>"cells"|place=>"place"|iy=>"broken"
 |ke=>"new_var"|post=>"post"|size=>"size"|d7=>"domain_of"|sign=>"sign"|skip=>"skip"|jJ=>"run_of"|kS=>"quotation"|number=>"number"|token=>"token"
 |take=>"take"|cM=>"is_sign"|want=>"want"|fk=>"word_value"|opened=>"opened"|closed=>"closed"|data=>"data"
 |iP=>"stretch"|domain=>"domain"|jz=>"variable"|constraint=>"constraint"|output=>"output"|item=>"item"|look=>"look"|model=>"model"
 |append=>"append"|pop=>"pop"|extend=>"extend"|find=>"find"|replace=>"replace"|join=>"join"|get=>"get"|init=>"__init__"
noncomputable def Key.all:List Key:=[.vars,.bY,.goal,.shown,.text,.bG,.bM,.ahead,.flat,.eM,.b9,.bZ,.cells,.place,.iy,
 .ke,.post,.size,.d7,.sign,.skip,.jJ,.kS,.number,.token,.take,.cM,.want,.fk,.opened,.closed,.data,
 .iP,.domain,.jz,.constraint,.output,.item,.look,.model,.append,.pop,.extend,.find,.replace,.join,.get,.init]
theorem Key.ix (k:Key):Key.all[k.ctorIdx]?=some k:=by cases k<;>rfl
noncomputable instance instDecidableEqKey:DecidableEq Key:=λa b=>if h:a.ctorIdx=b.ctorIdx then isTrue (oi ((Key.ix a).symm.trans (h▸Key.ix b)))else isFalse λe=>h (e▸rfl)
def Key.of (s:Str):Option Key:=Key.all.find? λk=>k.str==s
noncomputable def isClass (a:Addr):Bool:=a==150||a==273||a==434
inductive O where
 |list (xs:List V)
 |dict (es:List (Key×V))
 |inst (C:Addr) (d:Nat)
noncomputable abbrev HP:=List O
noncomputable abbrev Loc:=List (Option V)
inductive R (α:Type) where
 |ok (a:α) (hp:HP)
 |gH (k:Int)
 |bad
noncomputable def az {α β:Type} (r:R α) (f:α->HP->R β):R β :=
 match r with
 |.ok a hp=>f a hp
 |.gH k=>.gH k
 |.bad=>.bad
noncomputable def bQ {α:Type} (o:Option α) (hp:HP):R α:=match o with|some a=>.ok a hp|none=>.bad
noncomputable def S (l:List Nat):Str:=⟨l.toArray⟩
noncomputable def af (s:String):List Nat:=s.toList.map Char.toNat
noncomputable def ej:List (Key×V)->Key->Option V
 |[],_=>none
 |(k,v)::r,x=>if k=x then some v else ej r x
noncomputable def dput:List (Key×V)->Key->V->List (Key×V)
 |[],x,a=>[(x,a)]
 |(k,v)::r,x,a=>if k=x then(k,a)::r else(k,v)::dput r x a
noncomputable def oB {α β:Type} (o:Option α) (f:α->Option β):Option β:=match o with
 |some a=>f a
 |none=>none
noncomputable def O.lst:O->Option (List V)
 |.list l=>some l
 |_=>none
noncomputable def O.dic:O->Option (List (Key×V))
 |.dict l=>some l
 |_=>none
noncomputable def O.ins:O->Option (Addr×Nat)
 |.inst C d=>some (C,d)
 |_=>none
def eN (hp:HP)(i:Nat):Option (List V):=oB hp[i]? O.lst
def kI (hp:HP)(i:Nat):Option (List (Key×V)):=oB hp[i]? O.dic
def lG (hp:HP)(i:Nat):Option (Addr×Nat):=oB hp[i]? O.ins
noncomputable def j7 {α:Type}:List α->Option α
 |[]=>none
 |a::r=>match r with
  |[]=>some a
  |_::_=>none
def xk {α:Type}:List α->Option (α×α)
 |[]=>none
 |a::r=>oB (j7 r) λb=>some (a,b)
def RP {α:Type}:List α->Option (α×α×α)
 |[]=>none
 |a::r=>oB (xk r) λb=>some (a,b)
noncomputable def rB {α β:Type} (o:Option α) (f:α->R β):R β:=match o with
 |some a=>f a
 |none=>.bad
noncomputable def rI {β:Type} (b:Bool) (r:R β):R β:=match b with
 |true=>r
 |false=>.bad
noncomputable def vInt:V->Option Int
 |.int i=>some i
 |_=>none
noncomputable def vStr:V->Option (List Nat)
 |.str l=>some l
 |_=>none
noncomputable def wh:V->Option (List V)
 |.tup l=>some l
 |_=>none
noncomputable def lr:V->Option Nat
 |.ref l=>some l
 |_=>none
noncomputable def J5:V->Option Value
 |.fix l=>some l
 |_=>none
noncomputable def isRef (n:Nat):Value->Bool
 |.ref k=>k==n
 |_=>false
def tD (hp:HP)(v:V):Option (List V):=oB (lr v) (eN hp)
def J6 (v:V):Option Nat:=oB (vStr v) j7
mutual
def g0:V->Option PyData
 |.none=>some .none
 |.bool b=>some (.bool b)
 |.int i=>some (.int i)
 |.str l=>some (.str (S l))
 |.tup vs=>(fP vs).map .tuple
 |.ref _=>none
 |.fix _=>none
def fP:List V->Option (List PyData)
 |[]=>some []
 |v::vs=>match g0 v,fP vs with|some d,some ds=>some (d::ds)|_,_=>none
end
def ma (hp:HP)(v:V):Option PyData:=match v with
 |.ref i=>oB (eN hp i) λxs=>oB (fP xs) λds=>some (.list ds)
 |_=>g0 v
def mc (hp:HP):List V->Option (List PyData)
 |[]=>some []
 |v::vs=>oB (ma hp v) λd=>oB (mc hp vs) λds=>some (d::ds)
def wd (hp:HP)(v:V):Option PyData:=match v with
 |.tup vs=>oB (mc hp vs) λds=>some (.tuple ds)
 |_=>ma hp v
noncomputable def kg:V->Option Bool
 |.none=>some false
 |.bool b=>some b
 |.int i=>some (i != 0)
 |_=>none
noncomputable def OF:Nat->Nat->List Nat
 |0,_=>[]
 |f+1,n=>if n<10 then[48+n]else OF f (n / 10)++[48+n % 10]
noncomputable def bS (i:Int):List Nat:=(toString i).toList.map Char.toNat
noncomputable def big:Nat:=2 ^ 62
def dy (i:Int):Bool:=i.natAbs<big
abbrev Ex:=Loc->HP->R V
abbrev Tx:=Loc->HP->R Bool
inductive Fl where
 |next
 |ret (v:V)
abbrev Sx:=Loc->HP->R (Fl×Loc)
abbrev Fn:=List V->HP->R V
abbrev Ca:=V->List V->HP->R V
noncomputable def xC (v:V):Ex:=λ_ hp=>.ok v hp
def J7 (o:Option (Option V))(hp:HP):R V:=rB o λu=>rB u λv=>.ok v hp
def aa (i:Nat):Ex:=λloc hp=>J7 loc[i]? hp
noncomputable def yA (v:V) (vs:List V) (hp:HP):R (List V):=.ok (v::vs) hp
noncomputable def J8 (vs:List V) (hp:HP):R V:=.ok (.tup vs) hp
noncomputable def ou (vs:List V) (hp:HP):R V:=.ok (.ref hp.length) (hp++[.list vs])
def xs (es:List Ex)(loc:Loc)(hp:HP):R (List V) :=
 match es with
 |[]=>.ok [] hp
 |e::r=>az (e loc hp) λv hp=>az (xs r loc hp) (yA v)
def ao (es:List Ex):Ex:=λloc hp=>az (xs es loc hp) J8
def cm (es:List Ex):Ex:=λloc hp=>az (xs es loc hp) ou
noncomputable def ow {α:Type} (z:α) (a b:V) (f:Int->Int->α):α:=match a with
 |.int i=>(match b with
  |.int j=>f i j
  |_=>z)
 |_=>z
noncomputable def fq (m n:Nat):Bool:=decide (m+n≤sizeLine)
def Z6 (a b:V)(hp:HP):R V:=match a with
 |.int i=>(match b with
  |.int j=>.ok (.int (i+j)) hp
  |_=>.bad)
 |.str x=>rB (vStr b) λy=>rI (fq x.length y.length) (.ok (.str (x++y)) hp)
 |.tup x=>rB (wh b) λy=>rI (fq x.length y.length) (.ok (.tup (x++y)) hp)
 |.ref i=>rB (eN hp i) λx=>rB (tD hp b) λy=>rI (fq x.length y.length) (.ok (.ref hp.length) (hp++[.list (x++y)]))
 |_=>.bad
def jw (op:Operator)(a b:V)(hp:HP):R V:=match op with
 |.Add=>Z6 a b hp
 |.Sub=>ow .bad a b λi j=>.ok (.int (i - j)) hp
 |.Mult=>ow .bad a b λi j=>rI (dy i&&dy j) (.ok (.int (i*j)) hp)
 |.Mod=>ow .bad a b λi j=>rI (decide (0<j)) (.ok (.int (i % j)) hp)
 |_=>.bad
def Eg (op:Operator)(u v:V)(hp:HP):R V:=jw op u v hp
def J9 (op:Operator)(b:Ex)(loc:Loc)(u:V)(hp:HP):R V:=az (b loc hp) (Eg op u)
def bw (op:Operator)(a b:Ex):Ex:=λloc hp=>az (a loc hp) (J9 op b loc)
def Ka (u:V)(hp:HP):R V:=rB (vInt u) λi=>.ok (.int (-i)) hp
def gN (a:Ex):Ex:=λloc hp=>az (a loc hp) Ka
inductive dS where
 |eq|ne|lt|le|gt|ge|sX|gO|jK|gh
deriving DecidableEq
noncomputable def dS.of:CmpOp->dS
 |.Eq=>.eq|.NotEq=>.ne|.Lt=>.lt|.LtE=>.le|.Gt=>.gt|.GtE=>.ge|.Is=>.sX|.IsNot=>.gO|.In=>.jK|.NotIn=>.gh
noncomputable def dS.op:dS->CmpOp
 |.eq=>.Eq|.ne=>.NotEq|.lt=>.Lt|.le=>.LtE|.gt=>.Gt|.ge=>.GtE|.sX=>.Is|.gO=>.IsNot|.jK=>.In|.gh=>.NotIn
def tE (hp:HP)(a b:V):Option Bool:=oB (wd hp a) λx=>oB (wd hp b) λy=>match shaped x&&shaped y with
 |true=>some (PyData.eqv x y)
 |false=>none
noncomputable def ki:V->Option Bool
 |.none=>some true
 |.fix _=>none
 |_=>some false
noncomputable def Hn:List String:=["linear_le","linear_eq","linear_ne","times","div","mod","abs","max","min","element","element_of","table","all_different","count","nvalue","cardinality","cumulative","disjunctive","circuit","inverse","regular","lex_le","lex_lt","increasing","precede","clause","and","or","xor","reif","imp"]
noncomputable def Ho:List String:=["NXn","NXn","NXn","xxx","xxx","xxx","xx","Xx","Xx","xXx","xNx","XR","Xs","Xnx","Xx","XNNN","XNNn","XN","X","XX","XnnRnN","XX","XX","X","nnX","XX","Xx","Xx","xxx","xt","xt"]
def eW:List (List Nat×List Nat):=(Hn.map af).zip (Ho.map af)
noncomputable def pr (a b:Int):V:=.tup [.int a,.int b]
def pairs:List (List Nat×V):=[(af "linear_le",.tup [pr 1 2]),(af "linear_eq",.tup [pr 1 2]),(af "linear_ne",.tup [pr 1 2]),(af "cardinality",.tup [pr 2 3,pr 2 4]),(af "cumulative",.tup [pr 1 2,pr 1 3]),(af "disjunctive",.tup [pr 1 2]),(af "inverse",.tup [pr 1 2])]
noncomputable def Hp (ds:List PyData) (d:PyData):Option Bool:=match shaped (.tuple ds)&&shaped d with
 |true=>some (ds.any λy=>PyData.eqv y d)
 |false=>none
def qf (hp:HP)(a b:V):Option Bool:=match b with
 |.tup vs=>oB (fP vs) λds=>oB (g0 a) (Hp ds)
 |.str y=>oB (J6 a) λc=>some (y.contains c)
 |.fix w=>oB (vStr a) λx=>match isRef 87 w with
  |true=>some (eW.lookup x).isSome
  |false=>none
 |_=>none
def RQ (a b:V):Option Bool:=match b with
 |.none=>ki a
 |_=>none
def dA (op:dS)(a b:V)(hp:HP):Option Bool:=match op with
 |.eq=>tE hp a b
 |.ne=>(tE hp a b).map (!·)
 |.lt=>ow none a b λi j=>some (decide (i<j))
 |.le=>ow none a b λi j=>some (decide (i≤j))
 |.gt=>ow none a b λi j=>some (decide (j<i))
 |.ge=>ow none a b λi j=>some (decide (j≤i))
 |.sX=>RQ a b
 |.gO=>(RQ a b).map (!·)
 |.jK=>qf hp a b
 |.gh=>(qf hp a b).map (!·)
def cE (op:dS)(u v:V)(hp:HP):R Bool:=bQ (dA op u v hp) hp
noncomputable def cD (g:Tx) (loc:Loc) (b:Bool) (hp:HP):R Bool:=cond b (g loc hp) (.ok false hp)
def cC (op:dS)(u:V)(f:V->Tx)(loc:Loc)(v:V)(hp:HP):R Bool:=az (bQ (dA op u v hp) hp) (cD (f v) loc)
def RR (p:dS×Ex)(n:Bool)(f:V->Tx)(u:V):Tx:=λloc hp=>az (p.2 loc hp) (cond n (cE p.1 u) (cC p.1 u f loc))
def iu (u:V)(cs:List (dS×Ex)):Tx:=match cs with
 |[]=>λ_ _=>.bad
 |p::r=>RR p r.isEmpty (λv=>iu v r) u
def RU (cs:List (dS×Ex))(loc:Loc)(u:V)(hp:HP):R Bool:=iu u cs loc hp
def ai (e:Ex)(cs:List (dS×Ex)):Tx:=λloc hp=>az (e loc hp) (RU cs loc)
noncomputable def sY (b:Bool) (hp:HP):R V:=.ok (.bool b) hp
def xB (t:Tx):Ex:=λloc hp=>az (t loc hp) sY
def kX (v:V)(hp:HP):R Bool:=bQ (kg v) hp
def tX (e:Ex):Tx:=λloc hp=>az (e loc hp) kX
noncomputable def ri (b:Bool) (e:Ex) (loc:Loc) (v:V) (c:Bool) (hp:HP):R V:=cond (c==b) (e loc hp) (.ok v hp)
def Kc (b:Bool)(e:Ex)(loc:Loc)(v:V)(hp:HP):R V:=az (bQ (kg v) hp) (ri b e loc v)
def Z7 (b:Bool)(e f:Ex):Ex:=λloc hp=>az (e loc hp) (Kc b f loc)
def gj (rj:Bool)(es:List Ex):Ex:=match es with
 |[]=>λ_ _=>.bad
 |e::r=>cond r.isEmpty e (Z7 rj e (gj rj r))
noncomputable def wi (b:Bool) (f:Tx) (loc:Loc) (c:Bool) (hp:HP):R Bool:=cond (c==b) (f loc hp) (.ok (!b) hp)
def tAl (b:Bool)(t f:Tx):Tx:=λloc hp=>az (t loc hp) (wi b f loc)
def aS (rj:Bool)(ts:List Tx):Tx:=match ts with
 |[]=>λ_ hp=>.ok rj hp
 |t::r=>tAl rj t (aS rj r)
noncomputable def Eh (b:Bool) (hp:HP):R Bool:=.ok (!b) hp
def cV (t:Tx):Tx:=λloc hp=>az (t loc hp) Eh
noncomputable def M1 (a b:Ex) (loc:Loc) (c:Bool) (hp:HP):R V:=cond c (a loc hp) (b loc hp)
def ig (t:Tx)(a b:Ex):Ex:=λloc hp=>az (t loc hp) (M1 a b loc)
noncomputable def Z8 (a b:Tx) (loc:Loc) (c:Bool) (hp:HP):R Bool:=cond c (a loc hp) (b loc hp)
def Yw (t a b:Tx):Tx:=λloc hp=>az (t loc hp) (Z8 a b loc)
def tA (i:Int)(n:Nat):Option Nat:=match dy i with
 |true=>PySem.seqIndex? i n
 |false=>none
noncomputable def okN (n:Nat):Bool:=decide (n≤sizeLine)
def rk (l:List V)(i:Int):Option V:=oB (tA i l.length) λk=>l[k]?
def bh (hp:HP)(o:V)(i:V):Option V:=match o with
 |.tup vs=>oB (vInt i) (rk vs)
 |.str l=>oB (vInt i) λk=>oB (tA k l.length) λk=>(l[k]?).map λc=>.str [c]
 |.ref a=>oB (eN hp a) λvs=>oB (vInt i) (rk vs)
 |.fix w=>oB (vStr i) λx=>match isRef 87 w with
  |true=>(eW.lookup x).map .str
  |false=>none
 |_=>none
def Ei (u v:V)(hp:HP):R V:=bQ (bh hp u v) hp
def Ke (i:Ex)(loc:Loc)(u:V)(hp:HP):R V:=az (i loc hp) (Ei u)
def aq (o i:Ex):Ex:=λloc hp=>az (o loc hp) (Ke i loc)
def zS (hp:HP)(u:V)(k:Key):R V:=rB (lr u) λa=>rB (kI hp a) λes=>bQ (ej es k) hp
def Ej (k:Key)(u:V)(hp:HP):R V:=zS hp u k
def bO (o:Ex)(k:Key):Ex:=λloc hp=>az (o loc hp) (Ej k)
noncomputable def hW:V->Option (Option Nat)
 |.none=>some none
 |.int i=>if 0≤i then some (some i.toNat)else none
 |_=>none
noncomputable def cut {α:Type} (l:List α) (lo hi:Option Nat):List α :=
 (l.take (hi.getD l.length)).drop (lo.getD 0)
def gX (hp:HP)(u:V)(a b:Option Nat):R V:=match u with
 |.str l=>rI (okN l.length) (.ok (.str (cut l a b)) hp)
 |.tup l=>rI (okN l.length&&decide ((cut l a b).length<l.length)) (.ok (.tup (cut l a b)) hp)
 |.ref i=>rB (eN hp i) λl=>rI (okN l.length) (.ok (.ref hp.length) (hp++[.list (cut l a b)]))
 |_=>.bad
def Kg (u:V)(a b:Option (Option Nat))(hp:HP):R V:=rB a λa=>rB b λb=>gX hp u a b
def Kh (u a b:V)(hp:HP):R V:=Kg u (hW a) (hW b) hp
def Ki (hi:Ex)(loc:Loc)(u a:V)(hp:HP):R V:=az (hi loc hp) (Kh u a)
def RV (lo hi:Ex)(loc:Loc)(u:V)(hp:HP):R V:=az (lo loc hp) (Ki hi loc u)
def cU (o lo hi:Ex):Ex:=λloc hp=>az (o loc hp) (RV lo hi loc)
noncomputable def attrOk (C:Addr) (k:Key):Bool:=match C with
 |150=>k==.vars||k==.bY||k==.goal||k==.shown
 |273=>k==.text||k==.bG
 |434=>k==.bM||k==.ahead||k==.flat||k==.eM||k==.b9||k==.bZ
 |_=>false
noncomputable def yB:Option V->Option V
 |some v=>(match v with
  |.fix _=>none
  |_=>some v)
 |none=>none
def ew (hp:HP)(o:V)(k:Key):Option V:=oB (lr o) λa=>oB (lG hp a) λq=>oB (kI hp q.2) λes=>match attrOk q.1 k with
 |true=>yB (ej es k)
 |false=>none
def Ek (k:Key)(u:V)(hp:HP):R V:=bQ (ew hp u k) hp
def aH (o:Ex)(k:Key):Ex:=λloc hp=>az (o loc hp) (Ek k)
noncomputable def M3 (ks:List Key) (vs:List V) (hp:HP):R V:=.ok (.ref hp.length) (hp++[.dict (ks.zip vs)])
def lH (es:List (Key×Ex)):Ex:=λloc hp=>az (xs (es.map (·.2)) loc hp) (M3 (es.map (·.1)))
noncomputable def OG:List (Key×Addr):=[(.take,298),(.cM,305),(.want,312),(.number,319),(.fk,326),(.opened,333),(.closed,340),(.data,347)]
def d0:Addr->List (Key×Addr)
 |150=>[(.init,119),(.ke,126),(.post,133),(.size,140),(.d7,147)]
 |273=>[(.init,228),(.sign,235),(.skip,242),(.jJ,249),(.kS,256),(.number,263),(.token,270)]
 |434=>[(.init,370),(.iP,377),(.domain,384),(.jz,391),(.constraint,398),(.goal,405),(.output,412),(.item,419),(.look,426),(.model,431)]++OG
 |_=>[]
noncomputable def ff {β:Type}:List (Key×β)->Key->Option β
 |[],_=>none
 |(k,v)::r,x=>if k=x then some v else ff r x
noncomputable def bi (s:String):V:=.fix (.builtin s)
def yC (hp:HP)(k:Key)(q:Addr×Nat):Option V:=oB (kI hp q.2) λes=>match (ej es k).isNone with
 |true=>(ff (d0 q.1) k).map λf=>.fix (.ref f)
 |false=>none
def El (k:Key):Option V:=if k=.append then some (bi "list.append")else if k=.pop then some (bi "list.pop")else if k=.extend then some (bi "list.extend")else none
def W5 (hp:HP)(k:Key):O->Option V
 |.inst C d=>yC hp k (C,d)
 |.list _=>El k
 |_=>none
def dM (hp:HP)(o:V)(k:Key):Option V:=match o with
 |.ref a=>oB hp[a]? (W5 hp k)
 |.str _=>if k=.find then some (bi "str.find")else if k=.join then some (bi "str.join")else none
 |.fix w=>(match isRef 89 w&&decide (k=.get)with
  |true=>some (bi "dict.get")
  |false=>none)
 |_=>none
noncomputable def Kj (c:Ca) (f:V) (vs:List V) (hp:HP):R V:=c f vs hp
def RW (c:Ca)(as:List Ex)(loc:Loc)(f:V)(hp:HP):R V:=az (xs as loc hp) (Kj c f)
def aD (c:Ca)(f:Ex)(as:List Ex):Ex:=λloc hp=>az (f loc hp) (RW c as loc)
noncomputable def Em (c:Ca) (u f:V) (vs:List V) (hp:HP):R V:=c f (u::vs) hp
def En (c:Ca)(as:List Ex)(loc:Loc)(u f:V)(hp:HP):R V:=az (xs as loc hp) (Em c u f)
def RX (c:Ca)(k:Key)(as:List Ex)(loc:Loc)(u:V)(hp:HP):R V:=az (bQ (dM hp u k) hp) (En c as loc u)
def ax (c:Ca)(o:Ex)(k:Key)(as:List Ex):Ex:=λloc hp=>az (o loc hp) (RX c k as loc)
def md (hp:HP)(a:Nat):Bool:=match lG hp a with
 |some q=>q.1==434
 |none=>false
def Z9 (c:Ca)(as:List Ex)(loc:Loc)(hp:HP)(v:V):R V:=rB (lr v) λa=>rI (md hp a) (az (xs as loc hp) (Em c (.ref a) (.fix (.ref 291))))
def jg (c:Ca)(as:List Ex):Ex:=λloc hp=>rB loc[0]? λo=>rB o (Z9 c as loc hp)
def lu:V->Option (List Nat)
 |.str l=>if l.length≤sizeLine then some l else none
 |.int i=>if dy i then some (bS i)else none
 |_=>none
noncomputable def Eo (l:List Nat) (hp:HP):R V:=.ok (.str l) hp
def Kk (v:V)(hp:HP):R V:=az (bQ (lu v) hp) Eo
def c5 (e:Ex):Ex:=λloc hp=>az (e loc hp) Kk
def mJ (out:List Nat)(es:List Ex)(loc:Loc)(hp:HP):R V :=
 match es with
 |[]=>.ok (.str out) hp
 |e::r=>az (e loc hp) λv hp=>rB (vStr v) λl=>rI (fq out.length l.length) (mJ (out++l) r loc hp)
def eO (es:List Ex):Ex:=λloc hp=>mJ [] es loc hp
inductive Tg where
 |one (i:Nat)
 |many (is:List Nat)
noncomputable def dW:List Nat->List V->Loc->Option Loc
 |[],vs,loc=>(match vs with
  |[]=>some loc
  |_::_=>none)
 |i::is,vs,loc=>match vs with
  |v::vs=>dW is vs (loc.set i (some v))
  |[]=>none
def Tg.put (t:Tg)(v:V)(loc:Loc):Option Loc :=
 match t with
 |.one i=>some (loc.set i (some v))
 |.many is=>match v with
  |.tup vs=>dW is vs loc
  |_=>none
inductive It where
 |vals (l:List V)
 |lst (i k:Nat)
 |zip (i j k:Nat)
noncomputable def M4 (i j k:Nat) (v u:Option V):Option (Option (V×It)):=match v with
 |some v=>(match u with
  |some u=>some (some (.tup [v,u],.zip i j (k+1)))
  |none=>none)
 |none=>match u with
  |some _=>none
  |none=>some none
def It.next (it:It)(hp:HP):Option (Option (V×It)):=match it with
 |.vals l=>(match l with
  |[]=>some none
  |v::l=>some (some (v,.vals l)))
 |.lst i k=>oB (eN hp i) λl=>(match l[k]? with
  |some v=>some (some (v,.lst i (k+1)))
  |none=>some none)
 |.zip i j k=>oB (eN hp i) λl=>oB (eN hp j) λm=>M4 i j k l[k]? m[k]?
def Ep (hp:HP)(v:V):Option It:=match v with
 |.tup vs=>some (.vals vs)
 |.ref i=>oB (eN hp i) λ_=>some (.lst i 0)
 |_=>none
abbrev Ix:=Loc->HP->R It
def M5 (v:V)(hp:HP):R It:=bQ (Ep hp v) hp
def cw (e:Ex):Ix:=λloc hp=>az (e loc hp) M5
def M6 (v:V)(hp:HP):R It:=rB (vInt v) λn=>rI (decide (n≤1000)&&dy n) (.ok (.vals ((List.range n.toNat).map λ(k:Nat)=>V.int k)) hp)
def me (e:Ex):Ix:=λloc hp=>az (e loc hp) M6
noncomputable def eZ:Nat->List Nat->List V
 |_,[]=>[]
 |k,c::r=>.tup [.int k,.str [c]]::eZ (k+1) r
def M7 (v:V)(hp:HP):R It:=rB (vStr v) λl=>.ok (.vals (eZ 0 l)) hp
def rm (e:Ex):Ix:=λloc hp=>az (e loc hp) M7
def aaa (hp:HP)(j k:Nat):R It:=rB (eN hp j) λ_=>rB (eN hp k) λ_=>.ok (.zip j k 0) hp
def aab (u v:V)(hp:HP):R It:=rB (lr u) λj=>rB (lr v) λk=>aaa hp j k
def Er (u v:V)(hp:HP):R It:=aab u v hp
def RY (b:Ex)(loc:Loc)(u:V)(hp:HP):R It:=az (b loc hp) (Er u)
def wj (a b:Ex):Ix:=λloc hp=>az (a loc hp) (RY b loc)
def cR (tg:Tg)(ifs:Tx)(elt:Ex):Nat->It->List V->Loc->HP->R (List V)
 |0,_,_,_,_=>.bad
 |n+1,it,acc,loc,hp=>match it.next hp with
  |none=>.bad
  |some none=>.ok acc hp
  |some (some (v,it))=>match tg.put v loc with
   |none=>.bad
   |some loc=>az (ifs loc hp) λb hp=>if b then az (elt loc hp) λx hp=>(if acc.length≤1000 then cR tg ifs elt n it (acc++[x]) loc hp else .bad)else cR tg ifs elt n it acc loc hp
noncomputable def yD {α:Type}:R α->R α
 |.gH _=>.bad
 |r=>r
noncomputable def kJ (mp:List (Option Nat)) (loc:Loc):Loc:=mp.map λo=>match o with|some k=>(loc[k]?).getD none|none=>none
def Es (N:Nat)(mp:List (Option Nat))(tg:Tg)(ifs:Tx)(elt:Ex)(loc:Loc)(it:It)(hp:HP):R V:=az (yD (cR tg ifs elt N it [] (kJ mp loc) hp)) ou
def cp (N:Nat)(i:Ix)(mp:List (Option Nat))(tg:Tg)(ifs:Tx)(elt:Ex):Ex:=λloc hp=>az (i loc hp) (Es N mp tg ifs elt loc)
noncomputable def Kl (i:Nat) (loc:Loc) (v:V) (hp:HP):R (Fl×Loc):=.ok (.next,loc.set i (some v)) hp
def aR (i:Nat)(e:Ex):Sx:=λloc hp=>az (e loc hp) (Kl i loc)
def Km (o:Option Loc)(hp:HP):R (Fl×Loc):=rB o λloc=>.ok (.next,loc) hp
def Et (is:List Nat)(loc:Loc)(v:V)(hp:HP):R (Fl×Loc):=rB (wh v) λvs=>Km (dW is vs loc) hp
def eH (is:List Nat)(e:Ex):Sx:=λloc hp=>az (e loc hp) (Et is loc)
def Hq (loc:Loc)(o:Option HP):R (Fl×Loc):=rB o λhp=>.ok (.next,loc) hp
def dj (hp:HP)(o:V)(k:Key)(v:V):Option HP:=oB (lr o) λa=>oB (lG hp a) λq=>oB (kI hp q.2) λes=>cond (attrOk q.1 k&&decide (es.length≤100)) (some (hp.set q.2 (.dict (dput es k v)))) none
def Kn (k:Key)(loc:Loc)(v u:V)(hp:HP):R (Fl×Loc):=Hq loc (dj hp u k v)
def RZ (o:Ex)(k:Key)(loc:Loc)(v:V)(hp:HP):R (Fl×Loc):=az (o loc hp) (Kn k loc v)
def cH (o:Ex)(k:Key)(e:Ex):Sx:=λloc hp=>az (e loc hp) (RZ o k loc)
def sR (hp:HP)(o:V)(k:Key)(v:V):Option HP:=oB (lr o) λa=>oB (kI hp a) λes=>cond (decide (es.length≤sizeLine)) (some (hp.set a (.dict (dput es k v)))) none
def Ko (k:Key)(loc:Loc)(v u:V)(hp:HP):R (Fl×Loc):=Hq loc (sR hp u k v)
def R0 (o:Ex)(k:Key)(loc:Loc)(v:V)(hp:HP):R (Fl×Loc):=az (o loc hp) (Ko k loc v)
def iQ (o:Ex)(k:Key)(e:Ex):Sx:=λloc hp=>az (e loc hp) (R0 o k loc)
noncomputable def kEx (loc:Loc) (_:V) (hp:HP):R (Fl×Loc):=.ok (.next,loc) hp
def bo (e:Ex):Sx:=λloc hp=>az (e loc hp) (kEx loc)
noncomputable def Kp (loc:Loc) (v:V) (hp:HP):R (Fl×Loc):=.ok (.ret v,loc) hp
def aW (e:Ex):Sx:=λloc hp=>az (e loc hp) (Kp loc)
def aF (ss:List Sx)(loc:Loc)(hp:HP):R (Fl×Loc) :=
 match ss with
 |[]=>.ok (.next,loc) hp
 |s::r=>az (s loc hp) λp hp=>match p.1 with
  |.next=>aF r p.2 hp
  |.ret _=>.ok p hp
def Eu (a b:List Sx)(loc:Loc)(c:Bool)(hp:HP):R (Fl×Loc):=cond c (aF a loc hp) (aF b loc hp)
def bc (t:Tx)(a b:List Sx):Sx:=λloc hp=>az (t loc hp) (Eu a b loc)
def dH (t:Tx)(b:Sx):Nat->Loc->HP->R (Fl×Loc)
 |0,_,_=>.bad
 |n+1,loc,hp=>az (t loc hp) λc hp=>if c then az (b loc hp) λp hp=>(match p.1 with|.next=>dH t b n p.2 hp|.ret _=>.ok p hp)else .ok (.next,loc) hp
def fB (N:Nat)(t:Tx)(b:List Sx):Sx:=λloc hp=>dH t (aF b) N loc hp
def cI (tg:Tg)(b:Sx):Nat->It->Loc->HP->R (Fl×Loc)
 |0,_,_,_=>.bad
 |n+1,it,loc,hp=>match it.next hp with
  |none=>.bad
  |some none=>.ok (.next,loc) hp
  |some (some (v,it))=>match tg.put v loc with
   |none=>.bad
   |some loc=>az (b loc hp) λp hp=>match p.1 with|.next=>cI tg b n it p.2 hp|.ret _=>.ok p hp
def Hb (N:Nat)(tg:Tg)(b:List Sx)(loc:Loc)(it:It)(hp:HP):R (Fl×Loc):=cI tg (aF b) N it loc hp
def hZ (N:Nat)(tg:Tg)(i:Ix)(b:List Sx):Sx:=λloc hp=>az (i loc hp) (Hb N tg b loc)
def Kq (v:V)(_:HP):R (Fl×Loc):=rB (vInt v) .gH
def R4 (b:Ex)(loc:Loc)(_:V)(hp:HP):R (Fl×Loc):=az (b loc hp) Kq
def c7 (a b:Ex):Sx:=λloc hp=>az (a loc hp) (R4 b loc)
noncomputable def tF:Ex:=λ_ _=>.bad
noncomputable def aac:Tx:=λ_ _=>.bad
noncomputable def Kr:Sx:=λ_ _=>.bad
noncomputable def aad:Ix:=λ_ _=>.bad
noncomputable def findAt (c:Nat):List Nat->Nat->Option Nat
 |[],_=>none
 |x::r,k=>if x=c then some k else findAt c r (k+1)
def R5 (hp:HP)(v:V):Option Nat:=match v with
 |.tup vs=>some vs.length
 |.str l=>some l.length
 |.ref i=>oB (eN hp i) λl=>some l.length
 |_=>none
noncomputable def vBool:V->Option Bool
 |.bool b=>some b
 |_=>none
def qg:List V->Option (List Bool)
 |[]=>some []
 |v::vs=>oB (vBool v) λb=>oB (qg vs) λr=>some (b::r)
def aae (vs:List V):Option Bool:=(qg vs).map (·.all id)
def Ew:List V->Option (List Int)
 |[]=>some []
 |v::vs=>oB (vInt v) λi=>oB (Ew vs) λl=>some (i::l)
def Ks (vs:List V):Option Int:=oB (Ew vs) λl=>l[argBest (λi j=>decide (l.getD i 0<l.getD j 0)) (l.length - 1)]?
def um:List V->Option (List Nat)
 |[]=>some []
 |v::vs=>oB (vStr v) λl=>oB (um vs) λr=>some (l++r)
noncomputable def isType (T:String):V->Option Bool
 |.bool _=>some (T=="int"||T=="bool")
 |.int _=>some (T=="int")
 |.str _=>some (T=="str")
 |.tup _=>some (T=="tuple")
 |_=>none
noncomputable def Hr (T:String):Bool:=T=="int"||T=="bool"||T=="str"||T=="tuple"
def M8 (v:V):Option String:=oB (J5 v) λw=>match w with
 |.type T=>some T
 |_=>none
def uo (vs:List V)(hp:HP):R V:=rB (j7 vs) λv=>rB (R5 hp v) λn=>rI (okN n) (.ok (.int n) hp)
def Ey (vs:List V)(hp:HP):R V:=rB (xk vs) λp=>rB (M8 p.2) λT=>rI (Hr T) (bQ ((isType T p.1).map .bool) hp)
def Ez (vs:List V)(hp:HP):R V:=rB (j7 vs) λv=>rB (tD hp v) λl=>bQ ((aae l).map .bool) hp
def EA (vs:List V)(hp:HP):R V:=rB (j7 vs) λv=>rB (wh v) λl=>bQ ((Ks l).map .int) hp
def tG (vs:List V)(hp:HP):R V:=rB (xk vs) λp=>rB (lr p.1) λi=>rB (eN hp i) λl=>rI (okN l.length) (.ok .none (hp.set i (.list (l++[p.2]))))
def yE (vs:List V)(hp:HP):R V:=rB (j7 vs) λv=>rB (lr v) λi=>rB (eN hp i) λl=>rB l.getLast? λv=>rI (okN l.length) (.ok v (hp.set i (.list l.dropLast)))
def tH (vs:List V)(hp:HP):R V:=rB (xk vs) λp=>rB (lr p.1) λi=>rB (eN hp i) λl=>rB (wh p.2) λws=>rI (fq l.length ws.length) (.ok .none (hp.set i (.list (l++ws))))
def uq (c:Nat)(l:List Nat)(i:Int):Int:=match findAt c (l.drop i.toNat) i.toNat with
 |some k=>(k:Int)
 |none=>-1
def zT (vs:List V)(hp:HP):R V:=rB (RP vs) λp=>rB (vStr p.1) λl=>rB (J6 p.2.1) λc=>rB (vInt p.2.2) λi=>rI (decide (0≤i)) (.ok (.int (uq c l i)) hp)
noncomputable def ia (c:Nat) (t:List Nat):List Nat->List Nat
 |[]=>[]
 |x::r=>if x=c then t++ia c t r else x::ia c t r
def Hs (c:Nat)(l:List Nat)(k:Int):Bool:=decide (l.length≤1000)&&(dy k&&(decide ((bS k).length≤20)&&!(bS k==[c])))
def EB (c:Nat)(l:List Nat)(v:V)(hp:HP):R V:=rB (vInt v) λk=>rI (Hs c l k) (.ok (.str (ia c (bS k) l)) hp)
def Kt (c:Nat)(x:Ex)(loc:Loc)(u:V)(hp:HP):R V:=rB (vStr u) λl=>az (x loc hp) (EB c l)
def jL (c:Nat)(o x:Ex):Ex:=λloc hp=>az (o loc hp) (Kt c x loc)
def zU (vs:List V)(hp:HP):R V:=rB (xk vs) λp=>rB (vStr p.1) λs=>rI s.isEmpty (rB (tD hp p.2) λl=>rB (um l) λx=>rI (okN x.length) (.ok (.str x) hp))
def EC (vs:List V)(hp:HP):R V:=rB (RP vs) λp=>rB (J5 p.1) λw=>rI (isRef 89 w) (rB (vStr p.2.1) λx=>.ok ((pairs.lookup x).getD p.2.2) hp)
def ED (vs:List V)(hp:HP):R V:=rB (j7 vs) λv=>bQ ((lu v).map .str) hp
def EE (vs:List V)(hp:HP):R V:=rB (j7 vs) λv=>rB (vStr v) λl=>rI (decide (l.length≤640)) (bQ ((PySem.intText? (S l)).map .int) hp)
def wk (vs:List V)(hp:HP):R V:=rB (j7 vs) λv=>rB (tD hp v) λl=>rI (okN l.length) (.ok (.tup l) hp)
def zV (vs:List V)(hp:HP):R V:=rB (j7 vs) λv=>rB (tD hp v) λl=>rI (okN l.length) (.ok (.ref hp.length) (hp++[.list l]))
def builtins:List (String×Fn):=[("len",uo),("isinstance",Ey),("all",Ez),("min",EA),("list.append",tG),("list.pop",yE),("list.extend",tH),
 ("str.find",zT),("str.join",zU),("dict.get",EC)]
def types:List (String×Fn):=[("str",ED),("int",EE),("tuple",wk),("list",zV)]
def yF (l:List String):V:=.tup (l.map λs=>.str (af s))
noncomputable def du (a:Addr):V:=.fix (.ref a)
def R6:List (Str×V):=[("len",bi "len"),("isinstance",bi "isinstance"),("all",bi "all"),("min",bi "min"),("str",.fix (.type "str")),("int",.fix (.type "int")),("bool",.fix (.type "bool")),
 ("tuple",.fix (.type "tuple")),("list",.fix (.type "list")),("is_number",du 161),("is_row_of_numbers",du 166),("is_var",du 173),("fits",du 178),("told_fault",du 188),("truths_of",du 195)]
def R7:List (Str×V):=[("is_truth",du 200),("piece_fault",du 207),("shown_fault",du 214),("Flat",du 150),("FlatScanner",du 273),("FlatReader",du 434),("FORMS",du 87),("PAIRS",du 89),
 ("GOALS",yF ["satisfy","minimize","maximize"]),("LINEAR",yF ["linear_le","linear_eq","linear_ne"]),("STRENGTHS",yF ["bounds","values"]),
 ("DIGITS",.str (af "0123456789")),("LETTERS",.str (af "abcdefghijklmnopqrstuvwxyzABCDEFGHIJKLMNOPQRSTUVWXYZ_")),("SIGNS",.str (af "()[]{},;:")),("MOST_DIGITS",.int 1000)]
def R8:List (Str×V):=[("_law_dip",du 443),("_law_put",du 450),("_law_broken",du 457),("_law_variable",du 464),("_law_var",du 471),("_law_constraint",du 478),("_law_goal",du 485),("_law_output",du 492),
 ("_law_unread",du 499),("_law_is_right",du 504),("range",.fix (.type "range")),("enumerate",.fix (.type "enumerate")),("zip",.fix (.type "zip")),("TextFault",du 81)]
def iR:List (Str×V):=R6++(R7++R8)
noncomputable abbrev Sc:=List (Str×NameKind)
noncomputable def ur:NameKind->Bool
 |.local=>true
 |.cell=>true
 |.free=>true
 |_=>false
def bV (sc:Sc):List Str:=(sc.filter λp=>ur p.2).map (·.1)
noncomputable def yG (x:Str):List Str->Option Nat
 |[]=>none
 |y::r=>if y==x then some 0 else(yG x r).map (·+1)
def slot (sc:Sc)(x:Str):Option Nat:=yG x (bV sc)
noncomputable def xo {β κ:Type} (o:Option κ) (f:κ->Loc->HP->R β):Loc->HP->R β:=match o with
 |some k=>f k
 |none=>λ_ _=>.bad
noncomputable def xi {β:Type} (b:Bool) (f:Loc->HP->R β):Loc->HP->R β:=match b with
 |true=>f
 |false=>λ_ _=>.bad
def gP (sc:Sc)(x:Str):Ex:=xo (sc.lookup x) λk=>cond (k==.globalImplicit) (xo (iR.lookup x) xC) (xi (!(k==.globalExplicit)) (xo (slot sc x) aa))
def zW:Const->Ex
 |.none=>xC .none
 |.bool b=>xC (.bool b)
 |.int i=>xC (.int i)
 |.str s=>xC (.str s.cps.toList)
 |_=>tF
structure cx where
 ex:Sc->Expr->Ex
 te:Sc->Expr->Tx
 st:Sc->Stmt->Sx
noncomputable def asName:Expr->Option Str
 |.Name x _=>some x
 |_=>none
noncomputable def CF:Expr->Option Const
 |.Constant k _ _=>some k
 |_=>none
noncomputable def R9:Const->Option Str
 |.str y=>some y
 |_=>none
def yH (e:Expr):Option Str:=oB (CF e) R9
noncomputable def iz:Expr->Option (Expr×List Expr×List Keyword)
 |.Call f as ks _=>some (f,as,ks)
 |_=>none
noncomputable def Ht:Expr->Option (Expr×List Comprehension×Scope)
 |.ListComp e gs sc _=>some (e,gs,sc)
 |_=>none
noncomputable def M9:Option NameKind->Bool
 |some k=>k==.local||k==.cell
 |none=>false
def yI (sc:Sc)(e:Expr):Option Nat:=oB (asName e) λx=>cond (M9 (sc.lookup x)) (slot sc x) none
def mf (sc:Sc):List Expr->Option (List Nat)
 |[]=>some []
 |e::r=>oB (yI sc e) λi=>oB (mf sc r) λis=>cond (is.contains i) none (some (i::is))
noncomputable def EF:Expr->Option (List Expr)
 |.Tuple es _ _=>some es
 |_=>none
def ly (sc:Sc)(e:Expr):Option Tg:=match EF e with
 |some es=>(mf sc es).map .many
 |none=>(yI sc e).map .one
noncomputable def noStar:Expr->Bool
 |.Starred _ _=>false
 |_=>true
noncomputable def fC:Expr->Bool
 |.ListComp ..=>true
 |.SetComp ..=>true
 |.DictComp ..=>true
 |_=>false
noncomputable def oy (sc:Sc) (f:Str) (w:Str):Bool:=f==w&&sc.lookup f==some .globalImplicit
def EG (d:cx)(sc:Sc)(f:Str)(a:Expr):Ix:=xi (noStar a) (cond (oy sc f "range") (me (d.ex sc a)) (xi (oy sc f "enumerate") (rm (d.ex sc a))))
def yJ (d:cx)(sc:Sc)(f:Str)(a b:Expr):Ix:=xi (oy sc f "zip"&&(noStar a&&noStar b)) (wj (d.ex sc a) (d.ex sc b))
def Yr (d:cx)(sc:Sc)(f:Str)(a:Expr)(r:List Expr):Ix:=match r with
 |[]=>EG d sc f a
 |b::r=>xi r.isEmpty (yJ d sc f a b)
def Na (d:cx)(sc:Sc)(f:Str)(as:List Expr):Ix:=match as with
 |[]=>aad
 |a::r=>Yr d sc f a r
def Sa (d:cx)(sc:Sc)(e:Expr):Ix:=xo (iz e) λq=>xo (asName q.1) λf=>xi q.2.2.isEmpty (Na d sc f q.2.1)
noncomputable def Sb (f:Str):Bool:=f==("range":Str)||(f==("enumerate":Str)||f==("zip":Str))
def iA (e:Expr):Bool:=match e with
 |.Name ..=>true
 |.Attribute ..=>true
 |.Subscript ..=>true
 |.Call f _ _ _=>(match f with
  |.Name f _=>!Sb f
  |.Attribute ..=>true
  |_=>false)
 |_=>false
def eX (d:cx)(sc:Sc)(e:Expr):Ix:=cond (iA e) (cw (d.ex sc e)) (Sa d sc e)
def kj (e:Expr):Bool:=match iz e with
 |some q=>(match asName q.1 with
  |some f=>f==("enumerate":Str)||f==("zip":Str)
  |none=>false)
 |none=>false
noncomputable def zX:Expr->Bool
 |.Tuple ..=>true
 |_=>false
def Hu (o:Option Expr):Option Key:=oB o λe=>oB (yH e) Key.of
def oq:List (Option Expr)->Option (List Key)
 |[]=>some []
 |o::r=>oB (Hu o) λk=>oB (oq r) λks=>cond (ks.contains k) none (some (k::ks))
def mapOf (sc pV:Sc):List (Option Nat):=(pV.filter λp=>ur p.2).map λp=>if p.2==.free then slot sc p.1 else none
def oz (sc pV:Sc):Bool:=(pV.all λp=>p.2==.local||p.2==.globalImplicit||(p.2==.free&&(slot sc p.1).isSome&&(sc.lookup p.1==some .cell||sc.lookup p.1==some .free)))&&decide ((pV.map (·.1)).Nodup)&&pV.all (λp=>!(p.1==("__debug__":Str)))
def jA (e:Expr):Bool:=match iz e with
 |some q=>q.2.1.isEmpty&&q.2.2.isEmpty
 |none=>false
def EH (N:Nat)(d:cx)(sc:Sc)(elt:Expr)(scope:Scope)(g:Comprehension):Ex:=xo (ly scope.names g.target) λt =>
 xi (g.is_async==0&&(oz sc scope.names&&(scope.kind==.function&&(!scope.isGenerator&&(!scope.isCoroutine&&iA g.iter)))))
  (cp N (eX d sc g.iter) (mapOf sc scope.names) t (aS true (g.ifs.map (d.te scope.names))) (d.ex scope.names elt))
def zY (N:Nat)(d:cx)(sc:Sc)(e:Expr):Ex:=xo (Ht e) λq=>xo (j7 q.2.1) λg=>EH N d sc q.1 q.2.2 g
def Nb (d:cx)(sc:Sc)(o:Expr)(as:List Expr):Ex:=xo (xk as) λp=>xo (yH p.1) λy=>xo (j7 y.cps.toList) λn=>xo (iz p.2) λq=>xo (asName q.1) λf=>xo (j7 q.2.1) λx=>xo (asName x) λx =>
 xi (q.2.2.isEmpty&&oy sc f "str") (jL n (d.ex sc o) (gP sc x))
def Nc (c:Ca)(d:cx)(sc:Sc)(f:Expr)(as:List Expr)(pos:Pos):Ex:=match f with
 |.Attribute o m apos=>xi (apos.endLine==pos.line&&!jA o) (if m==("replace":Str)then Nb d sc o as else xo (Key.of m) λk=>ax c (d.ex sc o) k (as.map (d.ex sc)))
 |.Name _ _=>aD c (d.ex sc f) (as.map (d.ex sc))
 |_=>tF
def aaf (d:cx)(sc:Sc)(o i:Expr):Const->Ex
 |.str s=>xo (Key.of s) λk=>bO (d.ex sc o) k
 |_=>aq (d.ex sc o) (d.ex sc i)
def zZ (d:cx)(sc:Sc):Option Expr->Ex
 |some a=>d.ex sc a
 |none=>xC .none
def Sd (d:cx)(sc:Sc)(o i:Expr):Ex:=match i with
 |.Slice a b st _=>xi st.isNone (cU (d.ex sc o) (zZ d sc a) (zZ d sc b))
 |.Constant k _ _=>aaf d sc o i k
 |_=>aq (d.ex sc o) (d.ex sc i)
def unD (d:cx)(sc:Sc)(e:Expr):UnaryOp->Ex
 |.USub=>gN (d.ex sc e)
 |.Not=>xB (cV (tX (d.ex sc e)))
 |_=>tF
def EI (es:List Expr):Bool:=es.all noStar&&decide (es.length≤1000)
def Hv (c:Ca)(N:Nat)(d:cx)(sc:Sc)(e:Expr):Ex:=match e with
 |.Constant k _ _=>zW k
 |.Name x _=>gP sc x
 |.BoolOp op es _=>gj (op==.And) (es.map (d.ex sc))
 |.BinOp a op b _=>bw op (d.ex sc a) (d.ex sc b)
 |.UnaryOp op e _=>unD d sc e op
 |.IfExp t a b _=>ig (d.te sc t) (d.ex sc a) (d.ex sc b)
 |.Dict ks vs _=>xo (oq ks) λks=>xi (ks.length==vs.length&&(!vs.isEmpty&&decide (vs.length≤15))) (lH (ks.zip (vs.map (d.ex sc))))
 |.List es _=>xi (EI es) (cm (es.map (d.ex sc)))
 |.Tuple es _ _=>xi (EI es) (ao (es.map (d.ex sc)))
 |.ListComp elt gs scope _=>xo (j7 gs) λg=>EH N d sc elt scope g
 |.Compare e ops es _=>xi (ops.length==es.length&&!lastMarks ops es) (xB (ai (d.ex sc e) ((ops.map dS.of).zip (es.map (d.ex sc)))))
 |.Call f as ks pos=>xi (ks.isEmpty&&(as.all noStar&&decide (as.length<20))) (Nc c d sc f as pos)
 |.FormattedValue e k fs _=>xi (k==-1&&fs.isNone) (c5 (d.ex sc e))
 |.JoinedStr es _=>eO (es.map (d.ex sc))
 |.Attribute o m _=>xi (!jA o) (xo (Key.of m) λk=>aH (d.ex sc o) k)
 |.Subscript o i _=>Sd d sc o i
 |_=>tF
def Hw (d:cx)(sc:Sc)(e:Expr):Tx:=match e with
 |.UnaryOp op a _=>(match op with
  |.Not=>cV (d.te sc a)
  |_=>tX (d.ex sc e))
 |.BoolOp op es _=>aS (op==.And) (es.map (d.te sc))
 |.IfExp t a b _=>Yw (d.te sc t) (d.te sc a) (d.te sc b)
 |.Compare e ops es _=>xi (ops.length==es.length&&!lastMarks ops es) (ai (d.ex sc e) ((ops.map dS.of).zip (es.map (d.ex sc))))
 |_=>tX (d.ex sc e)
noncomputable def oA:Expr->Bool
 |.Tuple vs _ _=>vs.all (constantsAlone 8)
 |_=>false
noncomputable def Se:Expr->Bool
 |.Name ..=>true
 |.Attribute ..=>true
 |_=>false
def Sf (N:Nat)(d:cx)(sc:Sc)(e:Expr)(t:Expr):Sx:=match t with
 |.Name x _=>xi (sc.lookup x==some .local) (xo (slot sc x) λi=>if fC e then aR i (zY N d sc e)else aR i (d.ex sc e))
 |.Attribute o m _=>xi (Se o&&!fC e) (xo (Key.of m) λk=>cH (d.ex sc o) k (d.ex sc e))
 |.Subscript o i _=>xi (!fC e) (xo (yH i) λs=>xo (Key.of s) λk=>iQ (d.ex sc o) k (d.ex sc e))
 |.Tuple ts _ _=>xi (!(oA e||fC e)) (xo (mf sc ts) λis=>eH is (d.ex sc e))
 |_=>Kr
def Hx (d:cx)(sc:Sc)(e:Expr):Sx:=xo (iz e) λq=>xo (asName q.1) λx=>xo (xk q.2.1) λp=>xi (q.2.2.isEmpty&&(oy sc x "TextFault"&&(noStar p.1&&noStar p.2))) (c7 (d.ex sc p.1) (d.ex sc p.2))
def Hy (N:Nat)(d:cx)(sc:Sc)(st:Stmt):Sx:=match st with
 |.Expr e _=>xi (!fC e) (bo (d.ex sc e))
 |.Return e _=>(match e with
  |none=>aW (xC .none)
  |some e=>aW (d.ex sc e))
 |.Assign ts e _=>xo (j7 ts) (Sf N d sc e)
 |.If t a b _=>bc (d.te sc t) (a.map (d.st sc)) (b.map (d.st sc))
 |.While t a b _=>xi b.isEmpty (fB N (d.te sc t) (a.map (d.st sc)))
 |.For t it a b _=>xi (b.isEmpty&&!(kj it&&!zX t)) (xo (ly sc t) λtg=>hZ N tg (eX d sc it) (a.map (d.st sc)))
 |.Raise e r _=>xi r.isNone (xo e (Hx d sc))
 |_=>Kr
def OH (c:Ca)(N:Nat)(d:cx):cx:=⟨Hv c N d,Hw d,Hy N d⟩
def gu (c:Ca)(N:Nat):Nat->cx
 |0=>⟨λ_ _=>tF,λ_ _=>aac,λ_ _=>Kr⟩
 |n+1=>OH c N (gu c N n)
noncomputable def deep:Nat:=24
def WR (c:Ca)(N:Nat)(sc:Sc)(b:List Stmt):Sx:=aF (b.map ((gu c N deep).st sc))
noncomputable def cB (names:List Str) (ps:List Str) (vs:List V):Loc:=names.map λx=>(ps.zip vs).lookup x
def bj (f:Sx)(loc:Loc)(hp:HP):R V:=az (f loc hp) λp hp=>match p.1 with
 |.ret v=>.ok v hp
 |.next=>.ok .none hp
def Hc (c:Ca)(N:Nat)(st:Stmt):Fn:=λvs hp =>
 if((bf st).args.map (·.arg)).length==vs.length then bj (WR c N (aw st).names (di st)) (cB (bV (aw st).names) ((bf st).args.map (·.arg)) vs) hp else .bad
noncomputable def OI:Stmt->Option Expr
 |.Expr e _=>some e
 |_=>none
def Nd:List Stmt->Option (List Expr×List Stmt)
 |[]=>none
 |s::r=>match OI s with
  |some e=>(match iz e with
   |some q=>some (q.2.1,r)
   |none=>none)
  |none=>none
def uu (c:Ca)(N:Nat)(st:Stmt):Fn:=λvs hp =>
 if((bf st).args.map (·.arg)).length==vs.length then(match Nd (di st)with
  |some q=>bj (aF (bo (jg c (q.1.map ((gu c N deep).ex (aw st).names)))::q.2.map ((gu c N deep).st (aw st).names))) (cB (bV (aw st).names) ((bf st).args.map (·.arg)) vs) hp
  |none=>.bad)else .bad
def table:List (Addr×Stmt):=[(119,aK 14 0),(126,aK 14 1),(133,aK 14 2),(140,aK 14 3),(147,aK 14 4),(161,bg 15),(166,bg 16),(173,bg 17),(178,bg 18),(188,bg 20),(195,bg 21),(200,bg 22),
 (207,bg 23),(214,bg 24),(228,aK 25 0),(235,aK 25 1),(242,aK 25 2),(249,aK 25 3),(256,aK 25 4),(263,aK 25 5),(270,aK 25 6),(291,aK 26 0),(298,aK 26 1),(305,aK 26 2),(312,aK 26 3),
 (319,aK 26 4),(326,aK 26 5),(333,aK 26 6),(340,aK 26 7),(347,aK 26 8),(370,aK 27 0),(377,aK 27 1),(384,aK 27 2),(391,aK 27 3),(398,aK 27 4),(405,aK 27 5),(412,aK 27 6),(419,aK 27 7),
 (426,aK 27 8),(431,aK 27 9),(443,bg 29),(450,bg 30),(457,bg 31),(464,bg 32),(471,bg 33),(478,bg 34),(485,bg 35),(492,bg 36),(499,bg 37),(504,bg 38)]
def m5 (c:Ca)(C:Addr)(vs:List V)(hp:HP):R V :=
 match ff (d0 C) .init with
 |some f=>az (c (.fix (.ref f)) (.ref hp.length::vs) (hp++[.inst C (hp.length+1),.dict []])) λr hp'=>match r with
  |.none=>.ok (.ref hp.length) hp'
  |_=>.bad
 |none=>.bad
def fE (N:Nat)(c:Ca):Ca:=λf vs hp =>
 match f with
 |.fix (.ref a)=>if isClass a then m5 c a vs hp else match table.lookup a with
  |some st=>if a==370 then uu c N st vs hp else Hc c N st vs hp
  |none=>.bad
 |.fix (.builtin b)=>match builtins.lookup b with
  |some g=>g vs hp
  |none=>.bad
 |.fix (.type t)=>match types.lookup t with
  |some g=>g vs hp
  |none=>.bad
 |_=>.bad
def ag (N:Nat):Nat->Ca
 |0=>λ_ _ _=>.bad
 |k+1=>fE N (ag N k)
section
noncomputable abbrev Pl:=List Addr
def mh (h:Heap)(a:Addr)(its:Array Value):Prop:=∃n,IsT h a its n
theorem mh.is {h:Heap}{a:Addr}{its:Array Value}(x:mh h a its):IsTup h a its:=let⟨n,e⟩:=x;⟨_,e,rfl,n,rfl⟩
theorem bx {α:Type}{x:α}{P:Prop}(h:none=some x):P:=by cases h
theorem ft {P:Prop}(h:false=true):P:=by cases h
theorem fg {α:Type}{l:List α}{a:α}(h:j7 l=some a):l=[a]:=by
 cases l with
 |nil=>exact bx h
 |cons b r=>cases r with
  |nil=>exact congrArg (λx=>[x]) (oi h)
  |cons _ _=>exact bx h
theorem bE {α β:Type}{o:Option α}{f:α->Option β}{b:β}(h:oB o f=some b):∃a,o=some a∧f a=some b:=by
 cases o with
 |none=>exact bx h
 |some a=>exact⟨a,rfl,h⟩
theorem mj {α:Type}{l:List α}{a:α×α}(h:xk l=some a):l=[a.1,a.2]:=by
 cases l with
 |nil=>exact bx h
 |cons b r =>
  refine aj (bE h) λc h1 h2=>?_;rw[fg h1,<- oi h2]
theorem fW {α:Type}{l:List α}(h:l.isEmpty=true):l=[]:=List.isEmpty_iff.mp h
theorem l7 {α:Type}{l:Option α}(h:l.isNone=true):l=none:=Option.isNone_iff_eq_none.mp h
theorem Hz {α:Type}{l:List α}{a:α×α×α}(h:RP l=some a):l=[a.1,a.2.1,a.2.2]:=by
 cases l with
 |nil=>exact bx h
 |cons b r =>
  refine aj (bE h) λc h1 h2=>?_;rw[mj h1,<- oi h2]
theorem iS {v:V}{x:Int}(h:vInt v=some x):v=.int x:=by cases v<;>first|exact congrArg _ (oi h)|exact bx h
theorem fy {v:V}{x:List Nat}(h:vStr v=some x):v=.str x:=by cases v<;>first|exact congrArg _ (oi h)|exact bx h
theorem rn {v:V}{x:List V}(h:wh v=some x):v=.tup x:=by cases v<;>first|exact congrArg _ (oi h)|exact bx h
theorem gv {v:V}{x:Nat}(h:lr v=some x):v=.ref x:=by cases v<;>first|exact congrArg _ (oi h)|exact bx h
theorem CG {v:V}{x:Value}(h:J5 v=some x):v=.fix x:=by cases v<;>first|exact congrArg _ (oi h)|exact bx h
theorem CH {v:V}{x:Nat}(h:J6 v=some x):v=.str [x]:=by
 refine aj (bE h) λl h1 h2=>?_;rw[fy h1,fg h2]
theorem oC {n:Nat}{v:Value}(h:isRef n v=true):v=.ref n:=by cases v<;>first|exact congrArg _ (beq_iff_eq.mp h)|exact ft h
theorem dD {hp:HP}{i:Nat}{l:List V}(h:eN hp i=some l):hp[i]?=some (.list l):=by
 refine aj (bE h) λo h1 h2=>?_;rw[h1];cases o<;>first|exact congrArg (λl=>some (O.list l)) (oi h2)|exact bx h2
theorem kl {hp:HP}{i:Nat}{l:List (Key×V)}(h:kI hp i=some l):hp[i]?=some (.dict l):=by
 refine aj (bE h) λo h1 h2=>?_;rw[h1];cases o<;>first|exact congrArg (λl=>some (O.dict l)) (oi h2)|exact bx h2
theorem tI {hp:HP}{i:Nat}{q:Addr×Nat}(h:lG hp i=some q):hp[i]?=some (.inst q.1 q.2):=by
 refine aj (bE h) λo h1 h2=>?_;rw[h1];cases o<;>first|exact congrArg (λq:Addr×Nat=>some (O.inst q.1 q.2)) (oi h2)|exact bx h2
theorem nC {hp:HP}{v:V}{l:List V}(h:tD hp v=some l):∃k,v=.ref k∧hp[k]?=some (.list l):=by
 refine aj (bE h) λk h1 h2=>?_;exact⟨k,gv h1,dD h2⟩
theorem bk {a b:Bool}(h:(a&&b)=true):a=true∧b=true:=Bool.and_eq_true_iff.mp h
mutual
inductive Val (no:List Addr)(i:Pl)(h:Heap):V->Value->Prop
 |none:Val no i h .none .none
 |bool (b:Bool):Val no i h (.bool b) (.bool b)
 |int (k:Int) (t:Tok):Val no i h (.int k) (.int k t)
 |str (l:List Nat) (t:Tok):Val no i h (.str l) (.str (S l) t)
 |tup {vs:List V} {a:Addr} {its:Array Value} (hn:a∉no) (x:mh h a its) (y:Vals no i h vs its.toList):Val no i h (.tup vs) (.ref a)
 |ref (k:Nat) (a:Addr) (e:i[k]?=some a):Val no i h (.ref k) (.ref a)
 |fix (v:Value):Val no i h (.fix v) v
inductive Vals (no:List Addr)(i:Pl)(h:Heap):List V->List Value->Prop
 |nil:Vals no i h [] []
 |cons {v:V} {vs:List V} {a:Value} {as:List Value} (x:Val no i h v a) (y:Vals no i h vs as):Vals no i h (v::vs) (a::as)
end
def aag (no:List Addr)(i:Pl)(h:Heap)(v:V)(a:Value):Prop:=match v with
 |.none=>a=.none
 |.bool b=>a=.bool b
 |.int k=>∃t,a=.int k t
 |.str l=>∃t,a=.str (S l) t
 |.tup vs=>∃t its,a=.ref t∧t∉no∧mh h t its∧Vals no i h vs its.toList
 |.ref k=>∃b,a=.ref b∧i[k]?=some b
 |.fix v=>a=v
def W6 (no:List Addr)(i:Pl)(h:Heap)(v:List V)(as:List Value):Prop:=match v with
 |[]=>as=[]
 |v::vs=>∃a bs,as=a::bs∧Val no i h v a∧Vals no i h vs bs
theorem Val.inv {no:List Addr}{i:Pl}{h:Heap}{v:V}{a:Value}(x:Val no i h v a):aag no i h v a:=by
 cases x with
 |none=>exact rfl
 |bool b=>exact rfl
 |int k t=>exact⟨t,rfl⟩
 |str l t=>exact⟨t,rfl⟩
 |tup hn x y=>exact⟨_,_,rfl,hn,x,y⟩
 |ref k b e=>exact⟨b,rfl,e⟩
 |fix v=>exact rfl
theorem Vals.Sg {no:List Addr}{i:Pl}{h:Heap}{v:List V}{a:List Value}(x:Vals no i h v a):W6 no i h v a:=by
 cases x with
 |nil=>exact rfl
 |cons x y=>exact⟨_,_,rfl,x,y⟩
theorem Val.z0 {no:List Addr}{i:Pl}{h:Heap}{a:Value}(x:Val no i h .none a):a=.none:=x.inv
theorem Val.tJ {no:List Addr}{i:Pl}{h:Heap}{a:Value}{b:Bool}(x:Val no i h (.bool b) a):a=.bool b:=x.inv
theorem Val.dn {no:List Addr}{i:Pl}{h:Heap}{a:Value}{k:Int}(x:Val no i h (.int k) a):∃t,a=.int k t:=x.inv
theorem Val.cN {no:List Addr}{i:Pl}{h:Heap}{a:Value}{l:List Nat}(x:Val no i h (.str l) a):∃t,a=.str (S l) t:=x.inv
theorem Val.fz {no:List Addr}{i:Pl}{h:Heap}{a:Value}{vs:List V}(x:Val no i h (.tup vs) a):∃t its,a=.ref t∧t∉no∧mh h t its∧Vals no i h vs its.toList:=x.inv
theorem Val.Ku {no:List Addr}{i:Pl}{h:Heap}{t:Addr}{vs:List V}(x:Val no i h (.tup vs) (.ref t)):∃its,t∉no∧mh h t its∧Vals no i h vs its.toList :=
 let⟨_,its,e,r⟩:=x.inv
 ⟨its,by injection e with e;subst e;exact r⟩
theorem Val.cP {no:List Addr}{i:Pl}{h:Heap}{a:Value}{k:Nat}(x:Val no i h (.ref k) a):∃b,a=.ref b∧i[k]?=some b:=x.inv
theorem Val.km {no:List Addr}{i:Pl}{h:Heap}{a v:Value}(x:Val no i h (.fix v) a):a=v:=x.inv
theorem Vals.wm {no:List Addr}{i:Pl}{h:Heap}{as:List Value}(x:Vals no i h [] as):as=[]:=x.Sg
theorem Vals.inv {no:List Addr}{i:Pl}{h:Heap}{v:V}{vs:List V}{as:List Value}(x:Vals no i h (v::vs) as):∃a bs,as=a::bs∧Val no i h v a∧Vals no i h vs bs:=x.Sg
theorem Vals.inv1 {no:List Addr}{i:Pl}{h:Heap}{v:V}{as:List Value}(x:Vals no i h [v] as):∃a,as=[a]∧Val no i h v a:=by
 obtain⟨a,bs,rfl,x,y⟩:=x.inv;exact⟨a,by rw[y.wm],x⟩
theorem Vals.inv2 {no:List Addr}{i:Pl}{h:Heap}{v w:V}{as:List Value}(x:Vals no i h [v,w] as):∃a b,as=[a,b]∧Val no i h v a∧Val no i h w b:=by
 refine cb (x.inv) λa bs e x1 y=>?_;refine aj (y.inv1) λb e' y1=>?_;exact⟨a,b,e'▸e,x1,y1⟩
theorem Vals.Sh {no:List Addr}{i:Pl}{h:Heap}{v w u:V}{as:List Value}(x:Vals no i h [v,w,u] as):∃a b c,as=[a,b,c]∧Val no i h v a∧Val no i h w b∧Val no i h u c:=by
 refine cb (x.inv) λa bs e x1 y=>?_;refine cb (y.inv2) λb c e' y1 z=>?_;exact⟨a,b,c,e'▸e,x1,y1,z⟩
def bq (no:List Addr)(h h':Heap):Prop:=∀a its,a∉no->mh h a its->mh h' a its
theorem bq.refl (no:List Addr)(h:Heap):bq no h h:=λ_ _ _ x=>x
theorem bq.trans {no:List Addr}{h dQ ib:Heap}(x:bq no h dQ)(y:bq no dQ ib):bq no h ib:=λa i hn z=>y a i hn (x a i hn z)
theorem bq.of {no:List Addr}{h h':Heap}(k:∀b o,h.get? b=some o->h'.get? b=some o):bq no h h':=λ_ _ _ ⟨n,ho⟩=>⟨n,k _ _ ho⟩
def bB (i i':Pl):Prop:=∃t,i'=i++t
theorem bB.refl (i:Pl):bB i i:=⟨[],by simp⟩
theorem bB.trans {i j k:Pl}(x:bB i j)(y:bB j k):bB i k:=by
 refine aQ x λt aC=>?_;subst aC;obtain⟨u,rfl⟩:=y;exact⟨t++u,by simp⟩
theorem bB.get {i i':Pl}(g:bB i i'){k:Nat}{a:Addr}(e:i[k]?=some a):i'[k]?=some a:=by
 refine aQ g λt aC=>?_;subst aC;refine aQ (List.getElem?_eq_some_iff.mp e) λhk e=>?_;rw[List.getElem?_append_left hk,List.getElem?_eq_getElem hk,e]
theorem bB.snoc (i:Pl)(a:Addr):bB i (i++[a]):=⟨[a],rfl⟩
variable {no:List Addr}{i i' aB ck:Pl}{h h':Heap}
theorem Val.keep (g:bB i i')(k:bq no h h'){v:V}{a:Value}(x:Val no i h v a):Val no i' h' v a :=
 Val.rec (motive_1:=λv a _=>Val no i' h' v a) (motive_2:=λvs as _=>Vals no i' h' vs as) .none .bool .int .str (λhn x _ y=>.tup hn (k _ _ hn x) y) (λn a e=>.ref n a (g.get e)) .fix .nil (λ_ _ x y=>.cons x y) x
theorem Vals.ind {P:List V->List Value->Prop}(h0:P [] [])(h1:∀{v vs a as},Val no i h v a->Vals no i h vs as->P vs as->P (v::vs) (a::as)){vs:List V}{as:List Value}(x:Vals no i h vs as):P vs as :=
 Vals.rec (motive_1:=λ_ _ _=>True) (motive_2:=λvs as _=>P vs as) trivial (λ_=>trivial) (λ_ _=>trivial) (λ_ _=>trivial) (λ_ _ _ _=>trivial) (λ_ _ _=>trivial) (λ_=>trivial) h0 (λx y _ z=>h1 x y z) x
theorem Vals.keep (g:bB i i')(k:bq no h h'){vs:List V}{as:List Value}(x:Vals no i h vs as):Vals no i' h' vs as:=x.ind .nil λx _ y=>.cons (x.keep g k) y
theorem Vals.length {vs:List V}{as:List Value}(x:Vals no i h vs as):vs.length=as.length:=x.ind (P:=λvs as=>vs.length=as.length) rfl λ_ _ e=>congrArg (·+1) e
theorem Vals.append {vs ws:List V}{as bs:List Value}(x:Vals no i h vs as)(z:Vals no i h ws bs):Vals no i h (vs++ws) (as++bs):=x.ind (P:=λvs as=>Vals no i h (vs++ws) (as++bs)) z λx _ y=>.cons x y
theorem Vals.get {vs:List V}{as:List Value}(x:Vals no i h vs as){n:Nat}{v:V}:vs[n]?=some v->∃a,as[n]?=some a∧Val no i h v a :=
 x.ind (P:=λvs as=>∀n,vs[n]?=some v->∃a,as[n]?=some a∧Val no i h v a) (λn e=>bx (List.getElem?_nil.symm.trans e))
  (λx _ ih n=>Nat.casesOn n (λe=>⟨_,rfl,oi e▸x⟩) λn=>ih n) n
theorem Vals.drop (n:Nat){vs:List V}{as:List Value}(x:Vals no i h vs as):Vals no i h (vs.drop n) (as.drop n) :=
 x.ind (P:=λvs as=>∀n,Vals no i h (vs.drop n) (as.drop n)) (λn=>by rw[List.drop_nil,List.drop_nil];exact .nil) (λx y ih n=>Nat.casesOn n (.cons x y) ih) n
theorem Vals.take (n:Nat){vs:List V}{as:List Value}(x:Vals no i h vs as):Vals no i h (vs.take n) (as.take n) :=
 x.ind (P:=λvs as=>∀n,Vals no i h (vs.take n) (as.take n)) (λn=>by rw[List.take_nil,List.take_nil];exact .nil) (λx y ih n=>Nat.casesOn n .nil λn=>.cons x (ih n)) n
theorem Vals.dropLast {vs:List V}{as:List Value}(x:Vals no i h vs as):Vals no i h vs.dropLast as.dropLast :=
 x.ind (P:=λvs as=>Vals no i h vs.dropLast as.dropLast) .nil λx y ih=>by
  cases y with
  |nil=>exact .nil
  |cons y z=>exact .cons x ih
inductive fb (no:List Addr)(i:Pl)(P:Params)(h:Heap):List (Key×V)->List DictEntry->Prop
 |nil:fb no i P h [] []
 |cons {k:Key} {v:V} {r:List (Key×V)} {t:Tok} {a:Value} {es:List DictEntry} (x:Val no i h v a) (y:fb no i P h r es) :
   fb no i P h ((k,v)::r) (⟨PyData.keyHash P k.str,.str k.str t,a⟩::es)
theorem fb.keep {P:Params}(g:bB i i')(k:bq no h h'){es:List (Key×V)}{ds:List DictEntry}(x:fb no i P h es ds):fb no i' P h' es ds:=by
 induction x with
 |nil=>exact .nil
 |cons x _ ih=>exact .cons (x.keep g k) ih
def fK (no:List Addr)(i:Pl)(P:Params)(h:Heap)(a:Addr):O->Prop
 |.list xs=>∃its n,h.get? a=some (listOf its n)∧Vals no i h xs its.toList
 |.dict es=>∃ds n,h.get? a=some (dictOf ds n)∧fb no i P h es ds∧(es.map (·.1)).Nodup
 |.inst C d=>∃da,i[d]?=some da∧h.get? a=some (instObj C da)
theorem fK.keep {P:Params}{a:Addr}{o:O}(x:fK no i P h a o)(g:bB i i')(k:bq no h h')(e:h'.get? a=h.get? a):fK no i' P h' a o:=by
 cases o with
 |list xs=>obtain⟨its,n,h1,h2⟩:=x;exact⟨its,n,e.trans h1,h2.keep g k⟩
 |dict es=>obtain⟨ds,n,h1,h2,h3⟩:=x;exact⟨ds,n,e.trans h1,h2.keep g k,h3⟩
 |inst C d=>obtain⟨da,h1,h2⟩:=x;exact⟨da,g.get h1,e.trans h2⟩
theorem fK.some {P:Params}{a:Addr}{o:O}(x:fK no i P h a o):∃ob,h.get? a=some ob∧ob.cls≠.type "tuple"∧(∀vs,ob.data≠.fields vs)∧∀c,ob.data≠.cell c:=by
 cases o with
 |list xs=>obtain⟨its,n,h1,_⟩:=x;exact⟨_,h1,by simp,by simp,by simp⟩
 |dict es=>obtain⟨ds,n,h1,_⟩:=x;exact⟨_,h1,by simp,by simp,by simp⟩
 |inst C d=>obtain⟨da,_,h1⟩:=x;exact⟨_,h1,by simp,by simp,by simp⟩
structure Cx where
 w:World
 A:Around
 hb:Heap
 os:OsState
 env:Env
 d8:List Env
 oc:List Addr
 sc:Sc
 no:List Addr
noncomputable abbrev Cx.L (C:Cx):Addr:=C.env.locals
noncomputable abbrev Cx.own (C:Cx):List Addr:=C.env.locals::C.oc
abbrev Cx.M (C:Cx):Model:=model pw C.w
abbrev Cx.names (C:Cx):List Str:=bV C.sc
def Si (C:Cx)(x:Str):NameKind->Prop
 |.local=>C.env.kindOf x=some .local
 |.cell=>C.env.kindOf x=some .cell∧∃c,C.env.cells.lookup x=some c∧c∈C.own∧c≠C.L
 |.free=>(C.env.kindOf x=some .cell∨(C.env.kindOf x=some .free∧(x==("__classdict__":Str))=false))∧∃c,C.env.cells.lookup x=some c
 |.globalImplicit=>C.env.kindOf x=some .globalImplicit
 |.globalExplicit=>True
structure Cx.Ok (C:Cx)(n:Nat):Prop where
 frames:C.A.frames=some C.d8
 depth:C.A.depth+10*n≤900
 units:C.A.units+40*n≤1000
 handled:C.A.handled=none
 dI:(K C.w.params).In C.hb
 top:∃p loose mg mb,TopRead p loose mg mb C.hb
 kind:C.env.scope.kind=.function
 globals:C.env.globals=mainGlobals
 builtins:C.env.builtins=builtinsNs
 names:∀x k,C.sc.lookup x=some k->Si C x k∧(x==("__debug__":Str))=false
 nd:(C.sc.map (·.1)).Nodup
 cells:∀x y c,C.env.cells.lookup x=some c->C.env.cells.lookup y=some c->x=y
 nD:∀b∈C.own,C.hb.get? b=none
 above:C.hb.objs.size≤C.L
 noNew:∀b∈C.no,C.hb.get? b=none
 frame:∃F outer e,C.env.frame=some F∧C.d8=e::outer∧e.frame=some F
 func:C.env.scope.isGenerator=false∧C.env.scope.isCoroutine=false
def dN (C:Cx)(i:Pl)(h:Heap)(m:Str->Option Value)(x:Str)(k:NameKind)(v:Option V):Prop :=
 match k with
 |.local=>∀u,v=some u->∃a,m x=some a∧Val C.no i h u a
 |_=>∃c a,C.env.cells.lookup x=some c∧h.IsCell c a∧∀u,v=some u->∃b,a=some b∧Val C.no i h u b
structure Rep (C:Cx)(i:Pl)(loc:Loc)(hp:HP)(s:Shared):Prop where
 ns:∃m,s.heap.Ns C.L m∧∀(n:Nat) v,loc[n]?=some v->∃x k,C.names[n]?=some x∧C.sc.lookup x=some k∧dN C i s.heap m x k v
 len:i.length=hp.length
 objs:∀(n:Nat) o,hp[n]?=some o->∃a,i[n]?=some a∧fK C.no i C.w.params s.heap a o
 nd:i.Nodup
 new:∀a∈i,C.hb.get? a=none
 own:∀b∈C.own,b∉i∧∃o,s.heap.get? b=some o∧(∀vs,o.data≠.fields vs)∧∀its n,o.data≠.seq its n
 base:∀b o,C.hb.get? b=some o->s.heap.get? b=some o
 fQ:s.heap.FunFrames C.hb C.d8
 gens:s.gens=#[]
 os:s.os=C.os
 pos:0<s.toks
 ll:loc.length=C.names.length
 d9:∀b∈C.no,b∉i∧∃o,s.heap.get? b=some o
structure aJ (own:List Addr)(i:Pl)(s:Shared)(i':Pl)(s':Shared):Prop where
 keep:∀b o,s.heap.get? b=some o->b∉own->b∉i->s'.heap.get? b=some o
 live:∀b o,s.heap.get? b=some o->∃o',s'.heap.get? b=some o'
 grow:∃t,i'=i++t∧∀a∈t,s.heap.get? a=none
inductive TrT (hb:Heap)(fr:Option Addr)(ea:Addr)(h:Heap)(vs:Array Value):Prop
 |mk (T:Addr) (oT:Obj) (ts:Array Value) (fl:Value) (h4:vs[1]?=some (.ref T)) (h5:hb.get? T=none) (h6:T≠ea) (h7:h.get? T=some oT) (h8:oT.data=.fields ts) (h9:3<ts.size) (uv:ts[3]?=some fl) (Sj:fl=.none∨∃F,fr=some F∧fl=rawInt F)
inductive Tr (hb:Heap)(fr:Option Addr)(ea:Addr)(h:Heap):Prop
 |mk (oe:Obj) (vs:Array Value) (h1:h.get? ea=some oe) (h2:oe.data=.fields vs) (h3:1<vs.size) (h4:vs[1]?=some .none∨TrT hb fr ea h vs)
noncomputable abbrev Trace (C:Cx):Addr->Heap->Prop:=Tr C.hb C.env.frame
inductive aah (hb:Heap)(fr:Option Addr)(d8:List Env)(k:Int)(e:Value)(h:Heap):Prop
 |mk (ea d:Addr) (oe od:Obj) (t:Tok) (e0:e=.ref ea) (e1:h.get? ea=some oe) (e2:oe.cls=.ref 81) (e3:oe.dict=some d) (e4:hb.get? ea=none) (e5:Tr hb fr ea h) (e6:h.get? d=some od) (c6:od.cls=.type "dict") (d6:od.dict=none)
  (e7:∀vs,od.data≠.fields vs) (e8:lookIn "spot" od=some (some (.int k t))) (e9:∀v∈d8,v.frame≠some d)
noncomputable abbrev Sk (C:Cx):Int->Value->Heap->Prop:=aah C.hb C.env.frame C.d8
structure ml (C:Cx)(k:Int)(e:Value)(s:Shared):Prop where
 obj:Sk C k e s.heap
 base:∀b o,C.hb.get? b=some o->s.heap.get? b=some o
 fQ:s.heap.FunFrames C.hb C.d8
 gens:s.gens=#[]
 os:s.os=C.os
def fS (own:List Addr)(i:Pl)(s s':Shared):Prop:=∀b o,s.heap.get? b=some o->(∀vs,o.data≠.fields vs)->b∉own->b∉i->∃sl,s'.heap.get? b=some {o with slots:=sl}
variable {α β γ δ:Type}{C:Cx}{loc loc':Loc}{hp hp' au bJ:HP}{s s' ah aO:Shared}{own:List Addr}
theorem qh {sc:Sc}{n:Nat}{x:Str}(e:(bV sc)[n]?=some x):∃k,(x,k)∈sc∧ur k=true:=by
 have:=List.mem_of_getElem? e;refine aj (List.mem_map.mp this) λp hp bH=>?_;subst bH;refine bp (List.mem_filter.mp hp) λh1 h2=>?_;exact⟨p.2,h1,h2⟩
theorem Rep.lV (R:Rep C i loc hp s){a:Addr}{its:Array Value}(x:mh s.heap a its):a∉C.own∧a∉i:=by
 refine aQ x λn ho=>?_;refine⟨λhm=>?_,λhm=>?_⟩
 ·obtain⟨_,o',qi,_,h1⟩:=R.own a hm;rw[ho]at qi;obtain rfl:=oi qi;exact h1 _ _ rfl
 ·refine aQ (List.mem_iff_getElem?.mp hm) λn hn=>?_;have hl:n<hp.length:=by have:=(List.getElem?_eq_some_iff.mp hn).1;rw[R.len]at this;exact this
  refine aj (R.objs n hp[n] (List.getElem?_eq_getElem hl)) λa' e1 e2=>?_;rw[hn]at e1;obtain rfl:=oi e1;refine dP (e2.some) λo' qi h1 _=>?_;rw[ho]at qi;obtain rfl:=oi qi;exact h1 rfl
theorem Rep.gw (R:Rep C i loc hp s){a:Addr}(hm:a∈i):∃(n:Nat) (o:O),i[n]?=some a∧hp[n]?=some o∧fK C.no i C.w.params s.heap a o:=by
 refine aQ (List.mem_iff_getElem?.mp hm) λn hn=>?_;have hl:n<hp.length:=by have:=(List.getElem?_eq_some_iff.mp hn).1;rw[R.len]at this;exact this
 refine aj (R.objs n hp[n] (List.getElem?_eq_getElem hl)) λa' e1 e2=>?_;rw[hn]at e1;obtain rfl:=oi e1;exact⟨n,hp[n],hn,List.getElem?_eq_getElem hl,e2⟩
theorem aJ.g (k:aJ own i s i' s'):bB i i':=let⟨t,e,_⟩:=k.grow;⟨t,e⟩
theorem aJ.tup (k:aJ own i s i' s')(R:Rep C i loc hp s)(ho:∀b∈own,b∈C.own):bq C.no s.heap s'.heap:=λa its _ x=>by
 refine bp (R.lV x) λh1 h2=>?_;refine aQ x λn hx=>?_;exact⟨n,k.keep a _ hx (λq=>h1 (ho _ q)) h2⟩
theorem aJ.refl (own:List Addr)(i:Pl)(s:Shared):aJ own i s i s:=⟨λ_ _ e _ _=>e,λ_ o e=>⟨o,e⟩,[],by simp,by simp⟩
theorem aJ.off (k:aJ own i s i' s'){b:Addr}{o:Obj}(e:s.heap.get? b=some o)(hb:b∉i):b∉i':=λhm=>by
 refine aj (k.grow) λt aC ht=>?_;subst aC;rcases List.mem_append.mp hm with q|q
 ·exact hb q
 ·rw[ht b q]at e;exact(Option.some_ne_none _ e.symm).elim
theorem aJ.trans (x:aJ own i s aB ah)(y:aJ own aB ah ck aO):aJ own i s ck aO:=by
 refine⟨λb o e h1 h2=>y.keep b o (x.keep b o e h1 h2) h1 (x.off e h2),λb o e=>?_,?_⟩
 ·refine aQ (x.live b o e) λo' e'=>?_;exact y.live b o' e'
 ·refine aj (x.grow) λt aC ht=>?_;subst aC;refine aj (y.grow) λu aC hu=>?_;subst aC;refine⟨t++u,by simp,λa ha=>?_⟩;rcases List.mem_append.mp ha with q|q
  ·exact ht a q
  ·cases z:s.heap.get? a with
   |none=>rfl
   |some o=>obtain⟨o',e'⟩:=x.live a o z;rw[hu a q]at e';exact(Option.some_ne_none _ e'.symm).elim
theorem aJ.weaken (k:aJ own i s i' s'){own':List Addr}(ho:∀b∈own,b∈own'):aJ own' i s i' s':=⟨λb o e h1 h2=>k.keep b o e (λq=>h1 (ho b q)) h2,k.live,k.grow⟩
theorem aJ.x (k:aJ own i s i' s'):fS own i s s':=λb o e _ h1 h2=>⟨o.slots,k.keep b o e h1 h2⟩
theorem aJ.z5 (x:aJ own i s i' s')(y:fS own i' s' aO):fS own i s aO:=λb o e hn h1 h2=>y b o (x.keep b o e h1 h2) hn h1 (x.off e h2)
theorem fS.weaken (k:fS own i s s'){own':List Addr}(ho:∀b∈own,b∈own'):fS own' i s s':=λb o e hn h1 h2=>k b o e hn (λq=>h1 (ho b q)) h2
abbrev fJ (α β:Type):=Pl->Heap->β->α->Prop
def PN (C:Cx)(own:List Addr)(i:Pl)(s:Shared)(lc:β->Loc)(T:fJ α β)(r:R β):α->Shared->Prop :=
 λa s'=>∃b hp' i',r=.ok b hp'∧Rep C i' (lc b) hp' s'∧aJ own i s i' s'∧T i' s'.heap b a
def PX (C:Cx)(own:List Addr)(i:Pl)(s:Shared)(r:R β):Value->Shared->Prop:=λe s'=>∃k,r=.gH k∧ml C k e s'∧fS own i s s'
def eE (C:Cx)(own:List Addr)(i:Pl)(s:Shared)(lc:β->Loc)(T:fJ α β)(r:R β)(t:Sem α):Prop :=
 r≠.bad->wpAny C.M C.A t (PN C own i s lc T r) (PX C own i s r) s
theorem cG {κ:Type}{o:Option κ}{f:κ->R β}{lc:β->Loc}{T:fJ α β}{m:Sem α}(h:∀k,o=some k->eE C own i s lc T (f k) m):eE C own i s lc T (rB o f) m:=by
 cases o with
 |none=>exact λhb=>absurd rfl hb
 |some k=>exact h k rfl
theorem iB {b:Bool}{r:R β}{lc:β->Loc}{T:fJ α β}{m:Sem α}(h:b=true->eE C own i s lc T r m):eE C own i s lc T (rI b r) m:=by
 cases b with
 |false=>exact λhb=>absurd rfl hb
 |true=>exact h rfl
theorem PX.az {r:R β}{g:β->HP->R δ}{e:Value}(x:PX C own i s r e s'):PX C own i s (Internal.az r g) e s':=x.elim λn y=>⟨n,y.1▸rfl,y.2⟩
theorem PX.up {r:R β}(k:aJ own i s aB ah){e:Value}{s':Shared}(x:PX C own aB ah r e s'):PX C own i s r e s':=x.elim λn y=>⟨n,y.1,y.2.1,k.z5 y.2.2⟩
theorem PN.up {T:fJ α β}{lc:β->Loc}{r:R β}(k:aJ own i s aB ah){a:α}{s':Shared}(x:PN C own aB ah lc T r a s'):PN C own i s lc T r a s':=by
 refine fj x λb hp' i' e h1 h2 h3=>?_;exact⟨b,hp',i',e,h1,k.trans h2,h3⟩
theorem kU {r:R β}{g:β->HP->R δ}(hb:Internal.az r g≠.bad):r≠.bad:=λe=>hb (e▸rfl)
theorem nE {β γ δ:Type}(r:R β)(f:β->HP->R γ)(g:γ->HP->R δ):Internal.az (Internal.az r f) g=Internal.az r λb hp=>Internal.az (f b hp) g:=by cases r<;>rfl
theorem HA {β γ:Type}{r:R β}{f g:β->HP->R γ}(h:∀b hp,f b hp=g b hp):Internal.az r f=Internal.az r g:=congrArg (Internal.az r) (funext λb=>funext (h b))
theorem Sl {β:Type}{b:β}{hp:HP}{k:Int}{P:Prop}(h:R.ok b hp=.gH k):P:=by cases h
theorem Sm {β:Type}{b:β}{hp:HP}:R.ok b hp≠.bad:=λh=>by cases h
theorem Sn {β:Type}(r:R β):Internal.az r .ok=r:=by cases r<;>rfl
theorem dT {T:fJ α β}{lc:β->Loc}{a:α}{b:β}(ak:Rep C aB (lc b) au ah)(k:aJ own i s aB ah)(h:T aB ah.heap b a):PN C own i s lc T (.ok b au) a ah:=⟨b,au,aB,rfl,ak,k,h⟩
structure To (C:Cx)(own:List Addr)(i:Pl)(s:Shared)(lc:β->Loc)(T:fJ α β)(r:R β)(Q:α->Shared->Prop)(E:Value->Shared->Prop):Prop where
 nb:r≠.bad
 q:∀a s',PN C own i s lc T r a s'->Q a s'
 e:∀x s',PX C own i s r x s'->E x s'
section
variable {T:fJ α β}{T':fJ γ δ}{lc:β->Loc}{qj:δ->Loc}{r:R β}{g:β->HP->R δ}{a:α}{b:β}{Q:α->Shared->Prop}{Q':γ->Shared->Prop}{E:Value->Shared->Prop}{t:Sem α}
theorem sn (h:∀{Q:α->Shared->Prop} {E:Value->Shared->Prop},To C own i s lc T r Q E->wpAny C.M C.A t Q E s):eE C own i s lc T r t:=λhb=>h ⟨hb,λ_ _ x=>x,λ_ _ x=>x⟩
theorem To.up (q:To C own i s lc T r Q E)(k:aJ own i s aB ah):To C own aB ah lc T r Q E:=⟨q.nb,λ_ _ x=>q.q _ _ (x.up k),λ_ _ x=>q.e _ _ (x.up k)⟩
theorem eE.to (h:eE C own i s lc T r t)(q:To C own i s lc T r Q E):wpAny C.M C.A t Q E s:=wpAny_mono (h q.nb) q.q q.e
theorem cT (h:eE C own i s lc T r t)(q:To C own i s qj T' (Internal.az r g) Q' E)
  (k:∀a b au aB ah,Rep C aB (lc b) au ah->aJ own i s aB ah->T aB ah.heap b a->To C own aB ah qj T' (g b au) Q' E->Q a ah):wpAny C.M C.A t Q E s :=
 wpAny_mono (h (kU q.nb)) (λa ah x=>by
  refine fj x λb au aB eP h1 h2 h3=>?_;subst eP;exact k a b au aB ah h1 h2 h3 (To.up (r:=g b au) q h2)) λ_ _ x=>q.e _ _ x.az
theorem To.fin (q:To C own i s lc T (.ok b hp) Q E)(ak:Rep C i (lc b) hp s)(h:T i s.heap b a):Q a s:=q.q _ _ (dT ak (aJ.refl ..) h)
theorem To.at (q:To C own i s lc T (.ok b hp) Q E)(ak:Rep C aB (lc b) hp ah)(k:aJ own i s aB ah)(h:T aB ah.heap b a):Q a ah:=q.q _ _ (dT ak k h)
theorem To.jM (q:To C own i s lc T .bad Q E){P:Prop}:P:=absurd rfl q.nb
theorem To.rB {κ:Type}{o:Option κ}{f:κ->R β}(q:To C own i s lc T (Internal.rB o f) Q E):∃k,o=some k∧To C own i s lc T (f k) Q E:=by
 cases o with
 |none=>exact q.jM
 |some k=>exact⟨k,rfl,q⟩
theorem To.rI {c:Bool}(q:To C own i s lc T (Internal.rI c r) Q E):c=true∧To C own i s lc T r Q E:=by
 cases c with
 |false=>exact q.jM
 |true=>exact⟨rfl,q⟩
theorem To.oB {o:Option β}(q:To C own i s lc T (bQ o hp) Q E):∃k,o=some k∧To C own i s lc T (.ok k hp) Q E:=by
 cases o with
 |none=>exact q.jM
 |some k=>exact⟨k,rfl,q⟩
theorem eu {κ:Type}{o:Option κ}{f:κ->Loc->HP->R β}(h:∀k,o=some k->eE C own i s lc T (f k loc hp) t):eE C own i s lc T (xo o f loc hp) t:=by
 cases o with
 |none=>exact λhb=>absurd rfl hb
 |some k=>exact h k rfl
theorem fY {c:Bool}{f:Loc->HP->R β}(h:c=true->eE C own i s lc T (f loc hp) t):eE C own i s lc T (xi c f loc hp) t:=by
 cases c with
 |false=>exact λhb=>absurd rfl hb
 |true=>exact h rfl
end
theorem aJ.vl (k:aJ [] i s aB ah)(ae:Rep C i loc hp s){v:V}{a:Value}(x:Val C.no i s.heap v a):Val C.no aB ah.heap v a:=x.keep k.g (k.tup ae λ_ h=>absurd h List.not_mem_nil)
theorem aJ.vls (k:aJ [] i s aB ah)(ae:Rep C i loc hp s){v:List V}{a:List Value}(x:Vals C.no i s.heap v a):Vals C.no aB ah.heap v a:=x.keep k.g (k.tup ae λ_ h=>absurd h List.not_mem_nil)
theorem eE.weaken {T:fJ α β}{lc:β->Loc}{r:R β}{t:Sem α}(h:eE C own i s lc T r t){own':List Addr}(ho:∀b∈own,b∈own'):eE C own' i s lc T r t :=
 λhb=>wpAny_mono (h hb) (λ_ _ x=>by obtain⟨b,hp',i',e,h1,h2,h3⟩:=x;exact⟨b,hp',i',e,h1,h2.weaken ho,h3⟩) λ_ _ x=>x.elim λn y=>⟨n,y.1,y.2.1,y.2.2.weaken ho⟩
theorem FunFrames.uw {hb:Heap}(k:∀b o,h.get? b=some o->(∀vs,o.data≠.fields vs)->∃o',h'.get? b=some o'∧∀vs,o'.data≠.fields vs){l:List Env}(x:h.FunFrames hb l):h'.FunFrames hb l:=by
 induction l with
 |nil=>exact trivial
 |cons e l ih=>exact⟨x.1,x.2.1.elim λL y=>y.elim λo z=>(k L o z.2.2.1 z.2.2.2).elim λo' q=>⟨L,o',z.1,z.2.1,q.1,q.2⟩,ih x.2.2⟩
theorem FunFrames.at_ {hb:Heap}{d:Addr}{l:List Env}(x:h.FunFrames hb l)(v:Env)(hv:v∈l)(e:v.frame=some d):∃o,h.get? d=some o:=by
 induction l with
 |nil=>exact absurd hv List.not_mem_nil
 |cons u l ih =>
  rcases List.mem_cons.mp hv with rfl|hv
  ·refine tC (x.2.1) λL o hf _ ho _=>?_;rw[hf]at e;obtain rfl:=oi e;exact⟨o,ho⟩
  ·exact ih x.2.2 hv
theorem dN.keep {m:Str->Option Value}(g:bB i i')(k:bq C.no h h')(kc:∀c v,h.IsCell c v->h'.IsCell c v){y:Str}{n:NameKind}{v:Option V}(x:dN C i h m y n v):dN C i' h' m y n v:=by
 have hc:(∃c a,C.env.cells.lookup y=some c∧h.IsCell c a∧∀u,v=some u->∃b,a=some b∧Val C.no i h u b)->∃c a,C.env.cells.lookup y=some c∧h'.IsCell c a∧∀u,v=some u->∃b,a=some b∧Val C.no i' h' u b:=λx=>by
  refine cb x λc a h1 h2 h3=>?_;exact⟨c,a,h1,kc _ _ h2,λu e=>(h3 u e).elim λb q=>⟨b,q.1,q.2.keep g k⟩⟩
 cases n with
 | «local»=>exact λu e=>(x u e).elim λa q=>⟨a,q.1,q.2.keep g k⟩
 |_=>exact hc x
theorem Rep.step (ae:Rep C i loc hp s){i':Pl}{hp':HP}{s':Shared}(kp:∀b o,s.heap.get? b=some o->b∉i->s'.heap.get? b=some o)(gr:∃t,i'=i++t∧∀a∈t,s.heap.get? a=none)
  (lv:∀a∈i,∃o,s'.heap.get? a=some o∧∀vs,o.data≠.fields vs)
  (len:i'.length=hp'.length) (nd:i'.Nodup) (objs:bq C.no s.heap s'.heap->∀(n:Nat) o,hp'[n]?=some o->∃a,i'[n]?=some a∧fK C.no i' C.w.params s'.heap a o) (hg:s'.gens=s.gens) (ho:s'.os=s.os) (ht:s.toks≤s'.toks) :
  Rep C i' loc hp' s'∧aJ own i s i' s':=by
 have tk:bq C.no s.heap s'.heap:=λa its _ x=>by
  have:=(ae.lV x).2;refine aQ x λn e=>?_;exact⟨n,kp a _ e this⟩
 have g:bB i i':=let⟨t,e,_⟩:=gr;⟨t,e⟩
 have Kv:∀c v,s.heap.IsCell c v->c∉i:=λc v ⟨o,e,hd⟩ hm=>by
  refine cb (ae.gw hm) λ_ _ _ _ q=>?_;refine fi (q.some) λo' e' _ _ q4=>?_;rw[e]at e';obtain rfl:=oi e';exact q4 _ hd
 refine⟨⟨?_,len,objs tk,nd,λa ha=>?_,λb hb=>?_,λb o e=>?_,?_,hg.trans ae.gens,ho.trans ae.os,Nat.lt_of_lt_of_le ae.pos ht,ae.ll,λb hb=>by
  obtain⟨h1,o,e⟩:=ae.d9 b hb;refine aj gr λt aC ht=>?_;subst aC;refine⟨λhm=>?_,o,kp b o e h1⟩;rcases List.mem_append.mp hm with q|q
  ·exact h1 q
  ·rw[ht b q]at e;exact(Option.some_ne_none _ e.symm).elim⟩,⟨λb o e _ h2=>kp b o e h2,λb o e=>?_,gr⟩⟩
 ·refine aj (ae.ns) λm hm hl=>?_;refine⟨m,?_,λn v e=>?_⟩
  ·refine lq hm λo es ep e r=>?_;exact⟨o,es,ep,kp _ o e (ae.own _ (.head _)).1,r⟩
  ·refine cb (hl n v e) λx k h1 h2 h3=>?_;exact⟨x,k,h1,h2,dN.keep g tk (λc v x=>let⟨o,e,hd⟩:=x;⟨o,kp c o e (Kv c v ⟨o,e,hd⟩),hd⟩) h3⟩
 ·refine aj gr λt aC ht=>?_;subst aC;rcases List.mem_append.mp ha with q|q
  ·exact ae.new a q
  ·cases z:C.hb.get? a with
   |none=>rfl
   |some o=>have:=ae.base a o z;rw[ht a q]at this;exact(Option.some_ne_none _ this.symm).elim
 ·obtain⟨h1,o,e,r⟩:=ae.own b hb;refine aj gr λt aC ht=>?_;subst aC;refine⟨λhm=>?_,o,kp b o e h1,r⟩;rcases List.mem_append.mp hm with q|q
  ·exact h1 q
  ·rw[ht b q]at e;exact(Option.some_ne_none _ e.symm).elim
 ·refine kp b o (ae.base b o e) λhm=>?_;rw[ae.new b hm]at e;exact(Option.some_ne_none _ e.symm).elim
 ·refine FunFrames.uw (λb o e hn=>?_) ae.fQ;by_cases hm:b∈i
  ·exact lv b hm
  ·exact⟨o,kp b o e hm,hn⟩
 ·by_cases hm:b∈i
  ·refine aj (lv b hm) λo' e' _=>?_;exact⟨o',e'⟩
  ·exact⟨o,kp b o e hm⟩
end
section
variable {no:List Addr}{i i' aB ck:Pl}{h h' dQ ib:Heap}{α β γ δ:Type}{C:Cx}{loc loc':Loc}{hp hp' au bJ:HP}{s s' ah aO:Shared}{own:List Addr}
theorem z6 {α:Type}{l:List α}(nd:l.Nodup){n k:Nat}{x:α}(e1:l[n]?=some x)(e2:l[k]?=some x):n=k:=(List.getElem?_inj (List.getElem?_eq_some_iff.mp e1).1 nd).mp (e1.trans e2.symm)
theorem Rep.more (ae:Rep C i loc hp s){h':Heap}{t:Nat}{d:Drawn}(k:∀b o,s.heap.get? b=some o->h'.get? b=some o)(ht:s.toks≤t:=by repeat constructor) :
  Rep C i loc hp {heap:=h',gens:=s.gens,drawn:=d,toks:=t,os:=s.os}∧aJ own i s i {heap:=h',gens:=s.gens,drawn:=d,toks:=t,os:=s.os} :=
 ae.step (λb o e _=>k b o e) ⟨[],by simp,by simp⟩ (λa ha=>by
  refine cb (ae.gw ha) λ_ _ _ _ q=>?_;refine fi (q.some) λo e _ h2 _=>?_;exact⟨o,k a o e,h2⟩) ae.len ae.nd (λtk n o e=>by
  refine aj (ae.objs n o e) λa e1 q=>?_;refine aj (q.some) λob e2 _=>?_;exact⟨a,e1,q.keep (bB.refl i) tk ((k a ob e2).trans e2.symm)⟩) rfl rfl ht
theorem Rep.toks (ae:Rep C i loc hp s)(t:Nat)(ht:s.toks≤t:=by repeat constructor):Rep C i loc hp {s with toks:=t}∧aJ own i s i {s with toks:=t}:=ae.more (d:=s.drawn) (λ_ _ e=>e) ht
theorem Rep.push (ae:Rep C i loc hp s)(o:Obj):Rep C i loc hp {s with heap:=s.heap.push o}∧aJ own i s i {s with heap:=s.heap.push o} :=
 ae.more (t:=s.toks) (d:=s.drawn) λ_ _ e=>Heap.get?_push_of_some _ e
theorem EJ (h:Heap):h.get? h.objs.size=none:=by
 cases q:h.get? h.objs.size with
 |none=>rfl
 |some o=>exact absurd (Heap.lt_size q) (Nat.lt_irrefl _)
theorem Rep.join (R:Rep C i loc hp s){a:Addr}{o:O}(qk:a∉i)(aai:a∉C.own)(hb:C.hb.get? a=none)(cS:a∉C.no)(ho:fK C.no (i++[a]) C.w.params s.heap a o):Rep C (i++[a]) loc (hp++[o]) s where
 ns:=R.ns.elim λm x=>⟨m,x.1,λn v e=>(x.2 n v e).elim λy z=>z.elim λk w=>⟨y,k,w.1,w.2.1,dN.keep (bB.snoc i a) (bq.refl _ _) (λ_ _ h=>h) w.2.2⟩⟩
 len:=by rw[List.length_append,List.length_append,R.len];rfl
 objs:=λn ob e=>by
  by_cases hl:n<hp.length
  ·rw[List.getElem?_append_left hl]at e;exact(R.objs n ob e).elim λb q=>⟨b,(bB.snoc i a).get q.1,q.2.keep (bB.snoc i a) (bq.refl _ _) rfl⟩
  ·have hle:=(List.getElem?_eq_some_iff.mp e).1;rw[List.length_append]at hle;obtain rfl:hp.length=n:=Nat.le_antisymm (Nat.le_of_not_lt hl) (Nat.le_of_lt_succ hle);exact⟨a,R.len▸List.getElem?_concat_length,oi (List.getElem?_concat_length.symm.trans e)▸ho⟩
 nd:=List.nodup_append.mpr ⟨R.nd,List.pairwise_singleton _ a,λx hx y hy e=>qk (List.mem_singleton.mp hy▸e▸hx)⟩
 new:=λb hm=>(List.mem_append.mp hm).elim (R.new b) λq=>List.mem_singleton.mp q▸hb
 own:=λb h=>⟨λhm=>(List.mem_append.mp hm).elim (R.own b h).1 λq=>aai (List.mem_singleton.mp q▸h),(R.own b h).2⟩
 base:=R.base
 fQ:=R.fQ
 gens:=R.gens
 os:=R.os
 pos:=R.pos
 ll:=R.ll
 d9:=λb h=>⟨λhm=>(List.mem_append.mp hm).elim (R.d9 b h).1 λq=>cS (List.mem_singleton.mp q▸h),(R.d9 b h).2⟩
theorem Rep.fresh (R:Rep C i loc hp s){a:Addr}(hn:s.heap.get? a=none):a∉i∧a∉C.own∧C.hb.get? a=none∧a∉C.no:=by
 have no:∀{P:Prop},(∃o,s.heap.get? a=some o)->P:=λx=>x.elim λo e=>bx (hn.symm.trans e);refine⟨λhm=>?_,λhm=>no ((R.own a hm).2.imp λo x=>x.1),?_,λhm=>no (R.d9 a hm).2⟩
 ·refine cb (R.gw hm) λ_ _ _ _ q=>?_;exact no (q.some.imp λo x=>x.1)
 ·cases z:C.hb.get? a with
  |none=>rfl
  |some o=>exact no ⟨o,R.base a o z⟩
theorem Rep.alloc (ae:Rep C i loc hp s){a:Addr}{o:O}{h':Heap}{t:Nat}{d:Drawn}(k:∀b o,s.heap.get? b=some o->h'.get? b=some o)(hn:s.heap.get? a=none)
  (ho:bq C.no s.heap h'->fK C.no (i++[a]) C.w.params h' a o) (ht:s.toks≤t:=by repeat constructor) :
  Rep C (i++[a]) loc (hp++[o]) {heap:=h',gens:=s.gens,drawn:=d,toks:=t,os:=s.os}∧aJ own i s (i++[a]) {heap:=h',gens:=s.gens,drawn:=d,toks:=t,os:=s.os}:=by
 refine bp (ae.more (own:=own) (d:=d) k ht) λR K=>?_;refine zO (ae.fresh hn) λh1 h2 h3 h4=>?_;exact⟨R.join h1 h2 h3 h4 (ho (bq.of k)),K.keep,K.live,[a],rfl,λb hb=>List.mem_singleton.mp hb▸hn⟩
theorem Rep.put (ae:Rep C i loc hp s){n:Nat}{a:Addr}{o':O}(ha:i[n]?=some a){h':Heap}{t:Nat}{d:Drawn}(hs:Heap.SameBut a s.heap h')(ho:bq C.no s.heap h'->fK C.no i C.w.params h' a o')(ht:s.toks≤t:=by repeat constructor) :
  Rep C i loc (hp.set n o') {heap:=h',gens:=s.gens,drawn:=d,toks:=t,os:=s.os}∧aJ own i s i {heap:=h',gens:=s.gens,drawn:=d,toks:=t,os:=s.os}:=by
 have hm:a∈i:=List.mem_of_getElem? ha;have kp:∀b o,s.heap.get? b=some o->b∉i->h'.get? b=some o:=λb o e hb=>(hs.2 b (λq=>hb (q▸hm))).trans e
 have tk:bq C.no s.heap h':=λb its _ x=>by
  have:=(ae.lV x).2;refine aQ x λn e=>?_;exact⟨n,kp b _ e this⟩
 refine ae.step kp ⟨[],by simp,by simp⟩ (λb hb=>?_) (by simp[ae.len]) ae.nd (λ_ k ob e=>?_) rfl rfl ht
 ·by_cases Nf:b=a
  ·subst Nf;refine fi ((ho tk).some) λo e _ h2 _=>?_;exact⟨o,e,h2⟩
  ·refine cb (ae.gw hb) λ_ _ _ _ q=>?_;refine fi (q.some) λo e _ h2 _=>?_;exact⟨o,(hs.2 b Nf).trans e,h2⟩
 ·by_cases hk:n=k
  ·subst hk;rw[List.getElem?_set]at e;have hl:n<hp.length:=by have:=(List.getElem?_eq_some_iff.mp ha).1;rw[ae.len]at this;exact this
   simp[hl]at e;subst e;exact⟨a,ha,ho tk⟩
  ·rw[List.getElem?_set,if_neg hk]at e;refine aj (ae.objs k ob e) λb e1 q=>?_;refine⟨b,e1,q.keep (bB.refl i) tk (hs.2 b ?_)⟩;rintro rfl;exact hk (z6 ae.nd ha e1)
def gy (P:Params)(x:Str)(v:V):Prop:=x≠"__name__" ∧
 ((∃a,nsIn (K P) mainGlobals x=some (some a)∧∀(no:List Addr) (i:Pl) (h:Heap),(K P).In h->(∀b∈no,(K P).lookup b=none)->Val no i h v a)∨∃a,nsIn (K P) mainGlobals x=some none∧bootBuiltins x=some a∧v=.fix a)
theorem xl {x:Str}{l:List Str}:∀{n:Nat},yG x l=some n->l[n]?=some x:=by
 induction l with
 |nil=>intro n e;exact bx e
 |cons y r ih =>
  intro n e;unfold yG at e;by_cases hy:(y==x)=true
  ·rw[if_pos hy]at e;obtain rfl:=oi e;exact congrArg some (beq_iff_eq.mp hy)
  ·rw[if_neg hy]at e;refine aj (Option.map_eq_some_iff.mp e) λk hk bH=>?_;subst bH;exact ih hk
theorem B8 {sc:Sc}(nd:(sc.map (·.1)).Nodup):(bV sc).Nodup:=by
 unfold bV;exact List.Nodup.sublist (List.Sublist.map _ (List.filter_sublist)) nd
theorem hG {k:Nat}(O:C.Ok k)(ae:Rep C i loc hp s){x:Str}{pos:Pos}(hgl:∀v,iR.lookup x=some v->gy C.w.params x v) :
  eE C own i s (λ_=>loc) (Val C.no) (gP C.sc x loc hp) (eval (.Name x pos) C.env):=by
 unfold gP;refine eu λkd hk=>?_;refine bp (O.names x kd hk) λfh Yx=>?_
 have wo:(kd=.local∨kd=.cell∨kd=.free)->eE C own i s (λ_=>loc) (Val C.no) (xo (slot C.sc x) aa loc hp) (eval (.Name x pos) C.env):=λhk3=>eu λn hs=>sn λq=>by
  refine aj (q.rB) λov hl q=>?_;refine aj (q.rB) λv aC q=>?_;subst aC;refine aj (ae.ns) λm hm kr=>?_;refine cb (kr n _ hl) λy kk e1 e2 e3=>?_;obtain rfl:x=y:=oi ((xl hs).symm.trans e1);obtain rfl:=oi (hk.symm.trans e2);refine wpAny_Name ?_ Yx;rcases hk3 with rfl|rfl|rfl
  ·refine aj (e3 v rfl) λa q1 q2=>?_;exact wpAny_loadName_local O.kind fh hm q1 (q.fin ae q2)
  ·refine cb e3 λc a q1 q2 q3=>?_;refine aj (q3 v rfl) λb aC q4=>?_;subst aC;exact wpAny_loadName_cell O.kind fh.1 q1 q2 (q.fin ae q4)
  ·refine cb e3 λc a q1 q2 q3=>?_;refine aj (q3 v rfl) λb aC q4=>?_;subst aC;exact fh.1.elim (λz=>wpAny_loadName_cell O.kind z q1 q2 (q.fin ae q4)) λz=>wpAny_loadName_free O.kind z.1 q1 q2 (q.fin ae q4) z.2
 cases kd with
 |globalExplicit=>exact λhb=>absurd rfl hb
 |globalImplicit =>
  exact eu λv hg=>sn λq=>by
   refine wg (O.top) λp loose mg mb T=>?_;refine bp (hgl v hg) λhn hv=>?_;refine Calls.Name_function_global O.kind fh ?_ Yx;have hm:s.heap.Ns C.env.globals mg:=O.globals▸T.g.keeps ae.base;rcases hv with⟨a,e,hv⟩|⟨a,e,hv,rfl⟩
   ·exact Calls.loadGlobal_global (mg:=mg) hm (mg_of O.dI T.g e) (q.fin ae (hv C.no i s.heap (λb o q=>ae.base b o (O.dI b o q)) λb hb=>by
     cases q:(K C.w.params).lookup b with
     |none=>rfl
     |some o=>exact bx ((O.noNew b hb).symm.trans (O.dI b o q))))
   ·exact Calls.loadGlobal_builtin (mg:=mg) (mb:=mb) hm (mg_none_of O.dI T.g e) (O.builtins▸T.b.keeps ae.base) ((T.builtins x hn).trans hv) (q.fin ae (.fix a))
 | «local»=>exact wo (.inl rfl)
 |cell=>exact wo (.inr (.inl rfl))
 |free=>exact wo (.inr (.inr rfl))
theorem ux {t:Sem α}{T:fJ α β}{lc:β->Loc}{r:R β}{g:β->HP->R δ}(h:eE C own i s lc T r t)(hb:az r g≠.bad){Q:α->Shared->Prop}{E:Value->Shared->Prop}
  (hQ:∀a b au aB ah,az r g=g b au->Rep C aB (lc b) au ah->aJ own i s aB ah->T aB ah.heap b a->g b au≠.bad->Q a ah)
  (hE:∀e s',PX C own i s (az r g) e s'->E e s'):wpAny C.M C.A t Q E s :=
 wpAny_mono (h (kU hb)) (λa ah x=>by
  refine fj x λb au aB eP h1 h2 h3=>?_;subst eP;exact hQ a b au aB ah rfl h1 h2 h3 hb) λ_ _ x=>hE _ _ x.az
theorem eE.up {T:fJ α β}{lc:β->Loc}{r:R β}{t:Sem α}(h:eE C own aB ah lc T r t)(k:aJ own i s aB ah)(hb:r≠.bad):wpAny C.M C.A t (PN C own i s lc T r) (PX C own i s r) ah :=
 wpAny_mono (h hb) (λ_ _ x=>x.up k) λ_ _ x=>x.up k
theorem Yy {T:fJ α β}{lc:β->Loc}{a:α}{b:β}(ak:Rep C ck (lc b) au aO)(k:aJ own i s aB ah)(k':aJ own aB ah ck aO)(h:T ck aO.heap b a):PN C own i s lc T (.ok b au) a aO:=dT ak (k.trans k') h
theorem dO {T:fJ α β}{lc:β->Loc}{a:α}{b:β}(ak:Rep C i (lc b) au s){t:Nat}(h:T i s.heap b a)(ht:s.toks≤t:=by repeat constructor):PN C own i s lc T (.ok b au) a {s with toks:=t} :=
 let⟨R,k⟩:=ak.toks t ht;dT R k h
theorem To.toks {T:fJ α β}{lc:β->Loc}{a:α}{b:β}{Q:α->Shared->Prop}{E:Value->Shared->Prop}(q:To C own i s lc T (.ok b hp) Q E)(ak:Rep C i (lc b) hp s){t:Nat}(h:T i s.heap b a)(ht:s.toks≤t):Q a {s with toks:=t}:=q.q _ _ (dO ak h ht)
noncomputable abbrev IsB:fJ Bool Bool:=λ_ _ b a=>a=b
abbrev SV (C:Cx)(own:List Addr)(i:Pl)(loc:Loc)(s:Shared)(r:R V)(t:Sem Value):Prop:=eE C own i s (λ_=>loc) (Val C.no) r t
abbrev SB (C:Cx)(own:List Addr)(i:Pl)(loc:Loc)(s:Shared)(r:R Bool)(t:Sem Bool):Prop:=eE C own i s (λ_=>loc) IsB r t
theorem dB (l:List Nat):(S l).length=l.length:=by simp[S,Str.length]
theorem Ng (x y:List Nat):S x++S y=S (x++y):=by
 show Str.mk ((S x).cps++(S y).cps)=_;simp[S]
theorem EK {x y:List Nat}(e:S x=S y):x=y:=by
 have:(S x).cps.toList=(S y).cps.toList:=by rw[e]
 simpa [S]using this
theorem mu (ae:Rep C i loc hp s){v:V}{a:Value}(hv:Val C.no i s.heap v a):SB C own i loc s (bQ (kg v) hp) (truthy a):=by
 intro hb;cases hv with
 |none=>exact truthy_none (dT ae (aJ.refl ..) rfl)
 |bool b=>exact wpAny_truthy_bool (dT ae (aJ.refl ..) rfl)
 |int k t=>exact truthy_int (dT ae (aJ.refl ..) rfl)
 |_=>exact absurd rfl hb
theorem EL {k:Int}(h:dy k=true):Builtin.Int.intBits k≤64:=by
 have hk:k.natAbs<2 ^ 62:=of_decide_eq_true h;have:=intBits_le hk
 (apply aI<;>trivial)
theorem Rep.wq (ae:Rep C i loc hp s):s.heap.objs.size∉C.no:=λhm=>by
 obtain⟨_,o,e⟩:=ae.d9 _ hm;exact absurd (Heap.lt_size e) (Nat.lt_irrefl _)
theorem uy (ae:Rep C i loc hp s){vs:List V}{as:List Value}(hv:Vals C.no i s.heap vs as){t:Nat}{d:Drawn}(ht:s.toks≤t:=by repeat constructor) :
  ∃s',s'={s with heap:=s.heap.push {cls:=.type "tuple",data:=.seq as.toArray},toks:=t,drawn:=d}∧Rep C i loc hp s'∧aJ own i s i s'∧Val C.no i s'.heap (.tup vs) (.ref s.heap.objs.size):=by
 refine bp (ae.more (own:=own) (t:=t) (d:=d) (h':=s.heap.push {cls:=.type "tuple",data:=.seq as.toArray}) (λ_ _ e=>Heap.get?_push_of_some _ e) ht) λR k=>?_;exact⟨_,rfl,R,k,.tup (ae.wq) ⟨_,Heap.get?_push_size _ rfl⟩ (by simpa using hv.keep (bB.refl i) (bq.of λ_ _ e=>Heap.get?_push_of_some _ e))⟩
theorem uz (ae:Rep C i loc hp s){vs:List V}{as:List Value}(hv:Vals C.no i s.heap vs as){t:Nat}{d:Drawn}(ht:s.toks≤t:=by repeat constructor) :
  ∃s',s'={s with heap:=s.heap.push {cls:=.type "list",data:=.seq as.toArray},toks:=t,drawn:=d}∧Rep C (i++[s.heap.objs.size]) loc (hp++[.list vs]) s'∧aJ own i s (i++[s.heap.objs.size]) s' ∧
   Val C.no (i++[s.heap.objs.size]) s'.heap (.ref hp.length) (.ref s.heap.objs.size):=by
 have kp:∀b o,s.heap.get? b=some o->(s.heap.push {cls:=.type "list",data:=.seq as.toArray}).get? b=some o:=λ_ _ e=>Heap.get?_push_of_some _ e
 have hn:s.heap.get? s.heap.objs.size=none:=by
  cases q:s.heap.get? s.heap.objs.size with
  |none=>rfl
  |some o=>exact absurd (Heap.lt_size q) (Nat.lt_irrefl _)
 refine bp (ae.alloc (own:=own) (t:=t) (d:=d) (a:=s.heap.objs.size) (o:=.list vs) kp hn (λtk=>⟨as.toArray,_,Heap.get?_push_size _ rfl,by simpa using hv.keep (bB.snoc i _) tk⟩) ht) λR k=>?_;exact⟨_,rfl,R,k,.ref _ _ (by rw[<- ae.len];simp)⟩
theorem Rep.ref (ae:Rep C i loc hp s){n:Nat}{a:Addr}(e:i[n]?=some a){o:O}(q:hp[n]?=some o):fK C.no i C.w.params s.heap a o:=by
 refine aj (ae.objs n o q) λb e1 h=>?_;rw[e]at e1;cases e1;exact h
theorem W7 (ae:Rep C i loc hp s){x y:List Nat}{a b:Value}(hu:Val C.no i s.heap (.str x) a)(hv:Val C.no i s.heap (.str y) b)(h:fq x.length y.length=true):SV C own i loc s (.ok (.str (x++y)) hp) (binaryOp .Add a b):=λ_=>by
 refine aQ (hu.cN) λt aC=>?_;subst aC;refine aQ (hv.cN) λt' aC=>?_;subst aC;have tK:∀{l:List Nat},((S l).length==0)=true->l=[]:=λh=>List.eq_nil_of_length_eq_zero ((dB _).symm.trans (beq_iff_eq.mp h));refine P.add_str ?_;by_cases h1:(S x).length==0
 ·rw[if_pos h1,tK h1];exact dT ae (aJ.refl ..) (.str y _)
 ·rw[if_neg h1];by_cases h2:(S y).length==0
  ·rw[if_pos h2,tK h2,List.append_nil];exact dT ae (aJ.refl ..) (.str x _)
  ·rw[if_neg h2,Ng];exact⟨by rw[dB,List.length_append];exact of_decide_eq_true h,dO ae (.str _ _)⟩
theorem CI {its:Array Value}{vs:List V}{i:Pl}{h:Heap}(x:Vals no i h vs its.toList)(e:its.isEmpty=true):vs=[]:=by
 have:=x.length;rw[show its=#[]by simpa using e]at this;exact List.eq_nil_of_length_eq_zero this
theorem W8 (ae:Rep C i loc hp s){x y:List V}{a b:Value}(hu:Val C.no i s.heap (.tup x) a)(hv:Val C.no i s.heap (.tup y) b)(h:fq x.length y.length=true):SV C own i loc s (.ok (.tup (x++y)) hp) (binaryOp .Add a b):=λ_=>by
 obtain⟨a,its,rfl,mK,⟨n1,hx⟩,xs⟩:=hu.fz;obtain⟨b,jb,rfl,hny,⟨n2,hy⟩,ys⟩:=hv.fz;by_cases h1:its.isEmpty=true
 ·cases CI xs h1
  exact concat_meets ⟨_,hx,rfl⟩ ⟨_,hy,rfl⟩ noFill_tuple_add seq_tuple_add PySem.F.slot_tuple_add PySem.F.entry_tuple_add (PySem.F.args_tuple_add_2 _ _)
   (tuple_addW0 a b its jb n1 n2 none none #[] #[] h1) ⟨hx,hy,dT ae (aJ.refl ..) (.tup hny ⟨_,hy⟩ ys)⟩
 ·by_cases h2:jb.isEmpty=true
  ·cases CI ys h2
   refine concat_meets ⟨_,hx,rfl⟩ ⟨_,hy,rfl⟩ noFill_tuple_add seq_tuple_add PySem.F.slot_tuple_add PySem.F.entry_tuple_add (PySem.F.args_tuple_add_2 _ _)
    (tuple_addW1 a b its jb n1 n2 none none #[] #[] h1 h2) ⟨hx,hy,dT ae (aJ.refl ..) ?_⟩
   rw[List.append_nil];exact .tup mK ⟨_,hx⟩ xs
  ·refine P.add_tuple hx hy h1 h2 ?_ (by rw[<- Array.length_toList,<- Array.length_toList,<- xs.length,<- ys.length];exact of_decide_eq_true h);refine fi (uy (own:=own) ae (xs.append ys) (t:=s.toks) (d:=s.drawn)) λs' e R k w=>?_;rw[show its++jb=(its.toList++jb.toList).toArray by simp];exact e▸dT R k w
theorem Ys (ae:Rep C i loc hp s){m k:Nat}{x y:List V}{a b:Value}(hu:Val C.no i s.heap (.ref m) a)(hv:Val C.no i s.heap (.ref k) b)(q1:hp[m]?=some (.list x))(q2:hp[k]?=some (.list y))(h:fq x.length y.length=true):SV C own i loc s (.ok (.ref hp.length) (hp++[.list (x++y)])) (binaryOp .Add a b):=λ_=>by
 refine aj (hu.cP) λa aC e1=>?_;subst aC;refine aj (hv.cP) λb aC e2=>?_;subst aC;refine eG (ae.ref e1 q1) λits n1 hx xs=>?_;refine eG (ae.ref e2 q2) λjb n2 hy ys=>?_;refine P.add_list hx hy ?_ (by rw[<- Array.length_toList,<- Array.length_toList,<- xs.length,<- ys.length];exact of_decide_eq_true h);refine fi (uz (own:=own) ae (xs.append ys) (t:=s.toks) (d:=s.drawn)) λs' e R k w=>?_;rw[show its++jb=(its.toList++jb.toList).toArray by simp];exact e▸dT R k w
theorem ql {f:Int->Int->R V}{op:Operator}{u v:V}{a b:Value}(hu:Val C.no i s.heap u a)(hv:Val C.no i s.heap v b)(h:∀x y t t',SV C own i loc s (f x y) (binaryOp op (.int x t) (.int y t'))):SV C own i loc s (ow .bad u v f) (binaryOp op a b):=by
 cases u with
 |int x =>
  cases v with
  |int y =>
   refine aQ (hu.dn) λt aC=>?_;subst aC;refine aQ (hv.dn) λt' aC=>?_;subst aC;exact h x y t t'
  |_=>exact λhb=>absurd rfl hb
 |_=>exact λhb=>absurd rfl hb
theorem HB (ae:Rep C i loc hp s){op:Operator}{u v:V}{a b:Value}(hu:Val C.no i s.heap u a)(hv:Val C.no i s.heap v b):SV C own i loc s (jw op u v hp) (binaryOp op a b):=by
 cases op with
 |Add =>
  cases u with
  |int x =>
   cases v with
   |int y =>
    refine aQ (hu.dn) λt aC=>?_;subst aC;refine aQ (hv.dn) λt' aC=>?_;subst aC;exact λ_=>add_int (dO ae (.int _ _))
   |_=>exact λhb=>absurd rfl hb
  |str x=>exact cG λy hy=>iB λh=>W7 ae hu (fy hy▸hv) h
  |tup x=>exact cG λy hy=>iB λh=>W8 ae hu (rn hy▸hv) h
  |ref m=>exact cG λx hx=>cG λy hy=>iB λh=>let⟨k,e,q⟩:=nC hy;Ys ae hu (e▸hv) (dD hx) q h
  |_=>exact λhb=>absurd rfl hb
 |Sub=>exact ql hu hv λ_ _ _ _ _=>sub_int (dO ae (.int _ _))
 |Mult=>exact ql hu hv λ_ _ _ _=>iB λh _=>mul_int (dO ae (.int _ _)) (IntMulOk.of_left (EL (bk h).1))
 |Mod =>
  refine ql hu hv λx y _ _=>iB λh _=>?_;have h:=of_decide_eq_true h;refine mod_int' (Int.ne_of_gt h) ?_;rw[Int.fmod_eq_emod_of_nonneg _ (Int.le_of_lt h)];exact dO ae (.int _ _)
 |_=>exact λhb=>absurd rfl hb
theorem xm {v:V}{vs:List V}{d:List PyData}(e:fP (v::vs)=some d):∃x xs,g0 v=some x∧fP vs=some xs∧d=x::xs:=by
 unfold fP at e;cases e1:g0 v with
 |none=>rw[e1]at e;exact bx e
 |some x=>cases e2:fP vs with
  |none=>rw[e1,e2]at e;exact bx e
  |some xs=>rw[e1,e2]at e;exact⟨x,xs,rfl,rfl,(oi e).symm⟩
def yK (h:Heap)(v:V)(a:Value):Prop:=∀d,g0 v=some d->Reads h a d []
def z7 (h:Heap)(vs:List V)(as:List Value):Prop:=∀d,fP vs=some d->ReadsAll h as d []
theorem mH {α β:Type}{o:Option α}{f:α->β}{b:β}(h:o.map f=some b):∃a,o=some a∧f a=b:=Option.map_eq_some_iff.mp h
theorem uA (no:List Addr)(i:Pl)(h:Heap):(∀v a,Val no i h v a->yK h v a)∧∀vs as,Vals no i h vs as->z7 h vs as:=by
 have n0:∀d,g0 .none=some d->Reads h .none d []:=λd e=>oi e▸.none
 have H1:∀{v a},Val no i h v a->yK h v a:=λx=>Val.rec (motive_1:=λv a _=>yK h v a) (motive_2:=λvs as _=>z7 h vs as) n0 (λb d e=>oi e▸.bool b) (λk t d e=>oi e▸.int k t) (λl t d e=>oi e▸.str _ t)
  (λ_ x _ ih d e=>let⟨ds,e1,e2⟩:=mH e;let⟨_,hx⟩:=x;e2▸.tuple hx rfl rfl (ih ds e1)) (λ_ _ _ _ e=>bx e) (λ_ _ e=>bx e) (λd e=>oi e▸.nil) (λ_ _ i1 i2 d e=>let⟨_,_,e1,e2,e3⟩:=xm e;e3▸.cons (i1 _ e1) (i2 _ e2)) x
 refine⟨λ_ _=>H1,λvs as x=>?_⟩
 exact Vals.rec (motive_1:=λv a _=>yK h v a) (motive_2:=λvs as _=>z7 h vs as) n0 (λb d e=>oi e▸.bool b) (λk t d e=>oi e▸.int k t) (λl t d e=>oi e▸.str _ t)
  (λ_ x _ ih d e=>let⟨ds,e1,e2⟩:=mH e;let⟨_,hx⟩:=x;e2▸.tuple hx rfl rfl (ih ds e1)) (λ_ _ _ _ e=>bx e) (λ_ _ e=>bx e) (λd e=>oi e▸.nil) (λ_ _ i1 i2 d e=>let⟨_,_,e1,e2,e3⟩:=xm e;e3▸.cons (i1 _ e1) (i2 _ e2)) x
theorem qm {h:Heap}{v:V}{a:Value}{d:PyData}(x:Val no i h v a)(e:g0 v=some d):Reads h a d []:=(uA no i h).1 v a x d e
theorem uB {h:Heap}{vs:List V}{as:List Value}{d:List PyData}(x:Vals no i h vs as)(e:fP vs=some d):ReadsAll h as d []:=(uA no i h).2 vs as x d e
theorem xn (ae:Rep C i loc hp s){v:V}{a:Value}{d:PyData}(hv:Val C.no i s.heap v a)(e:ma hp v=some d):∃as,Reads s.heap a d as:=by
 cases v with
 |ref k =>
  refine aj (bE e) λxs q e=>?_;refine aj (bE e) λds e1 e=>?_;refine aj (hv.cP) λb aC e'=>?_;subst aC;refine eG (ae.ref e' (dD q)) λits n h1 h2=>?_;cases oi e
  exact⟨_,.list h1 rfl rfl (uB h2 e1)⟩
 |_=>exact⟨_,qm hv e⟩
theorem EM (ae:Rep C i loc hp s){vs:List V}{as:List Value}(x:Vals C.no i s.heap vs as):∀{ds:List PyData},mc hp vs=some ds->∃bs,ReadsAll s.heap as ds bs:=by
 induction vs generalizing as with
 |nil=>intro ds e;rw[x.wm];cases oi e;exact⟨_,.nil⟩
 |cons v vs ih =>
  intro ds e;obtain⟨a,bs,rfl,x,y⟩:=x.inv;obtain⟨d,e1,e⟩:=bE e;obtain⟨ds',e2,e⟩:=bE e;obtain⟨_,h1⟩:=xn ae x e1;refine aQ (ih y e2) λ_ h2=>?_;cases oi e
  exact⟨_,.cons h1 h2⟩
theorem xp (ae:Rep C i loc hp s){v:V}{a:Value}{d:PyData}(hv:Val C.no i s.heap v a)(e:wd hp v=some d):∃as,Reads s.heap a d as:=by
 cases v with
 |tup vs =>
  refine aj (bE e) λds e1 e=>?_;obtain⟨a,its,rfl,hn,⟨n,hx⟩,y⟩:=hv.fz;refine aQ (EM ae y e1) λbs h2=>?_;cases oi e
  exact⟨_,.tuple hx rfl rfl h2⟩
 |_=>exact xn ae hv e
theorem z8 {k:Nat}(O:C.Ok k):C.A.units+200<cLine:=by have:=O.units;show _<9900;(apply Hm<;>trivial)
theorem Aa {v:V}{a:Value}{b:Bool}(hv:Val no i h v a)(e:ki v=some b):PySem.plainIs a .none=true∧(a==Value.none)=b:=by
 cases hv<;>first|exact bx e|exact⟨rfl,oi e⟩
def ro (P:Params):Prop:=∀(w:World),w.params=P->∀(A:Around) (E:Value->Shared->Prop) (s:Shared) (x:List Nat) (t:Tok) (Q:Value->Shared->Prop),(K P).In s.heap ->
 (Q (.bool (eW.lookup x).isSome) {s with toks:=s.toks+1}->wpAny (model pw w) A (compareOp .In (.str (S x) t) (.ref 87)) Q E s) ∧
 (Q (.bool (!(eW.lookup x).isSome)) {s with toks:=s.toks+1}->wpAny (model pw w) A (compareOp .NotIn (.str (S x) t) (.ref 87)) Q E s)
theorem CJ (y:List Nat)(c:Nat):(!(Builtin.Str.occurrences (S y) (S [c]) 0 (S y).length 1).isEmpty)=y.contains c:=by
 have:S [c]=⟨#[c]⟩:=rfl;rw[this,StrLaws.found_one,Bool.eq_iff_iff];simp[S];exact decide_eq_true_iff
def Yz (C:Cx)(own:List Addr)(i:Pl)(loc:Loc)(hp:HP)(s:Shared)(a b:Value)(r:Bool):Prop:=SV C own i loc s (.ok (.bool r) hp) (compareOp .In a b)∧SV C own i loc s (.ok (.bool (!r)) hp) (compareOp .NotIn a b)
theorem aaj {k:Nat}(O:C.Ok k)(ae:Rep C i loc hp s){u:V}{vs:List V}{a b:Value}(hu:Val C.no i s.heap u a)(hv:Val C.no i s.heap (.tup vs) b){ds:List PyData}{d:PyData}{r:Bool}(e1:fP vs=some ds)(e2:g0 u=some d)(e:Hp ds d=some r):Yz C own i loc hp s a b r:=by
 cases hs:SeqAt.shaped (.tuple ds)&&SeqAt.shaped d with
 |false=>unfold Hp at e;rw[hs]at e;exact bx e
 |true =>
  unfold Hp at e;rw[hs]at e;refine bp (bk hs) λh1 h2=>?_;cases oi e
  obtain⟨b,its,rfl,hn,⟨n,hx⟩,y⟩:=hv.fz;have rc:Reads s.heap (.ref b) (.tuple ds) []:=.tuple hx rfl rfl (uB y e1);have l1:PyData.canLayAll0 ds=true:=by have:=SeqAt.canLay_of_shaped h1;simpa [PyData.canLay0]using this
  have room:C.A.units+1+min (PyData.depthAll ds) d.depth<cLine:=by
   have:=Nat.min_le_right (PyData.depthAll ds) d.depth;have:=SeqAt.depth_of_shaped h2;have:=z8 O;omega
  exact⟨λ_=>SeqAt.in_tuple_reads rc (qm hu e2) l1 (SeqAt.canLay_of_shaped h2) room (dT ae (aJ.refl ..) (.bool _)),λ_=>SeqAt.notIn_tuple_reads rc (qm hu e2) l1 (SeqAt.canLay_of_shaped h2) room (dT ae (aJ.refl ..) (.bool _))⟩
theorem Ab {k:Nat}(O:C.Ok k)(IF:ro C.w.params)(ae:Rep C i loc hp s){u v:V}{a b:Value}(hu:Val C.no i s.heap u a)(hv:Val C.no i s.heap v b){r:Bool}(e:qf hp u v=some r):Yz C own i loc hp s a b r:=by
 cases v with
 |tup vs =>
  refine aj (bE e) λds e1 e=>?_;refine aj (bE e) λd e2 e=>?_;exact aaj O ae hu hv e1 e2 e
 |str y =>
  refine aj (bE e) λc e1 e=>?_;cases oi e
  refine aQ ((CH e1▸hu:Val C.no i s.heap (.str [c]) a).cN) λt aC=>?_;subst aC;refine aQ (hv.cN) λt' aC=>?_;subst aC;exact⟨λ_=>P.in_str (by rw[CJ];exact dT ae (aJ.refl ..) (.bool _)),λ_=>P.notIn_str (by rw[CJ];exact dT ae (aJ.refl ..) (.bool _))⟩
 |fix w =>
  refine aj (bE e) λx e1 e=>?_;cases hw:isRef 87 w with
  |false=>rw[hw]at e;exact bx e
  |true =>
   rw[hw]at e;cases oi e
   refine aQ ((fy e1▸hu:Val C.no i s.heap (.str x) a).cN) λt aC=>?_;subst aC;have eb:=hv.km;rw[oC hw]at eb;subst eb;have X:(K C.w.params).In s.heap:=λb o q=>ae.base b o (O.dI b o q);exact⟨λ_=>(IF C.w rfl C.A _ s _ _ _ X).1 (dO ae (.bool _)),λ_=>(IF C.w rfl C.A _ s _ _ _ X).2 (dO ae (.bool _))⟩
 |_=>exact bx e
theorem CK {k:Nat}(O:C.Ok k)(ae:Rep C i loc hp s){u v:V}{a b:Value}(hu:Val C.no i s.heap u a)(hv:Val C.no i s.heap v b){r:Bool}(e:tE hp u v=some r) :
  SV C own i loc s (.ok (.bool r) hp) (compareOp .Eq a b)∧SV C own i loc s (.ok (.bool (!r)) hp) (compareOp .NotEq a b):=by
 have hU:=z8 O;refine aj (bE e) λx e1 e=>?_;refine aj (bE e) λy e2 e=>?_;cases hs:SeqAt.shaped x&&SeqAt.shaped y with
 |false=>rw[hs]at e;exact bx e
 |true =>
  rw[hs]at e;cases oi e
  refine aQ (xp ae hu e1) λas ra=>?_;refine aQ (xp ae hv e2) λbs rb=>?_;exact⟨λ_=>eq_dataH ra rb (bk hs).1 (bk hs).2 (by apply yz<;>trivial) (dT ae (aJ.refl ..) (.bool _)),λ_=>ne_dataH ra rb (bk hs).1 (bk hs).2 (by apply yz<;>trivial) (dT ae (aJ.refl ..) (.bool _))⟩
theorem rp {f:Int->Int->Bool}{op:CmpOp}{u v:V}{a b:Value}(ae:Rep C i loc hp s)(hu:Val C.no i s.heap u a)(hv:Val C.no i s.heap v b){r:Bool}(e:ow none u v (λi j=>some (f i j))=some r)
  (h:∀x y t t' {Q:Value->Shared->Prop} {E:Value->Shared->Prop},Q (.bool (f x y)) s->wpAny C.M C.A (compareOp op (.int x t) (.int y t')) Q E s):SV C own i loc s (.ok (.bool r) hp) (compareOp op a b):=by
 cases u with
 |int x =>
  cases v with
  |int y =>
   refine aQ (hu.dn) λt aC=>?_;subst aC;refine aQ (hv.dn) λt' aC=>?_;subst aC;cases oi e
   exact λ_=>h x y t t' (dT ae (aJ.refl ..) (.bool _))
  |_=>exact bx e
 |_=>exact bx e
theorem xq {u v:V}{a b:Value}(hu:Val no i h u a)(hv:Val no i h v b){r:Bool}(e:RQ u v=some r):b=.none∧PySem.plainIs a .none=true∧(a==Value.none)=r:=by
 cases v with
 |none=>exact⟨hv.z0,Aa hu e⟩
 |_=>exact bx e
theorem HC {k:Nat}(O:C.Ok k)(IF:ro C.w.params)(ae:Rep C i loc hp s){op:dS}{u v:V}{a b:Value}(hu:Val C.no i s.heap u a)(hv:Val C.no i s.heap v b){r:Bool}(e:dA op u v hp=some r) :
  SV C own i loc s (.ok (.bool r) hp) (compareOp op.op a b):=by
 cases op with
 |eq=>exact(CK O ae hu hv e).1
 |ne=>obtain⟨r',e',rfl⟩:=mH e;exact(CK O ae hu hv e').2
 |lt=>exact rp ae hu hv e λ_ _ _ _ _ _ q=>PyProof.Rows.lt_int q
 |le=>exact rp ae hu hv e λ_ _ _ _ _ _ q=>PyProof.Rows.le_int q
 |gt=>exact rp ae hu hv e λ_ _ _ _ _ _ q=>PyProof.Rows.gt_int q
 |ge=>exact rp ae hu hv e λ_ _ _ _ _ _ q=>PyProof.Rows.ge_int q
 |sX =>
  refine j9 (xq hu hv e) λnF h1 h2=>?_;subst nF;exact λ_=>wpAny_is_plain h1 (by rw[h2];exact dT ae (aJ.refl ..) (.bool _))
 |gO =>
  refine aj (mH e) λr' e' bH=>?_;subst bH;refine j9 (xq hu hv e') λnF h1 h2=>?_;subst nF;exact λ_=>wpAny_isNot_plain h1 (by rw[h2];exact dT ae (aJ.refl ..) (.bool _))
 |jK=>exact(Ab O IF ae hu hv e).1
 |gh=>obtain⟨r',e',rfl⟩:=mH e;exact(Ab O IF ae hu hv e').2
section
set_option backward.match.sparseCases true
structure pU (P:Params):Prop where
 iR:∀x v,iR.lookup x=some v->gy P x v
 OJ:ro P
def tM (no:List Addr):fJ Flow (Fl×Loc):=λi h p f=>match p.1,f with
 |.next,.next=>True
 |.ret v,.ret a=>Val no i h v a
 |_,_=>False
structure cZ (n:Nat)(d:cx):Prop where
 ex:∀{C:Cx},C.Ok n->pU C.w.params->∀{i loc hp s},Rep C i loc hp s->∀(e:Expr),SV C [] i loc s (d.ex C.sc e loc hp) (eval e C.env)
 te:∀{C:Cx},C.Ok n->pU C.w.params->∀{i loc hp s},Rep C i loc hp s->∀(e:Expr),SB C [] i loc s (d.te C.sc e loc hp) (isTrue e C.env (eval e C.env))
 st:∀{C:Cx},C.Ok n->pU C.w.params->(∃outer,C.d8=C.env::outer)->∀{i loc hp s},Rep C i loc hp s->∀(e:Stmt),eE C C.own i s (·.2) (tM C.no) (d.st C.sc e loc hp) (exec e C.env)
def kY (n:Nat)(c:Ca):Prop:=∀{C:Cx},C.Ok n->pU C.w.params->∀{i loc hp s},Rep C i loc hp s->∀{f:V} {fa:Value} {vs:List V} {as:List Value},Val C.no i s.heap f fa->Vals C.no i s.heap vs as ->
 SV C [] i loc s (c f vs hp) (call fa as)
theorem jB {e:Expr}{x:Str}(h:asName e=some x):∃p,e=.Name x p:=by cases e<;>first|exact oi h▸⟨_,rfl⟩|exact bx h
theorem EN {e:Expr}{x:Const}(h:CF e=some x):∃q p,e=.Constant x q p:=by cases e<;>first|exact oi h▸⟨_,_,rfl⟩|exact bx h
theorem OK {k:Const}{x:Str}(h:R9 k=some x):k=.str x:=by cases k<;>first|exact congrArg _ (oi h)|exact bx h
theorem tN {e:Expr}{x:Str}(h:yH e=some x):∃q p,e=.Constant (.str x) q p:=by
 refine aj (bE h) λk h1 h2=>?_;exact OK h2▸EN h1
theorem mL {e:Expr}{q:Expr×List Expr×List Keyword}(h:iz e=some q):∃p,e=.Call q.1 q.2.1 q.2.2 p:=by cases e<;>first|exact oi h▸⟨_,rfl⟩|exact bx h
theorem xr {e:Expr}{q:Expr×List Comprehension×Scope}(h:Ht e=some q):∃p,e=.ListComp q.1 q.2.1 q.2.2 p:=by cases e<;>first|exact oi h▸⟨_,rfl⟩|exact bx h
theorem gI {e:Expr}(h:noStar e=true)(r:List Expr)(pos:Pos)(env:Env):backTo pos (starEach (e::r) env)=(false,eval e env)::backTo pos (starEach r env):=by
 cases e<;>first|rfl|exact ft h
theorem dS.W9 (op:CmpOp):(dS.of op).op=op:=by cases op<;>rfl
section
variable {n N:Nat}{d:cx}{c:Ca}(O:C.Ok n)(F:pU C.w.params)(D:cZ n d)(cO:kY n c)
include O F
theorem sZ (ae:Rep C i loc hp s)(k:Const)(q:Nat)(p:Pos):SV C own i loc s (zW k loc hp) (eval (.Constant k q p) C.env):=by
 intro hb;cases k with
 |none=>exact wpAny_pure (dT ae (aJ.refl ..) .none)
 |bool b=>exact wpAny_pure (dT ae (aJ.refl ..) (.bool b))
 |int j=>exact wpAny_Constant_int (dO ae (.int j _))
 |str x =>
  have e:S x.cps.toList=x:=by cases x;simp[S]
  refine wpAny_Constant_str (s:=s) ?_;have v:Val C.no i s.heap (.str x.cps.toList) (.str x s.toks):=by have:=Val.str (no:=C.no) (i:=i) (h:=s.heap) x.cps.toList s.toks;rw[e]at this;exact this
  exact dO ae v
 |_=>exact absurd rfl hb
include D
theorem oE (es:List Expr)(pos:Pos):∀{i loc hp s},Rep C i loc hp s->es.all noStar=true->eE C [] i s (λ_=>loc) (Vals C.no) (xs (es.map (d.ex C.sc)) loc hp) (spliced (backTo pos (starEach es C.env))):=by
 induction es with
 |nil=>exact λae _=>sn λq=>Calls.spliced_nil (q.fin ae .nil)
 |cons e r ih =>
  exact λae hs=>gI (bk hs).1 r pos C.env▸sn λq=>Calls.spliced_cons (cT (D.ex O F ae e) q λa v au aB ah ak k₁ aP q =>
   cT (ih ak (bk hs).2) q λas vs bJ ck aO aV k₂ cW q=>q.fin aV (.cons (k₂.vl ak aP) cW))
theorem So (ae:Rep C i loc hp s)(l:Expr)(op:Operator)(r:Expr)(pos:Pos):SV C [] i loc s (bw op (d.ex C.sc l) (d.ex C.sc r) loc hp) (eval (.BinOp l op r pos) C.env) :=
 sn λq=>wpAny_BinOp (cT (D.ex O F ae l) q λa u au aB ah ak k₁ aP q=>cT (D.ex O F ak r) q λb v bJ ck aO aV k₂ cW q=>(HB aV (k₂.vl ak aP) cW).to q)
theorem Sp (ae:Rep C i loc hp s)(e:Expr)(pos:Pos):SV C [] i loc s (gN (d.ex C.sc e) loc hp) (eval (.UnaryOp .USub e pos) C.env) :=
 sn λq=>wpAny_UnaryOp (cT (D.ex O F ae e) q λa u au aB ah ak k₁ aP q=>by
  refine aj (q.rB) λk h q=>?_;refine aQ ((iS h▸aP:Val C.no aB ah.heap (.int k) a).dn) λt aC=>?_;subst aC;exact PyProof.Rows.neg_int (q.toks ak (.int (-k) _) (Nat.le_add_right _ _)))
theorem Sq (ae:Rep C i loc hp s)(e:Expr)(pos:Pos):SV C [] i loc s (xB (cV (tX (d.ex C.sc e))) loc hp) (eval (.UnaryOp .Not e pos) C.env):=by
 have q:xB (cV (tX (d.ex C.sc e))) loc hp=az (d.ex C.sc e loc hp) λv hp=>az (bQ (kg v) hp) λb hp=>.ok (.bool (!b)) hp:=by
  show az (az (az (d.ex C.sc e loc hp) kX) Eh) sY=_;rw[nE,nE];exact rfl
 rw[q];exact sn λq=>wpAny_UnaryOp (cT (D.ex O F ae e) q λa u au aB ah ak k₁ aP q=>not_of (cT (mu (own:=[]) ak aP) q λb v bJ ck aO aV k₂ cW q=>q.fin aV (cW▸.bool _)))
omit O F D in
theorem EO (pos:Pos)(op:BoolOp)(t u:Sem Value)(r:List (Sem Value)):boolOp pos op (t::u::r)=(do
   let v <- t
   standAt pos
   let t <- holding [v] (truthy v)
   match op,t with
   |.And,false|.Or,true=>pure v
   |_,_=>boolOp pos op (u::r)):=rfl
theorem OL (op:BoolOp)(pos:Pos)(es:List Expr):∀{i loc hp s},Rep C i loc hp s->SV C [] i loc s (gj (op==.And) (es.map (d.ex C.sc)) loc hp) (boolOp pos op (evalEach es C.env)):=by
 induction es with
 |nil=>exact λae hb=>absurd rfl hb
 |cons e r ih =>
  cases r with
  |nil=>exact λae hb=>D.ex O F ae e hb
  |cons e' r =>
   exact λ{i loc hp s} ae=>sn λ{Q E} q=>EO pos op (eval e C.env) (eval e' C.env) (evalEach r C.env)▸wpAny_bind (cT (D.ex O F ae e) q λa v au aB ah ak k₁ aP q =>
    wpAny_bind (wpAny_standAt (wpAny_bind (wpAny_holding (cT (mu (own:=[]) ak aP) q λb t bJ ck aO aV k₂ cW q=>by
     have m7:=k₂.vl ak aP;subst cW;cases op<;>cases b
     ·exact wpAny_pure (q.fin aV m7)
     ·exact(ih aV).to q
     ·exact(ih aV).to q
     ·exact wpAny_pure (q.fin aV m7))))))
omit O F D in
theorem Ac (op:BoolOp)(e:Expr)(r:List Expr)(env:Env):allTrue op (e::r) env=(do
   match op,<- isTrue e env (eval e env)with
   |.And,false=>pure false
   |.Or,true=>pure true
   |_,_=>allTrue op r env):=rfl
theorem Sr (op:BoolOp)(es:List Expr):∀{i loc hp s},Rep C i loc hp s->SB C [] i loc s (aS (op==.And) (es.map (d.te C.sc)) loc hp) (allTrue op es C.env):=by
 induction es with
 |nil=>exact λae=>sn λq=>wpAny_pure (q.fin ae rfl)
 |cons e r ih =>
  exact λ{i loc hp s} ae=>sn λ{Q E} q=>Ac op e r C.env▸wpAny_bind (cT (D.te O F ae e) q λa b au aB ah ak k₁ aP q=>by
   subst aP;cases op<;>cases a
   ·exact wpAny_pure (q.fin ak rfl)
   ·exact(ih ak).to q
   ·exact(ih ak).to q
   ·exact wpAny_pure (q.fin ak rfl))
theorem Xa (ae:Rep C i loc hp s)(t a b:Expr)(pos:Pos):SV C [] i loc s (ig (d.te C.sc t) (d.ex C.sc a) (d.ex C.sc b) loc hp) (eval (.IfExp t a b pos) C.env) :=
 sn λq=>wpAny_IfExp (cT (D.te O F ae t) q λc u au aB ah ak k₁ aP q=>by
  subst aP;cases c
  ·exact(D.ex O F ak b).to q
  ·exact(D.ex O F ak a).to q)
omit O F D in
theorem HD (t a b:Expr)(pos:Pos)(env:Env)(w:Sem Value):isTrue (.IfExp t a b pos) env w=(do if <- isTrue t env (eval t env)then isTrue a env (eval a env)else isTrue b env (eval b env)):=rfl
theorem Xb (ae:Rep C i loc hp s)(t a b:Expr)(pos:Pos){whole:Sem Value}:SB C [] i loc s (Yw (d.te C.sc t) (d.te C.sc a) (d.te C.sc b) loc hp) (isTrue (.IfExp t a b pos) C.env whole) :=
 sn λq=>HD t a b pos C.env whole▸wpAny_bind (cT (D.te O F ae t) q λc u au aB ah ak k₁ aP q=>by
  subst aP;cases c
  ·exact(D.te O F ak b).to q
  ·exact(D.te O F ak a).to q)
omit O F D in
theorem Hd (e:Expr)(pos:Pos)(env:Env)(w:Sem Value):isTrue (.UnaryOp .Not e pos) env w=(do return !(<- isTrue e env (eval e env))):=rfl
theorem Ss (ae:Rep C i loc hp s)(e:Expr)(pos:Pos){whole:Sem Value}:SB C [] i loc s (cV (d.te C.sc e) loc hp) (isTrue (.UnaryOp .Not e pos) C.env whole) :=
 sn λq=>Hd e pos C.env whole▸wpAny_bind (cT (D.te O F ae e) q λc u au aB ah ak k₁ aP q=>wpAny_pure (q.fin ak (congrArg (!·) aP)))
theorem HE (ae:Rep C i loc hp s)(e:Expr)(hq:isTrue e C.env (eval e C.env)=(do let v <- eval e C.env;standAt e.pos;holding [v] (truthy v))):SB C [] i loc s (tX (d.ex C.sc e) loc hp) (isTrue e C.env (eval e C.env)):=by
 rw[hq];exact sn λq=>wpAny_bind (cT (D.ex O F ae e) q λa v au aB ah ak k₁ aP q=>wpAny_bind (wpAny_standAt (wpAny_holding ((mu (own:=[]) ak aP).to q))))
omit D in
theorem uC {β γ:Type}{op:CmpOp}{u v:V}{a b:Value}{T:fJ γ β}{lc:β->Loc}{g:Bool->HP->R β}{Q:γ->Shared->Prop}{Q':Value->Shared->Prop}{E:Value->Shared->Prop}(q:To C [] i s lc T (az (bQ (dA (dS.of op) u v hp) hp) g) Q E)(ae:Rep C i loc hp s)(hu:Val C.no i s.heap u a)(hv:Val C.no i s.heap v b)
  (k:∀r aB ah,Rep C aB loc hp ah->aJ [] i s aB ah->To C [] aB ah lc T (g r hp) Q E->Q' (.bool r) ah):wpAny C.M C.A (compareOp op a b) Q' E s:=by
 cases hc:dA (dS.of op) u v hp with
 |none=>rw[hc]at q;exact q.jM
 |some r =>
  rw[hc]at q;refine wpAny_mono (dS.W9 op▸HC (own:=[]) O F.OJ ae hu hv hc Sm) (λc aO x=>?_) λ_ _ x=>x.elim λ_ x=>Sl x.1;refine fj x λw bJ ck oF aV k₂ cW=>?_;injection oF with oF z9;subst oF z9;rw[cW.tJ];exact k r ck aO aV k₂ (To.up (r:=g r hp) q k₂)
theorem Kw (pos:Pos)(ops:List CmpOp):∀(es:List Expr) {i loc hp s u a},ops.length=es.length->Rep C i loc hp s->Val C.no i s.heap u a ->
  SV C [] i loc s (az (iu u ((ops.map dS.of).zip (es.map (d.ex C.sc))) loc hp) sY) (compareChain pos a ops (evalEach es C.env)):=by
 induction ops with
 |nil=>exact λ_ {i loc hp s u a} _ ae hu hb=>absurd rfl hb
 |cons op ops ih =>
  intro es i loc hp s u a hl ae hu;cases es with
  |nil=>exact absurd hl (Nat.succ_ne_zero _)
  |cons e es =>
   cases ops with
   |nil =>
    cases es with
    |cons _ _=>exact absurd (Nat.succ.inj hl).symm (Nat.succ_ne_zero _)
    |nil =>
     have e1:az (iu u (([op].map dS.of).zip ([e].map (d.ex C.sc))) loc hp) sY=az (d.ex C.sc e loc hp) λv hp=>az (bQ (dA (dS.of op) u v hp) hp) sY:=nE _ _ _;rw[e1];exact sn λq=>chain_last (cT (D.ex O F ae e) q λb v au aB ah ak k₁ aP q=>uC O F q ak (k₁.vl ae hu) aP λr ck aO aV k₂ q=>q.fin aV (.bool r))
   |cons Su ops =>
    cases es with
    |nil=>exact absurd (Nat.succ.inj hl) (Nat.succ_ne_zero _)
    |cons e' es =>
     have e1:az (iu u (((op::Su::ops).map dS.of).zip ((e::e'::es).map (d.ex C.sc))) loc hp) sY=az (d.ex C.sc e loc hp) λv hp=>az (bQ (dA (dS.of op) u v hp) hp) λb hp=>az (cD (iu v (((Su::ops).map dS.of).zip ((e'::es).map (d.ex C.sc)))) loc b hp) sY :=
      (nE _ _ _).trans (HA λv hp=>nE _ _ _)
     rw[e1];refine sn λ{Q E} q=>chain_link (cT (D.ex O F ae e) q λb v au aB ah ak k₁ aP q=>uC O F q ak (k₁.vl ae hu) aP λr ck aO aV k₂ q=>wpAny_truthy_bool ?_);cases r with
     |false=>exact q.fin aV (.bool _)
     |true=>exact(ih (e'::es) (Nat.succ.inj hl) aV (k₂.vl ak aP)).to q
end
end
section
theorem CL {β γ:Type}{r:R β}{g:β->HP->R γ}{c:γ}{hp':HP}(e:az r g=.ok c hp'):∃b au,r=.ok b au∧g b au=.ok c hp':=by
 cases r with
 |ok b au=>exact⟨b,au,rfl,e⟩
 |gH k=>exact Sl e.symm
 |bad=>exact(Sm e.symm).elim
theorem Ad (es:List Ex)(loc:Loc):∀(hp:HP) (vs:List V) (hp':HP),xs es loc hp=.ok vs hp'->vs.length=es.length:=by
 induction es with
 |nil=>exact λhp vs hp' e=>by injection e with e _;exact e▸rfl
 |cons x r ih =>
  intro hp vs hp' e;refine eG (CL e) λv au _ e=>?_;refine eG (CL e) λws bJ e1 e=>?_;injection e with e _;exact e▸congrArg (·+1) (ih _ _ _ e1)
theorem Kx {t:Sem α}{T:fJ α β}{T':fJ γ δ}{lc:β->Loc}{qj:δ->Loc}{r:R β}{g:β->HP->R δ}{Q:α->Shared->Prop}{Q':γ->Shared->Prop}{E:Value->Shared->Prop}(h:eE C own i s lc T r t)(q:To C own i s qj T' (az r g) Q' E)
  (k:∀a b au aB ah,r=.ok b au->Rep C aB (lc b) au ah->aJ own i s aB ah->T aB ah.heap b a->To C own aB ah qj T' (g b au) Q' E->Q a ah):wpAny C.M C.A t Q E s :=
 wpAny_mono (h (kU q.nb)) (λa ah x=>by
  refine fj x λb au aB eP h1 h2 h3=>?_;subst eP;exact k a b au aB ah rfl h1 h2 h3 (To.up (r:=g b au) q h2)) λ_ _ x=>q.e _ _ x.az
section
variable {n N:Nat}{d:cx}{c:Ca}(O:C.Ok n)(F:pU C.w.params)(D:cZ n d)(cO:kY n c)
include O F D
theorem OM (pos:Pos)(ops:List CmpOp):∀(es:List Expr) {i loc hp s u a},ops.length=es.length->Rep C i loc hp s->Val C.no i s.heap u a ->
  SB C [] i loc s (iu u ((ops.map dS.of).zip (es.map (d.ex C.sc))) loc hp) (testChain pos a ops (evalEach es C.env)):=by
 induction ops with
 |nil=>exact λ_ {i loc hp s u a} _ ae hu hb=>absurd rfl hb
 |cons op ops ih =>
  intro es i loc hp s u a hl ae hu;cases es with
  |nil=>exact absurd hl (Nat.succ_ne_zero _)
  |cons e es =>
   cases ops with
   |nil =>
    cases es with
    |cons _ _=>exact absurd (Nat.succ.inj hl).symm (Nat.succ_ne_zero _)
    |nil =>
     have e1:iu u (([op].map dS.of).zip ([e].map (d.ex C.sc))) loc hp=az (d.ex C.sc e loc hp) λv hp=>az (bQ (dA (dS.of op) u v hp) hp) .ok:=HA λv hp=>(Sn _).symm;rw[e1];exact sn λq=>test_last (cT (D.ex O F ae e) q λb v au aB ah ak k₁ aP q=>uC O F q ak (k₁.vl ae hu) aP λr ck aO aV k₂ q=>wpAny_truthy_bool (q.fin aV rfl))
   |cons Su ops =>
    cases es with
    |nil=>exact absurd (Nat.succ.inj hl) (Nat.succ_ne_zero _)
    |cons e' es =>
     refine sn λ{Q E} q=>test_link (cT (D.ex O F ae e) q λb v au aB ah ak k₁ aP q=>uC O F q ak (k₁.vl ae hu) aP λr ck aO aV k₂ q=>wpAny_truthy_bool ?_);cases r with
     |false=>exact q.fin aV rfl
     |true=>exact(ih (e'::es) (Nat.succ.inj hl) aV (k₂.vl ak aP)).to q
omit O F D in
theorem Ky (e:Expr)(ops:List CmpOp)(es:List Expr)(pos:Pos)(env:Env)(hm:lastMarks ops es=false):eval (.Compare e ops es pos) env=(do compareChain pos (<- eval e env) ops (evalEach es env)):=by
 rw[<- markedEach_of_false ops es (evalEach es env) hm];rfl
omit O F D in
theorem Kz (e:Expr)(ops:List CmpOp)(es:List Expr)(pos:Pos)(env:Env)(whole:Sem Value)(hm:lastMarks ops es=false):isTrue (.Compare e ops es pos) env whole=(do testChain pos (<- eval e env) ops (evalEach es env)):=by
 rw[<- markedEach_of_false ops es (evalEach es env) hm];rfl
theorem Sv (ae:Rep C i loc hp s)(e:Expr)(ops:List CmpOp)(es:List Expr)(pos:Pos)(hl:ops.length=es.length)(hm:lastMarks ops es=false) :
  SV C [] i loc s (xB (ai (d.ex C.sc e) ((ops.map dS.of).zip (es.map (d.ex C.sc)))) loc hp) (eval (.Compare e ops es pos) C.env):=by
 have q:xB (ai (d.ex C.sc e) ((ops.map dS.of).zip (es.map (d.ex C.sc)))) loc hp=az (d.ex C.sc e loc hp) λu hp=>az (iu u ((ops.map dS.of).zip (es.map (d.ex C.sc))) loc hp) sY:=nE _ _ _;rw[Ky e ops es pos C.env hm,q];exact sn λq=>wpAny_bind (cT (D.ex O F ae e) q λa u au aB ah ak k₁ aP q=>(Kw O F D pos ops es hl ak aP).to q)
theorem Sw (ae:Rep C i loc hp s)(e:Expr)(ops:List CmpOp)(es:List Expr)(pos:Pos){whole:Sem Value}(hl:ops.length=es.length)(hm:lastMarks ops es=false) :
  SB C [] i loc s (ai (d.ex C.sc e) ((ops.map dS.of).zip (es.map (d.ex C.sc))) loc hp) (isTrue (.Compare e ops es pos) C.env whole):=by
 rw[Kz e ops es pos C.env whole hm];exact sn λq=>wpAny_bind (cT (D.ex O F ae e) q λa u au aB ah ak k₁ aP q=>(OM O F D pos ops es hl ak aP).to q)
theorem Sy (ae:Rep C i loc hp s)(es:List Expr)(q:Nat)(pos:Pos)(hs:es.all noStar=true)(hz:es.length≤sizeLine):SV C [] i loc s (ao (es.map (d.ex C.sc)) loc hp) (eval (.Tuple es q pos) C.env) :=
 sn λq=>Tuple_ (Kx (oE O F D es pos ae hs) q λas vs au aB ah er ak k₁ aP q=>by
  refine fi (uy (own:=[]) ak aP (t:=ah.toks) (d:=ah.drawn)) λs' e R k w=>?_;refine wpAny_newTuple (e▸q.at R k w) ?_;rw[<- aP.length,Ad _ _ _ _ _ er,List.length_map];exact hz)
theorem Sz (ae:Rep C i loc hp s)(es:List Expr)(pos:Pos)(hs:es.all noStar=true)(hz:es.length≤sizeLine):SV C [] i loc s (cm (es.map (d.ex C.sc)) loc hp) (eval (.List es pos) C.env) :=
 sn λq=>List_ (Kx (oE O F D es pos ae hs) q λas vs au aB ah er ak k₁ aP q=>by
  refine fi (uz (own:=[]) ak aP (t:=ah.toks) (d:=ah.drawn)) λs' e R k w=>?_;refine wpAny_newObj_type (e▸q.at R k w) ?_;show as.toArray.size≤sizeLine;rw[List.size_toArray,<- aP.length,Ad _ _ _ _ _ er,List.length_map];exact hz)
end
end
section
theorem Key.inj (a b:Key)(e:a.str=b.str):a=b:=by
 have h0:(Key.all.all λk=>decide (Key.of k.str=some k))=true:=by decide +kernel
 have h:∀k:Key,Key.of k.str=some k:=λk=>of_decide_eq_true (List.all_eq_true.mp h0 k (List.mem_of_getElem? (Key.ix k)));exact oi ((h a).symm.trans (e▸h b))
theorem Key.nH {x:Str}{k:Key}(e:Key.of x=some k):k.str=x:=by
 have:=List.find?_some e;exact beq_iff_eq.mp this
theorem xt (a b:Str)(t:Tok):(Value.str a t).isStr b=(a==b):=rfl
theorem HF {a b:Key}(h:¬a=b):(a.str==b.str)=false:=beq_eq_false_iff_ne.mpr λq=>h (Key.inj _ _ q)
section
variable {k k':Str}{h h':Int}{t:Tok}{a w u:Value}{es:List DictEntry}
theorem KA:getL k (⟨h,.str k t,a⟩::es)=some (some a):=by
 unfold getL;rw[List.find?_cons,xt,beq_self_eq_true]
theorem HG (hs:(k'==k)=false):getL k (⟨h,.str k' t,a⟩::es)=getL k es:=by
 unfold getL;rw[List.find?_cons,xt,hs];cases es.find? λx=>x.key.isStr k<;>rfl
theorem KC:W.putL k h' u w (⟨h,.str k t,a⟩::es)=⟨h,.str k t,w⟩::es:=if_pos (beq_self_eq_true k)
theorem HH (hs:(k'==k)=false):W.putL k h' u w (⟨h,.str k' t,a⟩::es)=⟨h,.str k' t,a⟩::W.putL k h' u w es:=if_neg (hs▸Bool.false_ne_true:¬(k'==k)=true)
end
section
variable {k k':Key}{v w:V}{r:List (Key×V)}
theorem tO:ej ((k,v)::r) k=some v:=if_pos rfl
theorem xu (h:¬k'=k):ej ((k',v)::r) k=ej r k:=if_neg h
theorem Ae:dput ((k,v)::r) k w=(k,w)::r:=if_pos rfl
theorem xw (h:¬k'=k):dput ((k',v)::r) k w=(k',v)::dput r k w:=if_neg h
theorem s9 {k:Str}{a:Value}{q:List (Str×Value)}:valueAt ((k,a)::q) k=some a:=by simp[valueAt]
theorem qo {k k':Str}{a:Value}{q:List (Str×Value)}(h:¬k'=k):valueAt ((k',a)::q) k=valueAt q k:=by simp[valueAt,List.find?_cons,h]
end
theorem fb.get {P:Params}{es:List (Key×V)}{ds:List DictEntry}(x:fb no i P h es ds)(k:Key) :
  (ej es k=none->getL k.str ds=some none)∧(∀v,ej es k=some v->∃a,getL k.str ds=some (some a)∧Val no i h v a):=by
 induction x with
 |nil=>exact⟨λ_=>rfl,λv e=>bx e⟩
 | @cons k' v' r t a es x _ ih =>
  by_cases hk:k'=k
  ·subst hk;exact⟨λe=>bx (e.symm.trans tO),λv e=>⟨a,KA,oi (tO.symm.trans e)▸x⟩⟩
  ·rw[HG (HF hk),xu hk];exact ih
theorem fb.put {P:Params}{es:List (Key×V)}{ds:List DictEntry}(x:fb no i P h es ds)(k:Key)(v:V)(a:Value)(t:Tok)(hv:Val no i h v a) :
  fb no i P h (dput es k v) (putL k.str (PyData.keyHash P k.str) (.str k.str t) a ds):=by
 induction x with
 |nil=>exact .cons hv .nil
 | @cons k' v' r t a es x y ih =>
  by_cases hk:k'=k
  ·subst hk;rw[Ae,KC];exact .cons hv y
  ·rw[xw hk,HH (HF hk)];exact .cons x ih
theorem fb.length {P:Params}{es:List (Key×V)}{ds:List DictEntry}(x:fb no i P h es ds):ds.length=es.length:=by
 induction x with
 |nil=>rfl
 |cons _ _ ih=>exact congrArg (·+1) ih
theorem KD (es:List (Key×V))(k:Key)(v:V):(dput es k v).length≤es.length+1:=by
 induction es with
 |nil=>exact Nat.le_refl _
 |cons p r ih =>
  by_cases h:p.1=k
  ·rw[show dput (p::r) k v=(p.1,v)::r from if_pos h];exact Nat.le_succ _
  ·rw[show dput (p::r) k v=p::dput r k v from if_neg h];exact Nat.succ_le_succ ih
theorem KG (es:List (Key×V))(k:Key)(v:V)(x:Key)(hx:x∈(dput es k v).map (·.1)):x∈es.map (·.1)∨x=k:=by
 induction es with
 |nil=>exact .inr (List.mem_singleton.mp hx)
 |cons p r ih =>
  by_cases h:p.1=k
  ·rw[show dput (p::r) k v=(p.1,v)::r from if_pos h]at hx;exact .inl hx
  ·rw[show dput (p::r) k v=p::dput r k v from if_neg h]at hx;exact(List.mem_cons.mp hx).elim (λe=>.inl (e▸.head _)) λe=>(ih e).imp_left (.tail _)
theorem uD (es:List (Key×V))(k:Key)(v:V)(nd:(es.map (·.1)).Nodup):((dput es k v).map (·.1)).Nodup:=by
 induction es with
 |nil=>exact List.pairwise_singleton _ _
 |cons p r ih =>
  have hc:=List.nodup_cons.mp nd;by_cases h:p.1=k
  ·rw[show dput (p::r) k v=(p.1,v)::r from if_pos h];exact nd
  ·rw[show dput (p::r) k v=p::dput r k v from if_neg h];exact List.nodup_cons.mpr ⟨λhm=>(KG r k v _ hm).elim hc.1 h,ih hc.2⟩
structure iT (P:Params)(C:Addr):Prop where
 ga:findIn (K P) (.ref C) "__getattribute__"=some (some (.builtin "object.__getattribute__"))
 gt:findIn (K P) (.ref C) "__getattr__"=some none
 sa:findIn (K P) (.ref C) "__setattr__"=some (some (.builtin "object.__setattr__"))
 over:plainOver (K P) C=true
 dict:hasDictIn (K P) C=true
 attr:∀k,attrOk C k=true->findIn (K P) (.ref C) k.str=some none∧takerIn (K P) C k.str=some none
 bA:∀k f,ff (d0 C) k=some f->findIn (K P) (.ref C) k.str=some (some (.ref f))∧typeIn (K P) (.ref f)=some (.type "function")
def KH (P:Params)(h:Heap)(v:V)(a:Value):Prop:=∀no:List Addr,(∀b∈no,(K P).lookup b=none)->Val no [] h v a
inductive jN (P:Params)(h:Heap):List (List Nat×V)->List (Str×Value)->Prop
 |nil:jN P h [] []
 |cons {k:List Nat} {v:V} {a:Value} {r:List (List Nat×V)} {q:List (Str×Value)} (x:KH P h v a) (y:jN P h r q):jN P h ((k,v)::r) ((S k,a)::q)
theorem jN.get {P:Params}{h:Heap}{T:List (List Nat×V)}{bI:List (Str×Value)}(z:jN P h T bI)(x:List Nat):match T.lookup x with
  |some v=>∃a,valueAt bI (S x)=some a∧KH P h v a
  |none=>valueAt bI (S x)=none:=by
 induction z with
 |nil=>rfl
 | @cons k v a r q z _ ih =>
  by_cases hk:x=k
  ·subst hk;rw[List.lookup_cons_self,s9];exact⟨a,rfl,z⟩
  ·rw[show((k,v)::r).lookup x=r.lookup x by rw[List.lookup_cons,beq_eq_false_iff_ne.mpr hk],qo (λe=>hk (EK e).symm)];exact ih
structure bT (P:Params):Prop where
 base:pU P
 cls:∀C,isClass C=true->iT P C
 eW:∀(w:World),w.params=P->∀h,(K P).In h->∃bI,h.DictOf (strKind pw w) 87 bI∧jN P h (eW.map λp=>(p.1,V.str p.2)) bI
 pairs:∀(w:World),w.params=P->∀h,(K P).In h->∃bI,h.DictOf (strKind pw w) 89 bI∧jN P h pairs bI
theorem qp {C:Addr}{k:Key}(e:attrOk C k=true):isClass C=true:=by
 unfold attrOk at e;split at e
 ·rfl
 ·rfl
 ·rfl
 ·cases e
theorem uE {C:Addr}{k:Key}{f:Addr}(e:ff (d0 C) k=some f):isClass C=true:=by
 unfold d0 at e;split at e
 ·rfl
 ·rfl
 ·rfl
 ·exact(Option.some_ne_none _ e.symm).elim
theorem Rep.dI {n:Nat}(O:C.Ok n)(ae:Rep C i loc hp s):(K C.w.params).In s.heap:=λb o q=>ae.base b o (O.dI b o q)
theorem Rep.inst (ae:Rep C i loc hp s){a:Nat}{ad:Addr}{CC:Addr}{dd:Nat}{es:List (Key×V)}(e:i[a]?=some ad)(q1:hp[a]?=some (.inst CC dd))(q2:hp[dd]?=some (.dict es)) :
  ∃dx ds n,i[dd]?=some dx∧(fb C.no i C.w.params s.heap es ds∧(es.map (·.1)).Nodup)∧s.heap.get? dx=some (dictOf ds n)∧W.InstAt s.heap ad (instObj CC dx) CC (some (dictOf ds n)):=by
 refine aj (ae.ref e q1) λdx e1 h1=>?_;refine cb (ae.ref e1 q2) λds n h2 h3 h4=>?_;exact⟨dx,ds,n,e1,⟨h3,h4⟩,h2,⟨h1,rfl,rfl,h2⟩⟩
theorem WO (ae:Rep C i loc hp s){v:V}{a:Value}(hv:Val C.no i s.heap v a)(hf:∀w,v≠.fix w):handedIn a=true:=by
 have x:=hv.inv;cases v with
 |none=>exact x▸rfl
 |bool=>exact x▸rfl
 |int=>exact x.elim λ_ e=>e▸rfl
 |str=>exact x.elim λ_ e=>e▸rfl
 |tup=>exact x.elim λ_ e=>e.elim λ_ e=>e.1▸rfl
 |ref=>exact x.elim λ_ e=>e.1▸rfl
 |fix v=>exact absurd rfl (hf _)
theorem KI {o:Option V}{v:V}(h:yB o=some v):o=some v∧∀w,v≠.fix w:=by
 cases o with
 |none=>exact bx h
 |some u=>cases u<;>first|exact bx h|exact oi h▸⟨rfl,λ_=>V.noConfusion⟩
theorem EP {n:Nat}(O:C.Ok n)(F:bT C.w.params)(ae:Rep C i loc hp s){u v:V}{a:Value}{k:Key}{expr:Bool}(hu:Val C.no i s.heap u a)(e:ew hp u k=some v) :
  SV C own i loc s (.ok v hp) (getAttr a k.str expr):=λ_=>by
 refine aj (bE e) λtP q0 e=>?_;refine aj (bE e) λq q1 e=>?_;refine aj (bE e) λes q2 e=>?_;cases i9:attrOk q.1 k with
 |false=>rw[i9]at e;exact bx e
 |true =>
  rw[i9]at e;refine bp (KI e) λe aak=>?_;refine aj ((gv q0▸hu:Val C.no i s.heap (.ref tP) a).cP) λad aC e1=>?_;subst aC;refine fj (ae.inst e1 (tI q1) (kl q2)) λdx ds n e2 h3 h2 I=>?_;have cf:=F.cls q.1 (qp i9);refine aj ((h3.1.get k).2 v e) λb e3 hb=>?_;exact get_value (ae.dI O) I cf.ga (findObj_own cf.dict (cf.attr k i9).1 rfl e3) (WO ae hb aak) (dO ae hb)
section
variable {n:Nat}{f:V}{a:Value}{k:Key}{pl:Sem Bool}{Q:Value×List Value->Shared->Prop}{E:Value->Shared->Prop}
theorem KJ (O:C.Ok n)(F:bT C.w.params)(ae:Rep C i loc hp s){ad CC:Addr}{m dd:Nat}(e1:i[m]?=some ad)(q1:hp[m]?=some (.inst CC dd))(e:yC hp k (CC,dd)=some f)(hQ:∀fa,Val C.no i s.heap f fa->Q (fa,[.ref ad]) s):wpAny C.M C.A (getMethod (.ref ad) k.str pl) Q E s:=by
 refine aj (bE e) λes q2 e=>?_;cases hn:(ej es k).isNone with
 |false=>rw[hn]at e;exact bx e
 |true =>
  rw[hn]at e;refine aj (Option.map_eq_some_iff.mp e) λg e0 bH=>?_;subst bH;refine fj (ae.inst e1 q1 (kl q2)) λdx ds n e2 h3 h2 I=>?_;have cf:=F.cls CC (uE e0);refine bp (cf.bA k g e0) λm1 m2=>?_;refine method_fn (ae.dI O) I cf.ga cf.gt m1 m2 ?_ (hQ _ (.fix _));show(lookIn k.str (dictOf ds n)).map _=_;rw[lookIn_dict,(h3.1.get k).1 (Option.isNone_iff_eq_none.mp hn)];rfl
theorem HI {ad:Addr}{its:Array Value}{m:Nat}(h1:s.heap.get? ad=some (listOf its m))(e:El k=some f)(hQ:∀fa,Val C.no i s.heap f fa->Q (fa,[.ref ad]) s):wpAny C.M C.A (getMethod (.ref ad) k.str pl) Q E s:=by
 have CM:∀a',Value.ref ad=.ref a'->∃o,s.heap.get? a'=some o∧o.dict=none:=λa' q=>by injection q with q;subst q;exact⟨_,h1,rfl⟩
 have ty:s.TypeIs (.ref ad) "list":=⟨_,h1,rfl⟩;unfold El at e;by_cases k1:k=.append
 ·rw[if_pos k1]at e;subst k1;exact getMethod_builtin (name:=Str.ofString "append") ty PySem.F.plainAttrs_list PySem.F.slot_list_append PySem.F.type_list_append CM (hQ (.builtin "list.append") (oi e▸.fix _))
 ·rw[if_neg k1]at e;by_cases k2:k=.pop
  ·rw[if_pos k2]at e;subst k2;exact getMethod_builtin (name:=Str.ofString "pop") ty PySem.F.plainAttrs_list PySem.F.slot_list_pop PySem.F.type_list_pop CM (hQ (.builtin "list.pop") (oi e▸.fix _))
  ·rw[if_neg k2]at e;by_cases k3:k=.extend
   ·rw[if_pos k3]at e;subst k3;exact getMethod_builtin (name:=Str.ofString "extend") ty PySem.F.plainAttrs_list PySem.F.slot_list_extend PySem.F.type_list_extend CM (hQ (.builtin "list.extend") (oi e▸.fix _))
   ·rw[if_neg k3]at e;exact bx e
theorem KL {l:List Nat}{t:Tok}(e:(if k=.find then some (bi "str.find")else if k=.join then some (bi "str.join")else none)=some f)(hQ:∀fa,Val C.no i s.heap f fa->Q (fa,[.str (S l) t]) s):wpAny C.M C.A (getMethod (.str (S l) t) k.str pl) Q E s:=by
 have CM:∀a',Value.str (S l) t=.ref a'->∃o,s.heap.get? a'=some o∧o.dict=none:=λa' q=>Value.noConfusion q;by_cases k1:k=.find
 ·rw[if_pos k1]at e;subst k1;exact getMethod_builtin (name:=Str.ofString "find") (typeIs_str s (S l) t) PySem.F.plainAttrs_str PySem.F.slot_str_find PySem.F.type_str_find CM (hQ (.builtin "str.find") (oi e▸.fix _))
 ·rw[if_neg k1]at e;by_cases k2:k=.join
  ·rw[if_pos k2]at e;subst k2;exact getMethod_builtin (name:=Str.ofString "join") (typeIs_str s (S l) t) PySem.F.plainAttrs_str PySem.F.slot_str_join PySem.F.type_str_join CM (hQ (.builtin "str.join") (oi e▸.fix _))
  ·rw[if_neg k2]at e;exact bx e
theorem wt (O:C.Ok n)(F:bT C.w.params)(ae:Rep C i loc hp s){u:V}(hu:Val C.no i s.heap u a)(e:dM hp u k=some f)
  (hQ:∀fa,Val C.no i s.heap f fa->Q (fa,[a]) s) (wu:∀pl Q E s,(K C.w.params).In s.heap->Q (.builtin "dict.get",[.ref 89]) s->wpAny C.M C.A (getMethod (.ref 89) "get" pl) Q E s):wpAny C.M C.A (getMethod a k.str pl) Q E s:=by
 cases u with
 |ref m =>
  refine aj (hu.cP) λad aC e1=>?_;subst aC;refine aj (bE e) λo q1 e=>?_;cases o with
  |inst CC dd=>exact KJ O F ae e1 q1 e hQ
  |list xs =>
   refine eG (ae.ref e1 q1) λits n h1 _=>?_;exact HI h1 e hQ
  |_=>exact bx e
 |str l =>
  refine aQ (hu.cN) λt aC=>?_;subst aC;exact KL e hQ
 |fix w =>
  cases hw:isRef 89 w&&decide (k=.get)with
  |false=>unfold dM at e;dsimp only at e;rw[hw]at e;exact bx e
  |true =>
   unfold dM at e;dsimp only at e;rw[hw]at e;have ea:=hu.km;rw[oC (bk hw).1]at ea;have ek:k=.get:=of_decide_eq_true (bk hw).2;subst ea ek;exact wu _ _ _ _ (ae.dI O) (hQ _ (oi e▸.fix _))
 |_=>exact bx e
end
end
section
def ku (P:Params):Value->Bool
 |.ref a=>keepIn (K P) (.ref a)
 |_=>true
def nI (P:Params)(c:Ca):Prop:=∀f vs hp,c f vs hp≠.bad->∀(no:List Addr) (i:Pl) h fa,Val no i h f fa->ku P fa=true
theorem kZ {M:Model}{P:Params}{f:Value}(hk:ku P f=true)(h:Heap)(X:(K P).In h):∃k,(k=Keeper.frame∨k=Keeper.machine∨k=Keeper.boundFrame)∧Looks M h (keeperOf f) k:=by
 cases f with
 |ref a=>exact keeps_K (K:=K P) (f:=.ref a) hk h X
 |_=>exact⟨.machine,.inr (.inl rfl),Looks.of_pure rfl⟩
theorem iU (es:List Expr)(pos:Pos)(env:Env)(hs:es.all noStar=true):(backTo pos (starEach es env)).any (·.1)=false:=by
 induction es with
 |nil=>rfl
 |cons e r ih=>exact gI (bk hs).1 r pos env▸ih (bk hs).2
noncomputable def aal (c:Ca) (f:V) (fs vs:List V) (hp:HP):R V:=c f (fs++vs) hp
theorem xy (es:List Expr)(pos:Pos)(env:Env)(hs:es.all noStar=true)(hl:es.length<20):methodCallForm (es.length+0) (backTo pos (starEach es env)) (backToKw pos (keywordEach [] env))=true:=by
 show((backTo pos (starEach es env)).all (λx=>!x.1)&&([]:List (Option Str×Sem Value)).all (λx=>x.1.isSome)&&decide (es.length+0+0<30))=true;rw[<- List.not_any_eq_all_not,iU es pos env hs,decide_eq_true (show es.length+0+0<30 from Nat.lt_trans hl (by decide))];rfl
section
variable {n N:Nat}{d:cx}{c:Ca}(O:C.Ok n)(F:bT C.w.params)(D:cZ n d)(cO:kY n c)(kO:nI C.w.params c)
include O F D cO kO
omit O F D cO kO in
theorem To.YA {β γ δ:Type}{T:fJ γ δ}{lc:δ->Loc}{o:Option β}{g:β->HP->R δ}{Q:γ->Shared->Prop}{E:Value->Shared->Prop}(q:To C own i s lc T (az (bQ o hp) g) Q E):∃k,o=some k∧To C own i s lc T (g k hp) Q E:=by
 cases o with
 |none=>exact q.jM
 |some k=>exact⟨k,rfl,q⟩
theorem yt (ae:Rep C i loc hp s){f:V}{fa:Value}{fs:List V}{first:List Value}(hf:Val C.no i s.heap f fa)(YB:Vals C.no i s.heap fs first)(es:List Expr)(pos:Pos)(hs:es.all noStar=true) :
  SV C [] i loc s (az (xs (es.map (d.ex C.sc)) loc hp) (aal c f fs)) (callWith pos fa first (backTo pos (starEach es C.env)) []):=sn λ{Q E} q=>by
 have key:wpAny C.M C.A (evalArgs fa true (backTo pos (starEach es C.env)) []) (λa ah=>((K C.w.params).In ah.heap∧ku C.w.params fa=true)∧wpAny C.M C.A (call fa (first++a.pos) a.kw) Q E ah) E s:=by
  cases es with
  |nil=>exact evalArgs_nil3 ⟨⟨ae.dI O,kO _ _ _ q.nb C.no i s.heap fa hf⟩,(cO O F.base ae hf (YB.append .nil)).to q⟩
  |cons e r =>
   have e1:=gI (bk hs).1 r pos C.env;rw[e1];refine evalArgs_plain ?_;rw[<- e1];exact cT (oE O F.base D (e::r) pos ae hs) q λas vs au aB ah ak k₁ aP q=>⟨⟨ak.dI O,kO _ _ _ q.nb C.no aB ah.heap fa (k₁.vl ae hf)⟩,(cO O F.base ak (k₁.vl ae hf) ((k₁.vls ae YB).append aP)).to q⟩
 exact callWith_of (P:=λh=>(K C.w.params).In h∧ku C.w.params fa=true) (by rw[iU es pos C.env hs];rfl) (λh X=>kZ X.2 h X.1) key
theorem ON (ae:Rep C i loc hp s)(f:Expr)(es:List Expr)(pos:Pos)(hs:es.all noStar=true)(hf:∃x p,f=.Name x p):SV C [] i loc s (aD c (d.ex C.sc f) (es.map (d.ex C.sc)) loc hp) (eval (.Call f es [] pos) C.env):=by
 refine jI hf λx p bH=>?_;subst bH;refine sn λ{Q E} q=>?_;show wpAny _ _ (do callWith pos (<- eval (.Name x p) C.env) [] (backTo pos (starEach es C.env)) []) _ _ _
 exact wpAny_bind (cT (D.ex O F.base ae (.Name x p)) q λfa f au aB ah ak k₁ aP q=>(yt O F D cO kO ak aP (fs:=[]) .nil es pos hs).to q)
omit O F D cO kO in
theorem OO (o:Expr)(m:Str)(env:Env)(whole:Sem Value):jA o=true∨attributeBase o m env whole=whole:=by
 cases o with
 |Call f as ks pos =>
  cases f with
  |Name x p =>
   cases as with
   |nil =>
    cases ks with
    |nil=>exact .inl rfl
    |cons _ _=>exact .inr rfl
   |cons _ _=>exact .inr rfl
  |_=>exact .inr rfl
 |_=>exact .inr rfl
omit O F D cO kO in
theorem lI {o:Expr}{m:Str}{env:Env}{whole:Sem Value}(h0:jA o=false):attributeBase o m env whole=whole :=
 (OO o m env whole).resolve_left (h0▸Bool.false_ne_true)
theorem OP (wu:∀pl Q E s,(K C.w.params).In s.heap->Q (.builtin "dict.get",[.ref 89]) s->wpAny C.M C.A (getMethod (.ref 89) "get" pl) Q E s)
  (ae:Rep C i loc hp s) (o:Expr) (m:Str) (k:Key) (es:List Expr) (apos pos:Pos) (hk:Key.of m=some k) (hs:es.all noStar=true) (hl:es.length<20) (h0:jA o=false) (ay:(apos.endLine==pos.line)=true) :
  SV C [] i loc s (ax c (d.ex C.sc o) k (es.map (d.ex C.sc)) loc hp) (eval (.Call (.Attribute o m apos) es [] pos) C.env):=by
 refine sn λ{Q E} q=>?_
 show wpAny _ _ (do
  let ov <- attributeBase o m C.env (eval o C.env)
  standAt apos.atName
  methodCall o m apos pos C.env ov (es.length+0) (backTo pos (starEach es C.env)) (backToKw pos (keywordEach [] C.env))) _ _ _
 rw[lI h0];refine wpAny_bind (cT (D.ex O F.base ae o) q λa u au aB ah ak k₁ aP q=>wpAny_bind (wpAny_standAt ?_));refine aj (To.YA (g:=En c (es.map (d.ex C.sc)) loc u) q) λf hm q=>?_;unfold methodCall;rw[xy es pos C.env hs hl]
 show wpAny _ _ (do
  let(f,first) <- holding [a] (getMethod a m (do return (<- importBound o C.env).getD true))
  let iV <- methodCallPos true o C.env apos pos
  callWith iV f first (backTo pos (starEach es C.env)) []) _ _ _
 rw[<- Key.nH hk];refine wpAny_bind (wpAny_holding (wt O F ak aP hm (λfa SA=>?_) wu))
 have ep:methodCallPos true o C.env apos pos=pure pos:=by
  unfold methodCallPos;rw[ay];rfl
 show wpAny _ _ (methodCallPos true o C.env apos pos>>=λiV=>callWith iV fa [a] (backTo pos (starEach es C.env)) []) _ _ _;rw[ep];exact wpAny_bind (wpAny_pure ((yt O F D cO kO ak SA (fs:=[u]) (.cons aP .nil) es pos hs).to q))
theorem OQ (ae:Rep C i loc hp s)(o:Expr)(m:Str)(k:Key)(pos:Pos)(hk:Key.of m=some k)(h0:jA o=false) :
  SV C [] i loc s (aH (d.ex C.sc o) k loc hp) (eval (.Attribute o m pos) C.env):=by
 have he:eval (.Attribute o m pos) C.env=(do
   let ov <- eval o C.env
   standAt pos.atName
   let r <- holding [ov] (getAttr ov m true)
   letTemporaryGo o ov r
   pure r):=by
  show(do
   let ov <- attributeBase o m C.env (eval o C.env)
   standAt pos.atName
   let r <- holding [ov] (getAttr ov m true)
   letTemporaryGo o ov r
   pure r)=_
  rw[lI h0]
 refine sn λ{Q E} q=>Attribute_any_ (cT (D.ex O F.base ae o) q λa u au aB ah ak k₁ aP q=>?_) he;refine aj (q.oB) λv hm q=>?_;exact Key.nH hk▸(EP O F ak aP hm).to q
end
end
inductive gJ (no:List Addr)(i:Pl)(h:Heap):List (Key×V)->List (Str×Value)->Prop
 |nil:gJ no i h [] []
 |cons {k:Key} {v:V} {a:Value} {r:List (Key×V)} {q:List (Str×Value)} (x:Val no i h v a) (y:gJ no i h r q):gJ no i h ((k,v)::r) ((k.str,a)::q)
abbrev SK (w:World):=strKind pw w
theorem gJ.keep (g:bB i i')(k:bq no h h'){es:List (Key×V)}{bI:List (Str×Value)}(x:gJ no i h es bI):gJ no i' h' es bI:=by
 induction x with
 |nil=>exact .nil
 |cons x _ ih=>exact .cons (x.keep g k) ih
theorem fb.bI {w:World}{es:List (Key×V)}{ds:List DictEntry}(x:fb no i w.params h es ds):∃bI,Pairs (SK w) ds bI∧gJ no i h es bI∧KeysOf (SK w) ds.toArray:=by
 induction x with
 |nil=>exact⟨[],.nil,.nil,λe he=>absurd he (Array.not_mem_empty e)⟩
 | @cons k v r t a es x _ ih =>
  refine dP ih λbI h1 h2 h3=>?_;exact⟨(k.str,a)::bI,.cons (strKind_is pw w k.str t) rfl h1,.cons x h2,λe he=>(List.mem_cons.mp (List.mem_toArray.mp he)).elim (λq=>q▸⟨k.str,strKind_is pw w k.str t,rfl⟩) λq=>h3 e (List.mem_toArray.mpr q)⟩
theorem gJ.keys {es:List (Key×V)}{bI:List (Str×Value)}(x:gJ no i h es bI):bI.map (·.1)=es.map λp=>p.1.str:=by
 induction x with
 |nil=>rfl
 |cons _ _ ih=>exact congrArg (List.cons _) ih
theorem gJ.nodup {es:List (Key×V)}{bI:List (Str×Value)}(x:gJ no i h es bI)(nd:(es.map (·.1)).Nodup):(bI.map (·.1)).Nodup:=by
 rw[x.keys,show(es.map λp=>p.1.str)=(es.map (·.1)).map Key.str by simp]
 exact nd.map _ λa b uF e=>uF (Key.inj _ _ e)
theorem HJ {w:World}{a:Addr}{ds:List DictEntry}{n:Nat}{es:List (Key×V)}(e:h.get? a=some (dictOf ds n))(x:fb no i w.params h es ds)(nd:(es.map (·.1)).Nodup) :
  ∃bI,h.DictOf (SK w) a bI∧gJ no i h es bI:=by
 refine dP (x.bI) λbI h1 h2 h3=>?_;exact⟨bI,⟨_,_,n,e,⟨rfl,rfl,rfl⟩,rfl,h3,by simpa using h1,h2.nodup nd⟩,h2⟩
theorem fb.SE {w:World}{es:List (Key×V)}{bI:List (Str×Value)}(x:gJ no i h es bI):∀{ds:List DictEntry},Pairs (SK w) ds bI->KeysOf (SK w) ds.toArray->fb no i w.params h es ds:=by
 induction x with
 |nil =>
  intro ds y _;cases y
  exact .nil
 | @cons k v a r q x _ ih =>
  intro ds y h4;cases y with
  | @cons e _ es _ h1 h2 h3 =>
  refine aQ (Value.isStrOf_shape (x:=k.str) (v:=e.key) h1) λt ht=>?_;refine aj (h4 e (List.mem_toArray.mpr (.head _))) λk' q1 q2=>?_;rw[show k'=k.str from(SK w).inj _ _ _ q1 h1]at q2;have z:=ih h3 λe he=>h4 e (List.mem_toArray.mpr (.tail _ (List.mem_toArray.mp he)));obtain⟨eh,ekey,ev⟩:=e;subst ht h2 q2;exact .cons x z
theorem xA {w:World}{a:Addr}{es:List (Key×V)}{bI:List (Str×Value)}(x:h.DictOf (SK w) a bI)(y:gJ no i h es bI):∃ds n,h.get? a=some (dictOf ds n)∧fb no i w.params h es ds:=by
 obtain⟨o,YC,ep,ho,⟨c1,c2,c3⟩,hd,hk,hp,_⟩:=x;refine⟨YC.toList,ep,?_,fb.SE y hp hk⟩;obtain⟨oc,od,oda,os⟩:=o;simp only at c1 c2 c3 hd;subst c1 c2 c3 hd
 simpa using ho
theorem gJ.get {es:List (Key×V)}{bI:List (Str×Value)}(x:gJ no i h es bI){k:Key}{v:V}(e:ej es k=some v):∃a,valueAt bI k.str=some a∧Val no i h v a:=by
 induction x with
 |nil=>exact bx e
 | @cons k' v' a' r q x _ ih =>
  by_cases hk:k'=k
  ·subst hk;exact⟨a',s9,oi (tO.symm.trans e)▸x⟩
  ·rw[xu hk]at e;rw[qo λq=>hk (Key.inj _ _ q)];exact ih e
theorem gJ.app {es fs:List (Key×V)}{bI YD:List (Str×Value)}(x:gJ no i h es bI)(z:gJ no i h fs YD):gJ no i h (es++fs) (bI++YD):=by
 induction x with
 |nil=>exact z
 |cons x _ ih=>exact .cons x ih
theorem Hh {bI:List (Str×Value)}{k:Str}{v:Value}(e:k∉bI.map (·.1)):stored bI k v=bI++[(k,v)]:=by
 unfold stored;rw[if_neg];simp only[List.any_eq_true,decide_eq_true_eq,not_exists,not_and];intro x hx hk;exact e (hk▸List.mem_map_of_mem hx)
theorem ER {k:Str}{a b:Value}{q:List (Str×Value)}(hm:k∉q.map (·.1)):stored ((k,b)::q) k a=(k,a)::q:=by
 unfold stored;rw[if_pos (by simp),List.map_cons,map_store_of_not_mem q k a hm,if_pos rfl]
theorem B9 {k k':Str}{a b:Value}{q:List (Str×Value)}(hs:¬k'=k):stored ((k',b)::q) k a=(k',b)::stored q k a:=by
 unfold stored;simp only[List.any_cons,hs,decide_false,Bool.false_or,List.map_cons,if_false];split<;>rfl
theorem gJ.put {es:List (Key×V)}{bI:List (Str×Value)}(x:gJ no i h es bI)(nd:(es.map (·.1)).Nodup){k:Key}{v:V}{a:Value}(hv:Val no i h v a):gJ no i h (dput es k v) (stored bI k.str a):=by
 induction x with
 |nil=>exact .cons hv .nil
 | @cons k' v' a' r q x y ih =>
  have nd:=List.nodup_cons.mp nd;by_cases hk:k'=k
  ·subst hk;rw[Ae,ER (λhm=>?_)]
   ·exact .cons hv y
   ·rw[y.keys]at hm;refine aj (List.mem_map.mp hm) λp hp e=>?_;exact nd.1 (List.mem_map.mpr ⟨p,hp,Key.inj _ _ e⟩)
  ·rw[xw hk,B9 λq=>hk (Key.inj _ _ q)];exact .cons x (ih nd.2)
theorem Rep.dict (ae:Rep C i loc hp s){a:Nat}{ad:Addr}{es:List (Key×V)}(e:i[a]?=some ad)(q:hp[a]?=some (.dict es)):∃bI,s.heap.DictOf (SK C.w) ad bI∧gJ C.no i s.heap es bI∧(es.map (·.1)).Nodup:=by
 refine cb (ae.ref e q) λds n h1 h2 h3=>?_;refine aj (HJ h1 h2 h3) λbI q1 q2=>?_;exact⟨bI,q1,q2,h3⟩
section
theorem Af {α:Type}(l:List α)(a b:Nat)(hb:b≤l.length):((List.range (b - a)).filterMap λk=>l[a+k]?)=(l.take b).drop a:=by
 have e:∀n (a:Nat),a+n≤l.length->((List.range n).filterMap λk=>l[a+k]?)=(l.drop a).take n:=by
  intro n
  induction n with
  |zero=>intro a _;simp
  |succ n ih =>
   intro a h;rw[List.range_succ,List.filterMap_append,ih a (Nat.le_of_lt (by assumption))];have hl:a+n<l.length:=by assumption
   rw[List.take_succ,List.getElem?_drop];simp[List.getElem?_eq_getElem hl]
 by_cases h:a≤b
 ·rw[e (b - a) a (Nat.le_trans (Nat.le_of_eq (Nat.add_sub_cancel' h)) hb),<- List.drop_take]
 ·have h0:b - a=0:=by apply Z0<;>trivial
  rw[h0,List.drop_of_length_le (Nat.le_trans (List.length_take_le b l) (Nat.le_of_not_le h))];rfl
theorem CN (a b:Nat):(if(a:Int)<(b:Int)then((b:Int) - a+1 - 1) / 1 else 0).toNat=b - a:=by
 by_cases h:(a:Int)<b
 ·rw[if_pos h,Int.add_sub_cancel,Int.ediv_one,Int.toNat_sub]
 ·rw[if_neg h,Nat.sub_eq_zero_of_le (Int.ofNat_le.mp (Int.not_lt.mp h))];rfl
theorem Nh (a b:Nat):sliceRange (a:Int) (b:Int) 1=(List.range (b - a)).map λ(k:Nat)=>a+k:=by
 rw[<- CN a b];refine List.map_congr_left λk _=>?_;rw[Int.one_mul];exact Int.toNat_natCast (a+k)
theorem uG {α:Type}(l:List α)(a b:Nat)(hb:b≤l.length):(sliceRange (a:Int) (b:Int) 1).filterMap (λk=>l[k]?)=(l.take b).drop a:=by
 rw[<- Af l a b hb,Nh,List.filterMap_map];rfl
noncomputable def fc (o:Option Nat):Option Int:=match o with|none=>none|some n=>some (n:Int)
theorem k7 {α:Type}(l:List α)(lo hi:Option Nat):cut l lo hi=(l.take (min (hi.getD l.length) l.length)).drop (min (lo.getD 0) l.length):=by
 unfold cut;rw[<- List.take_eq_take_min];have ht:=List.length_take_le' (hi.getD l.length) l;by_cases h:lo.getD 0≤l.length
 ·rw[Nat.min_eq_left h]
 ·have h:=Nat.le_of_not_le h;rw[Nat.min_eq_right h,List.drop_of_length_le (Nat.le_trans ht h),List.drop_of_length_le ht]
theorem Ag (k n:Nat):min (k:Int) n=((min k n:Nat):Int):=by omega
theorem Eb (k:Nat):¬(k:Int)<0:=Int.not_lt.mpr (Int.natCast_nonneg k)
theorem yL (k n:Nat):max (0:Int) (min (if(k:Int)<0 then(k:Int)+n else(k:Int)) n)=((min k n:Nat):Int):=by
 rw[if_neg (Eb k),Ag];exact Int.max_eq_right (Int.natCast_nonneg _)
theorem Ni (k n:Nat):(if(k:Int)<0 then max ((k:Int)+n) 0 else min (k:Int) n)=((min k n:Nat):Int):=by
 rw[if_neg (Eb k),Ag]
theorem ES (lo hi:Option Nat)(n:Nat):Builtin.Str.strSliceIndices (fc lo) (fc hi) 1 n=sliceRange ((min (lo.getD 0) n:Nat):Int) ((min (hi.getD n) n:Nat):Int) 1:=by
 unfold Builtin.Str.strSliceIndices;dsimp only[show(1:Int)>0 by decide,if_true];congr 1
 ·cases lo with
  |none=>simp[fc]
  |some k=>exact yL k n
 ·cases hi with
  |none=>simp[fc]
  |some k=>exact yL k n
theorem Ah (lo hi:Option Nat)(n:Nat):sliceBounds (fc lo) (fc hi) none n=(((min (lo.getD 0) n:Nat):Int),((min (hi.getD n) n:Nat):Int),1):=by
 unfold sliceBounds;dsimp only[Option.getD_none,show(1:Int)>0 by decide,if_true];congr 1
 ·cases lo with
  |none=>simp[fc]
  |some k=>exact yL k n
 ·congr 1;cases hi with
  |none=>simp[fc]
  |some k=>exact yL k n
theorem SH (lo hi:Option Nat)(n:Nat):Builtin.Slice.sliceAdjust (fc lo) (fc hi) 1 (n:Int)=(((min (lo.getD 0) n:Nat):Int),((min (hi.getD n) n:Nat):Int)):=by
 unfold Builtin.Slice.sliceAdjust;dsimp only[show ¬(1:Int)<0 by decide,if_false];congr 1
 ·cases lo with
  |none=>simp[fc]
  |some k=>exact Ni k n
 ·cases hi with
  |none=>simp[fc]
  |some k=>exact Ni k n
theorem WQ (a b:Nat):Builtin.Slice.slicePlaces (a:Int) (b:Int) 1=b - a:=by
 unfold Builtin.Slice.slicePlaces;rw[if_pos (by decide),<- CN a b];by_cases h:(a:Int)<b
 ·rw[if_pos h,if_pos h,Int.ediv_one,Int.ediv_one,Int.sub_add_cancel,Int.add_sub_cancel]
 ·rw[if_neg h,if_neg h]
theorem pW (items:Array Value)(lo hi:Option Nat):slicePick items (fc lo) (fc hi) none=(cut items.toList lo hi).toArray:=by
 unfold slicePick;rw[Ah];dsimp only;rw[k7,Array.length_toList,<- uG items.toList (min (lo.getD 0) items.size) (min (hi.getD items.size) items.size) (Nat.min_le_right _ _)];congr 1;simp
theorem Vals.cut {vs:List V}{as:List Value}(x:Vals no i h vs as)(lo hi:Option Nat):Vals no i h (Internal.cut vs lo hi) (Internal.cut as lo hi):=by
 unfold Internal.cut;rw[x.length];exact(x.take _).drop _
theorem sU {v:V}{a:Value}{o:Option Nat}(hv:Val no i h v a)(e:hW v=some o):IsPart a (fc o)∧∃p:Option (Int×Tok),a=partValue p∧p.map (·.1)=fc o:=by
 cases v with
 |none =>
  obtain rfl:=oi e;obtain rfl:=hv.z0;exact⟨.none,none,rfl,rfl⟩
 |int k =>
  refine aQ (hv.dn) λt aC=>?_;subst aC;by_cases hk:0≤k
  ·obtain rfl:=oi ((if_pos hk).symm.trans e:some (some k.toNat)=some o);have e:fc (some k.toNat)=some k:=congrArg some (Int.toNat_of_nonneg hk);exact⟨e▸.int k t,some (k,t),rfl,e.symm⟩
  ·exact bx ((if_neg hk).symm.trans e)
 |_=>exact bx e
section
variable {prog:Program}{w:World}{A:Around}{E:Value->Shared->Prop}{s:Shared}
theorem CO {v:Value}{o:Option Int}{Q:Option Int->Shared->Prop}(p:IsPart v o)(hq:Q o s):wpAny (model prog w) A (Builtin.Slice.slicePartIndex v) Q E s:=by
 cases p with
 |none=>exact slicePart_none hq
 |int k t=>exact slicePart_int hq
theorem tQ {sl:Addr}{vl vu:Value}{lo hi:Option Nat}{n:Nat}{Q:Int×Int×Nat->Shared->Prop}(hs:s.heap.IsSliceOf sl vl vu .none)(pl:IsPart vl (fc lo))(pu:IsPart vu (fc hi))
  (h:Q (((min (lo.getD 0) n:Nat):Int),1,min (hi.getD n) n - min (lo.getD 0) n) s) :
  wpAny (model prog w) A (Builtin.Slice.sliceApplied (.ref sl) (pure (n:Int))) Q E s:=by
 refine bC λnG=>?_;refine dP (id hs) λos HL hcs HM=>?_;refine nG ?_;unfold Builtin.Slice.sliceApplied Builtin.Slice.sliceFields;refine wpAny_bind (wpAny_bind (wpAny_field HL HM (x:=vl) rfl (wpAny_bind (wpAny_field HL HM (x:=vu) rfl (wpAny_bind (wpAny_field HL HM (x:=.none) rfl (wpAny_pure ?_)))))));refine wpAny_bind (slicePart_none ?_);show wpAny _ _ (if((1:Int)==0)=true then _ else _) _ _ s
 rw[if_neg (by decide)];refine wpAny_bind (CO pl (wpAny_bind (CO pu (wpAny_bind (wpAny_pure ?_)))));show wpAny _ _ (match Builtin.Slice.sliceAdjust (fc lo) (fc hi) 1 (n:Int)with|(lo,hi)=>pure (lo,(1:Int),Builtin.Slice.slicePlaces lo hi 1)) _ _ s
 rw[SH];exact wpAny_pure (WQ _ _▸h)
theorem KN {lo hi:Option Nat}(items:Array Value):((List.range (min (hi.getD items.size) items.size - min (lo.getD 0) items.size)).filterMap λ(k:Nat)=>items[(((min (lo.getD 0) items.size:Nat):Int)+(k:Int)*1).toNat]?).toArray=(cut items.toList lo hi).toArray:=by
 rw[k7,Array.length_toList,<- Af items.toList (min (lo.getD 0) items.size) (min (hi.getD items.size) items.size) (Nat.min_le_right _ _)];congr 2
 funext k
 rw[Int.mul_one,Array.getElem?_toList];exact congrArg (λn=>items[n]?) (Int.toNat_natCast _)
theorem KO {lo hi:Option Nat}{items:Array Value}(hw:(cut items.toList lo hi).length<items.size):¬((((min (lo.getD 0) items.size:Nat):Int)==0&&(1:Int)==1&&(min (hi.getD items.size) items.size - min (lo.getD 0) items.size)==items.size)=true):=λhq=>by
 have h:=beq_iff_eq.mp (bk hq).2;rw[k7,List.length_drop,List.length_take,Array.length_toList,Nat.min_eq_left (Nat.min_le_right _ _),h]at hw;exact Nat.lt_irrefl _ hw
theorem SI {α:Type}(l:List α)(lo hi:Option Nat):(cut l lo hi).length≤l.length:=by
 unfold cut;rw[List.length_drop];exact Nat.le_trans (Nat.sub_le _ _) (List.length_take_le' _ _)
theorem sW {t sl:Addr}{items:Array Value}{vl vu:Value}{lo hi:Option Nat}{Q:Value->Shared->Prop}(ht:IsTup s.heap t items)(hs:s.heap.IsSliceOf sl vl vu .none)(pl:IsPart vl (fc lo))(pu:IsPart vu (fc hi))
  (hw:(cut items.toList lo hi).length<items.size) (h:Q (.ref s.heap.objs.size) {s with heap:=s.heap.push {cls:=.type "tuple",data:=.seq (cut items.toList lo hi).toArray}})
  (xD:items.size≤sizeLine):wpAny (model prog w) A (getItem (.ref t) (.ref sl)) Q E s:=by
 have ET:sizeOk (.seq (cut items.toList lo hi).toArray):=Nat.le_trans (Nat.le_of_lt hw) xD;have hTs:s.TypeIs (.ref sl) "slice":=hs.elim λos x=>⟨os,x.1,x.2.1⟩;unfold getItem
 try with_reducible refine wpAny_holding ?_
 first|refine wpAny_bind (wpAny_pure ?_)|skip
 refine wpAny_bind (wpAny_sequenceKey ht.typeIs (by decide) ?_)
 refine wpAny_bind (wpAny_callSpecial?_slot (name:=Str.ofString "__getitem__") ht.typeIs slot_tuple_getitem
  (wpAny_call_entry slot_tuple_getitem ht.typeIs entry_tuple_getitem ?_ (args_tuple_getitem _ _)))
 show wpAny _ _ (Builtin.Tuple.tupleItemsOf (.ref t)>>=_) _ _ s;refine wpAny_bind (tupleItemsOf_ ht ?_);refine wpAny_bind (wpAny_typeOf hTs ?_);rw[if_pos (by decide)];refine wpAny_bind (tQ hs pl pu ?_);show wpAny _ _ (if(((min (lo.getD 0) items.size:Nat):Int)==0&&(1:Int)==1&&(min (hi.getD items.size) items.size - min (lo.getD 0) items.size)==items.size)=true then _ else _) _ _ s
 rw[if_neg (KO hw),KN]
 first
  |exact wpAny_bind (m:=Builtin.Tuple.tupleExact _) (wpAny_newObj_type (wpAny_pure ⟨_,rfl,wpAny_pure h⟩) ET)
  |exact wpAny_bind (m:=Builtin.Tuple.tupleExact _) (wpAny_newObj_type (wpAny_bind (wpAny_pure (wpAny_pure ⟨_,rfl,wpAny_pure h⟩))) ET)
  |exact wpAny_bind (wpAny_bind (m:=Builtin.Tuple.tupleExact _) (wpAny_newObj_type (wpAny_pure (wpAny_pure ⟨_,rfl,wpAny_pure h⟩)) ET))
  |exact wpAny_bind (wpAny_bind (m:=Builtin.Tuple.tupleExact _) (wpAny_newObj_type (wpAny_pure ⟨_,rfl,wpAny_pure h⟩) ET))
end
end
section
theorem Rep.Ai {n:Nat}(O:C.Ok n)(ae:Rep C i loc hp s){v:V}{a:Value}(x:KH C.w.params s.heap v a):Val C.no i s.heap v a :=
 (x C.no λb hb=>by
  cases q:(K C.w.params).lookup b with
  |none=>rfl
  |some o=>have:=O.dI b o q;rw[O.noNew b hb]at this;cases this).keep ⟨i,rfl⟩ (bq.refl _ s.heap)
theorem qr (x:List Nat):(eW.map λp=>(p.1,V.str p.2)).lookup x=(eW.lookup x).map V.str:=by
 generalize eW=l
 induction l with
 |nil=>rfl
 |cons p r ih =>
  obtain⟨a,b⟩:=p;simp only[List.map_cons,List.lookup_cons];cases x==a<;>simp[ih]
theorem wx {k:Int}{n j:Nat}(e:tA k n=some j):seqIndex? k n=some j∧-(2 ^ 63)≤k∧k<2 ^ 63:=by
 unfold tA at e;cases hs:dy k with
 |false=>rw[hs]at e;exact bx e
 |true =>
  rw[hs]at e;have hs:k.natAbs<2 ^ 62:=of_decide_eq_true hs;exact⟨e,Int.neg_le_of_neg_le (Int.le_trans (Int.natAbs_neg k▸Int.le_natAbs) (Int.ofNat_le.mpr (Nat.le_trans (Nat.le_of_lt hs) (Nat.le_of_ble_eq_true rfl)))),Int.lt_of_le_of_lt Int.le_natAbs (Int.ofNat_lt.mpr (Nat.lt_of_lt_of_le hs (Nat.le_of_ble_eq_true rfl)))⟩
theorem OR {k:Int}{n j:Nat}(e:seqIndex? k n=some j):0≤(if k<0 then k+n else k)∧j=(if k<0 then k+n else k).toNat:=by
 unfold seqIndex? at e;by_cases h:(decide (0≤(if k<0 then k+(n:Int)else k))&&decide ((if k<0 then k+(n:Int)else k)<n))=true
 ·exact⟨of_decide_eq_true (bk h).1,(oi ((if_pos h).symm.trans e)).symm⟩
 ·exact bx ((if_neg h).symm.trans e)
theorem Int.nJ {k:Int}{n:Nat}(h:0≤k+n):-(n:Int)≤k:=by omega
theorem CP {vs:List V}{its:Array Value}(x:Vals no i h vs its.toList){k:Int}{v:V}(e:rk vs k=some v):∃j a,tA k its.size=some j∧its[j]?=some a∧Val no i h v a:=by
 refine aj (bE e) λj hj e=>?_;refine aj (x.get e) λa h1 h2=>?_;exact⟨j,a,by rw[<- Array.length_toList,<- x.length];exact hj,by rw[<- Array.getElem?_toList];exact h1,h2⟩
section
variable {n:Nat}{a b:Value}{value slice:Expr}{v:V}
theorem Xc (ae:Rep C i loc hp s){vs:List V}{k:Int}(hu:Val C.no i s.heap (.tup vs) a)(hw:Val C.no i s.heap (.int k) b)(e:rk vs k=some v)(ij:subscripted slice false a b=operate [a,b] (getItem a b)):SV C own i loc s (.ok v hp) (subscriptTail value slice a b):=λ_=>by
 refine aQ (hw.dn) λt' aC=>?_;subst aC;refine tC (hu.fz) λt its bH cS x y=>?_;subst bH;refine cb (CP y e) λj c h1 h2 h3=>?_;refine j9 (wx h1) λq1 q3 q4=>?_;exact tail_any (s:=s) x.is.typeIs slot_tuple_getitem.lookup (getItem_tuple x.is q3 q4 q1 h2 (dT ae (aJ.refl ..) h3)) ij
theorem Xd (ae:Rep C i loc hp s){l:List Nat}{k:Int}{j c:Nat}(hu:Val C.no i s.heap (.str l) a)(hw:Val C.no i s.heap (.int k) b)(hj:tA k l.length=some j)(hc:l[j]?=some c)(ij:subscripted slice false a b=operate [a,b] (getItem a b)):SV C own i loc s (.ok (.str [c]) hp) (subscriptTail value slice a b):=λ_=>by
 refine aQ (hw.dn) λt' aC=>?_;subst aC;refine aQ (hu.cN) λt aC=>?_;subst aC;refine j9 (wx hj) λq1 q3 q4=>?_;refine tail_any (s:=s) (typeIs_str s (S l) t) PySem.F.slot_str_getitem.lookup (P.getItem_str (c:=c) ?_ ?_ (dO ae (.str [c] _))) ij
 ·rw[decide_eq_false (Int.not_lt.mpr q3),decide_eq_false (Int.not_le.mpr q4)];rfl
 ·rw[dB,q1];show l.toArray[j]?=some c;rw[List.getElem?_toArray];exact hc
theorem Xe (ae:Rep C i loc hp s){m:Nat}{vs:List V}{k:Int}(hu:Val C.no i s.heap (.ref m) a)(hw:Val C.no i s.heap (.int k) b)(q:hp[m]?=some (.list vs))(e:rk vs k=some v)(ij:subscripted slice false a b=operate [a,b] (getItem a b)):SV C own i loc s (.ok v hp) (subscriptTail value slice a b):=λ_=>by
 refine aQ (hw.dn) λt' aC=>?_;subst aC;refine aj (hu.cP) λad aC e1=>?_;subst aC;refine eG (ae.ref e1 q) λits ni h1 h2=>?_;refine cb (CP h2 e) λj c g1 g2 g3=>?_;refine j9 (wx g1) λq1 q3 q4=>?_;refine bp (OR q1) λq5 aC=>?_;subst aC;have hl:s.heap.IsList ad its:=⟨_,h1,rfl,_,rfl⟩;refine tail_any (s:=s) hl.typeIs slot_list_getitem.lookup ?_ ij;by_cases h0:k<0
 ·rw[if_pos h0]at q5 g2;exact wpAny_getItem_list_neg hl h0 (Int.nJ q5) q3 g2 (dT ae (aJ.refl ..) g3)
 ·rw[if_neg h0]at q5 g2;exact wpAny_getItem_list hl q5 q4 g2 (dT ae (aJ.refl ..) g3)
theorem Xf (O:C.Ok n)(F:bT C.w.params)(ae:Rep C i loc hp s){x y:List Nat}(hu:Val C.no i s.heap (.fix (.ref 87)) a)(hw:Val C.no i s.heap (.str x) b)(hy:eW.lookup x=some y)(ij:subscripted slice false a b=operate [a,b] (getItem a b)):SV C own i loc s (.ok (.str y) hp) (subscriptTail value slice a b):=λ_=>by
 have ea:=hu.km;subst ea;refine aQ (hw.cN) λt aC=>?_;subst aC;refine aj (F.eW C.w rfl s.heap (ae.dI O)) λbI h1 h2=>?_;have g:=h2.get x;rw[qr,hy]at g;refine aj g λc g1 g2=>?_;exact tail_any (s:=s) h1.typeIs slot_dict_getitem.lookup (wpAny_getItem_of (strKind_is pw C.w (S x) t) h1.mapOf g1 (dO ae (ae.Ai O g2))) ij
end
theorem HN {n:Nat}(O:C.Ok n)(F:bT C.w.params)(ae:Rep C i loc hp s){u w v:V}{a b:Value}(hu:Val C.no i s.heap u a)(hw:Val C.no i s.heap w b)(e:bh hp u w=some v){value slice:Expr}(ij:∀o,subscripted slice false o b=operate [o,b] (getItem o b)) :
  SV C own i loc s (.ok v hp) (subscriptTail value slice a b):=by
 cases u with
 |tup vs =>
  refine aj (bE e) λk hk e=>?_;exact Xc ae hu (iS hk▸hw) e (ij _)
 |str l =>
  refine aj (bE e) λk hk e=>?_;refine aj (bE e) λj hj e=>?_;refine aj (Option.map_eq_some_iff.mp e) λc hc bH=>?_;subst bH;exact Xd ae hu (iS hk▸hw) hj hc (ij _)
 |ref m =>
  refine aj (bE e) λvs q e=>?_;refine aj (bE e) λk hk e=>?_;exact Xe ae hu (iS hk▸hw) (dD q) e (ij _)
 |fix f =>
  refine aj (bE e) λx hx e=>?_;cases h:isRef 87 f with
  |false=>rw[h]at e;exact bx e
  |true =>
   rw[h]at e;refine aj (Option.map_eq_some_iff.mp e) λy hy bH=>?_;subst bH;exact Xf O F ae (oC h▸hu) (fy hx▸hw) hy (ij _)
 |_=>exact bx e
theorem EU {n:Nat}(O:C.Ok n)(ae:Rep C i loc hp s){a:Nat}{ad:Addr}{es:List (Key×V)}{k:Key}{v:V}{t:Tok}(e1:i[a]?=some ad)(q:hp[a]?=some (.dict es))(e:ej es k=some v){value slice:Expr}
  (ij:subscripted slice false (.ref ad) (.str k.str t)=operate [.ref ad,.str k.str t] (getItem (.ref ad) (.str k.str t))) :
  SV C own i loc s (.ok v hp) (subscriptTail value slice (.ref ad) (.str k.str t)):=by
 intro _;refine dP (ae.dict e1 q) λbI h1 h2 h3=>?_;refine aj (h2.get e) λc g1 g2=>?_;exact tail_any (s:=s) h1.typeIs slot_dict_getitem.lookup (wpAny_getItem_of (strKind_is pw C.w k.str t) h1.mapOf g1 (dO ae g2)) ij
section
variable {u:V}{a b c:Value}{lo hi:Option Nat}{Q:Value->Shared->Prop}{E:Value->Shared->Prop}{h':Heap}{sl:Addr}{pl pu:Option (Int×Tok)}
theorem OS (l:List Nat)(ep:slicePicked (S l) pl pu none=sliceRange ((min (lo.getD 0) l.length:Nat):Int) ((min (hi.getD l.length) l.length:Nat):Int) 1)(hw:(slicePicked (S l) pl pu none).length=l.length):cut l lo hi=l:=by
 rw[ep,Nh,List.length_map,List.length_range]at hw
 have h2:(cut l lo hi).length=l.length:=by
  rw[k7,List.length_drop,List.length_take,Nat.min_eq_left (Nat.min_le_right _ _)];exact hw
 exact((List.drop_sublist _ _).trans (List.take_sublist _ _)).eq_of_length h2
theorem HO {l:List Nat}{t:Tok}(q:To C own i s (λ_=>loc) (Val C.no) (.ok (.str (cut l lo hi)) hp) Q E)(ak:Rep C i loc hp s)(Nj:pl.map (·.1)=fc lo)(Nk:pu.map (·.1)=fc hi)(hz:l.length≤sizeLine):(sliceMade (S l) t pl pu none).post Q s:=by
 have ep:slicePicked (S l) pl pu none=sliceRange ((min (lo.getD 0) l.length:Nat):Int) ((min (hi.getD l.length) l.length:Nat):Int) 1:=by
  unfold slicePicked;rw[Nj,Nk,dB];exact ES lo hi l.length
 have ec:(slicePicked (S l) pl pu none).filterMap (λk=>(S l).cps[k]?)=cut l lo hi:=by
  rw[k7,<- uG l _ _ (Nat.min_le_right _ _),<- ep];congr 1;funext k;exact List.getElem?_toArray
 unfold sliceMade;split
 ·rename_i hw;have e:=OS l ep ((beq_iff_eq.mp (bk hw).2).trans (dB l));exact q.fin ak (e.symm▸.str l t)
 ·rw[ec];exact⟨Nat.le_trans (Nat.le_of_eq (dB _)) (Nat.le_trans (SI ..) hz),q.toks ak (.str _ _) (Nat.le_add_right _ _)⟩
end
theorem Cb {n:Nat}(O:C.Ok n)(ae:Rep C i loc hp s){u x y:V}{a b c:Value}{lo hi:Option Nat}(hu:Val C.no i s.heap u a)(hx:Val C.no i s.heap x b)(hy:Val C.no i s.heap y c)(e1:hW x=some lo)(e2:hW y=some hi){value slice:Expr}
  (ij:∀o z,subscripted slice false o z=operate [z,o] (getItem o z)) {Q:Value->Shared->Prop} {E:Value->Shared->Prop} (q:To C [] i s (λ_=>loc) (Val C.no) (gX hp u lo hi) Q E) :
  wpAny C.M C.A (newFields "slice" [b,c,.none]) (λz ah=>wpAny C.M C.A (subscriptTail value slice a z) Q E ah) E s:=by
 obtain⟨p1,pl,YE,Nj⟩:=sU hx e1;obtain⟨p2,pu,YF,Nk⟩:=sU hy e2;unfold newFields;refine wpAny_newObj_type ?_ (by show _≤_;simp[sizeLine]);have kp:∀b' o,s.heap.get? b'=some o->(s.heap.push {cls:=.type "slice",data:=.fields #[b,c,.none]}).get? b'=some o:=λ_ _ e=>Heap.get?_push_of_some _ e;refine bp (ae.more (own:=[]) (t:=s.toks) (d:=s.drawn) kp) λak k₁=>?_;have hu:=k₁.vl ae hu;have q:=q.up k₁;have hs:=Heap.IsSliceOf.new s.heap b c .none;cases u with
 |str l =>
  refine aQ (hu.cN) λt aC=>?_;subst aC;refine bp (q.rI) λhz q=>?_;exact tail_any (s:=_) (typeIs_str _ (S l) t) PySem.F.slot_str_getitem.lookup (wpAny_getItem_str_slice (l:=pl) (u:=pu) (st:=none) ⟨_,Heap.get?_push_size _ rfl,rfl,by rw[YE,YF];rfl⟩ rfl (HO q ak Nj Nk (of_decide_eq_true hz))) (ij _ _)
 |tup l =>
  refine tC (hu.fz) λt its bH cS x' y'=>?_;subst bH;refine bp (q.rI) λhz q=>?_;refine bp (bk hz) λhz hw=>?_;have hl:l.length=its.size:=y'.length.trans Array.length_toList;have hlen:=(y'.cut lo hi).length;refine tail_any (s:=_) x'.is.typeIs slot_tuple_getitem.lookup (sW x'.is hs p1 p2 (by rw[<- hlen,<- hl];exact of_decide_eq_true hw) ?_ (by rw[<- hl];exact of_decide_eq_true hz)) (ij _ _);refine fi (uy (own:=[]) ak (y'.cut lo hi) (t:=s.toks) (d:=s.drawn)) λs' e aV k₂ w=>?_;exact e▸q.at aV k₂ w
 |ref m =>
  refine aj (hu.cP) λad aC e3=>?_;subst aC;refine aj (q.rB) λl hq q=>?_;refine bp (q.rI) λhz q=>?_;refine eG (ak.ref e3 (dD hq)) λits ni h1 h2=>?_;have hl:l.length=its.size:=h2.length.trans Array.length_toList;have HQ:(s.heap.push {cls:=.type "slice",data:=.fields #[b,c,.none]}).IsList ad its:=⟨_,h1,rfl,_,rfl⟩;refine tail_any (s:=_) (Heap.IsList.typeIs (s:={s with heap:=s.heap.push {cls:=.type "slice",data:=.fields #[b,c,.none]}}) HQ) slot_list_getitem.lookup (wpAny_getItem_list_slice HQ hs p1 p2 .none (by simp) ?_ (by rw[<- hl];exact of_decide_eq_true hz)) (ij _ _);rw[pW];refine fi (uz (own:=[]) ak (h2.cut lo hi) (t:=s.toks) (d:=s.drawn)) λs' e aV k₂ w=>?_;exact e▸q.at aV k₂ w
 |_=>exact q.jM
end
section
noncomputable def tR:Expr->Bool
 |.Slice ..=>true
 |_=>false
theorem wy (slice:Expr)(o b:Value):tR slice=true∨subscripted slice false o b=operate [o,b] (getItem o b):=by
 cases slice<;>first|exact .inr rfl|exact .inl rfl
theorem lB {slice:Expr}(h:tR slice=false)(o b:Value):subscripted slice false o b=operate [o,b] (getItem o b) :=
 (wy slice o b).resolve_left (by rw[h];exact nofun)
section
variable {n N:Nat}{d:cx}{c:Ca}(O:C.Ok n)(F:bT C.w.params)(D:cZ n d)
include O F D
theorem HR (ae:Rep C i loc hp s)(o sl:Expr)(pos:Pos)(hs:tR sl=false):SV C [] i loc s (aq (d.ex C.sc o) (d.ex C.sc sl) loc hp) (eval (.Subscript o sl pos) C.env) :=
 sn λq=>Subscript_ (cT (D.ex O F.base ae o) q λa u au aB ah ak k₁ aP q=>cT (D.ex O F.base ak sl) q λb v bJ ck aO aV k₂ cW q=>by
  refine aj (q.oB) λr hv q=>?_;exact(HN O F aV (k₂.vl ak aP) cW hv λo=>lB hs o b).to q)
theorem OT (ae:Rep C i loc hp s)(o:Expr)(x:Str)(k:Key)(q:Nat)(p pos:Pos)(hk:Key.of x=some k):SV C [] i loc s (bO (d.ex C.sc o) k loc hp) (eval (.Subscript o (.Constant (.str x) q p) pos) C.env):=by
 cases Key.nH hk
 refine sn λq=>Subscript_ (cT (D.ex O F.base ae o) q λa u au aB ah ak k₁ aP q=>wpAny_Constant_str ?_);refine bp (ak.toks (own:=[]) (ah.toks+1)) λaV k₂=>?_;have q:=q.up k₂;refine aj (q.rB) λtP q0 q=>?_;refine aj (q.rB) λes q1 q=>?_;refine aj (q.oB) λr hv q=>?_;refine aj ((gv q0▸aP:Val C.no aB ah.heap (.ref tP) a).cP) λad aC e3=>?_;subst aC;exact(EU O aV e3 (kl q1) hv (lB rfl _ _)).to q
theorem CQ (ae:Rep C i loc hp s)(e:Option Expr):SV C [] i loc s (zZ d C.sc e loc hp) (valueOrNone (evalOpt e C.env)):=by
 cases e with
 |none=>exact sn λq=>wpAny_pure (q.fin ae .none)
 |some e=>exact D.ex O F.base ae e
theorem KP (ae:Rep C i loc hp s)(o:Expr)(lo hi:Option Expr)(p pos:Pos) :
  SV C [] i loc s (cU (d.ex C.sc o) (zZ d C.sc lo) (zZ d C.sc hi) loc hp) (eval (.Subscript o (.Slice lo hi none p) pos) C.env):=by
 refine sn λ{Q E} q=>Subscript_ (cT (D.ex O F.base ae o) q λa u au aB ah ak k₁ aP q=>?_)
 show wpAny _ _ (do
  let l <- valueOrNone (evalOpt lo C.env)
  let u <- holding [l] (valueOrNone (evalOpt hi C.env))
  let s <- holding [l,u] (valueOrNone none)
  newFields "slice" [l,u,s]) _ _ _
 refine wpAny_bind (cT (CQ O F D ak lo) q λb x bJ ck aO aV k₂ cW q=>wpAny_bind (wpAny_holding (cT (CQ O F D aV hi) q λc y rq KQ eQ cg cK m7 q=>wpAny_bind (wpAny_holding (wpAny_pure ?_)))));refine aj (q.rB) λqt q1 q=>?_;refine aj (q.rB) λlC q2 q=>?_;exact Cb O cg (cK.vl aV (k₂.vl ak aP)) (cK.vl aV cW) m7 q1 q2 (value:=o) (slice:=.Slice lo hi none p) (λ_ _=>rfl) q
end
end
section
set_option backward.match.sparseCases true
theorem wz (k:Int):Str.ofString (toString k)=S (bS k):=Str.ofString_eq_toList _
theorem qu {k:Int}(h:dy k=true):k.natAbs.log2<1920:=by
 have hk:k.natAbs<2 ^ 62:=of_decide_eq_true h;by_cases h0:k.natAbs=0
 ·rw[h0];decide
 ·exact Nat.lt_trans ((Nat.log2_lt h0).mpr hk) (by decide)
theorem OU {es:List (Key×V)}{bI:List (Str×Value)}(x:gJ C.no i h es bI):bI.length=es.length:=by
 have:=congrArg List.length x.keys;rwa [List.length_map,List.length_map]at this
inductive KT (P:Expr->Prop):List (Option Expr)->List Key->List Expr->Prop
 |nil:KT P [] [] []
 |cons (k:Key) (q:Nat) (p:Pos) (v:Expr) (hv:P v) {r:List (Option Expr)} {ks:List Key} {vs:List Expr} (h:KT P r ks vs):KT P (some (.Constant (.str k.str) q p)::r) (k::ks) (v::vs)
theorem HS {o:Option Expr}{k:Key}(h:Hu o=some k):∃q p,o=some (.Constant (.str k.str) q p):=by
 refine aj (bE h) λe aC h1=>?_;subst aC;refine aj (bE h1) λx hx h2=>?_;refine jI (tN hx) λq p bH=>?_;subst bH;exact⟨q,p,by rw[Key.nH h2]⟩
theorem Aj {P:Expr->Prop}(l:List (Option Expr)):∀(ks:List Key) (vs:List Expr),oq l=some ks->ks.length=vs.length->(∀e∈vs,P e)->KT P l ks vs∧ks.Nodup:=by
 induction l with
 |nil =>
  intro ks vs e hl _;cases oi e
  rw[List.eq_nil_of_length_eq_zero hl.symm];exact⟨.nil,.nil⟩
 |cons o r ih =>
  intro ks vs e hl hP;refine aj (bE e) λk h1 e=>?_;refine aj (bE e) λYG h2 e=>?_;cases hc:YG.contains k with
  |true=>rw[hc]at e;exact bx e
  |false =>
  rw[hc]at e;cases oi e
  cases vs with
  |nil=>exact absurd hl (Nat.succ_ne_zero _)
  |cons v vs =>
  refine jI (HS h1) λq p bH=>?_;subst bH;have hi:=ih YG vs h2 (Nat.succ.inj hl) λe he=>hP e (.tail _ he);exact⟨.cons k q p v (hP v (.head _)) hi.1,List.nodup_cons.mpr ⟨λhm=>Bool.false_ne_true (hc.symm.trans (List.contains_iff_mem.mpr hm)),hi.2⟩⟩
theorem Ak {α:Type}{c:Prop}[Decidable c]{a b:α}(h:(if c then some a else none)=some b):c∧a=b:=by
 by_cases hc:c
 ·exact⟨hc,oi ((if_pos hc).symm.trans h)⟩
 ·exact bx ((if_neg hc).symm.trans h)
noncomputable def pairsOf (pos:Pos) (env:Env):List (Option Expr)->List Expr->List (Sem Value×Sem Value)
 |some k::ks,v::vs=>(eval k env,do let x <- eval v env;standAt pos;pure x)::pairsOf pos env ks vs
 |_,_=>[]
section
variable {n N:Nat}{d:cx}{c:Ca}(O:C.Ok n)(F:bT C.w.params)(D:cZ n d)
include O F D
theorem SJ (ae:Rep C i loc hp s)(e:Expr)(pos:Pos):SV C [] i loc s (c5 (d.ex C.sc e) loc hp) (eval (.FormattedValue e (-1) none pos) C.env) :=
 sn λq=>wpAny_FormattedValue_plain (cT (D.ex O F.base ae e) q λa v au aB ah ak k₁ aP q=>by
  refine aj (To.YA (g:=Eo) q) λl hf q=>?_;cases v with
  |str l =>
   refine aQ (aP.cN) λt aC=>?_;subst aC;refine bp (Ak hf) λhz aC=>?_;subst aC;exact wpAny_formatField_str (q.fin ak (.str l t)) (q.toks ak (.str l _) (Nat.le_add_right _ _)) (by rw[dB];exact hz)
  |int k =>
   refine aQ (aP.dn) λt aC=>?_;subst aC;refine bp (Ak hf) λhz aC=>?_;subst aC;refine wpAny_formatField_int (qu hz) ?_;rw[wz];exact q.toks ak (.str _ _) (Nat.le_add_right _ 2)
  |_=>exact bx hf)
omit O F D in
theorem xj (e:Sem Value)(r:List (Sem Value))(x:Str):joinParts x (e::r)=(do
   let some y <- asStr? (<- e)|unsupported "internal:joinedstr"
   if x.length+y.length>sizeLine then unsupported "str:memory"
   joinParts (x++y) r):=rfl
theorem Al (es:List Expr):∀(out:List Nat) {i loc hp s},Rep C i loc hp s->out.length≤sizeLine->SV C [] i loc s (mJ out (es.map (d.ex C.sc)) loc hp) (joinParts (S out) (evalEach es C.env)):=by
 induction es with
 |nil=>exact λout {i loc hp s} ae hz=>sn λq=>wpAny_mkStr' (x:=S out) (q.toks ae (.str out _) (Nat.le_add_right _ _)) (by rw[dB];exact hz)
 |cons e r ih =>
  exact λout {i loc hp s} ae hz=>sn λ{Q E} q=>xj (eval e C.env) (evalEach r C.env) (S out)▸wpAny_bind (cT (D.ex O F.base ae e) q λa v au aB ah ak k₁ aP q=>by
   refine aj (q.rB) λl hl q=>?_;refine bp (q.rI) λhf q=>?_;refine aQ ((fy hl▸aP:Val C.no aB ah.heap (.str l) a).cN) λt aC=>?_;subst aC;have hf:out.length+l.length≤sizeLine:=of_decide_eq_true hf;refine wpAny_bind (wpAny_of_eq (a:=some (S l)) rfl ?_);show wpAny _ _ (if(S out).length+(S l).length>sizeLine then _ else _) _ _ _
   rw[if_neg (by rw[dB,dB];exact Nat.not_lt.mpr hf),Ng];exact(ih (out++l) ak (by rw[List.length_append];exact hf)).to q)
theorem OV (ae:Rep C i loc hp s)(es:List Expr)(pos:Pos):SV C [] i loc s (eO (es.map (d.ex C.sc)) loc hp) (eval (.JoinedStr es pos) C.env):=by
 show SV C [] i loc s _ (joinedStr (evalEach es C.env));cases es with
 |nil=>exact Al O F D [] [] ae (Nat.zero_le _)
 |cons e r =>
  cases r with
  |nil =>
   refine sn λ{Q E} q=>?_;show wpAny _ _ (eval e C.env) _ _ _;refine cT (D.ex O F.base ae e) q λa v au aB ah ak k₁ aP q=>?_;refine aj (q.rB) λl hl q=>?_;refine bp (q.rI) λhf q=>?_;exact q.fin ak (fy hl▸aP:Val C.no aB ah.heap (.str l) a)
  |cons e' r=>exact Al O F D (e::e'::r) [] ae (Nat.zero_le _)
omit O F D in
theorem Cc (pos:Pos)(env:Env){P:Expr->Prop}{ks:List (Option Expr)}{kk:List Key}{vs:List Expr}(h:KT P ks kk vs) :
  (evalEachOpt ks env).zip ((evalEach vs env).map λv=>do let x <- v;standAt pos;pure x)=(pairsOf pos env ks vs).map (λp=>(some p.1,p.2))∧(pairsOf pos env ks vs).length=vs.length:=by
 induction h with
 |nil=>exact⟨rfl,rfl⟩
 |cons k q p v hv h ih=>exact⟨congrArg (_::·) ih.1,congrArg (·+1) ih.2⟩
end
section
variable {gx:Expr->Ex}{P:Expr->Prop}(Dg:∀{i loc hp s},Rep C i loc hp s->∀e,P e->SV C [] i loc s (gx e loc hp) (eval e C.env))
include Dg
abbrev KVr (no:List Addr)(w:World)(kk:List Key):fJ (List (Value×Value)) (List V):=λi h b a=>∃bI,Carries (SK w) a bI∧gJ no i h (kk.zip b) bI
omit Dg in
theorem xg (k v:Sem Value)(r:List (Sem Value×Sem Value)):evalPairs ((k,v)::r)=(do
   let kv <- k
   let vv <- holding [kv] v
   return (kv,vv)::(<- holding [kv,vv] (evalPairs r))):=rfl
theorem KR (pos:Pos){ks:List (Option Expr)}{kk:List Key}{vs:List Expr}(h:KT P ks kk vs):∀{i loc hp s},Rep C i loc hp s ->
   eE C [] i s (λ_=>loc) (KVr C.no C.w kk) (xs (vs.map (gx)) loc hp) (evalPairs (pairsOf pos C.env ks vs)):=by
 induction h with
 |nil=>exact λae=>sn λq=>wpAny_pure (q.fin ae ⟨[],trivial,.nil⟩)
 | @cons k q p v hv ks kk vs h ih =>
  intro i loc hp s ae;refine sn λ{Q E} q'=>xg _ _ _▸wpAny_bind (wpAny_Constant_str ?_);refine bp (ae.toks (own:=[]) (s.toks+1)) λak k₁=>?_;refine wpAny_bind (wpAny_holding (wpAny_bind (cT (Dg ak v hv) (q'.up k₁) λa u bJ ck aO aV k₂ cW q'=>wpAny_bind (wpAny_standAt (wpAny_pure (wpAny_bind (wpAny_holding (cT (ih aV) q' λps us rq KQ eQ cg cK m7 q'=>?_))))))));exact m7.elim λbI x=>wpAny_pure (q'.fin cg ⟨(k.str,a)::bI,⟨strKind_is pw C.w k.str _,rfl,x.1⟩,.cons (cK.vl aV cW) x.2⟩)
omit Dg in
theorem EV (bI:List (Str×Value)):∀acc:List (Str×Value),((acc++bI).map (·.1)).Nodup->merged acc bI=acc++bI:=by
 induction bI with
 |nil=>exact λacc _=>(List.append_nil _).symm
 |cons p r ih =>
  intro acc nd
  have hk:p.1∉acc.map (·.1):=λhm=>by
   rw[List.map_append,List.nodup_append]at nd;exact nd.2.2 p.1 hm p.1 (.head _) rfl
  have e:merged acc (p::r)=merged (stored acc p.1 p.2) r:=rfl;rw[e,Hh hk,ih (acc++[(p.1,p.2)]) (by rw[List.append_assoc];exact nd),List.append_assoc];rfl
omit Dg in
theorem KS (ks:List Key)(vs:List V)(h:ks.length=vs.length):(ks.zip vs).map (·.1)=ks:=List.map_fst_zip (Nat.le_of_eq h)
theorem CR (ae:Rep C i loc hp s)(ks:List (Option Expr))(kk:List Key)(vs:List Expr)(pos:Pos)(hk:oq ks=some kk)(hl:kk.length=vs.length)(h0:vs≠[])(SM:vs.length≤15)(hP:∀e∈vs,P e) :
  SV C [] i loc s (lH (kk.zip (vs.map (gx))) loc hp) (eval (.Dict ks vs pos) C.env):=by
 have xE:kk.length=(vs.map gx).length:=hl.trans (List.length_map ..).symm
 have ez:lH (kk.zip (vs.map (gx))) loc hp=az (xs (vs.map (gx)) loc hp) (M3 kk):=by
  unfold lH;rw[List.map_snd_zip (Nat.le_of_eq xE.symm),List.map_fst_zip (Nat.le_of_eq xE)]
 rw[ez];refine sn λ{Q E} q=>?_;refine bp (Aj ks kk vs hk hl hP) λht nd=>?_;refine bp (Cc pos C.env ht) λsh ln=>?_;refine wpAny_Dict_pairs (knd:=SK C.w) sh (λe=>h0 (List.eq_nil_of_length_eq_zero (ln.symm.trans (congrArg List.length e)))) (Nat.le_trans (Nat.le_of_eq ln) SM) ?_;have Am:=EJ s.heap;refine zO (ae.fresh Am) λf1 f2 f3 f4=>?_;refine bp (ae.push (own:=[]) {cls:=.type "dict",data:=.dict #[]}) λak k₁=>?_;have hd:(s.heap.push {cls:=.type "dict",data:=.dict #[]}).get? s.heap.objs.size=some {cls:=.type "dict",data:=.dict #[]}:=Heap.get?_push_size _ rfl;refine Kx (KR Dg pos ht ak) (q.up k₁) λps us bJ ck aO er aV k₂ cW _=>?_;have K:=k₁.trans k₂;refine aj cW λbI c1 c2=>?_;have Nl:=k₂.keep _ _ hd List.not_mem_nil f1;have SN:=k₂.off hd f1;refine⟨bI,c1,⟨_,#[],0,Nl,⟨rfl,rfl,rfl⟩,rfl,λe he=>absurd he (Array.not_mem_empty e),.nil,.nil⟩,λh' hD hS=>?_⟩;have hus:kk.length=us.length:=xE.trans (Ad _ _ _ _ _ er).symm;have YH:((kk.zip us).map (·.1)).Nodup:=(KS kk us hus).symm▸nd
 rw[EV bI [] (c2.nodup YH),List.nil_append]at hD;have Ra:=aV.join (o:=.dict []) SN f2 f3 f4 ⟨[],0,Nl,.nil,.nil⟩
 obtain⟨Rb,Kb⟩:=Ra.put (own:=[]) (n:=bJ.length) (o':=.dict (kk.zip us)) (t:=aO.toks+ps.length) (d:=aO.drawn) (aV.len▸List.getElem?_concat_length) hS (λtk=>by
  obtain⟨ds,nn,HM,Xg⟩:=xA hD (c2.keep (bB.snoc ck _) tk);exact⟨ds,nn,HM,Xg,YH⟩) (Nat.le_add_right _ _)
 rw[show(bJ++[O.dict []]).set bJ.length (O.dict (kk.zip us))=bJ++[O.dict (kk.zip us)]by simp]at Rb;refine q.q _ _ ⟨_,_,_,by rw[er];rfl,Rb,⟨λb o e h1 h2=>Kb.keep b o (K.keep b o e h1 h2) h1 λhm=>?_,λb o e=>(K.live b o e).elim λo' e'=>Kb.live b o' e',?_⟩,.ref _ _ (aV.len▸List.getElem?_concat_length)⟩
 ·exact(List.mem_append.mp hm).elim (K.off e h2) λq=>bx (Am.symm.trans (List.mem_singleton.mp q▸e))
 ·refine aj (K.grow) λt aC CS=>?_;subst aC;exact⟨t++[s.heap.objs.size],List.append_assoc ..,λa ha=>(List.mem_append.mp ha).elim (CS a) λq=>List.mem_singleton.mp q▸Am⟩
end
section
variable {n N:Nat}{d:cx}{c:Ca}(O:C.Ok n)(F:bT C.w.params)(D:cZ n d)
include O F D
theorem OW (ae:Rep C i loc hp s)(ks:List (Option Expr))(kk:List Key)(vs:List Expr)(pos:Pos)(hk:oq ks=some kk)(hl:kk.length=vs.length)(h0:vs≠[])(SM:vs.length≤15) :
  SV C [] i loc s (lH (kk.zip (vs.map (d.ex C.sc))) loc hp) (eval (.Dict ks vs pos) C.env):=CR (gx:=d.ex C.sc) (P:=λ_=>True) (λR e _=>D.ex O F.base R e) ae ks kk vs pos hk hl h0 SM λ_ _=>trivial
end
end
noncomputable def eI (c:Nat):List Nat->Nat->List Nat
 |[],_=>[]
 |x::r,k=>if x=c then k::eI c r (k+1)else eI c r (k+1)
theorem iC (c x:Nat)(r:List Nat)(k:Nat):eI c (x::r) k=if x=c then k::eI c r (k+1)else eI c r (k+1):=rfl
theorem wA (c:Nat)(l:List Nat)(n:Nat):∀a:Nat,a+n=l.length+1->(List.range' a n).filter (λk=>l[k]?==some c)=eI c (l.drop a) a:=by
 induction n with
 |zero=>exact λa h=>by rw[List.drop_of_length_le (show l.length≤a from Nat.le_trans (Nat.le_succ _) (Nat.le_of_eq h.symm))];rfl
 |succ n ih =>
  intro a h;have hs:a+1+n=l.length+1:=(Nat.succ_add_eq_add_succ a n).trans h;rw[List.range'_succ,List.filter_cons,ih (a+1) hs];by_cases ha:a<l.length
  ·rw[List.drop_eq_getElem_cons ha,List.getElem?_eq_getElem ha,iC];by_cases hc:l[a]=c
   ·rw[if_pos hc,if_pos (beq_iff_eq.mpr (congrArg some hc))]
   ·rw[if_neg hc,if_neg λq=>hc (oi (beq_iff_eq.mp q))]
  ·rw[List.drop_of_length_le (Nat.le_succ_of_le (Nat.le_of_not_lt ha)),List.drop_of_length_le (Nat.le_of_not_lt ha),List.getElem?_eq_none (Nat.le_of_not_lt ha)];rfl
theorem SO (l:List Nat)(c limit:Nat)(r:List Nat):∀(st:Array Nat×Nat),(∀k∈r,st.2≤k)->r.Pairwise (·<·) ->
  (forIn r st (StrLaws.occBody (S l) (S [c]) (S l).length limit)).run.fst.toList=st.1.toList++(r.filter (λk=>l[k]?==some c)).take (limit - st.1.size):=by
 induction r with
 |nil=>exact λst _ _=>by rw[List.filter_nil,List.take_nil,List.append_nil];rfl
 |cons k r ih =>
  intro st h1 h2;rw[List.forIn_cons];unfold StrLaws.occBody;have hp:=List.pairwise_cons.mp h2;have key:_↔l[k]?=some c:=StrLaws.subAt_one (S l) c k;by_cases hc:l[k]?=some c
  ·have q:=key.mpr hc;rw[List.filter_cons_of_pos (p:=λk=>l[k]?==some c) (beq_iff_eq.mpr hc)];by_cases hz:st.1.size<limit
   ·rw[if_pos ⟨⟨⟨hz,h1 k (.head _)⟩,q.1⟩,q.2⟩];refine(ih (st.1.push k,k+(S [c]).length) (λj hj=>by rw[dB];exact hp.1 j hj) hp.2).trans ?_;rw[show limit - st.1.size=(limit - (st.1.push k).size)+1 by rw[Array.size_push];exact(Nat.sub_add_cancel (Nat.sub_pos_of_lt hz)).symm,List.take_succ_cons,Array.toList_push,List.append_assoc];rfl
   ·rw[if_neg (λq=>hz q.1.1.1)];refine(ih (st.1,st.2) (λj hj=>h1 j (.tail _ hj)) hp.2).trans ?_;rw[Nat.sub_eq_zero_of_le (Nat.le_of_not_lt hz),List.take_zero,List.take_zero]
  ·rw[List.filter_cons_of_neg (p:=λk=>l[k]?==some c) (λq=>hc (beq_iff_eq.mp q)),if_neg (λq=>hc (key.mp ⟨q.1.2,q.2⟩))];exact ih (st.1,st.2) (λj hj=>h1 j (.tail _ hj)) hp.2
theorem An (l:List Nat)(c lo limit:Nat)(HT:lo≤l.length):Builtin.Str.occurrences (S l) (S [c]) lo (S l).length limit=(eI c (l.drop lo) lo).take limit:=by
 rw[StrLaws.occ_eq,SO l c limit _ (#[],lo) (λk hk=>(List.mem_range'_1.mp hk).1) (List.pairwise_lt_range' ..)];rw[dB,wA c l (l.length+1 - lo) lo (Nat.add_sub_cancel' (Nat.le_succ_of_le HT))];rfl
theorem OX (l:List Nat)(c lo limit:Nat)(HT:l.length<lo):Builtin.Str.occurrences (S l) (S [c]) lo (S l).length limit=[]:=by
 rw[StrLaws.occ_eq,dB,Nat.sub_eq_zero_of_le HT];rfl
theorem KU (c:Nat)(l:List Nat):∀a:Nat,findAt c l a=(eI c l a).head?:=by
 induction l with
 |nil=>exact λ_=>rfl
 |cons x r ih =>
  intro a;rw[iC];unfold findAt;by_cases h:x=c
  ·rw[if_pos h,if_pos h];rfl
  ·rw[if_neg h,if_neg h];exact ih (a+1)
theorem Cd (c:Nat)(l:List Nat):∀a:Nat,(eI c l a).length≤l.length:=by
 induction l with
 |nil=>exact λ_=>Nat.le_refl _
 |cons x r ih =>
  intro a;rw[iC];by_cases h:x=c
  ·rw[if_pos h];exact Nat.succ_le_succ (ih _)
  ·rw[if_neg h];exact Nat.le_succ_of_le (ih _)
noncomputable def yM (t:List Nat):List (List Nat)->List Nat
 |[]=>[]
 |x::r=>x++r.flatMap (t++·)
theorem EW (t:List Nat)(ps:List (List Nat)):∀acc:List Nat,(ps.map S).foldl (λacc p=>acc++(S t).cps++p.cps) acc.toArray=(acc++ps.flatMap (t++·)).toArray:=by
 induction ps with
 |nil=>exact λacc=>congrArg List.toArray (List.append_nil acc).symm
 |cons x r ih =>
  intro acc;rw[List.map_cons,List.foldl_cons,List.flatMap_cons,show acc.toArray++(S t).cps++(S x).cps=(acc++t++x).toArray by simp[S],ih,List.append_assoc,List.append_assoc,List.append_assoc]
theorem CT (t:List Nat)(ps:List (List Nat)):Builtin.Str.glued (S t) (ps.map S)=S (yM t ps):=by
 cases ps with
 |nil=>rfl
 |cons x r=>exact congrArg Str.mk (EW t r x)
noncomputable def mM (l:List Nat) (b:Nat) (Ao:List Nat):List (List Nat):=((b::Ao.map (·+1)).zip (Ao++[l.length])).map λp=>(l.take p.2).drop p.1
theorem HU (l:List Nat)(Ao:List Nat):Builtin.Str.partsBetween (S l) Ao 1=(mM l 0 Ao).map S:=by
 unfold Builtin.Str.partsBetween mM;rw[List.map_map,dB];apply List.map_congr_left;intro p _;show(⟨(S l).cps.extract p.1 p.2⟩:Str)=S _;simp[S,List.drop_take]
theorem EX (l:List Nat)(b a:Nat)(q:List Nat):mM l b (a::q)=(l.take a).drop b::mM l (a+1) q:=rfl
theorem EY (l:List Nat)(b:Nat)(q:List Nat):∃y r,mM l b q=y::r:=by cases q<;>exact⟨_,_,rfl⟩
theorem EZ (t x:List Nat)(l:List Nat)(b:Nat)(q:List Nat):yM t (x::mM l b q)=x++t++yM t (mM l b q):=by
 refine jI (EY l b q) λy r e=>?_;rw[e];show x++((t++y)++r.flatMap (t++·))=x++t++(y++r.flatMap (t++·));rw[List.append_assoc,List.append_assoc]
theorem HV (l:List Nat)(c:Nat)(t:List Nat)(d:List Nat):∀(a b:Nat),l.drop a=d->b≤a->yM t (mM l b (eI c d a))=(l.take a).drop b++ia c t d:=by
 induction d with
 |nil =>
  intro a b hd hb;have ha:l.length≤a:=List.drop_eq_nil_iff.mp hd;rw[List.take_of_length_le ha];show(l.take l.length).drop b++[]=_;rw[List.take_length];rfl
 |cons x r ih =>
  intro a b hd hb;have ha:a<l.length:=Nat.lt_of_not_le λq=>by rw[List.drop_of_length_le q]at hd;cases hd
  have e:=(List.drop_eq_getElem_cons ha).symm.trans hd;have hx:l[a]=x:=(List.cons.inj e).1;have hr:l.drop (a+1)=r:=(List.cons.inj e).2;rw[iC];unfold ia;by_cases hc:x=c
  ·rw[if_pos hc,if_pos hc,EX,EZ,ih (a+1) (a+1) hr (Nat.le_refl _),List.drop_of_length_le (List.length_take_le _ _),List.append_assoc];rfl
  ·rw[if_neg hc,if_neg hc,ih (a+1) b hr (Nat.le_succ_of_le hb),List.take_succ,List.drop_append_of_le_length (by rw[List.length_take,Nat.min_eq_left (Nat.le_of_lt ha)];exact hb),List.getElem?_eq_getElem ha,hx,List.append_assoc];rfl
theorem HW (l:List Nat)(c:Nat)(t:List Nat):Builtin.Str.glued (S t) (Builtin.Str.partsBetween (S l) (eI c l 0) (S [c]).length)=S (ia c t l):=by
 rw[dB];show Builtin.Str.glued (S t) (Builtin.Str.partsBetween (S l) (eI c l 0) 1)=_;rw[HU,CT,HV l c t l 0 0 rfl (Nat.le_refl _)];rfl
theorem HX (c:Nat)(t:List Nat)(l:List Nat):∀a:Nat,eI c l a=[]->ia c t l=l:=by
 induction l with
 |nil=>exact λ_ _=>rfl
 |cons x r ih =>
  intro a e;rw[iC]at e;unfold ia;by_cases h:x=c
  ·rw[if_pos h]at e;cases e
  ·rw[if_neg h]at e;rw[if_neg h,ih (a+1) e]
theorem E0 {vs:List V}{as:List Value}(y:Vals C.no i h vs as):∀{x:List Nat},um vs=some x->∃l:List (Str×Tok),as=strValues l∧∃ls:List (List Nat),l.map (·.1)=ls.map S∧ls.flatten=x :=
 y.ind (P:=λvs as=>∀{x:List Nat},um vs=some x->∃l:List (Str×Tok),as=strValues l∧∃ls:List (List Nat),l.map (·.1)=ls.map S∧ls.flatten=x)
  (λe=>oi e▸⟨[],rfl,[],rfl,rfl⟩) λ{v vs a as} y _ ih x e=>by
  refine aj (bE e) λl hl e=>?_;refine aj (bE e) λx' e' e=>?_;obtain rfl:=oi e;refine aQ ((fy hl▸y:Val C.no i h (.str l) a).cN) λt aC=>?_;subst aC;obtain⟨q,h1,ls,h2,h3⟩:=ih e';exact⟨(S l,t)::q,by rw[h1];rfl,l::ls,congrArg (List.cons (S l)) h2,congrArg (l++·) h3⟩
theorem HY (ls:List (List Nat)):Builtin.Str.glued (S []) (ls.map S)=S ls.flatten:=by
 rw[CT];cases ls with
 |nil=>rfl
 |cons x r=>exact congrArg (λy=>S (x++y)) List.flatMap_id
section
theorem KV {v:V}{x:Bool}(h:vBool v=some x):v=.bool x:=by cases v<;>first|exact congrArg _ (oi h)|exact bx h
theorem Ce {vs:List V}:∀{as:List Value} {l:List Bool},Vals C.no i h vs as->qg vs=some l->as=l.map Value.bool:=by
 induction vs with
 |nil=>intro as l x e;rw[x.wm,<- oi e];rfl
 |cons v vs ih =>
  intro as l x e;obtain⟨a,bs,rfl,x,y⟩:=x.inv;obtain⟨b,e1,e⟩:=bE e;obtain⟨r,e2,e⟩:=bE e;rw[<- oi e,ih y e2,(KV e1▸x:Val C.no i h (.bool b) a).tJ];rfl
theorem E1 {vs:List V}:∀{as:List Value} {l:List Int},Vals C.no i h vs as->Ew vs=some l->as.length=l.length∧∀(j:Nat) v,as[j]?=some v->∃t,v=.int (l.getD j 0) t:=by
 induction vs with
 |nil=>intro as l x e;rw[x.wm,<- oi e];exact⟨rfl,λj v e=>bx e⟩
 |cons v vs ih =>
  intro as l x e;obtain⟨a,bs,rfl,x,y⟩:=x.inv;obtain⟨k,e1,e⟩:=bE e;obtain⟨r,e2,e⟩:=bE e;cases oi e
  obtain⟨t,rfl⟩:=(iS e1▸x:Val C.no i h (.int k) a).dn;refine⟨congrArg (·+1) (ih y e2).1,λj v e=>?_⟩
  cases j with
  |zero=>exact⟨t,(oi e).symm⟩
  |succ j=>exact(ih y e2).2 j v e
theorem Xh {n:Nat}(h:n≤sizeLine):n<2 ^ 62:=by
 have e:sizeLine=2 ^ 24:=rfl;rw[e]at h;(apply dh<;>trivial)
abbrev dR (C:Cx)(g:Fn)(f:Value):Prop:=∀{i loc hp s} {vs:List V} {as:List Value},Rep C i loc hp s->Vals C.no i s.heap vs as->SV C [] i loc s (g vs hp) (call f as)
section
variable {n:Nat}(O:C.Ok n)(F:bT C.w.params)
include O F
theorem SP:dR C uo (.builtin "len"):=λ{i loc hp s vs as} ae hv=>cG λv e1=>cG λm e2=>iB λh _=>by
 refine aj ((fg e1▸hv:Vals C.no i s.heap [v] as).inv1) λa aC x=>?_;subst aC;have hz:=Xh (of_decide_eq_true h);cases v with
 |tup ws =>
  obtain⟨t,its,rfl,_,⟨q,hq⟩,z⟩:=x.fz;have e:its.size=m:=by rw[<- Array.length_toList,<- z.length];exact oi e2
  exact P.len_tuple hq (by omega) (by rw[e];exact dO ae (.int _ _))
 |str l =>
  refine aQ (x.cN) λt aC=>?_;subst aC;have e:(S l).length=m:=(dB l).trans (oi e2);exact P.len_str (by omega) (by rw[e];exact dO ae (.int _ _))
 |ref k =>
  refine aj (bE e2) λl q e2=>?_;refine aj (x.cP) λt aC e=>?_;subst aC;refine eG (ae.ref e (dD q)) λits ni h1 h2=>?_;have e:its.size=m:=by rw[<- Array.length_toList,<- h2.length];exact oi e2
  exact len_list ⟨_,h1,rfl,_,rfl⟩ (by omega) (by rw[e];exact dO ae (.int _ _))
 |_=>exact bx e2
omit O F in
theorem KW {v:V}{T:String}(h:M8 v=some T):v=.fix (.type T):=by
 refine aj (bE h) λw h1 h2=>?_;rw[CG h1];cases w<;>first|exact congrArg (λT=>V.fix (.type T)) (oi h2)|exact bx h2
theorem SQ:dR C Ey (.builtin "isinstance"):=λ{i loc hp s vs as} ae hv=>cG λp e1=>cG λT e2=>iB λhT hb=>by
 refine cb ((mj e1▸hv:Vals C.no i s.heap [p.1,p.2] as).inv2) λa b bH x y=>?_;subst bH;have eb:=(KW e2▸y:Val C.no i s.heap (.fix (.type T)) b).km;subst eb;have p0:∀b,PN C [] i s (λ_=>loc) (Val C.no) (.ok (.bool b) hp) (.bool b) s:=λb=>dT ae (aJ.refl ..) (.bool b);have p1:∀b,PN C [] i s (λ_=>loc) (Val C.no) (.ok (.bool b) hp) (.bool b) {s with toks:=s.toks+1}:=λb=>dO ae (.bool b);have HZ:((T="int"∨T="bool")∨T="str")∨T="tuple":=(Bool.or_eq_true_iff.mp hT).imp (λh=>(Bool.or_eq_true_iff.mp h).imp (λh=>(Bool.or_eq_true_iff.mp h).imp beq_iff_eq.mp beq_iff_eq.mp) beq_iff_eq.mp) beq_iff_eq.mp;obtain⟨v,w⟩:=p;cases v with
 |bool c =>
  have ea:=x.tJ;subst ea;rcases HZ with((rfl|rfl)|rfl)|rfl
  ·exact IsiPair.bool_int (p0 _)
  ·exact IsiPair.bool_bool (p0 _)
  ·exact IsiPair.bool_str (p1 _)
  ·exact IsiPair.bool_tuple (p1 _)
 |int c =>
  refine aQ (x.dn) λt aC=>?_;subst aC;rcases HZ with((rfl|rfl)|rfl)|rfl
  ·exact IsiPair.int_int (p0 _)
  ·exact IsiPair.int_bool (p1 _)
  ·exact IsiPair.int_str (p1 _)
  ·exact IsiPair.int_tuple (p1 _)
 |str c =>
  refine aQ (x.cN) λt aC=>?_;subst aC;rcases HZ with((rfl|rfl)|rfl)|rfl
  ·exact IsiPair.str_int (p1 _)
  ·exact IsiPair.str_bool (p1 _)
  ·exact IsiPair.str_str (p0 _)
  ·exact IsiPair.str_tuple (p1 _)
 |tup c =>
  obtain⟨t,its,rfl,_,⟨q,hq⟩,_⟩:=x.fz;rcases HZ with((rfl|rfl)|rfl)|rfl
  ·exact IsiPair.tuple_int hq rfl (p1 _)
  ·exact IsiPair.tuple_bool hq rfl (p1 _)
  ·exact IsiPair.tuple_str hq rfl (p1 _)
  ·exact IsiPair.tuple_tuple hq rfl (p0 _)
 |_=>exact absurd rfl hb
theorem H0:dR C tG (.builtin "list.append"):=λ{i loc hp s vs as} ae hv=>cG λp e1=>cG λk e2=>cG λl q=>iB λhz _=>by
 refine cb ((mj e1▸hv:Vals C.no i s.heap [p.1,p.2] as).inv2) λa b bH x x'=>?_;subst bH;refine aj ((gv e2▸x:Val C.no i s.heap (.ref k) a).cP) λa aC e=>?_;subst aC;refine eG (ae.ref e (dD q)) λits ni h1 h2=>?_;have hz:=of_decide_eq_true hz;have el:its.size=l.length:=by rw[<- Array.length_toList,<- h2.length]
 refine append_at h1 (λh' hs hd=>?_) (by omega);obtain⟨R,kk⟩:=ae.put (own:=[]) (o':=.list (l++[p.2])) (t:=s.toks) (d:=s.drawn) e hs λtk=>⟨_,_,hd,by rw[Array.toList_push];exact(h2.keep (bB.refl i) tk).append (.cons (x'.keep (bB.refl i) tk) .nil)⟩;exact dT R kk .none
theorem SR:dR C yE (.builtin "list.pop"):=λ{i loc hp s vs as} ae hv=>cG λv0 e1=>cG λk e2=>cG λl q=>cG λv hl=>iB λhz _=>by
 refine aj ((fg e1▸hv:Vals C.no i s.heap [v0] as).inv1) λa aC x=>?_;subst aC;refine aj ((gv e2▸x:Val C.no i s.heap (.ref k) a).cP) λa aC e=>?_;subst aC;refine eG (ae.ref e (dD q)) λits ni h1 h2=>?_;have hz:=of_decide_eq_true hz;have el:its.size=l.length:=by rw[<- Array.length_toList,<- h2.length]
 rw[List.getLast?_eq_getElem?]at hl;refine aj (h2.get hl) λy g1 g2=>?_;refine call_meets PySem.F.slot_list_pop ⟨_,h1,rfl⟩ PySem.F.entry_list_pop (PySem.F.args_list_pop_1 _) (MeetsSeq.list_pop_last a its ni y (by rw[el];simpa using g1) (by omega)) ⟨h1,?_⟩;have hd:=IsL.update (items:=its) (n:=ni) h1 (λxs=>xs.eraseIdxIfInBounds (its.size - 1))
 obtain⟨R,kk⟩:=ae.put (own:=[]) (o':=.list l.dropLast) (t:=s.toks) (d:=s.drawn) e (Heap.SameBut.update s.heap a _) λtk=>⟨_,_,hd,by
  rw[Array.toList_eraseIdxIfInBounds,<- Array.length_toList,List.eraseIdx_length_sub_one];exact(h2.dropLast).keep (bB.refl i) tk⟩
 exact dT R kk (g2.keep (bB.refl i) (kk.tup ae (by simp)))
end
end
section
section
variable {n:Nat}(O:C.Ok n)(F:bT C.w.params)
include O F
omit O F in
theorem ru {no:List Addr}{i:Pl}{h:Heap}{l:List V}{its:Array Value}(x:Vals no i h l its.toList):its.size=l.length:=by rw[<- Array.length_toList,<- x.length]
theorem H3:dR C tH (.builtin "list.extend"):=λ{i loc hp s vs as} ae hv=>cG λp e1=>cG λk e2=>cG λl q=>cG λws e3=>iB λhz _=>by
 refine cb ((mj e1▸hv:Vals C.no i s.heap [p.1,p.2] as).inv2) λa b bH x x'=>?_;subst bH;refine aj ((gv e2▸x:Val C.no i s.heap (.ref k) a).cP) λa aC e=>?_;subst aC;obtain⟨t,jb,rfl,_,⟨n2,h3⟩,z'⟩:=(rn e3▸x':Val C.no i s.heap (.tup ws) b).fz;refine eG (ae.ref e (dD q)) λits ni h1 h2=>?_;have hz:l.length+ws.length≤sizeLine:=of_decide_eq_true hz;have el:=ru h2;have SU:=ru z';refine call_meets PySem.F.slot_list_extend ⟨_,h1,rfl⟩ PySem.F.entry_list_extend (PySem.F.args_list_extend_2 _ _) (AutoSeq1.list_extend_list_tuple_0 a its ni t jb n2 (extend_door (by apply MX<;>trivial)) (by apply RM<;>trivial) (by apply RL<;>trivial)) ⟨h1,h3,?_⟩
 obtain⟨R,kk⟩:=ae.put (own:=[]) (o':=.list (l++ws)) (t:=s.toks) (d:=s.drawn) e (Heap.SameBut.update s.heap a _) λtk=>⟨_,_,IsL.update (items:=its) (n:=ni) h1 (λxs=>xs++jb),by
  rw[Array.toList_append];exact(h2.append z').keep (bB.refl i) tk⟩
 exact dT R kk .none
omit O F in
theorem Rx (l:List Nat)(c:Nat){k:Int}(hk:0≤k):Txt.find3 (S l) (S [c]) k=uq c l k:=by
 unfold Txt.find3
 have ef:fromIndex (S l).length k=k.toNat:=by
  unfold fromIndex;rw[if_neg (Int.not_lt.mpr hk)];exact congrArg Int.toNat (Int.max_eq_right hk)
 unfold uq;rw[ef,KU];by_cases hl:k.toNat≤l.length
 ·rw[An l c _ 1 hl];cases eI c (l.drop k.toNat) k.toNat<;>simp
 ·rw[OX l c _ 1 (by apply Nat.lt_of_not_le<;>trivial),List.drop_of_length_le (by apply Nat.le_of_not_le<;>trivial)];rfl
theorem OY:dR C zT (.builtin "str.find"):=λ{i loc hp s vs as} ae hv=>cG λp e1=>cG λl e2=>cG λc e3=>cG λk e4=>iB λhk _=>by
 refine fj ((Hz e1▸hv:Vals C.no i s.heap [p.1,p.2.1,p.2.2] as).Sh) λa b d eP x y z=>?_;subst eP;refine aQ ((fy e2▸x:Val C.no i s.heap (.str l) a).cN) λt1 aC=>?_;subst aC;refine aQ ((CH e3▸y:Val C.no i s.heap (.str [c]) b).cN) λt2 aC=>?_;subst aC;refine aQ ((iS e4▸z:Val C.no i s.heap (.int k) d).dn) λt3 aC=>?_;subst aC;exact SC.find3 (by rw[Rx l c (of_decide_eq_true hk)];exact dO ae (.int _ _))
omit O F in
theorem KY (ls:List (List Nat)):∀acc:Nat,(ls.map S).foldl (·+·.length+(S []).length) acc=acc+ls.flatten.length:=by
 induction ls with
 |nil=>intro acc;rfl
 |cons y r ih =>
  intro acc;rw[List.map_cons,List.foldl_cons,ih,dB,dB,List.flatten_cons,List.length_append];exact Nat.add_assoc acc y.length r.flatten.length
theorem OZ:dR C zU (.builtin "str.join"):=λ{i loc hp s vs as} ae hv=>cG λp e1=>cG λs0 e2=>iB λe3=>cG λl e4=>cG λx hx=>iB λhz _=>by
 refine cb ((mj e1▸hv:Vals C.no i s.heap [p.1,p.2] as).inv2) λa b bH z z'=>?_;subst bH;have e2:p.1=.str []:=by rw[fy e2,fW e3]
 refine aQ ((e2▸z:Val C.no i s.heap (.str []) a).cN) λt aC=>?_;subst aC;refine aj (nC e4) λk e5 q=>?_;refine aj ((e5▸z':Val C.no i s.heap (.ref k) b).cP) λa aC e=>?_;subst aC;have hz:x.length≤sizeLine:=of_decide_eq_true hz;refine eG (ae.ref e q) λits ni h1 h2=>?_;obtain⟨ps,e1,ls,e2,e3⟩:=E0 h2 hx;have E2:s.heap.IsList a (strValues ps).toArray:=⟨_,h1,rfl,ni,by simp[<- e1]⟩;have hg:Builtin.Str.glued (S []) (ps.map (·.1))=S x:=by rw[e2,HY,e3]
 have SW:Builtin.Str.tooLong ((ps.map (·.1)).toArray.foldl (·+·.length+(S []).length) 0)=false:=by
  rw[show(ps.map (·.1)).toArray.foldl (·+·.length+(S []).length) 0=(ps.map (·.1)).foldl (·+·.length+(S []).length) 0 by simp,e2,KY,e3]
  unfold Builtin.Str.tooLong;exact decide_eq_false (by omega)
 refine call_meets PySem.F.slot_str_join (typeIs_str _ _ _) PySem.F.entry_str_join (PySem.F.args_str_join_2 _ _) (meets_str_join_list (S []) t a ps SW) ⟨E2,?_⟩;have fin:∀t' tk,s.toks≤tk->PN C [] i s (λ_=>loc) (Val C.no) (.ok (.str x) hp) (.str (S x) t') {s with toks:=tk}:=λt' tk SX=>dO ae (.str x t') SX;cases ps with
 |nil=>exact⟨by rw[hg,dB];exact hz,by rw[hg];exact fin _ _ (Nat.le_add_right _ _)⟩
 |cons p r =>
  cases r with
  |nil =>
   have:p.1=S x:=by
    rw[<- hg];show p.1=Builtin.Str.glued (S []) [p.1];unfold Builtin.Str.glued;rfl
   show PN C [] i s (λ_=>loc) (Val C.no) (.ok (.str x) hp) (.str p.1 p.2) s;rw[this];exact dT ae (aJ.refl ..) (.str x _)
  |cons p' r=>exact⟨by rw[hg,dB];exact hz,by rw[hg];exact fin _ _ (Nat.le_add_right _ _)⟩
theorem SY:dR C EC (.builtin "dict.get"):=λ{i loc hp s vs as} ae hv=>cG λp e1=>cG λw e2=>iB λe3=>cG λx e4 _=>by
 refine fj ((Hz e1▸hv:Vals C.no i s.heap [p.1,p.2.1,p.2.2] as).Sh) λa b d eP z z' z2=>?_;subst eP;have ea:=(CG e2▸z:Val C.no i s.heap (.fix w) a).km;rw[oC e3]at ea;subst ea;refine aQ ((fy e4▸z':Val C.no i s.heap (.str x) b).cN) λt aC=>?_;subst aC;refine aj (F.pairs C.w rfl s.heap (ae.dI O)) λbI h1 h2=>?_;have g:=h2.get x;refine call_meetsIn PySem.F.slot_dict_get h1.typeIs PySem.F.entry_dict_get (PySem.F.args_dict_get_3 _ _ _) (meets_dict_get_default (strKind pw C.w) 89 (strKind_is pw C.w (S x) t) (by decide) _) ⟨_,h1.mapOf,?_⟩;cases hl:pairs.lookup x with
 |none =>
  rw[hl]at g;rw[show valueAt bI (S x)=none from g];exact dO ae z2
 |some v =>
  rw[hl]at g;refine aj g λa g1 g2=>?_;rw[g1];exact dO ae (ae.Ai O g2)
theorem KZ:dR C wk (.type "tuple"):=λ{i loc hp s vs as} ae hv=>cG λv e1=>cG λl e2=>iB λhz _=>by
 refine aj ((fg e1▸hv:Vals C.no i s.heap [v] as).inv1) λa aC x=>?_;subst aC;refine aj (nC e2) λk e3 q=>?_;refine aj ((e3▸x:Val C.no i s.heap (.ref k) a).cP) λa aC e=>?_;subst aC;refine eG (ae.ref e q) λits ni h1 h2=>?_;refine call_tuple_list (l:=a) (items:=its) ⟨_,h1,rfl,_,rfl⟩ (λh' hk=>?_) (by rw[ru h2];exact of_decide_eq_true hz);refine bp (ae.more (own:=[]) (t:=s.toks) (d:=s.drawn) hk) λak k₁=>?_;refine fi (uy (own:=[]) ak (h2.keep (bB.refl i) (bq.of hk)) (t:=s.toks) (d:=s.drawn)) λs' e' R k w=>?_;have:=Yy (lc:=λ_=>loc) (T:=(Val C.no)) R k₁ k w;rw[e']at this
 simpa using this
theorem CU:dR C zV (.type "list"):=λ{i loc hp s vs as} ae hv=>cG λv e1=>cG λl e2=>iB λhz _=>by
 refine aj ((fg e1▸hv:Vals C.no i s.heap [v] as).inv1) λa aC x=>?_;subst aC;refine aj (nC e2) λk e3 q=>?_;refine aj ((e3▸x:Val C.no i s.heap (.ref k) a).cP) λa aC e=>?_;subst aC;refine eG (ae.ref e q) λits ni h1 h2=>?_;refine call_list_seq a (T:="list") (items:=its) (n:=ni) (.inl rfl) h1 rfl rfl (λh' c' hk hd=>?_) (by rw[ru h2];exact of_decide_eq_true hz)
 have hn:s.heap.get? s.heap.objs.size=none:=by
  cases q:s.heap.get? s.heap.objs.size with
  |none=>rfl
  |some o=>exact absurd (Heap.lt_size q) (Nat.lt_irrefl _)
 refine bp (ae.alloc (own:=[]) (t:=s.toks) (d:=s.drawn) (a:=s.heap.objs.size) (o:=.list l) hk hn λtk=>⟨its,c',hd,h2.keep (bB.snoc i _) tk⟩) λR k=>?_;exact dT R k (.ref _ _ (by rw[<- ae.len];simp))
theorem S3:dR C ED (.type "str"):=λ{i loc hp s vs as} ae hv=>cG λv e1 hb=>by
 refine aj ((fg e1▸hv:Vals C.no i s.heap [v] as).inv1) λa aC x=>?_;subst aC;cases v with
 |str l =>
  refine aQ (x.cN) λt aC=>?_;subst aC;by_cases hz:l.length≤sizeLine
  ·have e:lu (.str l)=some l:=if_pos hz;rw[e];exact P.str_of_str (dT ae (aJ.refl ..) (.str l t))
  ·exact absurd (by rw[show lu (.str l)=none from if_neg hz];rfl) hb
 |int k =>
  refine aQ (x.dn) λt aC=>?_;subst aC;by_cases hz:dy k=true
  ·have e:lu (.int k)=some (bS k):=if_pos hz;rw[e];refine P.str_of_int (qu hz) ?_;rw[wz];exact dO ae (.str _ _)
  ·exact absurd (by rw[show lu (.int k)=none from if_neg hz];rfl) hb
 |_=>exact absurd rfl hb
theorem S4:dR C EE (.type "int"):=λ{i loc hp s vs as} ae hv=>cG λv e1=>cG λl e2=>iB λhz hb=>by
 refine aj ((fg e1▸hv:Vals C.no i s.heap [v] as).inv1) λa aC x=>?_;subst aC;refine aQ ((fy e2▸x:Val C.no i s.heap (.str l) a).cN) λt aC=>?_;subst aC;cases hk:PySem.intText? (S l)with
 |none=>rw[hk]at hb;exact absurd rfl hb
 |some k=>exact PySem.W.KIN.call_text hk (by rw[dB];exact of_decide_eq_true hz) (dO ae (.int k _))
end
end
section
theorem Ap (ae:Rep C i loc hp s){o:Obj}{h':Heap}{tk:Nat}(hk:∀b ob,b∉[s.heap.objs.size]->(s.heap.push o).get? b=some ob->h'.get? b=some ob)(ht:s.toks≤tk) :
  Rep C i loc hp {s with heap:=h',toks:=tk}∧aJ own i s i {s with heap:=h',toks:=tk} :=
 ae.more (d:=s.drawn) (λb ob e=>hk b ob (λq=>Nat.ne_of_lt (Heap.lt_size e) (List.mem_singleton.mp q)) (Heap.get?_push_of_some _ e)) ht
theorem J1 (bs:List Bool):(List.range bs.length).all (λj=>bs.getD j false)=bs.all id:=by
 induction bs with
 |nil=>rfl
 |cons b r ih =>
  rw[List.length_cons,List.range_succ_eq_map,List.all_cons,List.all_map,List.all_cons,<- ih];rfl
theorem S5 {a n:Nat}(h:a<n){b:Addr}(hb:b∈[n,a]):b<n+1:=(List.mem_cons.mp hb).elim (λe=>e▸Nat.lt_succ_self _) λe=>List.mem_singleton.mp e▸Nat.lt_succ_of_lt h
theorem look {P:String->Fn->Prop}{b k:String}{f g:Fn}{l:List (String×Fn)}(h:List.lookup b ((k,f)::l)=some g)(h1:P k f)(h2:List.lookup b l=some g->P b g):P b g:=by
 rw[List.lookup_cons]at h;cases hb:b==k with
 |true=>rw[hb]at h;rw[beq_iff_eq.mp hb];exact oi h▸h1
 |false=>rw[hb]at h;exact h2 h
section
variable {n:Nat}(O:C.Ok n)(F:bT C.w.params)
include O F
theorem S6:dR C Ez (.builtin "all"):=λ{i loc hp s vs as} ae hv=>cG λv e1=>cG λl e2=>sn λ{Q E} q=>by
 refine aj ((fg e1▸hv:Vals C.no i s.heap [v] as).inv1) λa aC x=>?_;subst aC;refine aj (nC e2) λk e3 hq=>?_;refine aj ((e3▸x:Val C.no i s.heap (.ref k) a).cP) λa aC e=>?_;subst aC;refine eG (ae.ref e hq) λits ni h1 h2=>?_;refine aj (q.oB) λy hy q=>?_;refine aj (Option.map_eq_some_iff.mp hy) λb H4 bH=>?_;subst bH;refine aj (Option.map_eq_some_iff.mp H4) λbs hbs bH=>?_;subst bH;have S7:its.toList=bs.map Value.bool:=Ce h2 hbs;have hl:s.heap.IsList a its:=⟨_,h1,rfl,_,rfl⟩;have iD:a<s.heap.objs.size:=Heap.lt_size h1;have CV:its.size=bs.length:=Array.length_toList.symm.trans ((congrArg List.length S7).trans (List.length_map ..));refine wpAny_with_toks (Nat.le_refl s.toks) (call_all_walk (wpAny_pyIter_list hl ?_));refine⟨s.heap.objs.size,[s.heap.objs.size,a],[s.heap.objs.size],its.size,_,_,λj=>bs.getD j false,rfl,Walks.list (A:=C.A.in1) O.handled _ a (Nat.ne_of_lt iD) its,⟨⟨_,Heap.get?_push_size _ rfl,rfl,rfl⟩,_,Heap.get?_push_of_some _ h1,rfl,_,rfl⟩,?_,λh' tk hk ht=>?_⟩
 ·intro j v ah Q E hj hQ;rw[<- Array.getElem?_toList,S7,List.getElem?_map]at hj;refine aj (Option.map_eq_some_iff.mp hj) λb jh bH=>?_;subst bH;have hQ:Q (bs.getD j false) ah:=hQ;rw[List.getD_eq_getElem?_getD,jh]at hQ;exact wpAny_truthy_bool hQ
 ·rw[CV,J1 bs];refine bp (Ap (own:=[]) ae hk ht) λR kk=>?_;exact q.at R kk (.bool _)
theorem S8:dR C EA (.builtin "min"):=λ{i loc hp s vs as} ae hv=>cG λv e1=>cG λl e2=>sn λ{Q E} q=>by
 refine aj ((fg e1▸hv:Vals C.no i s.heap [v] as).inv1) λa aC x=>?_;subst aC;refine tC ((rn e2▸x:Val C.no i s.heap (.tup l) a).fz) λt its bH _ z z'=>?_;subst bH;refine aj (q.oB) λy hy q=>?_;refine aj (Option.map_eq_some_iff.mp hy) λw H4 bH=>?_;subst bH;refine aj (bE H4) λns hi hw=>?_;refine bp (E1 z' hi) λln S9=>?_;have CV:its.size=ns.length:=Array.length_toList.symm.trans ln;refine aQ (id z) λm hq=>?_;have iD:t<s.heap.objs.size:=Heap.lt_size hq;have aam:0<its.size:=CV▸Nat.lt_of_le_of_lt (Nat.zero_le _) (List.getElem?_eq_some_iff.mp hw).1;refine wpAny_with_toks (Nat.le_refl s.toks) (call_min_walk (wpAny_pyIter_tuple z.is ?_))
 refine⟨s.heap.objs.size,[s.heap.objs.size,t],[s.heap.objs.size],its.size,_,_,λi j=>decide (ns.getD i 0<ns.getD j 0),rfl,Walks.tuple (A:=C.A.in1) O.handled _ t (Nat.ne_of_lt iD) its,⟨⟨_,Heap.get?_push_size _ rfl,rfl,rfl⟩,_,Heap.get?_push_of_some _ hq,rfl,_,rfl⟩,λb hb=>?_,aam,
  CmpOf.ints_lt (λj=>ns.getD j 0) (λj v hj=>S9 j v (by rw[Array.getElem?_toList];exact hj)),λv h' tk hP hk ht=>?_⟩
 ·show b<(s.heap.push _).objs.size;rw[Heap.size_push];exact S5 iD hb
 ·rw[CV]at hP;obtain⟨tt,rfl⟩:=S9 _ v (by rw[Array.getElem?_toList];exact hP);rw[List.getD_eq_getElem?_getD,hw];refine bp (Ap (own:=[]) ae hk ht) λR kk=>?_;exact q.at R kk (.int _ _)
theorem K0 {b:String}{g:Fn}(e:builtins.lookup b=some g):dR C g (.builtin b) :=
 look (P:=λb g=>dR C g (.builtin b)) e (SP O F) λe=>look (P:=λb g=>dR C g (.builtin b)) e (SQ O F) λe=>look (P:=λb g=>dR C g (.builtin b)) e (S6 O F) λe=>look (P:=λb g=>dR C g (.builtin b)) e (S8 O F) λe =>
 look (P:=λb g=>dR C g (.builtin b)) e (H0 O F) λe=>look (P:=λb g=>dR C g (.builtin b)) e (SR O F) λe=>look (P:=λb g=>dR C g (.builtin b)) e (H3 O F) λe=>look (P:=λb g=>dR C g (.builtin b)) e (OY O F) λe =>
 look (P:=λb g=>dR C g (.builtin b)) e (OZ O F) λe=>look (P:=λb g=>dR C g (.builtin b)) e (SY O F) λe=>bx e
theorem K1 {b:String}{g:Fn}(e:types.lookup b=some g):dR C g (.type b) :=
 look (P:=λb g=>dR C g (.type b)) e (S3 O F) λe=>look (P:=λb g=>dR C g (.type b)) e (S4 O F) λe=>look (P:=λb g=>dR C g (.type b)) e (KZ O F) λe=>look (P:=λb g=>dR C g (.type b)) e (CU O F) λe=>bx e
end
end
section
theorem eE.YI {T:fJ α β}{lc:β->Loc}{r:R β}{t:Sem α}(h:eE C own i s lc T r t)(hr:r≠.bad):wpAny C.M C.A t (λa s'=>s.toks≤s'.toks∧PN C own i s lc T r a s') (PX C own i s r) s :=
 wpAny_with_toks (Nat.le_refl s.toks) (wpAny_mono (h hr) (λ_ _ x ht=>⟨ht,x⟩) λ_ _ x _=>x)
theorem aan {t:Sem α}{T:fJ α β}{T':fJ γ δ}{lc:β->Loc}{qj:δ->Loc}{r:R β}{g:β->HP->R δ}{Q:α->Shared->Prop}{Q':γ->Shared->Prop}{E:Value->Shared->Prop}(h:eE C own i s lc T r t)(q:To C own i s qj T' (az r g) Q' E)
  (k:∀a b au aB ah,s.toks≤ah.toks->Rep C aB (lc b) au ah->aJ own i s aB ah->T aB ah.heap b a->To C own aB ah qj T' (g b au) Q' E->Q a ah):wpAny C.M C.A t Q E s :=
 wpAny_mono (h.YI (kU q.nb)) (λa ah x=>by
  obtain⟨ht,b,au,aB,rfl,h1,h2,h3⟩:=x;exact k a b au aB ah ht h1 h2 h3 (To.up (r:=g b au) q h2)) λ_ _ x=>q.e _ _ x.az
theorem YJ {t:Sem α}{T:fJ α β}{lc:β->Loc}{r:R β}{Q:α->Shared->Prop}{E:Value->Shared->Prop}{b:β}{au:HP}(h:eE C own i s lc T r t)(er:r=.ok b au)
  (k:∀a aB ah,s.toks≤ah.toks->Rep C aB (lc b) au ah->aJ own i s aB ah->T aB ah.heap b a->Q a ah):wpAny C.M C.A t Q E s:=by
 subst er;refine wpAny_mono (h.YI Sm) (λa ah x=>?_) λ_ _ x=>x.elim λ_ y=>Sl y.1;obtain⟨ht,b',hp',aB,e,h1,h2,h3⟩:=x;injection e with e1 e2;subst e1 e2;exact k a aB ah ht h1 h2 h3
theorem O0 {l t:List Nat}{c:Nat}:Txt.replace (S l) (S [c]) (S t)=S (ia c t l):=by
 unfold Txt.replace
 have ho:Builtin.Str.occurrences (S l) (S [c]) 0 (S l).length ((S l).length+1)=eI c l 0:=by
  rw[An l c 0 _ (Nat.zero_le _),List.drop_zero,List.take_of_length_le];rw[dB];exact Nat.le_succ_of_le (Cd c l 0)
 rw[ho,show((S [c]).length==0)=false by rw[dB];rfl];simp only[Bool.false_and,Bool.or_false];split
 ·rename_i hq;rw[HX c t l 0 (List.isEmpty_iff.mp hq)]
 ·exact HW l c t
section
variable {n N:Nat}{d:cx}{c:Ca}(O:C.Ok n)(F:bT C.w.params)(D:cZ n d)
include O F D
theorem O1 (ae:Rep C i loc hp s)(o:Expr)(y:Str)(m:Nat)(q0:Nat)(p:Pos)(f x:Str)(pf px pc apos pos:Pos)(hy:y.cps.toList=[m])(hf:f=("str":Str))(hfg:C.sc.lookup f=some .globalImplicit)
  (h0:jA o=false) (ay:(apos.endLine==pos.line)=true) :
  SV C [] i loc s (jL m (d.ex C.sc o) (gP C.sc x) loc hp) (eval (.Call (.Attribute o "replace" apos) [.Constant (.str y) q0 p,.Call (.Name f pf) [.Name x px] [] pc] [] pos) C.env):=by
 obtain rfl:y=S [m]:=by
  cases y with
  |mk cps=>exact congrArg Str.mk (by rw[<- hy])
 refine sn λ{Q E} q=>?_
 show wpAny _ _ (do
  let ov <- attributeBase o "replace" C.env (eval o C.env)
  standAt apos.atName
  methodCall o "replace" apos pos C.env ov 2 (backTo pos (starEach [.Constant (.str (S [m])) q0 p,.Call (.Name f pf) [.Name x px] [] pc] C.env)) (backToKw pos (keywordEach [] C.env))) _ _ _
 rw[lI h0];refine wpAny_bind (cT (D.ex O F.base ae o) q λa u au aB ah ak k₁ aP q=>wpAny_bind (wpAny_standAt ?_));refine aj (q.rB) λl hl q=>?_;refine aQ ((fy hl▸aP:Val C.no aB ah.heap (.str l) a).cN) λtl aC=>?_;subst aC;unfold methodCall;rw[show methodCallForm 2 (backTo pos (starEach [.Constant (.str (S [m])) q0 p,.Call (.Name f pf) [.Name x px] [] pc] C.env)) (backToKw pos (keywordEach [] C.env))=true from xy [.Constant (.str (S [m])) q0 p,.Call (.Name f pf) [.Name x px] [] pc] pos C.env rfl (show 2<20 by decide)]
 show wpAny _ _ (do
  let(g,first) <- holding [.str (S l) tl] (getMethod (.str (S l) tl) "replace" (do return (<- importBound o C.env).getD true))
  let iV <- methodCallPos true o C.env apos pos
  callWith iV g first (backTo pos (starEach [.Constant (.str (S [m])) q0 p,.Call (.Name f pf) [.Name x px] [] pc] C.env)) []) _ _ _
 refine wpAny_bind (wpAny_holding (getMethod_builtin (typeIs_str ah (S l) tl) PySem.F.plainAttrs_str PySem.F.slot_str_replace PySem.F.type_str_replace (λa' q=>Value.noConfusion q) ?_))
 have ep:methodCallPos true o C.env apos pos=pure pos:=by
  unfold methodCallPos;rw[ay];rfl
 show wpAny _ _ (methodCallPos true o C.env apos pos>>=λiV=>callWith iV (.builtin "str.replace") [.str (S l) tl] (backTo pos (starEach [.Constant (.str (S [m])) q0 p,.Call (.Name f pf) [.Name x px] [] pc] C.env)) []) _ _ _;rw[ep];refine wpAny_bind (wpAny_pure (callWith_of (P:=λh=>(K C.w.params).In h) rfl (λh X=>kZ (P:=C.w.params) (f:=.builtin "str.replace") rfl h X) ?_));show wpAny _ _ (evalArgs (.builtin "str.replace") true ((false,eval (.Constant (.str (S [m])) q0 p) C.env)::[(false,eval (.Call (.Name f pf) [.Name x px] [] pc) C.env)]) []) _ _ _;refine evalArgs_plain (Calls.spliced_cons (wpAny_Constant_str (Calls.spliced_cons ?_)));refine bp (ak.toks (own:=[]) (ah.toks+1)) λaV k₂=>?_;have q:=q.up k₂;show wpAny _ _ (do callWith pc (<- eval (.Name f pf) C.env) [] (backTo pc (starEach [.Name x px] C.env)) []) _ _ _
 have hfv:gP C.sc f loc au=.ok (.fix (.type "str")) au:=by
  unfold gP;rw[hfg,hf];exact congrArg (λo=>xo o xC loc au) (show iR.lookup ("str":Str)=some (.fix (.type "str"))by kernel_rfl)
 refine wpAny_bind (YJ (hG (own:=[]) O aV (pos:=pf) (F.base.iR f)) hfv λfv KQ eQ aao cg cK m7=>?_);have q:=q.up cK;obtain rfl:=m7.km;refine callWith_of (P:=λh=>(K C.w.params).In h) rfl (λh X=>kZ (P:=C.w.params) (f:=.type "str") rfl h X) ?_;show wpAny _ _ (evalArgs (.type "str") true ((false,eval (.Name x px) C.env)::[]) []) _ _ _;refine evalArgs_plain (Calls.spliced_cons (aan (hG (own:=[]) O cg (x:=x) (pos:=px) (F.base.iR x)) q λxv v rv tS fF aap fG iE oG q=>?_));refine aj (q.rB) λk hk q=>?_;refine bp (q.rI) λhz q=>?_;refine aQ ((iS hk▸oG:Val C.no tS fF.heap (.int k) xv).dn) λtk aC=>?_;subst aC;refine bp (bk hz) λz1 z=>?_;refine bp (bk z) λz2 z=>?_;refine bp (bk z) λz3 z4=>?_;refine Calls.spliced_nil ⟨fG.dI O,P.str_of_int (qu z2) (Calls.spliced_nil ?_)⟩;refine bp (fG.toks (own:=[]) (fF.toks+1)) λAq E3=>?_;refine⟨Aq.dI O,?_⟩;show wpAny _ _ (call (.builtin "str.replace") [.str (S l) tl,.str (S [m]) ah.toks,.str (toString k) fF.toks]) _ _ _;rw[wz];have lt:ah.toks<fF.toks:=Nat.lt_of_lt_of_le aao aap;refine wpAny_with_toks (Nat.le_refl (fF.toks+1)) (SC.replace (λe=>absurd ak.pos (e▸Nat.lt_irrefl _)) (λe=>absurd fG.pos (e▸Nat.lt_irrefl _)) (λe=>absurd lt (e▸Nat.lt_irrefl _)) ?_ ?_ (λt' xG ht=>?_))
 ·exact beq_eq_false_iff_ne.mpr λe=>by rw[<- EK e]at z4;exact ft ((congrArg Bool.not (beq_self_eq_true [m])).symm.trans z4)
 ·rw[dB,dB];have:(l.length+1)*(bS k).length≤(l.length+1)*20:=Nat.mul_le_mul_left _ (of_decide_eq_true z3);have:=of_decide_eq_true z1;omega
 ·rw[O0];exact q.toks fG (.str _ t') (Nat.le_trans (Nat.le_succ _) ht)
end
end
theorem Rep.ownStep (ae:Rep C i loc hp s){b:Addr}(hb:b∈C.own){h':Heap}{t:Nat}(ht:s.toks≤t)(hs:Heap.SameBut b s.heap h')(ho:∃o,h'.get? b=some o∧(∀vs,o.data≠.fields vs)∧∀its n,o.data≠.seq its n)
  (Am:C.hb.get? b=none) {loc':Loc} (pX:loc'.length=loc.length)
  (ns:bq C.no s.heap h'->∃m,h'.Ns C.L m∧∀(n:Nat) v,loc'[n]?=some v->∃x k,C.names[n]?=some x∧C.sc.lookup x=some k∧dN C i h' m x k v) :
  Rep C i loc' hp {s with heap:=h',toks:=t}∧aJ C.own i s i {s with heap:=h',toks:=t}:=by
 have qk:=(ae.own b hb).1
 have tk:bq C.no s.heap h':=λa its _ x=>by
  have h1:=(ae.lV x).1;refine aQ x λm e=>?_;exact⟨m,(hs.2 a (λq=>h1 (q▸hb))).trans e⟩
 refine⟨⟨ns tk,ae.len,λn o e=>?_,ae.nd,ae.new,λb' jh=>?_,λb' o e=>?_,?_,ae.gens,ae.os,Nat.lt_of_lt_of_le ae.pos ht,pX.trans ae.ll,λb' jh=>by
  obtain⟨h1,o,e⟩:=ae.d9 b' jh;refine⟨h1,?_⟩;by_cases q:b'=b
  ·subst q;obtain⟨o',e',_⟩:=ho;exact⟨o',e'⟩
  ·exact⟨o,(hs.2 b' q).trans e⟩⟩,⟨λb' o e h1 _=>(hs.2 b' (λq=>h1 (q▸hb))).trans e,λb' o e=>?_,[],by simp,by simp⟩⟩
 ·refine aj (ae.objs n o e) λa e1 q=>?_;refine aj (q.some) λob eo _=>?_;have:a≠b:=λq'=>qk (q'▸List.mem_of_getElem? e1);exact⟨a,e1,q.keep (bB.refl i) tk (hs.2 a this)⟩
 ·by_cases q:b'=b
  ·subst q;exact⟨qk,ho⟩
  ·obtain⟨h1,o,e,r⟩:=ae.own b' jh;exact⟨h1,o,(hs.2 b' q).trans e,r⟩
 ·exact(hs.2 b' (λq=>by rw[q,Am]at e;exact absurd e nofun)).trans (ae.base b' o e)
 ·refine FunFrames.uw (λb' o e hn=>?_) ae.fQ;by_cases q:b'=b
  ·subst q;obtain⟨o',e',h1,_⟩:=ho;exact⟨o',e',h1⟩
  ·exact⟨o,(hs.2 b' q).trans e,hn⟩
 ·by_cases q:b'=b
  ·subst q;obtain⟨o',e',_⟩:=ho;exact⟨o',e'⟩
  ·exact⟨o,(hs.2 b' q).trans e⟩
theorem iF {sc:Sc}{x:Str}{n:Nat}(e:slot sc x=some n):(bV sc)[n]?=some x:=xl e
theorem dN.upd {h h':Heap}{m m':Str->Option Value}{y:Str}{ky:NameKind}{w:Option V}(tk:bq C.no h h')(hl:∀a,m y=some a->m' y=some a)(hc:∀c b,C.env.cells.lookup y=some c->h.IsCell c b->h'.IsCell c b)(x:dN C i h m y ky w):dN C i h' m' y ky w:=by
 have cell:(∃c a,C.env.cells.lookup y=some c∧h.IsCell c a∧∀u,w=some u->∃b,a=some b∧Val C.no i h u b)->∃c a,C.env.cells.lookup y=some c∧h'.IsCell c a∧∀u,w=some u->∃b,a=some b∧Val C.no i h' u b:=λx=>by
  refine cb x λc a h1 h2 h3=>?_;exact⟨c,a,h1,hc _ _ h1 h2,λu e=>(h3 u e).elim λb q=>⟨b,q.1,q.2.keep (bB.refl i) tk⟩⟩
 cases ky with
 | «local»=>exact λu e=>(x u e).elim λa q=>⟨a,hl _ q.1,q.2.keep (bB.refl i) tk⟩
 |_=>exact cell x
theorem CW {k:Nat}(O:C.Ok k){h h':Heap}{m m':Str->Option Value}{x:Str}{kd:NameKind}{n:Nat}{v:V}(hk:C.sc.lookup x=some kd)(hs:slot C.sc x=some n)(mine:dN C i h' m' x kd (some v))
  (others:∀y ky w,¬y=x->dN C i h m y ky w->dN C i h' m' y ky w) (kr:∀(n:Nat) v,loc[n]?=some v->∃x k,C.names[n]?=some x∧C.sc.lookup x=some k∧dN C i h m x k v) (j:Nat) (w:Option V) (e:(loc.set n (some v))[j]?=some w) :
  ∃x k,C.names[j]?=some x∧C.sc.lookup x=some k∧dN C i h' m' x k w:=by
 have hj:=(List.getElem?_eq_some_iff.mp e).1;rw[List.length_set]at hj;refine cb (kr j loc[j] (List.getElem?_eq_getElem hj)) λy ky e1 e2 e3=>?_;by_cases q:n=j
 ·subst q;obtain rfl:x=y:=oi ((iF hs).symm.trans e1);obtain rfl:=oi (hk.symm.trans e2);rw[List.getElem?_set_self hj]at e;exact⟨x,kd,e1,e2,oi e▸mine⟩
 ·rw[List.getElem?_set_ne q]at e;exact⟨y,ky,e1,e2,oi ((List.getElem?_eq_getElem hj).symm.trans e)▸others y ky _ (λr=>q (z6 (B8 O.nd) (iF hs) (r▸e1))) e3⟩
theorem xH {k:Nat}(O:C.Ok k)(ae:Rep C i loc hp s){x:Str}{kd:NameKind}{n:Nat}{v:V}{a:Value}(hk:C.sc.lookup x=some kd)(fh:kd=.local∨kd=.cell)(hs:slot C.sc x=some n)(hv:Val C.no i s.heap v a)
  {Q:Unit->Shared->Prop} {E:Value->Shared->Prop} (hQ:∀s',Rep C i (loc.set n (some v)) hp s'->aJ C.own i s i s'->Q () s'):wpAny C.M C.A (bindName C.env x a) Q E s:=by
 have YK:=(O.names x kd hk).1;refine aj (ae.ns) λm hm kr=>?_;rcases fh with rfl|rfl
 ·refine wpAny_bindName (wpAny_storeName_local YK hm (λh' hn xI=>?_) (by rw[O.kind];rfl));refine m6 (id hn) λo' YC ep' qi H5 _=>?_
  obtain⟨R,K⟩:=ae.ownStep (loc':=loc.set n (some v)) (t:=s.toks+1) (.head _) (Nat.le_add_right _ _) xI ⟨o',qi,by rw[H5];exact λ_=>Data.noConfusion,by rw[H5];exact λ_ _=>Data.noConfusion⟩ (O.nD _ (.head _)) (List.length_set ..) λtk=>⟨_,hn,
   CW O hk hs (λu hu=>⟨a,by simp,oi hu▸hv.keep (bB.refl i) tk⟩) (λy ky w q=>dN.upd tk (λb g=>by simp[q,g]) λc b _ g=>by
    refine aj g λo1 q1 q2=>?_;refine⟨o1,(xI.2 c λq'=>?_).trans q1,q2⟩;refine m6 hm λo2 es ep q3 q4 _=>?_;rw[q',q3]at q1;obtain rfl:=oi q1;rw[q4]at q2;cases q2) kr⟩
  exact hQ _ R K
 ·obtain⟨Ta,c,hc,Nm,hcL⟩:=YK;have hn:n<loc.length:=ae.ll▸(List.getElem?_eq_some_iff.mp (iF hs)).1;refine cb (kr n loc[n] (List.getElem?_eq_getElem hn)) λy ky f1 f2 f3=>?_;obtain rfl:x=y:=oi ((iF hs).symm.trans f1);obtain rfl:=oi (hk.symm.trans f2);refine cb f3 λc' b g1 kK _=>?_;obtain rfl:=oi (hc.symm.trans g1);refine wpAny_bindName (wpAny_storeName_cell O.kind Ta hc kK (λh' hn xI=>?_));refine aj (id hn) λo' qi H5=>?_
  obtain⟨R,K⟩:=ae.ownStep (loc':=loc.set n (some v)) (t:=s.toks) Nm (Nat.le_refl _) xI ⟨o',qi,by rw[H5];exact λ_=>Data.noConfusion,by rw[H5];exact λ_ _=>Data.noConfusion⟩ (O.nD c Nm) (List.length_set ..) λtk=>⟨m,hm.sameBut xI (Ne.symm hcL),
   CW O hk hs ⟨c,some a,hc,hn,λu hu=>⟨a,rfl,oi hu▸hv.keep (bB.refl i) tk⟩⟩ (λy ky w q=>dN.upd tk (λ_ g=>g) λc' b g1 g2=>by
    refine aj g2 λo1 q1 q2=>?_;exact⟨o1,(xI.2 c' λq'=>q (O.cells y x c' g1 (q'▸hc))).trans q1,q2⟩) kr⟩
  exact hQ _ R K
section
inductive dZ (C:Cx):List Expr->List Nat->Prop
 |nil:dZ C [] []
 |cons {x:Str} {p:Pos} {n:Nat} {es:List Expr} {is:List Nat} {kd:NameKind} (hk:C.sc.lookup x=some kd) (fh:kd=.local∨kd=.cell) (hs:slot C.sc x=some n) (hn:n∉is) (r:dZ C es is):dZ C (.Name x p::es) (n::is)
theorem K2 {o:Option NameKind}(h:M9 o=true):∃k,o=some k∧(k=.local∨k=.cell):=by
 cases o with
 |none=>exact ft h
 |some k=>exact⟨k,rfl,(Bool.or_eq_true_iff.mp h).imp beq_iff_eq.mp beq_iff_eq.mp⟩
theorem wB {α:Type}{b:Bool}{o:Option α}{a:α}(h:cond b o none=some a):b=true∧o=some a:=by
 cases b with
 |true=>exact⟨rfl,h⟩
 |false=>exact bx h
theorem K3 {α:Type}{b:Bool}{o:Option α}{a:α}(h:cond b none o=some a):b=false∧o=some a:=by
 cases b with
 |false=>exact⟨rfl,h⟩
 |true=>exact bx h
theorem K4 {e:Expr}{l:List Expr}(h:EF e=some l):∃q p,e=.Tuple l q p:=by cases e<;>first|exact oi h▸⟨_,_,rfl⟩|exact bx h
theorem tT {sc:Sc}{e:Expr}{n:Nat}(h:yI sc e=some n):∃x p kd,e=.Name x p∧sc.lookup x=some kd∧(kd=.local∨kd=.cell)∧slot sc x=some n:=by
 refine aj (bE h) λx hx h=>?_;refine aQ (jB hx) λp e1=>?_;refine bp (wB h) λho h=>?_;refine aj (K2 ho) λkd h1 h2=>?_;exact⟨x,p,kd,e1,h1,h2,h⟩
theorem ta (es:List Expr):∀(is:List Nat),mf C.sc es=some is->dZ C es is:=by
 induction es with
 |nil=>exact λis e=>oi e▸.nil
 |cons aaq r ih =>
  intro is e;refine aj (bE e) λm h1 e=>?_;refine aj (bE e) λis' h2 e=>?_;refine bp (K3 e) λhc e=>?_;obtain rfl:=oi e;refine fj (tT h1) λx p kd eP q1 q2 q3=>?_;subst eP;exact .cons q1 q2 q3 (λhm=>Bool.false_ne_true (hc.symm.trans (List.contains_iff_mem.mpr hm))) (ih is' h2)
theorem CX {sc:Sc}{t:Expr}{tg:Tg}(h:ly sc t=some tg):(∃es q p is,t=.Tuple es q p∧mf sc es=some is∧tg=.many is)∨∃m,yI sc t=some m∧tg=.one m:=by
 unfold ly at h;cases ht:EF t with
 |some es =>
  rw[ht]at h;refine aj (mH h) λis h1 h2=>?_;refine jI (K4 ht) λq p e=>?_;exact .inl ⟨es,q,p,is,e,h1,h2.symm⟩
 |none =>
  rw[ht]at h;refine aj (mH h) λm h1 h2=>?_;exact .inr ⟨m,h1,h2.symm⟩
theorem dZ.stores {es:List Expr}{is:List Nat}(h:dZ C es is):(assignEach es C.env).map (·.2)=es.map λe=>assign e C.env:=by
 induction h with
 |nil=>rfl
 |cons _ _ _ _ _ ih=>exact congrArg (List.cons _) ih
theorem dZ.uH {es:List Expr}{is:List Nat}(h:dZ C es is):(assignEach es C.env).findIdx? (·.1)=none∧(assignEach es C.env).length=es.length:=by
 induction h with
 |nil=>exact⟨rfl,rfl⟩
 |cons _ _ _ _ _ ih=>exact⟨(List.findIdx?_cons ..).trans (congrArg (Option.map (·+1)) ih.1),congrArg (·+1) ih.2⟩
theorem dZ.len {es:List Expr}{is:List Nat}(h:dZ C es is):es.length=is.length:=by
 induction h with
 |nil=>rfl
 |cons _ _ _ _ _ ih=>exact congrArg (·+1) ih
section
variable {n N:Nat}{d:cx}{c:Ca}(O:C.Ok n)(F:bT C.w.params)(D:cZ n d)
include O
theorem ji (ae:Rep C i loc hp s){x:Str}{p:Pos}{kd:NameKind}{n:Nat}{v:V}{a:Value}(hk:C.sc.lookup x=some kd)(fh:kd=.local∨kd=.cell)(hs:slot C.sc x=some n)(hv:Val C.no i s.heap v a)
  {Q:Unit->Shared->Prop} {E:Value->Shared->Prop} (hQ:∀s',Rep C i (loc.set n (some v)) hp s'->aJ C.own i s i s'->Q () s'):wpAny C.M C.A (assign (.Name x p) C.env a) Q E s:=by
 rw[PySem.assign_Name];exact wpAny_bind (wpAny_standAt (xH O ae hk fh hs hv hQ))
theorem xJ {es:List Expr}{is:List Nat}(hn:dZ C es is):∀(vs:List V) (as:List Value) {loc:Loc} {s:Shared} (ae:Rep C i loc hp s),Vals C.no i s.heap vs as->∀{loc'},dW is vs loc=some loc' ->
  ∀{Q:Unit->Shared->Prop} {E:Value->Shared->Prop},(∀s',Rep C i loc' hp s'->aJ C.own i s i s'->Q () s')->wpAny C.M C.A (assignInOrder (es.map λe=>assign e C.env) as) Q E s:=by
 induction hn with
 |nil =>
  intro vs as loc s ae hv loc' e Q E hQ;cases vs with
  |nil=>rw[hv.wm];exact wpAny_pure (hQ s (oi e▸ae) (aJ.refl ..))
  |cons x y=>exact bx e
 | @cons x p n es is kd hk fh hs hn r ih =>
  intro vs as loc s ae hv loc' e Q E hQ;cases vs with
  |nil=>exact bx e
  |cons v vs =>
   obtain⟨a,as,rfl,hv,xK⟩:=hv.inv;show wpAny _ _ (assignInOrder (assign (.Name x p) C.env::es.map λe=>assign e C.env) (a::as)) _ _ _;rw[assignInOrder];exact wpAny_bind (wpAny_holding (ji O ae hk fh hs hv λah ak k₁=>ih vs as ak (xK.keep (bB.refl i) (k₁.tup ae (λ_ h=>h))) e λs' R' k'=>hQ s' R' (k₁.trans k')))
omit O in
theorem Cf (is:List Nat):∀(vs:List V) (n:Nat) (v:V) (loc:Loc),n∉is->dW is vs (loc.set n (some v))=(dW is vs loc).map (·.set n (some v)):=by
 induction is with
 |nil=>intro vs n v loc _;cases vs<;>rfl
 |cons k is ih =>
  intro vs n v loc hn;cases vs with
  |nil=>rfl
  |cons u vs =>
   have hn:=not_or.mp λh=>hn (List.mem_cons.mpr h);show dW is vs ((loc.set n (some v)).set k (some u))=_;rw[List.set_comm _ _ hn.1];exact ih vs n v _ hn.2
omit O in
theorem Cg (is:List Nat):∀(vs:List V) (n:Nat) (v:V) (loc:Loc),is.length=vs.length->dW (is++[n]) (vs++[v]) loc=(dW is vs loc).map (·.set n (some v)):=by
 induction is with
 |nil =>
  intro vs n v loc h;rw[List.eq_nil_of_length_eq_zero h.symm];rfl
 |cons k is ih =>
  intro vs n v loc h;cases vs with
  |nil=>exact absurd h (Nat.succ_ne_zero _)
  |cons u vs=>exact ih vs n v _ (Nat.succ.inj h)
omit O in
theorem E5 (is:List Nat):∀(vs:List V) (loc:Loc),is.Nodup->is.length=vs.length->dW is.reverse vs.reverse loc=dW is vs loc:=by
 induction is with
 |nil =>
  intro vs loc _ h;rw[List.eq_nil_of_length_eq_zero h.symm];rfl
 |cons n is ih =>
  intro vs loc nd h;cases vs with
  |nil=>exact absurd h (Nat.succ_ne_zero _)
  |cons v vs =>
   have nd:=List.nodup_cons.mp nd;have h:=Nat.succ.inj h;rw[List.reverse_cons,List.reverse_cons,Cg _ _ _ _ _ (by rw[List.length_reverse,List.length_reverse];exact h),ih vs loc nd.2 h];exact(Cf is vs n v loc nd.1).symm
omit O in
theorem uI (is:List Nat):∀(vs:List V) (loc:Loc) {loc'},dW is vs loc=some loc'->is.length=vs.length:=by
 induction is with
 |nil =>
  intro vs loc loc' e;cases vs with
  |nil=>rfl
  |cons v vs=>exact bx e
 |cons n is ih =>
  intro vs loc loc' e;cases vs with
  |nil=>exact bx e
  |cons v vs=>exact congrArg (·+1) (ih vs _ e)
omit O in
theorem dZ.nodup {es:List Expr}{is:List Nat}(h:dZ C es is):is.Nodup:=by
 induction h with
 |nil=>exact .nil
 |cons _ _ _ hn _ ih=>exact List.nodup_cons.mpr ⟨hn,ih⟩
inductive fH (C:Cx):List Str->List Nat->Prop
 |nil:fH C [] []
 |cons {x:Str} {n:Nat} {xs:List Str} {is:List Nat} {kd:NameKind} (hk:C.sc.lookup x=some kd) (fh:kd=.local∨kd=.cell) (hs:slot C.sc x=some n) (r:fH C xs is):fH C (x::xs) (n::is)
omit O in
theorem fH.app {xs ys:List Str}{is js:List Nat}(a:fH C xs is)(b:fH C ys js):fH C (xs++ys) (is++js):=by
 induction a with
 |nil=>exact b
 |cons hk fh hs _ ih=>exact .cons hk fh hs ih
omit O in
theorem fH.rev {xs:List Str}{is:List Nat}(a:fH C xs is):fH C xs.reverse is.reverse:=by
 induction a with
 |nil=>exact .nil
 |cons hk fh hs _ ih=>rw[List.reverse_cons,List.reverse_cons];exact ih.app (.cons hk fh hs .nil)
theorem K5 {xs:List Str}{is:List Nat}(hn:fH C xs is):∀(vs:List V) (as:List Value) {loc:Loc} {s:Shared} (ae:Rep C i loc hp s),Vals C.no i s.heap vs as->∀{loc'},dW is vs loc=some loc' ->
  ∀{Q:Unit->Shared->Prop} {E:Value->Shared->Prop},(∀s',Rep C i loc' hp s'->aJ C.own i s i s'->Q () s')->wpAny C.M C.A (assignInOrder (xs.map λn=>bindName C.env n) as) Q E s:=by
 induction hn with
 |nil =>
  intro vs as loc s ae hv loc' e Q E hQ;cases vs with
  |nil=>rw[hv.wm];exact wpAny_pure (hQ s (oi e▸ae) (aJ.refl ..))
  |cons x y=>exact bx e
 | @cons x n xs is kd hk fh hs r ih =>
  intro vs as loc s ae hv loc' e Q E hQ;cases vs with
  |nil=>exact bx e
  |cons v vs =>
   obtain⟨a,as,rfl,hv,xK⟩:=hv.inv;show wpAny _ _ (assignInOrder (bindName C.env x::xs.map λn=>bindName C.env n) (a::as)) _ _ _;rw[assignInOrder];exact wpAny_bind (wpAny_holding (xH O ae hk fh hs hv λah ak k₁=>ih vs as ak (xK.keep (bB.refl i) (k₁.tup ae (λ_ h=>h))) e λs' R' k'=>hQ s' R' (k₁.trans k')))
def YL (env:Env)(line:Nat)(f:Expr->Option Str):Prop:=∀x p,f (.Name x p)=if(env.kindOf x==some .local&&p.line==line)=true then some x else none
omit O in
theorem Cj {es:List Expr}{is:List Nat}{f:Expr->Option Str}{line:Nat}(hf:YL C.env line f)(h:dZ C es is):(es.filterMap f).length=es.length->fH C (es.filterMap f) is:=by
 induction h with
 |nil=>intro _;exact .nil
 | @cons x p n es is kd hk fh hs hn r ih =>
  intro e;rw[List.filterMap_cons]at e ⊢;have hd:=hf x p;by_cases hq:(C.env.kindOf x==some .local&&p.line==line)=true
  ·rw[if_pos hq]at hd;rw[hd]at e ⊢;exact .cons hk fh hs (ih (Nat.succ.inj e))
  ·rw[if_neg hq]at hd;rw[hd]at e;have hle:(es.filterMap f).length≤es.length:=List.length_filterMap_le ..;exact absurd (Nat.le_trans (Nat.le_of_eq e.symm) hle) (Nat.not_succ_le_self _)
omit O in
theorem H6 (es vs:List Expr)(q q':Nat)(p p':Pos)(env:Env):∃(c1 c2 c4:Bool) (f:Expr->Option Str),YL env ((es.head?.map (·.pos.line)).getD 0) f∧swappedStores [.Tuple es q p] (.Tuple vs q' p') env=(if c1=true then pure none else if c2=true then pure none else
  if((es.filterMap f).length != es.length||(es.filterMap f).eraseDups.length != (es.filterMap f).length)=true then pure none else
  if c4=true then pure none else if vs.all (constantsAlone 8)=true then unsupported "assign.tuple-of-constant-expressions:order-of-the-stores" else pure (some (es.filterMap f)):Sem (Option (List Str))):=by
 refine⟨_,_,_,_,?_,rfl⟩;exact λ_ _=>rfl
omit O in
theorem E6 {es:List Expr}{is:List Nat}(h:dZ C es is)(e:Expr)(q:Nat)(p:Pos)(hc:oA e=false) :
  ∃o:Option (List Str),swappedStores [.Tuple es q p] e C.env=pure o∧(o=none∨∃names,o=some names∧fH C names is):=by
 by_cases ht:∃vs q' p',e=.Tuple vs q' p'
 ·refine ot ht λvs q' p' eP=>?_;subst eP;refine ZT (H6 es vs q q' p p' C.env) λc1 c2 c4 f hf ee=>?_;rw[ee,show vs.all (constantsAlone 8)=false from hc];clear ee;generalize hn:es.filterMap f=nm;cases c1 with
  |true=>exact⟨none,rfl,.inl rfl⟩
  |false=>cases c2 with
   |true=>exact⟨none,rfl,.inl rfl⟩
   |false =>
    by_cases hl:(nm.length != es.length||nm.eraseDups.length != nm.length)=true
    ·exact⟨none,if_pos hl,.inl rfl⟩
    ·cases c4 with
     |true=>exact⟨none,(if_neg hl).trans rfl,.inl rfl⟩
     |false=>exact⟨_,(if_neg hl).trans rfl,.inr ⟨_,rfl,hn▸Cj hf h (hn.symm▸by
       have hl:=(Bool.or_eq_false_iff.mp (Bool.not_eq_true _▸hl)).1;exact bne_eq_false_iff_eq.mp hl)⟩⟩
 ·refine⟨none,?_,.inl rfl⟩;cases e<;>first|rfl|(exact absurd ⟨_,_,_,rfl⟩ ht)
end
end
section
abbrev SS (C:Cx)(i:Pl)(s:Shared)(r:R (Fl×Loc))(t:Sem Flow):Prop:=eE C C.own i s (·.2) (tM C.no) r t
theorem eE.jt {T:fJ α β}{lc:β->Loc}{r:R β}{t:Sem α}(h:eE C [] i s lc T r t):eE C C.own i s lc T r t:=h.weaken (by simp)
theorem K6 (e:Expr)(t:Option Expr)(line:Nat)(env:Env):fC e=true∨swapsWith e t line env=pure false:=by
 cases e<;>first|exact .inr rfl|exact .inl rfl
theorem jj {e:Expr}(h:fC e=false)(t:Option Expr)(line:Nat)(env:Env):swapsWith e t line env=pure false :=
 (K6 e t line env).resolve_left (h▸Bool.false_ne_true)
theorem E7 (e:Expr)(x:Str)(p:Pos)(line:Nat)(env:Env):∃b,swapsWith e (some (.Name x p)) line env=pure b:=by
 cases e<;>exact⟨_,rfl⟩
theorem uJ (e:Expr)(x:Str)(p:Pos)(line:Nat)(env:Env):∃b,swapsWith e (some (.Name x p)) line env=pure b∧(fC e=false->b=false):=by
 cases h:fC e with
 |false=>exact⟨false,jj h ..,λ_=>rfl⟩
 |true=>exact(E7 e x p line env).imp λ_ e=>⟨e,nofun⟩
theorem gz (t value:Expr)(pos:Pos)(env:Env):exec (.Assign [t] value pos) env=(do
  standAt pos
  if <- swapsWith value (some t) pos.line env then do
   evalThenUse value env λv=>assignAll v ((assignEach [t] env).map (·.2))
   pure .next
  else do
   let v <- eval value env
   assignStores env v (<- swappedStores [t] value env) ((assignEach [t] env).map (·.2))):=rfl
theorem wC {n:Nat}(O:C.Ok n):interactive C.env=false:=by
 unfold interactive;rw[O.kind];rfl
section
variable {n N:Nat}{d:cx}{c:Ca}(O:C.Ok n)(F:bT C.w.params)(D:cZ n d)
include O F D
theorem Tb (ae:Rep C i loc hp s)(e:Expr)(pos:Pos):SS C i s (aW (d.ex C.sc e) loc hp) (exec (.Return (some e) pos) C.env) :=
 sn λq=>wpAny_Return_some (cT (D.ex O F.base ae e).jt q λa v au aB ah ak k₁ aP q=>q.fin ak aP)
theorem O3 (ae:Rep C i loc hp s)(pos:Pos):SS C i s (aW (xC .none) loc hp) (exec (.Return none pos) C.env) :=
 sn λq=>wpAny_Return_none (To.fin (b:=(Fl.ret V.none,loc)) q ae .none)
theorem O4 (ae:Rep C i loc hp s)(e:Expr)(pos:Pos)(hc:fC e=false):SS C i s (bo (d.ex C.sc e) loc hp) (exec (.Expr e pos) C.env):=by
 refine sn λ{Q E} q=>?_
 show wpAny _ _ (do
  standAt pos
  if interactive C.env then printExpr (eval e C.env)
  else if <- swapsWith e none pos.line C.env then do evalThenUse e C.env λ_=>point;pure .next
  else do dropValue e pos (<- eval e C.env)) _ _ _
 rw[wC O,jj hc];refine wpAny_bind (wpAny_standAt ?_);show wpAny _ _ (eval e C.env>>=λv=>dropValue e pos v) _ _ _;exact wpAny_bind (cT (D.ex O F.base ae e).jt q λa v au aB ah ak k₁ aP q=>wpAny_dropValue (To.fin (b:=(Fl.next,loc)) q ak trivial))
theorem nK (eR:∃outer,C.d8=C.env::outer)(ss:List Stmt):∀{i loc hp s},Rep C i loc hp s->SS C i s (aF (ss.map (d.st C.sc)) loc hp) (execs ss C.env):=by
 induction ss with
 |nil=>exact λae=>sn λq=>wpAny_execs_nil (To.fin (b:=(Fl.next,_)) q ae trivial)
 |cons st ss ih =>
  exact λ{i loc hp s} ae=>sn λ{Q E} q=>wpAny_execs_cons (cT (D.st O F.base eR ae st) q λf p au aB ah ak k₁ aP q=>by
   obtain⟨fl,qv⟩:=p;cases fl with
   |next =>
    cases f with
    |next=>exact(ih ak).to q
    |_=>exact aP.elim
   |ret v =>
    cases f with
    |ret a=>exact q.fin ak aP
    |_=>exact aP.elim)
theorem Xi (eR:∃outer,C.d8=C.env::outer)(ae:Rep C i loc hp s)(t:Expr)(a b:List Stmt)(pos:Pos):SS C i s (bc (d.te C.sc t) (a.map (d.st C.sc)) (b.map (d.st C.sc)) loc hp) (exec (.If t a b pos) C.env) :=
 sn λq=>wpAny_If (cT (D.te O F.base ae t).jt q λx y au aB ah ak k₁ aP q=>by
  subst aP;cases x
  ·exact(nK O F D eR b ak).to q
  ·exact(nK O F D eR a ak).to q)
omit O F D in
theorem E8 (e:Expr)(x:Str)(p:Pos)(env:Env):swappedStores [.Name x p] e env=pure none:=rfl
omit O F D in
theorem fH.len {xs:List Str}{is:List Nat}(h:fH C xs is):xs.length=is.length:=by
 induction h with
 |nil=>rfl
 |cons _ _ _ _ ih=>exact congrArg (·+1) ih
omit O F D in
theorem Vals.rev {no:List Addr}{i:Pl}{h:Heap}{vs:List V}{as:List Value}(x:Vals no i h vs as):Vals no i h vs.reverse as.reverse :=
 x.ind (P:=λvs as=>Vals no i h vs.reverse as.reverse) .nil λx _ ih=>by rw[List.reverse_cons,List.reverse_cons];exact ih.append (.cons x .nil)
theorem tU (ae:Rep C i loc hp s){x:Str}{p:Pos}{kd:NameKind}{m:Nat}(e:Expr){ex:Ex}(hx:SV C [] i loc s (ex loc hp) (eval e C.env))(pos:Pos)(hk:C.sc.lookup x=some kd)(fh:kd=.local∨kd=.cell)(hs:slot C.sc x=some m)
  (nL:swapsWith e (some (.Name x p)) pos.line C.env=pure false):SS C i s (aR m ex loc hp) (exec (.Assign [.Name x p] e pos) C.env):=by
 refine sn λ{Q E} q=>?_;rw[gz,nL];refine wpAny_bind (wpAny_standAt ?_);show wpAny _ _ (do let v <- eval e C.env;assignStores C.env v (<- swappedStores [.Name x p] e C.env) ((assignEach [.Name x p] C.env).map (·.2))) _ _ _
 rw[E8];refine wpAny_bind (cT hx.jt q λa v au aB ah ak k₁ aP q=>wpAny_bind (wpAny_pure ?_));show wpAny _ _ (assign (.Name x p) C.env a>>=λ_=>pure Flow.next) _ _ _;exact wpAny_bind (ji O ak hk fh hs aP λaO aV k₂=>wpAny_pure (To.at (b:=(Fl.next,loc.set m (some v))) q aV k₂ trivial))
theorem O5 (ae:Rep C i loc hp s){es:List Expr}{is:List Nat}(hn:dZ C es is)(q:Nat)(p:Pos)(e:Expr)(pos:Pos)(hc:oA e=false)(Xj:fC e=false) :
  SS C i s (eH is (d.ex C.sc e) loc hp) (exec (.Assign [.Tuple es q p] e pos) C.env):=by
 refine aj (E6 hn e q p hc) λo ho hoo=>?_;refine sn λ{Q E} qq=>?_;rw[gz,jj Xj];refine wpAny_bind (wpAny_standAt ?_);show wpAny _ _ (do let v <- eval e C.env;assignStores C.env v (<- swappedStores [.Tuple es q p] e C.env) ((assignEach [.Tuple es q p] C.env).map (·.2))) _ _ _
 rw[ho];refine wpAny_bind (cT (D.ex O F.base ae e).jt qq λa v au aB ah ak k₁ aP qq=>wpAny_bind (wpAny_pure ?_));refine aj (qq.rB) λvs hv qq=>?_;refine aj (qq.rB) λqv gQ qq=>?_;refine tC ((rn hv▸aP:Val C.no aB ah.heap (.tup vs) a).fz) λt its bH cS x y=>?_;subst bH;have uK:=uI is vs loc gQ;have CY:its.size=es.length:=Array.length_toList.symm.trans (y.length.symm.trans (uK.symm.trans hn.len.symm));have more:∀h':Heap,(∀b ob,b≠ah.heap.objs.size->ah.heap.get? b=some ob->h'.get? b=some ob)->_:=λh' tV=>ak.more (own:=C.own) (t:=ah.toks) (d:=ah.drawn) (h':=h') λb ob eb=>tV b ob (Nat.ne_of_lt (Heap.lt_size eb)) eb;rcases hoo with rfl|⟨names,rfl,qw⟩
 ·show wpAny _ _ (do (do standAt p;unpack (.ref t) (assignEach es C.env));pure Flow.next) _ _ _
  refine wpAny_bind (wpAny_bind (wpAny_standAt ?_));unfold unpack;rw[hn.uH.1,hn.uH.2,hn.stores,<- CY];refine wpAny_bind (wpAny_holding (wpAny_unpackItems_tuple O.handled x.is λh' tV=>?_));refine bp (more h' tV) λaV k₂=>?_;exact xJ O hn vs its.toList aV (y.keep (bB.refl _) (k₂.tup ak (λb hb=>hb))) gQ λeQ cg cK=>wpAny_pure (To.at (b:=(Fl.next,qv)) qq cg (k₂.trans cK) trivial)
 ·show wpAny _ _ (do rule "assign.swapped-stores";let items <- unpackItems (.ref t) names.length none;assignInOrder (names.reverse.map λn=>bindName C.env n) items.reverse;pure Flow.next) _ _ _
  rw[qw.len.trans (hn.len.symm.trans CY.symm)];refine wpAny_bind (wpAny_rule (wpAny_bind (wpAny_unpackItems_tuple O.handled x.is λh' tV=>?_)));refine bp (more h' tV) λaV k₂=>?_;exact wpAny_bind (K5 O qw.rev vs.reverse its.toList.reverse aV (y.keep (bB.refl _) (k₂.tup ak (λb hb=>hb))).rev ((E5 is vs loc hn.nodup uK).trans gQ) λeQ cg cK=>wpAny_pure (To.at (b:=(Fl.next,qv)) qq cg (k₂.trans cK) trivial))
end
end
section
noncomputable def K7 (hb:Heap) (L dx:Addr) (h:Heap):List (Addr×Obj):=(List.range h.objs.size).filterMap λb=>if b=L∨b=dx∨(hb.get? b).isSome=true then none else(h.get? b).map λo=>(b,o)
theorem K8 {hb h:Heap}{L dx b:Addr}{o:Obj}(e:h.get? b=some o)(h1:b≠L)(h2:b≠dx)(h3:hb.get? b=none):(b,o)∈K7 hb L dx h:=by
 refine List.mem_filterMap.mpr ⟨b,List.mem_range.mpr (Heap.lt_size e),?_⟩;rw[if_neg (λq=>q.elim h1 λq=>q.elim h2 λq=>by rw[h3]at q;exact ft q),e];rfl
theorem rx {hb h:Heap}{L dx:Addr}(p:Addr×Obj)(hp:p∈K7 hb L dx h):h.get? p.1=some p.2∧p.1≠L∧p.1≠dx∧hb.get? p.1=none:=by
 refine aj (List.mem_filterMap.mp hp) λb _ e=>?_;by_cases hn:b=L∨b=dx∨(hb.get? b).isSome=true
 ·exact bx ((if_pos hn).symm.trans e)
 ·refine aj (Option.map_eq_some_iff.mp ((if_neg hn).symm.trans e)) λo eo bH=>?_;subst bH;exact⟨eo,λq=>hn (.inl q),λq=>hn (.inr (.inl q)),Option.not_isSome_iff_eq_none.mp λz=>hn (.inr (.inr z))⟩
theorem Rep.Xk (ae:Rep C i loc hp s){hp':HP}{s':Shared}(kp:∀b o,s.heap.get? b=some o->b∉i->b≠C.L->s'.heap.get? b=some o)(kL:∀m,s.heap.Ns C.L m->s'.heap.Ns C.L m)
  (lv:∀a∈i,∃o,s'.heap.get? a=some o∧∀vs,o.data≠.fields vs)
  (len:i.length=hp'.length) (objs:bq C.no s.heap s'.heap->∀(n:Nat) o,hp'[n]?=some o->∃a,i[n]?=some a∧fK C.no i C.w.params s'.heap a o) (hg:s'.gens=s.gens) (ho:s'.os=s.os) (ht:s.toks≤s'.toks) (uL:C.hb.get? C.L=none) :
  Rep C i loc hp' s'∧aJ C.own i s i s':=by
 refine aj (ae.ns) λm hm hl=>?_;have nM:=kL m hm;have Tc:∃o,s'.heap.get? C.L=some o∧(∀vs,o.data≠.fields vs)∧∀its n,o.data≠.seq its n:=nM.elim λo x=>x.elim λ_ x=>x.elim λ_ x=>⟨o,x.1,by rw[x.2.1];exact λ_=>Data.noConfusion,by rw[x.2.1];exact λ_ _=>Data.noConfusion⟩
 have tk:bq C.no s.heap s'.heap:=λa its _ x=>by
  have h:=ae.lV x;exact x.elim λn e=>⟨n,kp a _ e h.2 λq=>h.1 (q▸.head _)⟩
 have Xl:∀c v,s.heap.IsCell c v->s'.heap.IsCell c v:=λc v x=>by
  refine aj x λo e hd=>?_;refine⟨o,kp c o e (λhm=>?_) (λq=>?_),hd⟩
  ·refine cb (ae.gw hm) λ_ _ _ _ q=>?_;refine fi (q.some) λo' e' _ _ q4=>?_;rw[e]at e';obtain rfl:=oi e';exact q4 _ hd
  ·subst q;refine m6 hm λo2 es ep q3 q4 _=>?_;rw[e]at q3;obtain rfl:=oi q3;rw[hd]at q4;cases q4
 have live:∀b o,s.heap.get? b=some o->∃o',s'.heap.get? b=some o':=λb o e=>by
  by_cases hm:b∈i
  ·exact(lv b hm).imp λ_ x=>x.1
  ·by_cases q:b=C.L
   ·exact q▸Tc.imp λ_ x=>x.1
   ·exact⟨o,kp b o e hm q⟩
 refine⟨⟨⟨m,nM,λn v e=>(hl n v e).imp λx y=>y.imp λk z=>⟨z.1,z.2.1,dN.keep (bB.refl i) tk Xl z.2.2⟩⟩,len,objs tk,ae.nd,ae.new,λb hb=>?_,λb o e=>?_,?_,hg.trans ae.gens,ho.trans ae.os,Nat.lt_of_lt_of_le ae.pos ht,ae.ll,
  λb hb=>⟨(ae.d9 b hb).1,(ae.d9 b hb).2.elim (live b)⟩⟩,⟨λb o e h1 h2=>kp b o e h2 λq=>h1 (q▸.head _),live,[],(List.append_nil _).symm,λa h=>absurd h List.not_mem_nil⟩⟩
 ·have h:=ae.own b hb;by_cases q:b=C.L
  ·exact⟨h.1,q▸Tc⟩
  ·exact⟨h.1,h.2.imp λo x=>⟨kp b o x.1 h.1 q,x.2⟩⟩
 ·exact kp b o (ae.base b o e) (λhm=>bx ((ae.new b hm).symm.trans e)) λq=>bx (uL.symm.trans (q▸e))
 ·refine FunFrames.uw (λb o e hn=>?_) ae.fQ;by_cases hm:b∈i
  ·exact lv b hm
  ·by_cases q:b=C.L
   ·exact q▸Tc.imp λ_ x=>⟨x.1,x.2.1⟩
   ·exact⟨o,kp b o e hm q,hn⟩
section
variable {n N:Nat}{d:cx}{c:Ca}(O:C.Ok n)(F:bT C.w.params)(D:cZ n d)
include O F
omit O F in
theorem Td {h:Heap}{a:Addr}{m m':Str->Option Value}(x:h.Ns a m)(y:h.Ns a m'):m=m':=by
 refine fj x λo1 es1 ep1 x1 x2 x3 x4=>?_;refine fj y λo2 es2 ep2 y1 y2 y3 y4=>?_;rw[x1]at y1;obtain rfl:=oi y1;rw[x2]at y2;injection y2 with y2;subst y2
 funext z;rw[<- x4,<- y4]
theorem yw (ae:Rep C i loc hp s){u v:V}{a b:Value}{k:Key}(hu:Val C.no i s.heap u a)(hv:Val C.no i s.heap v b)(e:dj hp u k v=some hp'){Q:Unit->Shared->Prop}{E:Value->Shared->Prop}
  (hQ:∀s',Rep C i loc hp' s'->aJ C.own i s i s'->Q () s'):wpAny C.M C.A (setAttr a k.str b) Q E s:=by
 refine aj (bE e) λtP q0 e=>?_;refine aj (bE e) λq q1 e=>?_;refine aj (bE e) λes q2 e=>?_;refine bp (wB e) λi9 e=>?_;refine bp (bk i9) λi9 hlen=>?_;obtain rfl:=oi e;refine aj ((gv q0▸hu:Val C.no i s.heap (.ref tP) a).cP) λad aC e1=>?_;subst aC;refine fj (ae.inst e1 (tI q1) (kl q2)) λdx ds n e2 h3 h2 I=>?_;have cf:=F.cls q.1 (qp i9);refine aj (ae.ns) λm hm _=>?_;have K9:dx∈i:=List.mem_of_getElem? e2;have CZ:C.L∉i:=(ae.own _ (.head _)).1;have Xm:Fr C.hb C.L s.heap m:=⟨hm,ae.base,O.above⟩;have aar:News C.hb C.L s.heap ((dx,dictOf ds n)::K7 C.hb C.L dx s.heap):=λp hp=>(List.mem_cons.mp hp).elim (λe=>e▸⟨h2,λq=>CZ (q▸K9),ae.new dx K9⟩) λhp=>⟨(rx p hp).1,(rx p hp).2.1,(rx p hp).2.2.2⟩;have hp':=h3.1.put k v b (s.toks+1) hv;refine set_dict Xm O.dI aar I rfl cf.sa cf.over (cf.attr k i9).2 cf.dict ?_ rfl (.head λp hp=>(rx p hp).2.2.1) ?_ λh' F' N'=>?_
 ·cases hg:ej es k with
  |none=>rw[(h3.1.get k).1 hg];rfl
  |some v'=>exact((h3.1.get k).2 v' hg).elim λa' g=>g.1▸rfl
 ·have h5:=hp'.length;have h6:=KD es k v;have h7:=of_decide_eq_true hlen;omega
 ·have Te:h'.get? dx=some (dictOf (putL k.str (PyData.keyHash C.w.params k.str) (.str k.str (s.toks+1)) b ds) (putN k.str ds n)):=(N' _ (.head _)).1
  have kp:∀b' o,s.heap.get? b'=some o->b'≠dx->b'≠C.L->h'.get? b'=some o:=λb' o eo h1 h2=>by
   cases z:C.hb.get? b' with
   |some o'=>rw[oi (eo.symm.trans (ae.base b' o' z))];exact F'.keep b' o' z
   |none=>exact(N' _ (.tail _ (K8 eo h2 h1 z))).1
  have ja:∀a'∈i,a'≠C.L:=λa' ha q=>CZ (q▸ha)
  obtain⟨R,K⟩:=ae.Xk (s':={s with heap:=h',toks:=s.toks+2}) (hp':=hp.set q.2 (.dict (dput es k v))) (λb' o eo h1 h2=>kp b' o eo (λq=>h1 (q▸K9)) h2) (λm' nM=>Td hm nM▸F'.ns)
   (λa' ha=>by
    by_cases q:a'=dx
    ·exact⟨_,q▸Te,λ_=>Data.noConfusion⟩
    ·refine cb (ae.gw ha) λ_ _ _ _ q'=>?_;exact q'.some.imp λo' x=>⟨kp a' o' x.1 q (ja a' ha),x.2.2.1⟩)
   (by rw[List.length_set];exact ae.len) (λtk j o eo=>by
    by_cases hj:q.2=j
    ·subst hj;rw[List.getElem?_set_self (List.getElem?_eq_some_iff.mp (kl q2)).1]at eo;obtain rfl:=oi eo;exact⟨dx,e2,_,_,Te,hp'.keep (bB.refl i) tk,uD es k v h3.2⟩
    ·rw[List.getElem?_set_ne hj]at eo;refine aj (ae.objs j o eo) λa' e' q'=>?_;refine aj (q'.some) λo' YM _=>?_;exact⟨a',e',q'.keep (bB.refl i) tk ((kp a' o' YM (λq=>hj (z6 ae.nd e2 (q▸e'))) (ja a' (List.mem_of_getElem? e'))).trans YM.symm)⟩) rfl rfl (Nat.le_add_right _ _) (O.nD _ (.head _))
  exact hQ _ R K
include D
theorem La (ae:Rep C i loc hp s)(o:Expr)(m:Str)(k:Key)(p:Pos)(e:Expr)(pos:Pos)(hk:Key.of m=some k)(hc:fC e=false):SS C i s (cH (d.ex C.sc o) k (d.ex C.sc e) loc hp) (exec (.Assign [.Attribute o m p] e pos) C.env):=by
 obtain rfl:=Key.nH hk;refine sn λ{Q E} q=>?_;rw[gz,jj hc];refine wpAny_bind (wpAny_standAt ?_);show wpAny _ _ (do let v <- eval e C.env;assignStores C.env v (<- swappedStores [.Attribute o k.str p] e C.env) ((assignEach [.Attribute o k.str p] C.env).map (·.2))) _ _ _
 rw[show swappedStores [.Attribute o k.str p] e C.env=pure none from rfl];refine wpAny_bind (cT (D.ex O F.base ae e).jt q λb v au aB ah ak k₁ aP q=>wpAny_bind (wpAny_pure ?_))
 show wpAny _ _ ((do
  let ov <- holding [b] (eval o C.env)
  standAt p.atName
  holding [b,ov] (setAttr ov k.str b)
  release [b,ov] [])>>=λ_=>pure Flow.next) _ _ _
 refine wpAny_bind (wpAny_bind (wpAny_holding (cT (D.ex O F.base ak o).jt q λa u bJ ck aO aV k₂ cW q=>wpAny_bind (wpAny_standAt (wpAny_bind (wpAny_holding ?_))))));refine aj (q.rB) λrq hp q=>?_;exact yw O F aV cW (aP.keep k₂.g (k₂.tup ak (λ_ h=>h))) hp λeQ cg cK=>wpAny_release' (wpAny_pure (To.at (b:=(Fl.next,loc)) q cg cK trivial))
theorem Lb (ae:Rep C i loc hp s)(o:Expr)(x:Str)(q:Nat)(px:Pos)(k:Key)(p:Pos)(e:Expr)(pos:Pos)(hk:Key.of x=some k)(hc:fC e=false):SS C i s (iQ (d.ex C.sc o) k (d.ex C.sc e) loc hp) (exec (.Assign [.Subscript o (.Constant (.str x) q px) p] e pos) C.env):=by
 obtain rfl:=Key.nH hk;refine sn λ{Q E} qq=>?_;rw[gz,jj hc];refine wpAny_bind (wpAny_standAt ?_);show wpAny _ _ (do let v <- eval e C.env;assignStores C.env v (<- swappedStores [.Subscript o (.Constant (.str k.str) q px) p] e C.env) ((assignEach [.Subscript o (.Constant (.str k.str) q px) p] C.env).map (·.2))) _ _ _
 rw[show swappedStores [.Subscript o (.Constant (.str k.str) q px) p] e C.env=pure none from rfl];refine wpAny_bind (cT (D.ex O F.base ae e).jt qq λb v au aB ah ak k₁ aP qq=>wpAny_bind (wpAny_pure ?_))
 show wpAny _ _ ((do
  let ov <- holding [b] (eval o C.env)
  let iv <- holding [b,ov] (eval (.Constant (.str k.str) q px) C.env)
  standAt p
  holding [b,ov,iv] (setItem ov iv b)
  release [b,ov,iv] [])>>=λ_=>pure Flow.next) _ _ _
 refine wpAny_bind (wpAny_bind (wpAny_holding (cT (D.ex O F.base ak o).jt qq λa u bJ ck aO aV k₂ cW qq=>wpAny_bind (wpAny_holding (wpAny_Constant_str (wpAny_bind (wpAny_standAt (wpAny_bind (wpAny_holding ?_)))))))));refine bp (aV.toks (own:=C.own) (aO.toks+1)) λcg cK=>?_;have qq:=qq.up cK;have Xn:=aP.keep k₂.g (k₂.tup ak (λ_ h=>h));refine aj (qq.rB) λrq hp qq=>?_;refine aj (bE hp) λtP q0 hp=>?_;refine aj (bE hp) λes q3 hp=>?_;refine bp (wB hp) λhlen hp=>?_;obtain rfl:=oi hp;refine aj ((gv q0▸cW:Val C.no ck aO.heap (.ref tP) a).cP) λad aC e1=>?_;subst aC;refine dP (cg.dict e1 (kl q3)) λbI h1 h2 h3=>?_;refine wpAny_setItem_pairs (strKind_is pw C.w k.str _) h1 (λh' hD hS=>?_) (by rw[OU h2];exact of_decide_eq_true hlen)
 obtain⟨fG,iE⟩:=cg.put (own:=C.own) (o':=.dict (dput es k v)) (t:=aO.toks+1+1) (d:=aO.drawn) e1 hS (λtk=>by
  refine eG (xA hD ((h2.put h3 Xn).keep (bB.refl _) tk)) λds nn g1 g2=>?_;exact⟨ds,nn,g1,g2,uD es k v h3⟩) (Nat.le_add_right _ _)
 exact wpAny_release' (wpAny_pure (To.at (b:=(Fl.next,loc)) qq fG iE trivial))
end
end
section
def fO (h h':Heap):Prop:=∀b o,h.get? b=some o->∃o',h'.get? b=some o'∧o'.cls=o.cls∧o'.dict=o.dict∧((∀vs,o.data≠.fields vs)->o'.data=o.data)∧∀vs,o.data=.fields vs->∃H7,o'.data=.fields H7∧H7.size=vs.size
theorem fO.refl (h:Heap):fO h h:=λb o e=>⟨o,e,rfl,rfl,λ_=>rfl,λvs q=>⟨vs,q,rfl⟩⟩
theorem fO.trans (x:fO h dQ)(y:fO dQ ib):fO h ib:=λb o e=>(x b o e).elim λE9 p=>(y b E9 p.1).elim λaas q=>⟨aas,q.1,q.2.1.trans p.2.1,q.2.2.1.trans p.2.2.1,
 λhn=>(q.2.2.2.1 (p.2.2.2.1 hn▸hn)).trans (p.2.2.2.1 hn),λvs e=>(p.2.2.2.2 vs e).elim λyN e1=>(q.2.2.2.2 yN e1.1).elim λXo e2=>⟨Xo,e2.1,e2.2.trans e1.2⟩⟩
theorem fO.push (h:Heap)(o:Obj):fO h (h.push o):=λb o' e=>⟨o',Heap.get?_push_of_some _ e,rfl,rfl,λ_=>rfl,λvs q=>⟨vs,q,rfl⟩⟩
theorem fO.slots {S:List Addr}(x:Heap.SlotsOnly S h h'):fO h h':=λb o e=>by
 refine aQ (x.2.2 b o e) λsl e'=>?_;exact⟨_,e',rfl,rfl,λ_=>rfl,λvs q=>⟨vs,q,rfl⟩⟩
theorem xh {a:Addr}{o:Obj}{vs:Array Value}{k:Nat}{x:Value}(ho:h.get? a=some o)(hd:o.data=.fields vs) :
  (h.update a (Obj.mapFields (·.setIfInBounds k x))).get? a=some {o with data:=.fields (vs.setIfInBounds k x)}:=by
 have:=Heap.get?_update_self (Obj.mapFields (·.setIfInBounds k x)) ho (Obj.isFreed_of_fields (Obj.data_mapFields hd _))
 rw[this];obtain⟨c,d,dt,sl⟩:=o;simp only at hd;subst hd;rfl
theorem fO.set {a:Addr}{o:Obj}{vs:Array Value}(k:Nat)(x:Value)(ho:h.get? a=some o)(hd:o.data=.fields vs):fO h (h.update a (Obj.mapFields (·.setIfInBounds k x))):=λb ob e=>by
 by_cases q:b=a
 ·subst q;rw[ho]at e;obtain rfl:=oi e;refine⟨_,xh ho hd,rfl,rfl,λhn=>absurd hd (hn vs),λH7 q=>?_⟩;rw[hd]at q;injection q with q;subst q;exact⟨_,rfl,by simp⟩
 ·exact⟨ob,(Heap.get?_update_other _ _ (Ne.symm q)).trans e,rfl,rfl,λ_=>rfl,λvs q=>⟨vs,q,rfl⟩⟩
theorem fO.nf (x:fO h h'){hb:Heap}{l:List Env}(f:h.FunFrames hb l):h'.FunFrames hb l:=FunFrames.uw (λb o e hn=>(x b o e).elim λo' p=>⟨o',p.1,λvs=>(p.2.2.2.1 hn).symm▸hn vs⟩) f
theorem H8 {o o':Obj}(c:o'.cls=o.cls)(d:o'.dict=o.dict)(e:o'.data=o.data):o'={o with slots:=o'.slots}:=by
 obtain⟨c1,d1,dt1,sl1⟩:=o';obtain⟨c2,d2,dt2,sl2⟩:=o;cases c;cases d;cases e;rfl
theorem fO.kx (x:fO s.heap s'.heap)(own:List Addr)(i:Pl):fS own i s s':=λb o e hn _ _=>(x b o e).elim λo' p=>⟨o'.slots,p.1.trans (congrArg some (H8 p.2.1 p.2.2.1 (p.2.2.2.1 hn)))⟩
theorem Ck {x:Str}{o o':Obj}(e:o'.data=o.data)(c:o'.cls=o.cls)(d:o'.dict=o.dict):lookIn x o'=lookIn x o:=by
 obtain⟨c1,d1,dt1,sl1⟩:=o';obtain⟨c2,d2,dt2,sl2⟩:=o;simp only at e c d;subst e c d;rfl
theorem ml.Ar {k:Int}{e:Value}(f:ml C k e s){h':Heap}(x:fO s.heap h')(hb:∀b o,C.hb.get? b=some o->h'.get? b=some o)(tr:∀ea,e=.ref ea->Trace C ea h'):ml C k e {s with heap:=h'}:=by
 refine⟨?_,hb,x.nf f.fQ,f.gens,f.os⟩;obtain⟨ea,d,oe,od,t,e0,e1,e2,e3,e4,e5,e6,c6,d6,e7,e8,e9⟩:=f.obj;refine zP (x ea oe e1) λxM q1 q2 q3 _ _=>?_;refine zP (x d od e6) λTf r1 r2 r3 r4 _=>?_;exact⟨ea,d,xM,Tf,t,e0,q1,q2.trans e2,q3.trans e3,e4,tr ea e0,r1,r2.trans c6,r3.trans d6,λvs=>r4 e7▸e7 vs,(Ck (r4 e7) r2 r3).trans e8,e9⟩
inductive Nn (C:Cx)(ea:Addr)(h:Heap)(x:Value):Prop
 |mk (oe:Obj) (vs:Array Value) (T:Addr) (oT:Obj) (ts:Array Value) (h1:h.get? ea=some oe) (h2:oe.data=.fields vs) (h3:1<vs.size) (h4:vs[1]?=some (.ref T)) (h5:C.hb.get? T=none) (h6:T≠ea) (h7:h.get? T=some oT) (h8:oT.data=.fields ts) (h9:3<ts.size) (uv:ts[3]?=some x)
inductive As (C:Cx)(ea:Addr)(h:Heap):Prop
 |mk (F:Addr) (hF:C.env.frame=some F) (x:Nn C ea h (rawInt F))
theorem As.trace {ea:Addr}(x:As C ea h):Trace C ea h:=by
 obtain⟨F,uv,oe,vs,T,oT,ts,h1,h2,h3,h4,h5,h6,h7,h8,h9,Sj⟩:=x;exact⟨oe,vs,h1,h2,h3,.inr ⟨T,oT,ts,_,h4,h5,h6,h7,h8,h9,Sj,.inr ⟨F,uv,rfl⟩⟩⟩
theorem O6 {ea F:Addr}{E9:Obj}{yN ts:Array Value}(tb:Obj)(htb:tb.isFreed=false)(e4:C.hb.get? ea=none)(hF:C.env.frame=some F)(a1:dQ.get? ea=some E9)(a2:E9.data=.fields yN)(a3:1<yN.size)(htd:tb.data=.fields ts)(ht3:3<ts.size)(htF:ts[3]?=some (rawInt F))
  (kb:∀b o,C.hb.get? b=some o->dQ.get? b=some o):∃h2,(dQ.push tb).update ea (Obj.mapFields (·.setIfInBounds 1 (Value.ref dQ.objs.size)))=h2∧fO dQ h2∧As C ea h2∧∀b o,C.hb.get? b=some o->h2.get? b=some o:=by
 have b1:=Heap.get?_push_of_some (h:=dQ) tb a1
 refine⟨_,rfl,(fO.push _ _).trans (fO.set 1 _ b1 a2),⟨F,hF,_,_,dQ.objs.size,tb,ts,xh b1 a2,rfl,(Array.size_setIfInBounds ..).symm▸a3,Array.getElem?_setIfInBounds_self_of_lt a3,?_,Nat.ne_of_gt (Heap.lt_size a1),
  (Heap.get?_update_other _ _ (Ne.symm (Nat.ne_of_gt (Heap.lt_size a1)))).trans (Heap.get?_push_size dQ htb),htd,ht3,htF⟩,λb o qx=>(Heap.get?_update_other _ _ (Ne.symm λq=>bx (e4.symm.trans (q▸qx)))).trans (Heap.get?_push_of_some _ (kb b o qx))⟩
 cases z:C.hb.get? dQ.objs.size with
 |none=>rfl
 |some o=>exact absurd (Heap.lt_size (kb _ _ z)) (Nat.lt_irrefl _)
section
variable {n:Nat}(O:C.Ok n)
include O
theorem tW {outer:List Env}(eR:C.d8=C.env::outer){k:Int}{e:Value}(f:ml C k e s){Q:Unit->Shared->Prop}{E:Value->Shared->Prop}
  (hQ:∀h',ml C k e {s with heap:=h'}->fO s.heap h'->(∀ea,e=.ref ea->As C ea h')->Q () {s with heap:=h'}):wpAny C.M C.A (noteFrame e C.env) Q E s:=by
 refine bC λnG=>?_;refine m6 (O.frame) λF outer' aaq hF _ _=>?_;obtain⟨ea,d,oe,od,t,rfl,e1,e2,e3,e4,e5,_⟩:=id f.obj;obtain⟨xM,vs,g1,g2,g3,g4⟩:=e5;obtain rfl:=oi (e1.symm.trans g1);have hA:C.A.frames=some (C.env::outer):=O.frames.trans (congrArg some eR);have Th:s.heap.FunFrames C.hb (C.env::outer):=eR▸f.fQ
 have entry:∀(h₀:Heap) (head:Value) (hadNext:Bool),fO s.heap h₀->(∃yO Fb,h₀.get? ea=some yO∧yO.data=.fields Fb∧1<Fb.size)->(∀b o,C.hb.get? b=some o->h₀.get? b=some o) ->
   wpAny C.M C.A (do let a <- frameOf C.env;let pl <- entryPlaceOf F hadNext;let b <- EntryCells.newEntry head a .none (rawInt F) .none pl;setField (.ref ea) 1 b) Q E {s with heap:=h₀}:=by
  intro h₀ head hadNext ev x kb;refine cb x λyO Fb a1 a2 a3=>?_;refine wpAny_bind (wpAny_frameOf_fun hA (ev.nf Th) hF λdQ Fc=>wpAny_bind (wpAny_entryPlaceOf λpl hpl=>?_));unfold EntryCells.newEntry newFields;refine wpAny_bind (wpAny_newObj_type ?_ (hpl.sizeOk5 _ _ _ _ _));refine aQ (Fc.2.2 ea yO a1) λsl H9=>?_
  obtain⟨h2,eh,ev2,held,kb2⟩:=O6 (C:=C) {cls:=.type "traceback",dict:=none,data:=.fields ([head,.ref F,.none,rawInt F,.none]++(if pl.isEmpty then List.replicate 6 Value.none else pl)).toArray} rfl e4 hF H9 a2 a3 rfl (by simp) rfl λb o qx =>
   (Fc.2.1 b (λhm=>bx (((ev.nf Th).mem hm).1.symm.trans qx))).trans (kb b o qx)
  refine wpAny_setField (Heap.get?_push_of_some _ H9) a2 a3 ?_;have YN:=(ev.trans (fO.slots Fc)).trans ev2;rw[eh];exact hQ h2 (f.Ar YN kb2 λNp q=>by cases q;exact held.trace) YN λNp q=>by cases q;exact held
 refine nG ?_;unfold noteFrame;simp only[hF];rcases g4 with g4|⟨T,oT,ts,fl,g4,g5,g6,g7,g8,g9,YO,g11⟩
 ·refine wpAny_bind (wpAny_field e1 g2 g4 ?_);rw[if_neg (by decide)];exact entry s.heap .none _ (fO.refl _) ⟨oe,vs,e1,g2,g3⟩ f.base
 ·refine wpAny_bind (wpAny_field e1 g2 g4 ?_);rw[if_pos (show(Value.ref T != Value.none)=true from rfl)];refine wpAny_bind (wpAny_field g7 g8 YO ?_);rcases g11 with rfl|⟨F',hF',rfl⟩
  ·rw[if_neg (show ¬((Value.none==rawInt F)=true)from Bool.false_ne_true)];refine wpAny_bind (wpAny_setField g7 g8 g9 ?_);exact entry _ (.ref T) _ (fO.set 3 Value.none g7 g8) ⟨oe,vs,(Heap.get?_update_other _ _ g6).trans e1,g2,g3⟩ λb o qx=>(Heap.get?_update_other _ _ (Ne.symm λq=>bx (g5.symm.trans (q▸qx)))).trans (f.base b o qx)
  ·obtain rfl:=oi (hF.symm.trans hF');rw[if_pos (beq_self_eq_true _)];exact wpAny_pure (hQ s.heap f (fO.refl _) λNp q=>by injection q with q;subst q;exact⟨F,hF,oe,vs,T,oT,ts,e1,g2,g3,g4,g5,g6,g7,g8,g9,YO⟩)
theorem oH {k:Int}{e:Value}(f:ml C k e s)(hh:∀ea,e=.ref ea->As C ea s.heap)(fr:Option Addr)(eR:fr=none∨fr=C.env.frame){Q:Unit->Shared->Prop}{E:Value->Shared->Prop}
  (hQ:∀h',ml C k e {s with heap:=h'}->fO s.heap h'->(∀ea,e=.ref ea->Nn C ea h' (fr.elim .none λf=>rawInt f))->Q () {s with heap:=h'}) :
  wpAny C.M C.A (setFlight e fr) Q E s:=by
 refine bC λnG=>?_;obtain⟨ea,d,oe,od,t,rfl,e1,_⟩:=id f.obj;obtain⟨F,uv,xM,vs,T,oT,ts,h1,h2,h3,h4,h5,h6,h7,h8,h9,Sj⟩:=hh ea rfl;obtain rfl:=oi (e1.symm.trans h1);have ev:=fO.set 3 (fr.elim Value.none λf=>rawInt f) h7 h8
 have z:∃h',s.heap.update T (Obj.mapFields (·.setIfInBounds 3 (fr.elim Value.none λf=>rawInt f)))=h'∧fO s.heap h'∧h'.get? ea=some oe∧h'.get? T=some {oT with data:=.fields (ts.setIfInBounds 3 (fr.elim Value.none λf=>rawInt f))}∧∀b o,C.hb.get? b=some o->h'.get? b=some o :=
  ⟨_,rfl,ev,(Heap.get?_update_other _ _ h6).trans e1,xh h7 h8,λb o qx=>(Heap.get?_update_other _ _ (Ne.symm λq=>bx (h5.symm.trans (q▸qx)))).trans (f.base b o qx)⟩
 refine zP z λh' eh ev z1 z2 z3=>?_;refine nG ?_;unfold setFlight;refine wpAny_bind (wpAny_field e1 h2 h4 ?_);rw[if_pos (show(Value.ref T != Value.none)=true from rfl)];refine wpAny_setField h7 h8 h9 ?_;rw[eh];have s3:3<(ts.setIfInBounds 3 (fr.elim Value.none λf=>rawInt f)).size:=(Array.size_setIfInBounds ..).symm▸h9;have s4:=Array.getElem?_setIfInBounds_self_of_lt (a:=(fr.elim Value.none λf=>rawInt f)) h9;refine hQ h' (f.Ar ev z3 λNp q=>?_) ev λNp q=>by injection q with q;subst q;exact⟨oe,vs,T,_,_,z1,h2,h3,h4,h5,h6,z2,rfl,s3,s4⟩
 injection q with q;subst q;exact⟨oe,vs,z1,h2,h3,.inr ⟨T,_,_,_,h4,h5,h6,z2,rfl,s3,s4,eR.elim (λq=>.inl (q▸rfl)) λq=>.inr ⟨F,uv,by rw[q,uv];rfl⟩⟩⟩
end
end
section
theorem fS.Ar (k:fS own i s s'){h':Heap}(x:fO s'.heap h'):fS own i s {s' with heap:=h'}:=λb o e hn h1 h2 =>
 (k b o e hn h1 h2).elim λsl e'=>(x b _ e').elim λo' q=>⟨o'.slots,q.1.trans (congrArg some (H8 (o:=o) q.2.1 q.2.2.1 (q.2.2.2.1 hn)))⟩
theorem Ti {t:Sem α}{T:fJ α β}{T':fJ γ δ}{lc:β->Loc}{qj:δ->Loc}{r:R β}{g:β->HP->R δ}{Q:α->Shared->Prop}{Q':γ->Shared->Prop}{E E':Value->Shared->Prop}(h:eE C own i s lc T r t)(q:To C own i s qj T' (az r g) Q' E)
  (k:∀a b au aB ah,Rep C aB (lc b) au ah->aJ own i s aB ah->T aB ah.heap b a->To C own aB ah qj T' (g b au) Q' E->Q a ah) (hE:∀e s',PX C own i s (az r g) e s'->E' e s'):wpAny C.M C.A t Q E' s :=
 wpAny_mono (h (kU q.nb)) (λa ah x=>by
  refine fj x λb au aB eP h1 h2 h3=>?_;subst eP;exact k a b au aB ah h1 h2 h3 (To.up (r:=g b au) q h2)) λ_ _ x=>hE _ _ x.az
section
variable {n N:Nat}{d:cx}{c:Ca}(O:C.Ok n)(F:bT C.w.params)(D:cZ n d)
include O
theorem tY {outer:List Env}(eR:C.d8=C.env::outer){r:R β}{e:Value}{E:Value->Shared->Prop}(x:PX C own i s r e s')(hE:∀e s',PX C own i s r e s'->E e s'):notedBy C.M C.A C.env (λe xN=>cameBackBy C.M C.A C.env E e xN) e s':=by
 refine dP x λk er f kx=>?_;show wpAny _ _ (noteFrame e C.env) _ _ s';refine tW O eR f λh' f' ev held=>?_
 show wpAny _ _ (do
  if(<- field e 1)==.none then unsupported "frame.own-activation:exception-without-traceback"
  setFlight e C.env.frame) _ _ _
 obtain⟨ea,d,oe,od,t,rfl,e1,_⟩:=id f'.obj;obtain⟨F,hF,xM,vs,T,oT,ts,h1,h2,h3,h4,_⟩:=held ea rfl;refine wpAny_bind (wpAny_field (s:={s' with heap:=h'}) h1 h2 h4 ?_);rw[if_neg (show ¬((Value.ref T==Value.none)=true)from Bool.false_ne_true)];exact oH O f' held C.env.frame (.inr rfl) λdG Au Tj _=>hE _ _ ⟨k,er,Au,(kx.Ar ev).Ar Tj⟩
include F D
theorem Lc {outer:List Env}(eR:C.d8=C.env::outer)(ae:Rep C i loc hp s)(t:Expr)(b:List Stmt)(pos:Pos):SS C i s (fB N (d.te C.sc t) (b.map (d.st C.sc)) loc hp) (exec (.While t b [] pos) C.env):=by
 refine sn λ{Q E} q=>wpAny_While (codeAny_whileLoop (λm s'=>∃loc' hp' i',Rep C i' loc' hp' s'∧To C C.own i' s' (·.2) (tM C.no) (dH (d.te C.sc t) (aF (b.map (d.st C.sc))) m loc' hp') Q E) (λm s' hI=>?_) N ⟨loc,hp,i,ae,q⟩)
 refine lq hI λloc' hp' i' R' q=>?_;cases m with
 |zero=>exact q.jM
 |succ m =>
  refine Ti (D.te O F.base R' t).jt q (λx y au aB ah ak k₁ aP q=>?_) λe xN z=>tY O eR z q.e;subst aP;cases x with
  |false=>exact wpAny_execs_nil (To.fin (b:=(Fl.next,loc')) q ak trivial)
  |true =>
   refine Ti (nK O F D ⟨_,eR⟩ b ak) q (λf p bJ ck aO aV k₂ cW q=>?_) λe xN z=>tY O eR z q.e;obtain⟨fl,c8⟩:=p;cases fl with
   |next =>
    cases f with
    |next=>exact⟨m,Nat.lt_succ_self m,c8,bJ,ck,aV,q⟩
    |_=>exact cW.elim
   |ret v =>
    cases f with
    |ret a=>exact q.fin aV cW
    |_=>exact cW.elim
end
end
noncomputable abbrev Cx.cX (C:Cx) (l:List Addr):Cx:={C with no:=l}
theorem Val.re {no':List Addr}(ht:∀{a:Addr} {its:Array Value},a∉no->mh h a its->a∉no'){v:V}{a:Value}(x:Val no i h v a):Val no' i h v a :=
 Val.rec (motive_1:=λv a _=>Val no' i h v a) (motive_2:=λvs as _=>Vals no' i h vs as) .none .bool .int .str (λhn x _ y=>.tup (ht hn x) x y) .ref .fix .nil (λ_ _ x y=>.cons x y) x
theorem Vals.map {no':List Addr}{i':Pl}{h':Heap}(f:∀v a,Val no i h v a->Val no' i' h' v a){vs:List V}{as:List Value}(x:Vals no i h vs as):Vals no' i' h' vs as:=x.ind .nil λx _ y=>.cons (f _ _ x) y
theorem Val.sub {no':List Addr}(hs:∀b∈no',b∈no){v:V}{a:Value}(x:Val no i h v a):Val no' i h v a:=x.re λhn _ q=>hn (hs _ q)
theorem Vals.sub {no':List Addr}(hs:∀b∈no',b∈no){vs:List V}{as:List Value}(x:Vals no i h vs as):Vals no' i h vs as:=x.map λ_ _ x=>x.sub hs
theorem Val.fresh {wr:List Addr}(hs:∀b∈wr,h.get? b=Option.none){v:V}{a:Value}(x:Val no i h v a):Val (wr++no) i h v a :=
 x.re λhn x q=>(List.mem_append.mp q).elim (λq=>x.elim λn e=>bx ((hs _ q).symm.trans e)) hn
theorem Vals.fresh {wr:List Addr}(hs:∀b∈wr,h.get? b=none){vs:List V}{as:List Value}(x:Vals no i h vs as):Vals (wr++no) i h vs as:=x.map λ_ _ x=>x.fresh hs
theorem fb.map {P:Params}{no':List Addr}{i':Pl}{h':Heap}(f:∀v a,Val no i h v a->Val no' i' h' v a){es:List (Key×V)}{ds:List DictEntry}(x:fb no i P h es ds):fb no' i' P h' es ds:=by
 induction x with
 |nil=>exact .nil
 |cons x _ ih=>exact .cons (f _ _ x) ih
theorem fK.map {P:Params}{a:Addr}{o:O}{no':List Addr}{h':Heap}(x:fK no i P h a o)(f:∀v a,Val no i h v a->Val no' i h' v a)(e:h'.get? a=h.get? a):fK no' i P h' a o:=by
 cases o with
 |list xs=>obtain⟨its,n,h1,h2⟩:=x;exact⟨its,n,e.trans h1,h2.map f⟩
 |dict es=>obtain⟨ds,n,h1,h2,h3⟩:=x;exact⟨ds,n,e.trans h1,h2.map f,h3⟩
 |inst C d=>obtain⟨da,h1,h2⟩:=x;exact⟨da,h1,e.trans h2⟩
structure Apart (C:Cx)(wr:List Addr):Prop where
 own:∀b∈C.own,b∉wr
 d8:∀e∈C.d8,∀L,e.frame=some L->L∉wr
 cells:∀x∈C.names,∀k,C.sc.lookup x=some k->k≠.local->∀c,C.env.cells.lookup x=some c->c∉wr
theorem dN.cell {m:Str->Option Value}{x:Str}{k:NameKind}{v:Option V}{c:Addr}(mv:k≠.local)(hc:C.env.cells.lookup x=some c)(e3:dN C i h m x k v):∃a,h.IsCell c a:=by
 have z:(∃c a,C.env.cells.lookup x=some c∧h.IsCell c a∧∀u,v=some u->∃b,a=some b∧Val C.no i h u b)->∃a,h.IsCell c a:=λy=>by
  refine cb y λc' a h1 h2 _=>?_;obtain rfl:=oi (hc.symm.trans h1);exact⟨a,h2⟩
 cases k with
 | «local»=>exact absurd rfl mv
 |_=>exact z e3
theorem dN.map {m:Str->Option Value}{x:Str}{k:NameKind}{v:Option V}{no':List Addr}(vk:∀v a,Val C.no i h v a->Val no' i' h' v a)(kc:k≠.local->∀c a,C.env.cells.lookup x=some c->h.IsCell c a->h'.IsCell c a)(e3:dN C i h m x k v):dN (C.cX no') i' h' m x k v:=by
 have z:k≠.local->(∃c a,C.env.cells.lookup x=some c∧h.IsCell c a∧∀u,v=some u->∃b,a=some b∧Val C.no i h u b)->∃c a,C.env.cells.lookup x=some c∧h'.IsCell c a∧∀u,v=some u->∃b,a=some b∧Val no' i' h' u b:=λhk y =>
  y.imp λc y=>y.imp λa y=>⟨y.1,kc hk c a y.1 y.2.1,λu hu=>(y.2.2 u hu).imp λb r=>⟨r.1,vk _ _ r.2⟩⟩
 cases k with
 | «local»=>exact λu hu=>(e3 u hu).imp λa q=>⟨q.1,vk _ _ q.2⟩
 |_=>exact z (by decide) e3
theorem Rep.cell (R:Rep C i loc hp s){x:Str}(hx:x∈C.names){k:NameKind}(hk:C.sc.lookup x=some k)(mv:k≠.local){c:Addr}(hc:C.env.cells.lookup x=some c):∃a,s.heap.IsCell c a:=by
 refine aQ (List.mem_iff_getElem?.mp hx) λn hn=>?_;have hl:n<loc.length:=R.ll▸(List.getElem?_eq_some_iff.mp hn).1;refine aj (R.ns) λm _ kr=>?_;refine cb (kr n loc[n] (List.getElem?_eq_getElem hl)) λy ky e1 e2 e3=>?_;obtain rfl:=oi (hn.symm.trans e1);obtain rfl:=oi (hk.symm.trans e2);exact e3.cell mv hc
theorem Rep.apart (R:Rep C i loc hp s){wr:List Addr}(hf:∀b∈wr,s.heap.get? b=none):Apart C wr:=by
 refine⟨λb hb hm=>(R.own b hb).2.elim λo e=>bx ((hf b hm).symm.trans e.1),λe he L hL hm=>?_,λx hx k hk mv c hc hm=>(R.cell hx hk mv hc).elim λa y=>y.elim λo e=>bx ((hf c hm).symm.trans e.1)⟩;refine eG (funFrames_in R.fQ e he) λL' o h1 h2=>?_;obtain rfl:=oi (hL.symm.trans h1);exact bx ((hf L hm).symm.trans h2)
theorem Apart.cX (x:Apart C own)(l:List Addr):Apart (C.cX l) own:=⟨x.own,x.d8,x.cells⟩
theorem Rep.Fe {k:Nat}(O:C.Ok k)(R:Rep C i loc hp s){no' wr:List Addr}{h':Heap}{t:Nat}{d:Drawn}(ht:s.toks≤t)(vk:∀v a,Val C.no i s.heap v a->Val no' i h' v a)(ko:∀b o,b∉wr->s.heap.get? b=some o->h'.get? b=some o)
  (ap:Apart C wr) (hi:∀b∈wr,b∉i∧C.hb.get? b=none) (cS:∀b∈no',b∉i∧∃o,h'.get? b=some o):Rep (C.cX no') i loc hp {heap:=h',gens:=s.gens,drawn:=d,toks:=t,os:=s.os}:=by
 have kw:∀b∈i,∀o,s.heap.get? b=some o->h'.get? b=some o:=λb hb o e=>ko b o (λhm=>(hi b hm).1 hb) e
 refine⟨R.ns.imp λm x=>⟨?_,λn v e=>(x.2 n v e).imp λy' z=>z.imp λk w=>⟨w.1,w.2.1,w.2.2.map vk λhk c a hc y=>y.elim λo w'=>⟨o,ko c o (ap.cells y' (List.mem_of_getElem? w.1) k w.2.1 hk c hc) w'.1,w'.2⟩⟩⟩,R.len,λn o e=>?_,R.nd,R.new,λb hb=>⟨(R.own b hb).1,(R.own b hb).2.imp λo x=>⟨ko b o (ap.own b hb) x.1,x.2⟩⟩,
  λb o e=>ko b o (λhm=>bx ((hi b hm).2.symm.trans e)) (R.base b o e),?_,R.gens,R.os,Nat.lt_of_lt_of_le R.pos ht,R.ll,cS⟩
 ·refine lq (x.1) λo es ep e r=>?_;exact⟨o,es,ep,ko _ o (ap.own _ (.head _)) e,r⟩
 ·refine aj (R.objs n o e) λa e1 q=>?_;refine aj (q.some) λob e2 _=>?_;exact⟨a,e1,q.map vk ((kw a (List.mem_of_getElem? e1) ob e2).trans e2.symm)⟩
 ·have go:∀l:List Env,(∀e∈l,∀L,e.frame=some L->L∉wr)->s.heap.FunFrames C.hb l->h'.FunFrames C.hb l:=by
   intro l
   induction l with
   |nil=>intro _ _;trivial
   |cons e r ih=>exact λhl z=>⟨z.1,z.2.1.imp λL w=>w.imp λo q=>⟨q.1,q.2.1,ko L o (hl e (.head _) L q.1) q.2.2.1,q.2.2.2⟩,ih (λe he=>hl e (.tail _ he)) z.2.2⟩
  exact go _ ap.d8 R.fQ
theorem Rep.enter {k:Nat}(O:C.Ok k)(R:Rep C i loc hp s){wr:List Addr}{h':Heap}{t:Nat}{d:Drawn}(ht:s.toks≤t)(kp:∀b o,s.heap.get? b=some o->h'.get? b=some o)(hf:∀b∈wr,s.heap.get? b=none)(hw:∀b∈wr,∃o,h'.get? b=some o) :
  Rep (C.cX (wr++C.no)) i loc hp {heap:=h',gens:=s.gens,drawn:=d,toks:=t,os:=s.os}:=by
 refine R.Fe O (wr:=[]) ht (λv a x=>(x.fresh hf).keep (bB.refl i) (bq.of kp)) (λb o _ e=>kp b o e) ⟨by simp,by simp,by simp⟩ (by simp) λb hb=>?_;rcases List.mem_append.mp hb with q|q
 ·refine⟨λhm=>?_,hw b q⟩;refine cb (R.gw hm) λ_ _ _ _ x=>?_;refine aj (x.some) λo e _=>?_;rw[hf b q]at e;exact(Option.some_ne_none _ e.symm).elim
 ·obtain⟨h1,o,e⟩:=R.d9 b q;exact⟨h1,o,kp b o e⟩
theorem Cx.Ok.cX {k:Nat}(O:C.Ok k){l:List Addr}(h:∀b∈l,C.hb.get? b=none):(C.cX l).Ok k :=
 ⟨O.frames,O.depth,O.units,O.handled,O.dI,O.top,O.kind,O.globals,O.builtins,λx kd e=>by
  refine bp (O.names x kd e) λh1 h2=>?_;refine⟨?_,h2⟩;cases kd<;>exact h1,O.nd,O.cells,O.nD,O.above,h,O.frame,O.func⟩
theorem Rep.leave {k:Nat}(O:C.Ok k){l:List Addr}(hs:∀b∈C.no,b∈l)(hl:∀b∈l,C.hb.get? b=none){wr:List Addr}(uM:∀b∈wr,b∈l)(ap:Apart C wr)(R:Rep (C.cX l) i loc hp s)(hd:∀b∈C.no,b∉wr){h':Heap}{t:Nat}{d:Drawn}(ht:s.toks≤t)
  (ko:∀b o,b∉wr->s.heap.get? b=some o->h'.get? b=some o):Rep C i loc hp {heap:=h',gens:=s.gens,drawn:=d,toks:=t,os:=s.os}:=by
 have:=Rep.Fe (C:=C.cX l) (no':=C.no) (wr:=wr) (d:=d) (O.cX hl) R ht (λv a x=>(x.keep (bB.refl i) (λb its hb ⟨n,e⟩=>⟨n,ko b _ (λq=>hb (uM b q)) e⟩)).sub hs) ko (ap.cX l) (λb hb=>⟨(R.d9 b (uM b hb)).1,hl b (uM b hb)⟩) λb hb=>by
  obtain⟨h1,o,e⟩:=R.d9 b (hs b hb);exact⟨h1,o,ko b o (hd b hb) e⟩
 exact this
theorem Rep.turn {k:Nat}(O:C.Ok k){wr:List Addr}(uM:∀b∈wr,b∈C.no)(ap:Apart C wr)(R:Rep C i loc hp s){h':Heap}{t:Nat}{d:Drawn}(ht:s.toks≤t)
  (ko:∀b o,b∉wr->s.heap.get? b=some o->h'.get? b=some o) (hw:∀b∈wr,∃o,h'.get? b=some o):Rep C i loc hp {heap:=h',gens:=s.gens,drawn:=d,toks:=t,os:=s.os}:=by
 have:=Rep.Fe (C:=C) (no':=C.no) (wr:=wr) (d:=d) O R ht (λv a x=>x.keep (bB.refl i) (λb its hb ⟨n,e⟩=>⟨n,ko b _ (λq=>hb (uM b q)) e⟩)) ko ap (λb hb=>⟨(R.d9 b (uM b hb)).1,O.noNew b (uM b hb)⟩) λb hb=>by
  obtain⟨h1,o,e⟩:=R.d9 b hb;refine⟨h1,?_⟩;by_cases q:b∈wr
  ·exact hw b q
  ·exact⟨o,ko b o q e⟩
 exact this
theorem aJ.turn (k:aJ own i s i' s'){wr:List Addr}(hf:∀b∈wr,s.heap.get? b=none){h':Heap}{t:Nat}{d:Drawn}(ko:∀b o,b∉wr->s'.heap.get? b=some o->h'.get? b=some o){aO:Shared}(e:aO.heap=h'):aJ own i s i' aO:=by
 have nw:∀b o,s.heap.get? b=some o->b∉wr:=λb o e hm=>bx ((hf b hm).symm.trans e);subst e;exact⟨λb o eb h1 h2=>ko b o (nw b o eb) (k.keep b o eb h1 h2),λb o eb=>(k.live b o eb).imp λo' e'=>ko b o' (nw b o eb) e',k.grow⟩
def jO (tg:Expr):Prop:=(∃x p,tg=.Name x p)∨∃es k p,tg=.Tuple es k p
def oJ (tg:Expr):Prop:=∃es k p,tg=.Tuple es k p
def Off (wr:List Addr)(h h':Heap):Prop:=∀b o,b∉wr->h.get? b=some o->h'.get? b=some o
def tZ (wr:List Addr)(h:Heap):Prop:=∀b∈wr,∃o,h.get? b=some o
structure Iter (C:Cx)(wr:List Addr)(I:Addr)(P:Expr->Prop)(at_:List Addr->It->Pl->Heap->Prop):Prop where
 sub:∀b∈wr,b∈C.no
 keep:∀{it:It} {i i':Pl} {h h':Heap},at_ C.no it i h->bB i i'->bq C.no h h'->(∀b∈wr,∀o,h.get? b=some o->h'.get? b=some o)->at_ C.no it i' h'
 fresh:∀{no x:List Addr} {it:It} {i:Pl} {h:Heap},at_ no it i h->(∀b∈x,h.get? b=none)->at_ (x++no) it i h
 self:∀{it:It} {i:Pl} {s:Shared},at_ C.no it i s.heap->∀{Q:Value->Shared->Prop} {E:Value->Shared->Prop},Q (.ref I) s->wpAny C.M C.A (pyIter (.ref I)) Q E s
 next:∀{it:It} {i:Pl} {loc:Loc} {hp:HP} {s:Shared} {r:Option (V×It)},Rep C i loc hp s->at_ C.no it i s.heap->it.next hp=some r->∀{Q:Option Value->Shared->Prop} {E:Value->Shared->Prop},
  (r=none->∀h' t,Off wr s.heap h'->s.toks≤t->Q none {s with heap:=h',toks:=t}) ->
  (∀v f9,r=some (v,f9)->∀a h' t,Off wr s.heap h'->tZ wr h'->s.toks≤t->Val C.no i h' v a ->
   (∀{tg:Expr} {Q:Unit->Shared->Prop} {E:Value->Shared->Prop},P tg->(∀dG,Off wr h' dG->tZ wr dG->at_ C.no f9 i dG->Q () {s with heap:=dG,toks:=t})->wpAny C.M C.A (letOwnedTupleGo tg (.ref I) a) Q E {s with heap:=h',toks:=t})->Q (some a) {s with heap:=h',toks:=t}) ->
  wpAny C.M C.A (pyNext (.ref I)) Q E s
def Hf (n:Nat)(wr:List Addr)(I:Addr)(P:Expr->Prop)(at_:List Addr->It->Pl->Heap->Prop):Prop:=∀{C:Cx},C.Ok n->(∀b∈wr,b∈C.no)->Iter C wr I P at_
theorem oK {M:Model}{A:Around}{Q:Unit->Shared->Prop}{E:Value->Shared->Prop}{I:Addr}{o:Obj}{cls:String}{vs:Array Value}{tg:Expr}{a:Value}(ho:s.heap.get? I=some o)(hc:o.cls=.type cls)(hd:o.data=.fields vs)
  (hn:(["enumerate","zip","dict_itemiterator","dict_reverseitemiterator","odict_iterator","itertools.zip_longest","itertools.pairwise"].contains cls)=false) (hP:jO tg) (hQ:Q () s):wpAny M A (letOwnedTupleGo tg (.ref I) a) Q E s:=by
 rcases hP with⟨x,p,rfl⟩|⟨es,k,p,rfl⟩
 ·exact wpAny_pure hQ
 ·unfold letOwnedTupleGo;cases a with
  |ref t =>
   refine wpAny_bind (wpAny_load ho ?_);rw[hc,hd];show wpAny _ A (if(["enumerate","zip","dict_itemiterator","dict_reverseitemiterator","odict_iterator","itertools.zip_longest","itertools.pairwise"].contains cls&&vs[0]?==some (rawInt t))=true then _ else _) Q E s
   rw[hn,Bool.false_and,if_neg (by simp)];exact wpAny_pure hQ
  |_=>exact wpAny_pure hQ
section
theorem Off.tk {no wr:List Addr}(k:Off wr h h')(hs:∀b∈wr,b∈no):bq no h h':=λb its hb ⟨n,e⟩=>⟨n,k b _ (λq=>hb (hs b q)) e⟩
theorem Off.of {a:Addr}{wr:List Addr}(k:Heap.SameBut a h h')(ha:a∈wr):Off wr h h':=λb o hb e=>(k.2 b (λq=>hb (q▸ha))).trans e
theorem Off.ext {a:Addr}{wr:List Addr}(k:Heap.ExtBut a h h')(ha:a∈wr):Off wr h h':=λb o hb e=>k b o (λq=>hb (q▸ha)) e
theorem Off.refl (wr:List Addr)(h:Heap):Off wr h h:=λ_ _ _ e=>e
section
variable {n:Nat}(O:C.Ok n)
include O
omit O in
theorem ju {a:Addr}{o:Obj}(e:h.get? a=some o):tZ [a] h:=λb hb=>⟨o,List.mem_singleton.mp hb▸e⟩
omit O in
theorem jP {a:Addr}{l:List Addr}{o:Obj}(e:h.get? a=some o)(x:tZ l h):tZ (a::l) h:=λb hb=>(List.mem_cons.mp hb).elim (λq=>⟨o,q▸e⟩) (x b)
omit O in
theorem wD {a:Addr}{l:List Addr}(e:a∈l):∀b∈[a],b∈l:=λb hb=>List.mem_singleton.mp hb▸e
omit O in
theorem Av {α:Type}{l r:List α}{k:Nat}{v:α}(e:l.drop k=v::r):l[k]?=some v∧l.drop (k+1)=r:=by
 have h:=List.getElem?_drop (xs:=l) (i:=k) (j:=0);rw[e]at h;exact⟨h.symm,by rw[<- List.drop_drop,e];rfl⟩
inductive Tn (I:Addr)(no:List Addr)(it:It)(i:Pl)(h:Heap):Prop
 |mk (n k:Nat) (a:Addr) (e:it=.lst n k) (e1:i[n]?=some a) (e2:h.IsListIter I a k)
theorem Iter.list {I:Addr}(hI:I∈C.no):Iter C [I] I jO (Tn I) where
 sub:=wD hI
 keep:=by
  rintro _ _ _ _ _ ⟨n,k,a,e,e1,e2⟩ g tk kw;exact⟨n,k,a,e,g.get e1,e2.at λo e=>kw I (.head _) o e⟩
 fresh:=λx _=>x.casesOn λn k a e e1 e2=>⟨n,k,a,e,e1,e2⟩
 self:=by
  rintro _ _ _ ⟨n,k,a,e,e1,e2⟩ _ _ hQ;exact wpAny_pyIter_listiter e2 hQ
 next:=by
  intro it i loc hp s r R zz hr Q E h0 h1;obtain⟨n,k,a,rfl,e1,e2⟩:=zz;refine aj (bE hr) λl q hr=>?_;refine eG (R.ref e1 (dD q)) λits nn hl hv=>?_;have hL:s.heap.IsList a its:=⟨_,hl,rfl,nn,rfl⟩;cases nN:l[k]? with
  |some v =>
   rw[nN]at hr;obtain rfl:=oi hr;refine aj (hv.get nN) λx hx Aw=>?_;refine wpAny_pyNext_list_item e2 hL (x:=x) (by rw[<- Array.getElem?_toList];exact hx) λh' hit hs=>?_;have off:=Off.of (wr:=[I]) hs (.head _);refine dP (id hit) λoI Ax Tp Tq=>?_
   exact h1 v _ rfl x h' s.toks off (ju Ax) (Nat.le_refl _) (Aw.keep (bB.refl i) (off.tk (wD hI))) λhP hQ =>
    oK (s:={s with heap:=h',toks:=s.toks}) Ax Tp Tq (by decide) hP (hQ h' (Off.refl _ _) (ju Ax) ⟨n,k+1,a,rfl,e1,hit⟩)
  |none =>
   rw[nN]at hr;obtain rfl:=oi hr;refine wpAny_pyNext_list_end O.handled e2 hL ?_ λh' he=>h0 rfl h' s.toks (Off.ext he (.head _)) (Nat.le_refl _);rw[Array.getElem?_eq_none_iff,<- Array.length_toList,<- hv.length];exact List.getElem?_eq_none_iff.mp nN
inductive Xp (I:Addr)(no:List Addr)(it:It)(i:Pl)(h:Heap):Prop
 |mk (k:Nat) (t:Addr) (its:Array Value) (vs:List V) (e:it=.vals (vs.drop k)) (e1:t∉no) (e2:mh h t its) (e3:Vals no i h vs its.toList) (e4:h.IsTupleIter I t k)
theorem Iter.tup {I:Addr}(hI:I∈C.no):Iter C [I] I jO (Xp I) where
 sub:=wD hI
 keep:=by
  rintro _ _ _ _ _ ⟨k,t,its,vs,e,e1,e2,e3,⟨o,e4,r⟩⟩ g tk kw;exact⟨k,t,its,vs,e,e1,tk _ _ e1 e2,e3.keep g tk,⟨o,kw I (.head _) o e4,r⟩⟩
 fresh:=λx hf=>x.casesOn λk t its vs e e1 e2 e3 e4=>⟨k,t,its,vs,e,λq=>(List.mem_append.mp q).elim (λq=>e2.elim λm e5=>bx ((hf _ q).symm.trans e5)) e1,e2,e3.fresh hf,e4⟩
 self:=by
  rintro _ _ _ ⟨k,t,its,vs,e,e1,e2,e3,e4⟩ _ _ hQ;exact wpAny_pyIter_tupleiter e4 hQ
 next:=by
  intro it i loc hp s r R zz hr Q E h0 h1;obtain⟨k,t,its,vs,rfl,e1,e2,e3,e4⟩:=zz;have hT:s.heap.IsTuple t its:=e2.elim λn e=>⟨_,e,rfl,n,rfl⟩;cases hd:vs.drop k with
  |nil =>
   rw[hd]at hr;obtain rfl:=oi hr;refine wpAny_pyNext_tuple_end O.handled e4 hT ?_ λh' he=>h0 rfl h' s.toks (Off.ext he (.head _)) (Nat.le_refl _);rw[Array.getElem?_eq_none_iff,<- Array.length_toList,<- e3.length];exact List.drop_eq_nil_iff.mp hd
  |cons v l =>
   rw[hd]at hr;obtain rfl:=oi hr;refine bp (Av hd) λnN aC=>?_;subst aC;refine aj (e3.get nN) λx hx Aw=>?_;refine wpAny_pyNext_tuple_item e4 hT (x:=x) (by rw[<- Array.getElem?_toList];exact hx) λh' hit hs=>?_;have off:=Off.of (wr:=[I]) hs (.head _);have tk:=off.tk (wD hI);refine dP (id hit) λoI Ax Tp Tq=>?_
   exact h1 v _ rfl x h' s.toks off (ju Ax) (Nat.le_refl _) (Aw.keep (bB.refl i) tk) λhP hQ =>
    oK (s:={s with heap:=h',toks:=s.toks}) Ax Tp Tq (by decide) hP (hQ h' (Off.refl _ _) (ju Ax) ⟨k+1,t,its,vs,rfl,e1,tk _ _ e1 e2,e3.keep (bB.refl i) tk,hit⟩)
inductive O7 (I:Addr)(no:List Addr)(it:It)(i:Pl)(h:Heap):Prop
 |mk (k m:Nat) (e:it=.vals ((List.range' k m).map λ(j:Nat)=>V.int j)) (e1:IsRangeIter h I k m 1)
theorem Iter.range {I:Addr}(hI:I∈C.no):Iter C [I] I jO (O7 I) where
 sub:=wD hI
 keep:=by
  rintro _ _ _ _ _ ⟨k,m,e,e1⟩ g tk kw;exact⟨k,m,e,kw I (.head _) _ e1⟩
 fresh:=λx _=>x.casesOn λk m e e1=>⟨k,m,e,e1⟩
 self:=by
  rintro _ _ _ ⟨k,m,e,e1⟩ _ _ hQ;exact wpAny_pyIter_rangeiter e1 hQ
 next:=by
  intro it i loc hp s r R zz hr Q E h0 h1;obtain⟨k,m,rfl,e1⟩:=zz;cases m with
  |zero =>
   cases hr
   exact wpAny_pyNext_range_end O.handled e1 (by simp) λh' he=>h0 rfl h' s.toks (Off.ext he (.head _)) (Nat.le_refl _)
  |succ m =>
   rw[List.range'_succ]at hr;cases hr
   refine wpAny_pyNext_range_item e1 (Int.ofNat_lt.mpr (Nat.succ_pos m)) λh' hit hs=>?_
   exact h1 _ _ rfl _ h' (s.toks+1) (Off.of hs (.head _)) (ju hit) (Nat.le_succ _) (.int _ _) λhP hQ =>
    oK (s:={s with heap:=h',toks:=s.toks+1}) hit rfl rfl (by decide) hP (hQ h' (Off.refl _ _) (ju hit) ⟨k+1,m,rfl,Int.add_sub_cancel (m:Int) 1▸hit⟩)
inductive Ts (e it:Addr)(cls:String)(l:List Nat)(t:Tok)(no:List Addr)(YQ:It)(i:Pl)(h:Heap):Prop
 |mk (k:Nat) (old:Value) (h1:YQ=.vals (eZ k (l.drop k))) (h4:k≤l.length) (h2:IsEnum h e it k old) (h3:h.IsStrIter it cls (S l) t k)
theorem Iter.enum {e it:Addr}{cls:String}{l:List Nat}{t:Tok}(DD:∀(w:World) (A:Around),A.handled=none->Draws pw w A it [it] (S l).cps.size (λi v=>∃c u,(S l).cps[i]?=some c∧v=.str ⟨#[c]⟩ u) (λi h=>h.IsStrIter it cls (S l) t i))
  (he:e∈C.no) (hi:it∈C.no) (ja:e≠it):Iter C [e,it] e oJ (Ts e it cls l t) where
 sub:=λb hb=>(List.mem_cons.mp hb).elim (λq=>q▸he) (wD hi b)
 keep:=by
  rintro _ _ _ _ _ ⟨k,old,h1,h4,h2,⟨o,h3,r⟩⟩ g tk kw;exact⟨k,old,h1,h4,kw e (.head _) _ h2,⟨o,kw it (.tail _ (.head _)) o h3,r⟩⟩
 fresh:=λx _=>x.casesOn λk old h1 h4 h2 h3=>⟨k,old,h1,h4,h2,h3⟩
 self:=by
  rintro _ _ _ ⟨k,old,h1,h4,h2,h3⟩ _ _ hQ;exact wpAny_pyIter_enum h2 hQ
 next:=by
  intro YQ i loc hp s r R zz hr Q E h0 h1;obtain⟨k,old,rfl,hk,e1,e2⟩:=zz;have D:=DD C.w C.A.in1 O.handled;have xD:(S l).cps.size=l.length:=List.size_toArray;cases hd:l.drop k with
  |nil =>
   rw[hd]at hr;obtain rfl:=oi hr;have Tt:k=(S l).cps.size:=(Nat.le_antisymm hk (List.drop_eq_nil_iff.mp hd)).trans xD.symm;rw[Tt]at e2;exact wpAny_pyNext_enum_endD D e1 e2 λh' he=>h0 rfl h' s.toks (Off.ext he (.tail _ (.head _))) (Nat.le_refl _)
  |cons c r' =>
   rw[hd]at hr;obtain rfl:=oi hr;refine bp (Av hd) λhc hdr=>?_;have iD:k<l.length:=(List.getElem?_eq_some_iff.mp hc).1;refine wpAny_with_toks (Nat.le_refl s.toks) ?_;refine wpAny_pyNext_enum_itemD D e1 e2 (by rw[xD];exact iD) ja (by simp[ja]) λx h' tk hP ho hst hT hz hko SX=>?_;refine eG hP λc' u pY eP=>?_;subst eP;obtain rfl:c=c':=oi (hc.symm.trans (List.getElem?_toArray.symm.trans pY));have off:Off [e,it] s.heap h':=λb o hb eb=>hko b o (λq=>hb (q▸.head _)) (λq=>hb (q▸.tail _ (.head _))) eb;refine aj (id hst) λo2 Ia r2=>?_;refine h1 _ _ rfl _ h' (tk+1) off (jP ho (ju Ia)) (by exact SX) (.tup (R.wq) ⟨_,hT⟩ (.cons (.int _ _) (.cons (.str [c] u) .nil))) λhP hQ=>?_;refine ot hP λes k' p eP=>?_;subst eP;exact wpAny_letOwnedTupleGo_enum (s:={s with heap:=h',toks:=tk+1}) ho λdG Tu oM=>hQ dG (Off.of oM (.head _)) (jP Tu (ju ((oM.2 it (Ne.symm ja)).trans Ia))) ⟨k+1,.str ⟨#[c]⟩ u,by rw[hdr],iD,Tu,o2,(oM.2 it (Ne.symm ja)).trans Ia,r2⟩
structure Tv (z TI TO i1 i2:Addr):Prop where
 TIz:TI≠z
 TOz:TO≠z
 i1z:i1≠z
 i2z:i2≠z
 TITO:TI≠TO
 TIi1:TI≠i1
 TIi2:TI≠i2
 TOi1:TO≠i1
 TOi2:TO≠i2
 i12:i1≠i2
inductive Xq (z TI TO i1 i2:Addr)(no:List Addr)(it:It)(i:Pl)(h:Heap):Prop
 |mk (n1 n2 k:Nat) (l1 l2:Addr) (a b:Value) (e:it=.zip n1 n2 k) (e1:i[n1]?=some l1) (e2:i[n2]?=some l2) (hz:IsZip h z TI TO .none) (qy:IsPair h TI (.ref i1) (.ref i2)) (tm:IsPair h TO a b) (C0:h.IsListIter i1 l1 k) (C1:h.IsListIter i2 l2 k)
theorem Iter.zip {z TI TO i1 i2:Addr}(V:Tv z TI TO i1 i2)(hn:∀b∈[z,TI,TO,i1,i2],b∈C.no):Iter C [z,TI,TO,i1,i2] z oJ (Xq z TI TO i1 i2) where
 sub:=hn
 keep:=by
  rintro _ _ _ _ _ ⟨n1,n2,k,l1,l2,a,b,e,e1,e2,hz,qy,tm,h1,h2⟩ g tk kw;exact⟨n1,n2,k,l1,l2,a,b,e,g.get e1,g.get e2,kw z (.head _) _ hz,kw TI (.tail _ (.head _)) _ qy,kw TO (.tail _ (.tail _ (.head _))) _ tm,h1.at λo e=>kw i1 (.tail _ (.tail _ (.tail _ (.head _)))) o e,h2.at λo e=>kw i2 (.tail _ (.tail _ (.tail _ (.tail _ (.head _))))) o e⟩
 fresh:=λx _=>x.casesOn λn1 n2 k l1 l2 a b e e1 e2 hz qy tm h1 h2=>⟨n1,n2,k,l1,l2,a,b,e,e1,e2,hz,qy,tm,h1,h2⟩
 self:=by
  rintro _ _ _ ⟨n1,n2,k,l1,l2,a,b,e,e1,e2,hz,_⟩ _ _ hQ;exact wpAny_pyIter_zip hz hQ
 next:=by
  intro it i loc hp s r R zz hr Q E h0 h1;obtain⟨n1,n2,k,l1,l2,a,b,rfl,e1,e2,hz,qy,tm,C0,C1⟩:=zz;refine aj (bE hr) λl q1 hr=>?_;refine aj (bE hr) λm q2 hr=>?_;refine eG (R.ref e1 (dD q1)) λxs nx hx Aw=>?_;refine eG (R.ref e2 (dD q2)) λys ny hy YR=>?_;have hX:s.heap.IsList l1 xs:=⟨_,hx,rfl,nx,rfl⟩;have hY:s.heap.IsList l2 ys:=⟨_,hy,rfl,ny,rfl⟩;have Nq:∀b∈[z,TI,TO,i1,i2],l1≠b:=λb hb q=>(R.d9 b (hn b hb)).1 (q▸List.mem_of_getElem? e1);have Nr:∀b∈[z,TI,TO,i1,i2],l2≠b:=λb hb q=>(R.d9 b (hn b hb)).1 (q▸List.mem_of_getElem? e2);have m1:TO∈[z,TI,TO,i1,i2]:=.tail _ (.tail _ (.head _));have m2:i1∈[z,TI,TO,i1,i2]:=.tail _ (.tail _ (.tail _ (.head _)));have m3:i2∈[z,TI,TO,i1,i2]:=.tail _ (.tail _ (.tail _ (.tail _ (.head _))));have D:ZipApart z TI TO i1 i2 l1 l2:=⟨V.TIz,V.TOz,V.i1z,V.i2z,V.TITO,V.TIi1,V.TIi2,V.TOi1,V.TOi2,V.i12,Nq _ (by simp),Nq _ (by simp),Nq _ (by simp),Nq _ (by simp),Nr _ (by simp),Nr _ (by simp),Nr _ (by simp),Nr _ (by simp)⟩;have Nt:∀{h':Heap},(∀c o,c≠z->c≠TO->c≠i1->c≠i2->s.heap.get? c=some o->h'.get? c=some o)->Off [z,TI,TO,i1,i2] s.heap h':=λhk c o hc e=>hk c o (λq=>hc (q▸.head _)) (λq=>hc (q▸m1)) (λq=>hc (q▸m2)) (λq=>hc (q▸m3)) e;cases nN:l[k]? with
  |some v =>
   cases C2:m[k]? with
   |none=>rw[nN,C2]at hr;exact bx hr
   |some u =>
    rw[nN,C2]at hr;obtain rfl:=oi hr;refine aj (Aw.get nN) λx YS hxv=>?_;refine aj (YR.get C2) λy H4 hyv=>?_;refine wpAny_pyNext_zip_item D hz qy tm C0 C1 hX hY (x:=x) (y:=y) (by rw[<- Array.getElem?_toList];exact YS) (by rw[<- Array.getElem?_toList];exact H4) λh' a1 a2 a3 a4 a5 a6 hk=>?_;have off:=Nt hk;have tk:=off.tk hn;have Tw:IsPair h' TI (.ref i1) (.ref i2):=hk TI _ V.TIz V.TITO V.TIi1 V.TIi2 qy
    have live:∀{dG:Heap} {f:Value},IsZip dG z TI TO f->IsPair dG TI (.ref i1) (.ref i2)->IsPair dG TO x y->dG.IsListIter i1 l1 (k+1)->dG.IsListIter i2 l2 (k+1)->tZ [z,TI,TO,i1,i2] dG:=λq1 q2 q3 q4 q5 =>
     q4.elim λo4 q4=>q5.elim λo5 q5=>jP q1 (jP q2 (jP q3 (jP q4.1 (ju q5.1))))
    refine h1 _ _ rfl _ h' s.toks off (live a1 Tw a2 a3 a4) (Nat.le_refl _) (.tup (R.wq) ⟨_,a5⟩ (.cons (hxv.keep (bB.refl i) tk) (.cons (hyv.keep (bB.refl i) tk) .nil))) λhP hQ=>?_;refine ot hP λes k' p eP=>?_;subst eP;refine wpAny_letOwnedTupleGo_zip (s:={s with heap:=h',toks:=s.toks}) a1 λdG Tz oM=>?_;have b2:IsPair dG TI (.ref i1) (.ref i2):=(oM.2 TI V.TIz).trans Tw;have b3:IsPair dG TO x y:=(oM.2 TO V.TOz).trans a2;have b4:=a3.extBut oM.extBut V.i1z;have b5:=a4.extBut oM.extBut V.i2z;exact hQ dG (Off.of oM (.head _)) (live Tz b2 b3 b4 b5) ⟨n1,n2,k+1,l1,l2,x,y,rfl,e1,e2,Tz,b2,b3,b4,b5⟩
  |none =>
   cases C2:m[k]? with
   |some u=>rw[nN,C2]at hr;exact bx hr
   |none =>
    rw[nN,C2]at hr;obtain rfl:=oi hr;refine wpAny_pyNext_zip_end O.handled D hz qy tm C0 C1 hX hY (.inl ?_) λh' hk=>h0 rfl h' s.toks (Nt hk) (Nat.le_refl _);rw[Array.getElem?_eq_none_iff,<- Array.length_toList,<- Aw.length];exact List.getElem?_eq_none_iff.mp nN
end
end
section
section
variable {n N:Nat}{d:cx}{c:Ca}(O:C.Ok n)(F:bT C.w.params)(D:cZ n d)
include O F D
omit D in
theorem mN (ae:Rep C i loc hp s){x:Str}{v:Value}(pos:Pos)(hk:C.sc.lookup x=some .globalImplicit)(hg:iR.lookup x=some (.fix v)){Q:Value->Shared->Prop}{E:Value->Shared->Prop}(hQ:∀aB ah,Rep C aB loc hp ah->aJ [] i s aB ah->Q v ah):wpAny C.M C.A (eval (.Name x pos) C.env) Q E s :=
 YJ (hG (own:=[]) (pos:=pos) O ae (x:=x) λw hw=>F.base.iR x w hw) (show gP C.sc x loc hp=.ok (.fix v) hp by unfold gP;rw[hk,hg];rfl) λa aB ah _ ak k₁ aP=>aP.km▸hQ aB ah ak k₁
omit F D in
theorem jC (ae:Rep C i loc hp s){b:Addr}(e:s.heap.get? b=none):C.hb.get? b=none:=by
 cases z:C.hb.get? b with
 |none=>rfl
 |some o=>rw[ae.base b o z]at e;exact(Option.some_ne_none _ e).elim
omit O F D in
theorem aJ.none (k:aJ own i s i' s'){b:Addr}(e:s'.heap.get? b=none):s.heap.get? b=none:=by
 cases z:s.heap.get? b with
 |none=>rfl
 |some o=>obtain⟨o',e'⟩:=k.live b o z;rw[e]at e';exact(Option.some_ne_none _ e'.symm).elim
omit O F D in
theorem eS (h:Heap)(k:Nat):h.get? (h.objs.size+k)=none:=by
 cases q:h.get? (h.objs.size+k)with
 |none=>rfl
 |some o=>exact absurd (Heap.lt_size q) (Nat.not_lt.mpr (Nat.le_add_right _ _))
omit O F D in
theorem jk {z a b:Nat}(h:a≠b):z+a≠z+b:=λq=>h (Nat.add_left_cancel q)
omit O F D in
theorem O8 (z:Nat):Tv (z+4) (z+2) (z+3) z (z+1) :=
 ⟨jk (by decide),jk (by decide),jk (a:=0) (by decide),jk (by decide),jk (by decide),jk (b:=0) (by decide),jk (by decide),jk (b:=0) (by decide),jk (by decide),jk (a:=0) (by decide)⟩
def nO (iter tg:Expr):Prop:=jO tg∧(kj iter=true->oJ tg)
inductive Hg (C:Cx)(n:Nat)(i:Pl)(loc:Loc)(s:Shared)(tg:Expr)(it:It)(au:HP)(aB:Pl)(ah:Shared)(I:Addr):Prop
 |mk (wr:List Addr) (P:Expr->Prop) (at_:List Addr->It->Pl->Heap->Prop) (hf:∀b∈wr,s.heap.get? b=none) (mk:Hf n wr I P at_) (hP:P tg) (R:Rep (C.cX (wr++C.no)) aB loc au ah) (k:aJ [] i s aB ah) (a:at_ (wr++C.no) it aB ah.heap) (ap:Apart C wr) (O:(C.cX (wr++C.no)).Ok n) (hI:I∈wr)
structure jD (C:Cx)(n:Nat)(i:Pl)(loc:Loc)(s:Shared)(tg:Expr)(r:R It)(Q:Value->Shared->Prop)(E:Value->Shared->Prop):Prop where
 nb:r≠.bad
 q:∀{it au aB I ah},r=.ok it au->Hg C n i loc s tg it au aB ah I->Q (.ref I) ah
 e:∀{x s'},PX C [] i s r x s'->E x s'
structure lz (C:Cx)(n:Nat)(i:Pl)(loc:Loc)(s:Shared)(tg:Expr)(r:R It)(iter:Expr):Prop where
 go:∀{Q:Value->Shared->Prop} {E:Value->Shared->Prop},jD C n i loc s tg r Q E->wpAny C.M C.A (eval iter C.env) (λx ah=>wpAny C.M C.A (pyIter x) Q E ah) E s
section
variable {tg:Expr}{it:It}{I:Addr}{P:Expr->Prop}{at_:List Addr->It->Pl->Heap->Prop}
omit O F D in
theorem Ff (h:Heap):∀b∈[h.objs.size],h.get? b=none:=λb hb=>List.mem_singleton.mp hb▸eS _ 0
omit F D in
theorem wF (ak:Rep C i loc hp s){wr:List Addr}{h':Heap}(hf:∀b∈wr,s.heap.get? b=none)(kp:∀b o,s.heap.get? b=some o->h'.get? b=some o)(hl:tZ wr h')(hI:I∈wr)(mk:Hf n wr I P at_)(hP:P tg)
  (ha:at_ (wr++C.no) it i h'):Hg C n i loc s tg it hp i {s with heap:=h'} I :=
 ⟨wr,P,at_,hf,mk,hP,ak.enter O (wr:=wr) (t:=s.toks) (d:=s.drawn) (Nat.le_refl _) kp hf hl,(ak.more (own:=[]) (t:=s.toks) (d:=s.drawn) kp).2,ha,ak.apart hf,
  O.cX λb hb=>(List.mem_append.mp hb).elim (λq=>jC O ak (hf b q)) (O.noNew b),hI⟩
omit F D in
theorem qz (ak:Rep C i loc hp s){ob:Obj}(e:(s.heap.push ob).get? s.heap.objs.size=some ob)(mk:Hf n [s.heap.objs.size] s.heap.objs.size P at_)(hP:P tg)
  (ha:at_ (s.heap.objs.size::C.no) it i (s.heap.push ob)):Hg C n i loc s tg it hp i {s with heap:=s.heap.push ob} s.heap.objs.size :=
 wF O ak (Ff _) (λ_ _ e=>Heap.get?_push_of_some _ e) (ju e) (List.mem_singleton.mpr rfl) mk hP ha
variable {a:Value}{Q:Value->Shared->Prop}{Q':α->Shared->Prop}{E:Value->Shared->Prop}
omit O F D in
theorem jD.up {r:R It}(q:jD C n i loc s tg r Q E)(k:aJ [] i s aB ah):jD C n aB loc ah tg r Q E :=
 ⟨q.nb,λe m=>q.q e (m.casesOn λwr P at_ hf mk hP R k' a ap O hI=>⟨wr,P,at_,λb hb=>k.none (hf b hb),mk,hP,R,k.trans k',a,ap,O,hI⟩),λx=>q.e (x.up k)⟩
omit O F D in
theorem jD.jM (q:jD C n i loc s tg .bad Q E){P:Prop}:P:=absurd rfl q.nb
omit O F D in
theorem jD.rB {κ:Type}{o:Option κ}{f:κ->R It}(q:jD C n i loc s tg (Internal.rB o f) Q E):∃k,o=some k∧jD C n i loc s tg (f k) Q E:=by
 cases o with
 |none=>exact q.jM
 |some k=>exact⟨k,rfl,q⟩
omit O F D in
theorem jD.rI {c:Bool}{r:R It}(q:jD C n i loc s tg (Internal.rI c r) Q E):c=true∧jD C n i loc s tg r Q E:=by
 cases c with
 |false=>exact q.jM
 |true=>exact⟨rfl,q⟩
omit O F D in
theorem Ay {t:Sem α}{T:fJ α β}{r:R β}{g:β->HP->R It}(h:eE C [] i s (λ_=>loc) T r t)(q:jD C n i loc s tg (az r g) Q E)
  (k:∀a b au aB ah,Rep C aB loc au ah->aJ [] i s aB ah->T aB ah.heap b a->jD C n aB loc ah tg (g b au) Q E->Q' a ah):wpAny C.M C.A t Q' E s :=
 wpAny_mono (h (kU q.nb)) (λa ah x=>by
  refine fj x λb au aB eP h1 h2 h3=>?_;subst eP;exact k a b au aB ah h1 h2 h3 (jD.up (r:=g b au) q h2)) λ_ _ x=>q.e x.az
omit F D in
theorem Ld (ak:Rep C i loc hp s){vs:List V}(aP:Val C.no i s.heap (.tup vs) a)(hP:jO tg)(q:jD C n i loc s tg (.ok (.vals vs) hp) Q E):wpAny C.M C.A (pyIter a) Q E s:=by
 have cW:=aP.fresh (Ff s.heap);refine tC (aP.fz) λt its bH _ x _=>?_;subst bH;refine dP ((cW.keep (bB.refl i) (bq.of (h':=s.heap.push {cls:=.type "tuple_iterator",data:=.fields #[.ref t,.int 0 0]}) λ_ _ e=>Heap.get?_push_of_some _ e)).Ku) λits' hn x' y'=>?_;exact wpAny_pyIter_tuple x.is (q.q rfl (qz O ak (Heap.get?_push_size _ rfl) (λO' hw=>Iter.tup O' (hw _ (.head _))) hP ⟨0,t,_,vs,rfl,hn,x',y',⟨_,Heap.get?_push_size _ rfl,rfl,rfl⟩⟩))
omit F D in
theorem Le (ak:Rep C i loc hp s){k:Nat}(aP:Val C.no i s.heap (.ref k) a)(hP:jO tg){l:List V}(hk:hp[k]?=some (.list l))(q:jD C n i loc s tg (.ok (.lst k 0) hp) Q E):wpAny C.M C.A (pyIter a) Q E s:=by
 refine aj (aP.cP) λb aC ea=>?_;subst aC;refine eG (ak.ref ea hk) λits nn hl hv=>?_;exact wpAny_pyIter_list ⟨_,hl,rfl,nn,rfl⟩ (q.q rfl (qz O ak (Heap.get?_push_size _ rfl) (λO' hw=>Iter.list O' (hw _ (.head _))) hP ⟨k,0,b,rfl,ea,⟨_,Heap.get?_push_size _ rfl,rfl,rfl⟩⟩))
theorem TA (ae:Rep C i loc hp s)(iter:Expr)(hP:jO tg):lz C n i loc s tg (cw (d.ex C.sc iter) loc hp) iter:=.mk λq =>
 Ay (D.ex O F.base ae iter) q λa v au aB ah ak k₁ aP q=>by
  cases v with
  |tup vs=>exact Ld O ak aP hP q
  |ref k =>
   cases hl:eN au k with
   |none=>exact absurd (show bQ (oB (eN au k) λ_=>some (It.lst k 0)) au=.bad by rw[hl];rfl) q.nb
   |some l =>
    have e:M5 (.ref k) au=.ok (.lst k 0) au:=by show bQ (oB (eN au k) λ_=>some (It.lst k 0)) au=_;rw[hl];rfl
    exact Le O ak aP hP (dD hl) (e▸q)
  |_=>exact q.jM
omit F D in
theorem Fg {fa:Value}(hk:ku C.w.params fa=true)(e:Expr)(es:List Expr)(pos:Pos)(hs:(e::es).all noStar=true)(key:wpAny C.M C.A (spliced ((false,eval e C.env)::backTo pos (starEach es C.env))) (λas ah=>(K C.w.params).In ah.heap∧wpAny C.M C.A (call fa as) Q E ah) E s) :
  wpAny C.M C.A (callWith pos fa [] (backTo pos (starEach (e::es) C.env)) []) Q E s:=by
 refine callWith_of (P:=λh=>(K C.w.params).In h∧ku C.w.params fa=true) (by rw[iU (e::es) pos C.env hs];rfl) (λh X=>kZ X.2 h X.1) ?_;rw[gI (bk hs).1 es pos C.env];exact evalArgs_plain (wpAny_mono key (λas ah x=>⟨⟨x.1,hk⟩,x.2⟩) λ_ _ x=>x)
omit F D in
theorem Fh (ak:Rep C i loc hp s){v:V}(aP:Val C.no i s.heap v a)(hP:jO tg)(q:jD C n i loc s tg (M6 v hp) Q E):wpAny C.M C.A (call (.type "range") [a]) (λx ah=>wpAny C.M C.A (pyIter x) Q E ah) E s:=by
 refine aj (q.rB) λn' hv q=>?_;refine bp (q.rI) λhn q=>?_;refine aQ ((iS hv▸aP:Val C.no i s.heap (.int n') a).dn) λt aC=>?_;subst aC;have hn1:n'≤1000:=of_decide_eq_true (bk hn).1;have hn2:n'.natAbs<2 ^ 62:=of_decide_eq_true (bk hn).2;refine call_range_1 ?_;refine bp (ak.more (own:=[]) (t:=s.toks+1+1) (d:=s.drawn) (h':=s.heap.push {cls:=.type "range",data:=.fields #[.int 0 s.toks,.int n' t,.int 1 (s.toks+1)]}) (λ_ _ e=>Heap.get?_push_of_some _ e) (Nat.le_add_right _ 2)) λaV k₂=>?_;have hr:IsRange (s.heap.push {cls:=.type "range",data:=.fields #[.int 0 s.toks,.int n' t,.int 1 (s.toks+1)]}) s.heap.objs.size 0 n' 1 s.toks t (s.toks+1):=IsRange.new ..;have q:=q.up k₂;generalize s.heap.push {cls:=.type "range",data:=.fields #[.int 0 s.toks,.int n' t,.int 1 (s.toks+1)]}=ib at aV k₂ hr q ⊢
 have e0:Builtin.Range.rangeSize 0 n' 1=(n'.toNat:Int):=by
  rw[rangeSize_one];split
  ·rw[Int.sub_zero];exact(Int.toNat_of_nonneg (Int.le_of_lt (by assumption))).symm
  ·exact(congrArg Int.ofNat (Int.toNat_of_nonpos (Int.not_lt.mp (by assumption)))).symm
 refine wpAny_pyIter_range hr (small_one (by decide) (by decide) (Int.neg_le_of_neg_le (Int.le_trans (Int.natAbs_neg n'▸Int.le_natAbs) (Int.ofNat_le.mpr (Nat.le_of_lt hn2)))) (Int.lt_of_le_of_lt hn1 (by decide))) (q.q rfl (qz O aV (Heap.get?_push_size _ rfl) (λO' hw=>Iter.range O' (hw _ (.head _))) hP ⟨0,n'.toNat,by rw[List.range_eq_range'],?_⟩));rw[e0];exact Heap.get?_push_size _ rfl
theorem Lf (ae:Rep C i loc hp s)(e:Expr)(p p2:Pos)(hs:noStar e=true)(jE:C.sc.lookup ("range":Str)=some .globalImplicit)(hP:jO tg):lz C n i loc s tg (me (d.ex C.sc e) loc hp) (.Call (.Name "range" p) [e] [] p2):=.mk λq =>
 wpAny_bind (mN O F ae (v:=.type "range") p jE (by kernel_rfl) λwG m8 ae Az=>Fg O rfl e [] p2 (by unfold List.all;rw[hs];rfl) (Calls.spliced_cons (Ay (D.ex O F.base ae e) (q.up Az) λx v au aB ah ak k₁ aP q=>Calls.spliced_nil ⟨ak.dI O,Fh O ak aP hP q⟩)))
omit F D in
theorem Ib (ak:Rep C i loc hp s){v:V}(aP:Val C.no i s.heap v a)(hP:oJ tg)(q:jD C n i loc s tg (M7 v hp) Q E) :
  wpAny C.M C.A (call (.type "enumerate") [a]) (λx ah=>wpAny C.M C.A (pyIter x) Q E ah) E s:=by
 refine aj (q.rB) λl hv q=>?_;refine aQ ((fy hv▸aP:Val C.no i s.heap (.str l) a).cN) λt aC=>?_;subst aC;refine call_enumerate_str λh' he hit xD hk=>wpAny_pyIter_enum he ?_;refine aj (id hit) λoi hoi _=>?_
 have fin:∀{cls:String},h'.IsStrIter s.heap.objs.size cls (S l) t 0->(∀(w:World) (A:Around),A.handled=none->Draws pw w A s.heap.objs.size [s.heap.objs.size] (S l).cps.size (λi v=>∃c u,(S l).cps[i]?=some c∧v=.str ⟨#[c]⟩ u) (λi h=>h.IsStrIter s.heap.objs.size cls (S l) t i))->Q (.ref (s.heap.objs.size+1)) {s with heap:=h'}:=λaat D' =>
  q.q rfl (wF O ak (wr:=[s.heap.objs.size+1,s.heap.objs.size]) (λb hb=>(List.mem_cons.mp hb).elim (λe=>e▸eS _ 1) (Ff _ b)) hk (jP he (ju hoi)) (.head _)
   (λO' hw=>Iter.enum O' D' (hw _ (.head _)) (hw _ (.tail _ (.head _))) (Nat.succ_ne_self _)) hP ⟨0,.none,rfl,Nat.zero_le _,he,aat⟩)
 cases ha:(S l).cps.all (·<128)
 ·exact fin (by simpa [strIterType,ha]using hit) (λ_ _ hh=>Draws.strWide hh _ _ _)
 ·exact fin (by simpa [strIterType,ha]using hit) (λ_ _ hh=>Draws.strAscii hh _ _ _)
theorem O9 (ae:Rep C i loc hp s)(e:Expr)(p p2:Pos)(hs:noStar e=true)(jE:C.sc.lookup ("enumerate":Str)=some .globalImplicit)(hP:oJ tg):lz C n i loc s tg (rm (d.ex C.sc e) loc hp) (.Call (.Name "enumerate" p) [e] [] p2):=.mk λq =>
 wpAny_bind (mN O F ae (v:=.type "enumerate") p jE (by kernel_rfl) λwG m8 ae Az=>Fg O rfl e [] p2 (by unfold List.all;rw[hs];rfl) (Calls.spliced_cons (Ay (D.ex O F.base ae e) (q.up Az) λx v au aB ah ak k₁ aP q=>Calls.spliced_nil ⟨ak.dI O,Ib O ak aP hP q⟩)))
omit F D in
theorem Lg (ak:Rep C i loc hp s){u v:V}{b:Value}(aau:Val C.no i s.heap u a)(aP:Val C.no i s.heap v b)(hP:oJ tg)(q:jD C n i loc s tg (Er u v hp) Q E) :
  wpAny C.M C.A (call (.type "zip") [a,b]) (λx ah=>wpAny C.M C.A (pyIter x) Q E ah) E s:=by
 refine aj (q.rB) λj hj q=>?_;refine aj (q.rB) λk hk q=>?_;refine aj (q.rB) λl hl q=>?_;refine aj (q.rB) λm hm q=>?_;refine aj ((gv hj▸aau:Val C.no i s.heap (.ref j) a).cP) λl1 aC YT=>?_;subst aC;refine aj ((gv hk▸aP:Val C.no i s.heap (.ref k) b).cP) λl2 aC SU=>?_;subst aC;refine eG (ak.ref YT (dD hl)) λxs1 nx hx Aw=>?_;refine eG (ak.ref SU (dD hm)) λys1 ny hy YR=>?_;refine call_zip_2 ⟨_,hx,rfl,nx,rfl⟩ ⟨_,hy,rfl,ny,rfl⟩ λh' hz qy tm C0 C1 xD hk=>wpAny_pyIter_zip hz ?_;refine aj (id C0) λo1 ho1 _=>?_;refine aj (id C1) λo2 Ia _=>?_
 exact q.q rfl (wF O ak (wr:=[s.heap.objs.size+4,s.heap.objs.size+2,s.heap.objs.size+3,s.heap.objs.size,s.heap.objs.size+1])
  (List.forall_mem_cons.mpr ⟨eS _ 4,List.forall_mem_cons.mpr ⟨eS _ 2,List.forall_mem_cons.mpr ⟨eS _ 3,List.forall_mem_cons.mpr ⟨eS _ 0,List.forall_mem_singleton.mpr (eS _ 1)⟩⟩⟩⟩) hk
  (jP hz (jP qy (jP tm (jP ho1 (ju Ia))))) (.head _) (λO' hw=>Iter.zip O' (O8 _) hw) hP ⟨j,k,0,l1,l2,_,_,rfl,YT,SU,hz,qy,tm,C0,C1⟩)
theorem TB (ae:Rep C i loc hp s)(e oF:Expr)(p p2:Pos)(hs:noStar e=true)(Nu:noStar oF=true)(jE:C.sc.lookup ("zip":Str)=some .globalImplicit)(hP:oJ tg):lz C n i loc s tg (wj (d.ex C.sc e) (d.ex C.sc oF) loc hp) (.Call (.Name "zip" p) [e,oF] [] p2):=.mk λq =>
 wpAny_bind (mN O F ae (v:=.type "zip") p jE (by kernel_rfl) λwG m8 ae Az=>Fg O rfl e [oF] p2 (by unfold List.all;rw[hs];unfold List.all;rw[Nu];rfl) (Calls.spliced_cons (Ay (D.ex O F.base ae e) (q.up Az) λx v au aB ah ak k₁ aP q =>
  gI Nu [] p2 C.env▸Calls.spliced_cons (Ay (D.ex O F.base ak oF) q λy w bJ ck aO aV k₂ cW q=>Calls.spliced_nil ⟨aV.dI O,Lg O aV (k₂.vl ak aP) cW hP q⟩))))
omit O F D in
theorem AA {b:Bool}{f:Ix}{iter:Expr}(h:b=true->lz C n i loc s tg (f loc hp) iter):lz C n i loc s tg (xi b f loc hp) iter:=by
 cases b with
 |true=>exact h rfl
 |false=>exact .mk λq=>q.jM
omit O F D in
theorem TC {κ:Type}{o:Option κ}{f:κ->Ix}{iter:Expr}(h:∀k,o=some k->lz C n i loc s tg (f k loc hp) iter):lz C n i loc s tg (xo o f loc hp) iter:=by
 cases o with
 |some k=>exact h k rfl
 |none=>exact .mk λq=>q.jM
omit O F D in
theorem qA {sc:Sc}{f w:Str}(h:oy sc f w=true):f=w∧sc.lookup w=some .globalImplicit:=by
 have h1:f=w:=beq_iff_eq.mp (bk h).1;exact⟨h1,h1▸beq_iff_eq.mp (bk h).2⟩
theorem Lh (ae:Rep C i loc hp s)(f:Str)(a:Expr)(p p':Pos)(fw:nO (.Call (.Name f p') [a] [] p) tg):lz C n i loc s tg (EG d C.sc f a loc hp) (.Call (.Name f p') [a] [] p):=by
 unfold EG;refine AA λhs=>?_;cases h1:oy C.sc f "range" with
 |true =>
  refine bp (qA h1) λnF h2=>?_;subst nF;exact Lf O F D ae a p' p hs h2 fw.1
 |false =>
  refine AA λh3=>?_;refine bp (qA h3) λnF h4=>?_;subst nF;exact O9 O F D ae a p' p hs h4 (fw.2 rfl)
theorem Li (ae:Rep C i loc hp s)(f:Str)(a b:Expr)(p p':Pos)(fw:nO (.Call (.Name f p') [a,b] [] p) tg):lz C n i loc s tg (yJ d C.sc f a b loc hp) (.Call (.Name f p') [a,b] [] p):=by
 unfold yJ;refine AA λh3=>?_;refine bp (bk h3) λh3 h5=>?_;refine bp (qA h3) λnF h4=>?_;subst nF;exact TB O F D ae a b p' p (bk h5).1 (bk h5).2 h4 (fw.2 rfl)
theorem Lj (ae:Rep C i loc hp s)(f:Str)(as:List Expr)(p p':Pos)(fw:nO (.Call (.Name f p') as [] p) tg):lz C n i loc s tg (Na d C.sc f as loc hp) (.Call (.Name f p') as [] p):=by
 cases as with
 |nil=>exact .mk λq=>q.jM
 |cons a r =>
  cases r with
  |nil=>exact Lh O F D ae f a p p' fw
  |cons b r =>
   refine AA (b:=r.isEmpty) (f:=yJ d C.sc f a b) λh=>?_;obtain rfl:=fW h;exact Li O F D ae f a b p p' fw
theorem Fj (ae:Rep C i loc hp s)(iter:Expr)(fw:nO iter tg):lz C n i loc s tg (eX d C.sc iter loc hp) iter:=by
 unfold eX;cases hp:iA iter with
 |true=>exact TA O F D ae iter fw.1
 |false =>
  refine TC λq hq=>TC λf hf=>AA λhk=>?_;refine aQ (mL hq) λp aC=>?_;subst aC;refine aQ (jB hf) λp' e'=>?_;have ek:=fW hk;rw[e',ek]at fw ⊢;exact Lj O F D ae f _ p p' fw
theorem xO (ae:Rep C i loc hp s)(iter:Expr)(fw:nO iter tg)(nb:eX d C.sc iter loc hp≠.bad)(hQ:∀{it au aB I ah},eX d C.sc iter loc hp=.ok it au->Hg C n i loc s tg it au aB ah I->Q (.ref I) ah)
  (hE:∀{x s'},PX C [] i s (eX d C.sc iter loc hp) x s'->E x s'):wpAny C.M C.A (eval iter C.env) (λx ah=>wpAny C.M C.A (pyIter x) Q E ah) E s:=(Fj O F D ae iter fw).go ⟨nb,hQ,hE⟩
end
end
end
section
def kFg (tg:Tg)(b:Sx)(n:Nat)(it:It)(p:Fl×Loc)(hp:HP):R (Fl×Loc):=match p.1 with
 |.next=>cI tg b n it p.2 hp
 |.ret _=>.ok p hp
section
variable {tg:Tg}{b:Sx}{m:Nat}{it f9:It}{loc:Loc}{hp:HP}{r:R (Fl×Loc)}{v:V}
theorem Fm (h:cI tg b m it loc hp=r)(hr:r≠.bad):∃r',it.next hp=some r':=by
 cases m with
 |zero=>exact absurd h.symm hr
 |succ m =>
  cases hn:it.next hp with
  |none=>unfold cI at h;rw[hn]at h;exact absurd h.symm hr
  |some r'=>exact⟨r',rfl⟩
theorem Ic (h:cI tg b m it loc hp=r)(hr:r≠.bad)(hn:it.next hp=some none):.ok (.next,loc) hp=r:=by
 cases m with
 |zero=>exact absurd h.symm hr
 |succ m=>unfold cI at h;rw[hn]at h;exact h
theorem Fo (h:cI tg b m it loc hp=r)(hr:r≠.bad)(hn:it.next hp=some (some (v,f9))):∃m' c8,m=m'+1∧tg.put v loc=some c8∧az (b c8 hp) (kFg tg b m' f9)=r:=by
 cases m with
 |zero=>exact absurd h.symm hr
 |succ m =>
  unfold cI at h;rw[hn]at h;dsimp only at h;cases hq:tg.put v loc with
  |none=>rw[hq]at h;exact absurd h.symm hr
  |some l=>rw[hq]at h;exact⟨m,l,rfl,rfl,h⟩
end
section
variable {n N:Nat}{d:cx}{c:Ca}(O:C.Ok n)(F:bT C.w.params)(D:cZ n d)
theorem ml.cX {l:List Addr}{k:Int}{e:Value}(f:ml (C.cX l) k e s):ml C k e s:=⟨f.obj,f.base,f.fQ,f.gens,f.os⟩
theorem PX.cX {l:List Addr}{r:R β}{e:Value}(x:PX (C.cX l) own i s r e s'):PX C own i s r e s':=x.elim λk y=>⟨k,y.1,y.2.1.cX,y.2.2⟩
theorem PX.wide {r:R β}{e:Value}(x:PX C [] i s r e s'):PX C own i s r e s':=x.elim λk y=>⟨k,y.1,y.2.1,y.2.2.weaken λ_ h=>absurd h List.not_mem_nil⟩
theorem To.ok {r:R β}{g:β->HP->R δ}{T:fJ γ δ}{lc:δ->Loc}{Q:γ->Shared->Prop}{E:Value->Shared->Prop}{b:β}(q:To C own i s lc T (az r g) Q E)(e:r=.ok b au):To C own i s lc T (g b au) Q E:=by
 subst e;exact q
theorem AB {sc:Sc}{t:Expr}{tg:Tg}(fw:ly sc t=some tg):jO t:=by
 rcases CX fw with⟨es,q,p,is,rfl,_,_⟩|⟨m,h,_⟩
 ·exact .inr ⟨_,_,_,rfl⟩
 ·refine lq (tT h) λx p _ eP _=>?_;subst eP;exact .inl ⟨_,_,rfl⟩
theorem Lk {t iter:Expr}{tg:Tg}(fw:ly C.sc t=some tg)(hn:¬(kj iter&&!zX t)=true):nO iter t:=by
 refine⟨AB fw,λh=>?_⟩;rw[h]at hn;rcases AB fw with⟨x,p,rfl⟩|h
 ·exact absurd rfl hn
 ·exact h
include O
theorem xP {t:Expr}{tg:Tg}(fw:ly C.sc t=some tg)(ae:Rep C i loc hp s){v:V}{a:Value}(hv:Val C.no i s.heap v a)(oN:tg.put v loc=some loc'){Q:Unit->Shared->Prop}{E:Value->Shared->Prop}
  (hQ:∀s',Rep C i loc' hp s'->aJ C.own i s i s'->Q () s'):wpAny C.M C.A (assign t C.env a) Q E s:=by
 rcases CX fw with⟨es,q,p,is,rfl,TG,rfl⟩|⟨m,h,rfl⟩
 ·have hn:=ta es is TG;cases v with
  |tup vs =>
   refine tC (hv.fz) λt its bH cS x y=>?_;subst bH;have gQ:dW is vs loc=some loc':=oN;have uK:=uI is vs loc gQ;have CY:its.size=es.length:=Array.length_toList.symm.trans (y.length.symm.trans (uK.symm.trans hn.len.symm));show wpAny _ _ (do standAt p;unpack (.ref t) (assignEach es C.env)) _ _ _
   refine wpAny_bind (wpAny_standAt ?_);unfold unpack;rw[hn.uH.1,hn.uH.2,hn.stores,<- CY];refine wpAny_bind (wpAny_holding (wpAny_unpackItems_tuple O.handled x.is λh' tV=>?_));refine bp (ae.more (own:=C.own) (t:=s.toks) (d:=s.drawn) (h':=h') λb ob eb=>tV b ob (Nat.ne_of_lt (Heap.lt_size eb)) eb) λaV k₂=>?_;exact xJ O hn vs its.toList aV (y.keep (bB.refl _) (k₂.tup ae (λb hb=>hb))) gQ λeQ cg cK=>hQ eQ cg (k₂.trans cK)
  |_=>exact bx oN
 ·refine fj (tT h) λx p kd eP e1 e2 e3=>?_;subst eP;obtain rfl:=oi oN;exact ji O ae e1 e2 e3 hv hQ
include F D
theorem Ll (eR:∃outer,C.d8=C.env::outer){l:List Addr}(O':(C.cX l).Ok n)(ss:List Stmt)(ae:Rep (C.cX l) i loc hp s):SS (C.cX l) i s (aF (ss.map (d.st C.sc)) loc hp) (execs ss C.env):=nK (C:=C.cX l) O' F D eR ss ae
omit O F D in
theorem xQ (iter:Expr)(h:eX d C.sc iter loc hp≠.bad):∀x,foldedSetIterable iter C.env x=pure x:=by
 have:eX d C.sc iter loc hp=.bad∨∀x,foldedSetIterable iter C.env x=pure x:=by
  cases iter<;>first|exact .inr λ_=>rfl|exact .inl rfl
 exact this.resolve_left h
theorem TH (eR:∃outer,C.d8=C.env::outer)(ae:Rep C i loc hp s)(t iter:Expr)(b:List Stmt)(pos:Pos){tg:Tg}(fw:ly C.sc t=some tg)(hnt:¬(kj iter&&!zX t)=true) :
  SS C i s (hZ N tg (eX d C.sc iter) (b.map (d.st C.sc)) loc hp) (exec (.For t iter b [] pos) C.env):=by
 refine sn λ{Q E} q=>?_;have nb:eX d C.sc iter loc hp≠.bad:=kU q.nb;refine wpAny_For (xO O F D ae iter (Lk fw hnt) nb (λ{it au aB I ah} er m=>?_) λz=>q.e _ _ z.az.wide) (xQ iter nb);refine bC λnG=>?_;obtain⟨wr,P,at_,hf,mk,hP,ak,k₁,Lm,ap,O',hIw⟩:=m;have q:To C C.own i s (·.2) (tM C.no) (cI tg (aF (b.map (d.st C.sc))) N it loc au) Q E:=To.ok (g:=Hb N tg (b.map (d.st C.sc)) loc) q er
 generalize hr:cI tg (aF (b.map (d.st C.sc))) N it loc au=r at q;have hI:=mk O' λb hb=>List.mem_append_left _ hb;have cS:∀b∈wr++C.no,C.hb.get? b=none:=O'.noNew;have inl:∀b∈wr,b∈wr++C.no:=λb hb=>List.mem_append_left _ hb;have aav:∀b∈C.no,b∉wr:=λb hb hw=>(ae.d9 b hb).2.elim λ_ e=>bx ((hf b hw).symm.trans e);refine nG (codeAny_forLoop_any (λm s'=>∃f9 loc' hp' i',cI tg (aF (b.map (d.st C.sc))) m f9 loc' hp'=r∧Rep (C.cX (wr++C.no)) i' loc' hp' s'∧aJ C.own i s i' s'∧at_ (wr++C.no) f9 i' s'.heap) (λm s' TJ=>?_) N ⟨it,loc,au,aB,hr,ak,k₁.weaken λ_ h=>absurd h List.not_mem_nil,Lm⟩);refine bC λnG=>?_;refine ka TJ λf9 loc' hp' i' er R' K' a'=>?_;refine aQ (Fm er q.nb) λr' mK=>?_;refine nG (hI.next R' a' mK (λqB h' t' off ht=>?_) λv AD qB a h' t' off live ht hv TK=>?_)
 ·have er:=Ic er q.nb (qB▸mK);have aV:=Rep.leave (wr:=wr) (d:=s'.drawn) O (λb hb=>List.mem_append_right _ hb) cS inl ap R' aav ht off;have gR:aJ C.own i s i' {s' with heap:=h',toks:=t'}:=K'.turn hf (d:=s'.drawn) (t:=t') off rfl;exact wpAny_execs_nil (q.q _ _ ⟨(Fl.next,loc'),hp',i',er.symm,aV,gR,trivial⟩)
 ·refine cb (Fo er q.nb (qB▸mK)) λm' c8 hm oN er=>?_;refine TK hP λdG AE Fp at2=>?_;have oO:Off wr s'.heap dG:=λb o hb e=>AE b o hb (off b o hb e);have aV:=Rep.turn (C:=C.cX (wr++C.no)) (wr:=wr) (d:=s'.drawn) O' inl (ap.cX _) R' ht oO Fp;have gR:aJ C.own i s i' {s' with heap:=dG,toks:=t'}:=K'.turn hf (d:=s'.drawn) (t:=t') oO rfl;refine xP (C:=C.cX (wr++C.no)) O' fw aV (hv.keep (bB.refl _) (AE.tk inl)) oN λeQ cg cK=>?_;have at3:at_ (wr++C.no) AD i' eQ.heap:=hI.keep at2 (bB.refl _) (cK.tup aV (λb hb=>hb)) λb hb o e=>cK.keep b o e (λq=>ap.own b q hb) (aV.d9 b (inl b hb)).1;refine ux (C:=C.cX (wr++C.no)) (Ll O F D eR O' b cg) (λh=>q.nb (er.symm.trans h)) (λf p rv tS fF q4 fG iE oG uN=>?_) λe xN z=>eR.elim λouter Ln=>tY O Ln (PX.up (gR.trans cK) (PX.cX z)) λx s z=>q.e x s (er▸z);have q4:=er.symm.trans q4;obtain⟨fl,Ie⟩:=p;have Nv:at_ (wr++C.no) AD tS fF.heap:=hI.keep at3 iE.g (iE.tup cg (λb hb=>hb)) λb hb o e=>iE.keep b o e (λq=>ap.own b q hb) (cg.d9 b (inl b hb)).1;cases fl with
  |next =>
   cases f with
   |next=>exact⟨m',hm▸Nat.lt_succ_self m',AD,Ie,rv,tS,q4.symm,fG,(gR.trans cK).trans iE,Nv⟩
   |_=>exact oG.elim
  |ret v =>
   cases f with
   |ret a =>
    have Aq:=Rep.leave (wr:=[]) (d:=fF.drawn) (t:=fF.toks) O (λb hb=>List.mem_append_right _ hb) cS (λ_ h=>absurd h List.not_mem_nil) ⟨λ_ _=>List.not_mem_nil,λ_ _ _ _=>List.not_mem_nil,λ_ _ _ _ _ _ _=>List.not_mem_nil⟩ fG (λ_ _=>List.not_mem_nil) (Nat.le_refl _) (h':=fF.heap) (λ_ _ _ e=>e);exact q.q _ _ ⟨(Fl.ret v,Ie),rv,tS,q4,Aq,(gR.trans cK).trans iE,Val.sub (λb hb=>List.mem_append_right _ hb) oG⟩
   |_=>exact oG.elim
end
end
theorem Rep.back {A':Around}{aaw:Env}{aax:List Env}{AF:List Addr}{pV:Sc}{no':List Addr}(R:Rep C i loc hp s)(R':Rep {C with A:=A',env:=aaw,d8:=aax,oc:=AF,sc:=pV,no:=no'} i' loc' hp' s'){X:List Addr}(K:aJ X i s i' s')(ap:Apart C X)
  (vk:∀v a,Val C.no i s.heap v a->Val no' i' s'.heap v a) (hf:s'.heap.FunFrames C.hb C.d8) (hci:∀x∈C.names,∀k,C.sc.lookup x=some k->k≠.local->∀c,C.env.cells.lookup x=some c->c∉i):Rep (C.cX no') i' loc hp' s':=by
 refine⟨R.ns.imp λm x=>⟨?_,λn v e=>(x.2 n v e).imp λy' z=>z.imp λk w=>⟨w.1,w.2.1,w.2.2.map vk λhk c a hc y=>y.elim λo w'=>⟨o,K.keep c o w'.1 (ap.cells y' (List.mem_of_getElem? w.1) k w.2.1 hk c hc) (hci y' (List.mem_of_getElem? w.1) k w.2.1 hk c hc),w'.2⟩⟩⟩,
  R'.len,R'.objs,R'.nd,R'.new,λb hb=>?_,R'.base,hf,R'.gens,R'.os,R'.pos,R.ll,R'.d9⟩
 ·refine lq (x.1) λo es ep e r=>?_;exact⟨o,es,ep,K.keep _ o e (ap.own _ (.head _)) (R.own _ (.head _)).1,r⟩
 ·obtain⟨h1,o,e,r⟩:=R.own b hb;exact⟨K.off e h1,o,K.keep b o e (ap.own b hb) h1,r⟩
theorem Rep.xR (R:Rep C i loc hp s)(x:Str)(hx:x∈C.names)(k:NameKind)(hk:C.sc.lookup x=some k)(mv:k≠.local)(c:Addr)(hc:C.env.cells.lookup x=some c):c∉i:=λhm=>by
 refine eG (R.cell hx hk mv hc) λa o q2 hd=>?_;refine cb (R.gw hm) λ_ _ _ _ q=>?_;refine fi (q.some) λo' e' _ _ q4=>?_;obtain rfl:=oi (q2.symm.trans e');exact q4 _ hd
theorem Val.Nw {wr:List Addr}{X:List Addr}(R:Rep C i loc hp s)(hf:∀b∈wr,s.heap.get? b=Option.none)(K:aJ X i s i' s')(hX:∀b∈X,s.heap.get? b=Option.none){v:V}{a:Value}(x:Val C.no i s.heap v a):Val (wr++C.no) i' s'.heap v a :=
 (x.fresh hf).keep K.g λb its hb y=>y.elim λn e=>⟨n,K.keep b _ e (λq=>bx ((hX b q).symm.trans e)) (R.lV ⟨n,e⟩).2⟩
theorem Rep.adopt {l no':List Addr}{D:Addr}(R:Rep (C.cX l) i loc hp s)(hD:D∈l)(cS:∀b∈no',b∈l∧b≠D)(ap:D∉C.own)(hb:C.hb.get? D=none){its:Array Value}{n:Nat}{vs:List V}(ho:s.heap.get? D=some (listOf its n))(hv:Vals l i s.heap vs its.toList) :
  Rep (C.cX no') (i++[D]) loc (hp++[.list vs]) s:=by
 have vk:∀v a,Val l i s.heap v a->Val no' i s.heap v a:=λv a x=>x.sub λb hb=>(cS b hb).1;have R':Rep (C.cX no') i loc hp s:=⟨R.ns.imp λm x=>⟨x.1,λn v e=>(x.2 n v e).imp λy z=>z.imp λk w=>⟨w.1,w.2.1,dN.map (C:=C.cX l) vk (λ_ _ _ _ h=>h) w.2.2⟩⟩,R.len,λn o e=>(R.objs n o e).imp λa q=>⟨q.1,q.2.map vk rfl⟩,R.nd,R.new,R.own,R.base,R.fQ,R.gens,R.os,R.pos,R.ll,λb hb=>R.d9 b (cS b hb).1⟩;exact R'.join (o:=.list vs) (R.d9 D hD).1 ap hb (λh=>(cS D h).2 rfl) ⟨its,n,ho,(hv.map vk).keep (bB.snoc i D) (bq.refl _ _)⟩
theorem aJ.drop (K:aJ own i s i' s')(hf:∀b∈own,s.heap.get? b=Option.none):aJ [] i s i' s':=⟨λb o e _ h2=>K.keep b o e (λq=>by rw[hf b q]at e;exact(Option.some_ne_none _ e.symm).elim) h2,K.live,K.grow⟩
theorem aJ.adopt (K:aJ own i s i' s'){D:Addr}(hf:s.heap.get? D=Option.none):aJ own i s (i'++[D]) s':=by
 refine aj (K.grow) λt e ht=>?_;exact⟨K.keep,K.live,t++[D],by rw[e,List.append_assoc],λa ha=>(List.mem_append.mp ha).elim (ht a) λq=>List.mem_singleton.mp q▸hf⟩
noncomputable def jQ (env:Env):List (Str×NameKind)->List (Str×Addr)->List (Str×Addr)
 |[],acc=>acc
 |(n,k)::r,acc=>if k==.free then jQ env r ((n,(env.cells.lookup n).getD 0)::acc)else jQ env r acc
theorem Fq (env:Env)(names:List (Str×NameKind)):∀(acc:List (Str×Addr)),(∀x,(x,NameKind.free)∈names->∃c,env.cells.lookup x=some c) ->
  (forIn names acc λ(p:Str×NameKind) cs=>match p with|(name,kind)=>(if kind==NameKind.free then do let a <- cellOf env name;pure (ForInStep.yield ((name,a)::cs))else pure (ForInStep.yield cs):Sem (ForInStep (List (Str×Addr)))))=pure (jQ env names acc):=by
 induction names with
 |nil=>exact λ_ _=>rfl
 |cons p r ih =>
  intro acc h;obtain⟨n,k⟩:=p;have ih:=λa=>ih a λx hx=>h x (.tail _ hx);rw[List.forIn_cons];unfold jQ;by_cases hk:(k==NameKind.free)=true
  ·obtain rfl:k=.free:=beq_iff_eq.mp hk;refine aQ (h n (.head _)) λc hc=>?_;have e1:cellOf env n=pure c:=by unfold cellOf;rw[hc]
   dsimp only;rw[if_pos hk,if_pos hk,e1,hc];exact ih ((n,c)::acc)
  ·dsimp only;rw[if_neg hk,if_neg hk];exact ih acc
theorem Fs {scope:Scope}{env:Env}(h:∀x,(x,NameKind.free)∈scope.names->∃c,env.cells.lookup x=some c):closureFor scope env=pure (jQ env scope.names []):=by
 have:=Fq env scope.names [] h;exact(congrArg (λm=>m>>=λcs=>(pure cs:Sem (List (Str×Addr)))) this).trans rfl
theorem kM (env:Env)(x:Str)(names:List (Str×NameKind)):∀(acc:List (Str×Addr)),(∀x,(x,NameKind.free)∈names->∃c,env.cells.lookup x=some c) ->
  ((x,NameKind.free)∈names->(jQ env names acc).lookup x=env.cells.lookup x)∧((x,NameKind.free)∉names->(jQ env names acc).lookup x=acc.lookup x):=by
 induction names with
 |nil=>exact λacc _=>⟨λh=>absurd h List.not_mem_nil,λ_=>rfl⟩
 |cons p r ih =>
  intro acc h;obtain⟨n,k⟩:=p;have ih:=λa=>ih a λy hy=>h y (.tail _ hy);unfold jQ;by_cases hk:(k==NameKind.free)=true
  ·obtain rfl:k=.free:=beq_iff_eq.mp hk;rw[if_pos hk];refine aQ (h n (.head _)) λc hc=>?_;rw[hc];by_cases hx:(x,NameKind.free)∈r
   ·exact⟨λ_=>(ih _).1 hx,λq=>absurd (.tail _ hx) q⟩
   ·rw[(ih ((n,(some c).getD 0)::acc)).2 hx,List.lookup_cons];refine⟨λq=>(List.mem_cons.mp q).elim (λq=>?_) λq=>absurd q hx,λq=>?_⟩
    ·rw[(Prod.mk.inj q).1,beq_self_eq_true];exact hc.symm
    ·cases z:x==n with
     |false=>rfl
     |true=>rw[beq_iff_eq.mp z]at q;exact absurd (.head _) q
  ·rw[if_neg hk];exact⟨λq=>(ih acc).1 ((List.mem_cons.mp q).elim (λq=>absurd (beq_iff_eq.mpr (Prod.mk.inj q).2.symm) hk) id),λq=>(ih acc).2 λq'=>q (.tail _ q')⟩
theorem wH {env:Env}{names:List (Str×NameKind)}{x:Str}{k:NameKind}(h:names.lookup x=some k) :
  (names.map λ(n,k)=>if(k==NameKind.free&&env.scope.kind==.function&&env.kindOf n==some .cell)then(n,NameKind.cell)else(n,k)).lookup x=some (if(k==NameKind.free&&env.scope.kind==.function&&env.kindOf x==some .cell)then .cell else k):=by
 induction names with
 |nil=>exact bx h
 |cons p r ih =>
  obtain⟨n,k'⟩:=p;show List.lookup x ((if(k'==NameKind.free&&env.scope.kind==.function&&env.kindOf n==some .cell)=true then(n,NameKind.cell)else(n,k'))::_)=_
  rw[List.lookup_cons]at h;cases hx:x==n with
  |true =>
   rw[hx]at h;obtain rfl:=oi h;rw[beq_iff_eq.mp hx];by_cases hc:(k'==NameKind.free&&env.scope.kind==.function&&env.kindOf n==some .cell)=true
   ·rw[if_pos hc,if_pos hc,List.lookup_cons,beq_self_eq_true]
   ·rw[if_neg hc,if_neg hc,List.lookup_cons,beq_self_eq_true]
  |false =>
   rw[hx]at h;by_cases hc:(k'==NameKind.free&&env.scope.kind==.function&&env.kindOf n==some .cell)=true
   ·rw[if_pos hc,List.lookup_cons,hx];exact ih h
   ·rw[if_neg hc,List.lookup_cons,hx];exact ih h
section
theorem bP {A:Type}{x:Str}{k:A}{l:List (Str×A)}(h:l.lookup x=some k):(x,k)∈l:=by
 induction l with
 |nil=>exact bx h
 |cons p r ih =>
  rw[List.lookup_cons]at h;cases hx:x==p.1 with
  |true=>rw[hx]at h;obtain rfl:=oi h;rw[beq_iff_eq.mp hx];exact .head _
  |false=>rw[hx]at h;exact .tail _ (ih h)
theorem fR {x:Str}{k:NameKind}{l:Sc}(nd:(l.map (·.1)).Nodup)(h:(x,k)∈l):l.lookup x=some k:=by
 induction l with
 |nil=>exact absurd h List.not_mem_nil
 |cons p r ih =>
  have nd:=List.nodup_cons.mp nd;rw[List.lookup_cons];rcases List.mem_cons.mp h with h|h
  ·rw[<- h,beq_self_eq_true]
  ·cases z:x==p.1 with
   |false=>exact ih nd.2 h
   |true=>exact absurd (List.mem_map.mpr ⟨_,h,beq_iff_eq.mp z⟩) nd.1
theorem jR {sc pV:Sc}(h:oz sc pV=true) :
  (∀p∈pV,p.2=.local∨p.2=.globalImplicit∨(p.2=.free∧(slot sc p.1).isSome=true∧(sc.lookup p.1=some .cell∨sc.lookup p.1=some .free)))∧(pV.map (·.1)).Nodup∧∀p∈pV,(p.1==("__debug__":Str))=false:=by
 refine bp (bk h) λh h3=>?_;refine bp (bk h) λh1 h2=>?_;refine⟨λp hp=>?_,of_decide_eq_true h2,λp hp=>?_⟩
 ·have:=List.all_eq_true.mp h1 p hp;simp only[Bool.or_eq_true,Bool.and_eq_true,beq_iff_eq]at this;exact this.elim (λq=>q.elim .inl λq=>.inr (.inl q)) λq=>.inr (.inr ⟨q.1.1,q.1.2,q.2⟩)
 ·have:=List.all_eq_true.mp h3 p hp;exact(Bool.not_eq_true' _).mp this
abbrev Cx.j8 (C:Cx)(scope:Scope)(L:Addr)(no':List Addr):Cx:={C with env:=compEnvC scope (jQ C.env scope.names []) L C.env,d8:=C.d8,oc:=[],sc:=scope.names,no:=no'}
section
variable {n N:Nat}{d:cx}{c:Ca}{scope:Scope}(O:C.Ok n)(hm:oz C.sc scope.names=true)
include O hm
theorem yP:∀x,(x,NameKind.free)∈scope.names->∃c,C.env.cells.lookup x=some c:=λx hx=>by
 refine j9 (jR hm) λh1 _ _=>?_;rcases h1 _ hx with q|q|⟨_,_,q⟩
 ·cases q
 ·cases q
 ·refine(q).elim (λq=>?_) λq=>?_
  ·obtain⟨⟨_,c,hc,_⟩,_⟩:=O.names x _ q;exact⟨c,hc⟩
  ·obtain⟨⟨_,c,hc⟩,_⟩:=O.names x _ q;exact⟨c,hc⟩
theorem TL (ae:Rep C i loc hp s)(hk:scope.kind=.function)(hg:scope.isGenerator=false∧scope.isCoroutine=false){L:Addr}(hL:s.heap.get? L=none)(hL2:C.L≤L){no':List Addr}(cS:∀b∈no',C.hb.get? b=none):(C.j8 scope L no').Ok n:=by
 refine j9 (jR hm) λh1 h2 h3=>?_;have Ig:=yP O hm;have yQ:(relabel scope C.env).kind=.function:=hk;refine⟨O.frames,O.depth,O.units,O.handled,O.dI,O.top,hk,O.globals,O.builtins,λx k e=>?_,h2,λx y c ex ey=>?_,λb hb=>?_,?_,cS,O.frame,hg⟩
 ·have m9:=bP e;refine⟨?_,h3 _ m9⟩;have hr:=wH (env:=C.env) e;rcases h1 _ m9 with q|q|⟨q,_,q2⟩
  ·subst q;exact hr
  ·subst q;exact hr
  ·simp only at q q2;subst q;refine aQ (Ig x m9) λc hc=>?_;have nP:(jQ C.env scope.names []).lookup x=some c:=((kM C.env x scope.names [] Ig).1 m9).trans hc;refine⟨?_,c,nP⟩;have qB:(C.j8 scope L no').env.kindOf x=some (if(NameKind.free==NameKind.free&&C.env.scope.kind==.function&&C.env.kindOf x==some .cell)then .cell else .free):=hr
   rw[O.kind]at qB;by_cases hx:C.env.kindOf x=some .cell
   ·left;rw[qB,hx];rfl
   ·refine(q2).elim (λq2=>?_) λq2=>?_
    ·obtain⟨⟨q3,_⟩,_⟩:=O.names x _ q2;exact absurd q3 hx
    ·obtain⟨⟨q3,_⟩,_⟩:=O.names x _ q2;rcases q3 with q3|⟨q3,q4⟩
     ·exact absurd q3 hx
     ·right;rw[qB,q3];exact⟨rfl,q4⟩
 ·have ex':(jQ C.env scope.names []).lookup x=some c:=ex;have ey':(jQ C.env scope.names []).lookup y=some c:=ey
  have jS:∀z,(jQ C.env scope.names []).lookup z=some c->C.env.cells.lookup z=some c:=λz ez=>by
   have:=kM C.env z scope.names [] Ig;by_cases hz:(z,NameKind.free)∈scope.names
   ·rw[<- this.1 hz];exact ez
   ·rw[this.2 hz]at ez;exact(Option.some_ne_none _ ez.symm).elim
  exact O.cells x y c (jS x ex') (jS y ey')
 ·rw[List.mem_singleton.mp hb];exact jC O ae hL
 ·exact Nat.le_trans O.above hL2
theorem Rep.j8 {no':List Addr}(R:Rep (C.cX no') i loc hp s){L:Addr}{m:Str->Option Value}(qw:s.heap.Ns L m)(CZ:L∉i) :
  Rep (C.j8 scope L no') i (kJ (mapOf C.sc scope.names) loc) hp s:=by
 refine j9 (jR hm) λh1 h2 h3=>?_;have Ig:=yP O hm;refine aj (R.ns) λm' nM kr=>?_;refine⟨⟨m,qw,λk v e=>?_⟩,R.len,R.objs,R.nd,R.new,λb hb=>?_,R.base,R.fQ,R.gens,R.os,R.pos,?_,R.d9⟩
 ·replace e:((mapOf C.sc scope.names).map λo=>match o with|some k=>(loc[k]?).getD none|none=>none)[k]?=some v:=e
  unfold mapOf at e;rw[List.map_map,List.getElem?_map]at e;refine aj (Option.map_eq_some_iff.mp e) λp hp e=>?_;have hp':(bV scope.names)[k]?=some p.1:=by unfold bV;rw[List.getElem?_map,hp];rfl
  have m9:=(List.mem_filter.mp (List.mem_of_getElem? hp));refine⟨p.1,p.2,hp',fR h2 m9.1,?_⟩;rcases h1 _ m9.1 with q|q|⟨q,q1,q2⟩
  ·simp only[Function.comp,q]at e;rw[q];subst e;intro u hu;exact(Option.some_ne_none _ hu.symm).elim
  ·rw[q]at m9;exact absurd m9.2 (by simp[ur])
  ·rw[q];simp only[Function.comp,q]at e;refine aQ (Option.isSome_iff_exists.mp q1) λj hj=>?_;simp only[hj,beq_self_eq_true,if_true]at e;have hn:=iF hj;have YU:j<loc.length:=by rw[R.ll];exact(List.getElem?_eq_some_iff.mp hn).1
   rw[List.getElem?_eq_getElem YU]at e;refine cb (kr j loc[j] (List.getElem?_eq_getElem YU)) λy ky e1 e2 e3=>?_;have TM:(C.cX no').names[j]?=some p.1:=hn;rw[TM]at e1;obtain rfl:=oi e1
   have:∃c a,C.env.cells.lookup p.1=some c∧s.heap.IsCell c a∧∀u,loc[j]=some u->∃b,a=some b∧Val no' i s.heap u b:=by
    refine(q2).elim (λq2=>?_) λq2=>?_
    ·have lD:C.sc.lookup p.1=some ky:=e2;rw[q2]at lD;obtain rfl:=oi lD;exact e3
    ·have lD:C.sc.lookup p.1=some ky:=e2;rw[q2]at lD;obtain rfl:=oi lD;exact e3
   refine cb this λc a r1 r2 r3=>?_;have Xr:(p.1,NameKind.free)∈scope.names:=by rw[<- q];exact m9.1
   refine⟨c,a,((kM C.env p.1 scope.names [] Ig).1 Xr).trans r1,r2,λu hu=>r3 u ?_⟩;rw[<- hu,<- e];rfl
 ·rw[List.mem_singleton.mp hb];refine m6 (id qw) λo es ep ho hd _=>?_;exact⟨CZ,o,ho,by rw[hd];simp,by rw[hd];simp⟩
 ·show((mapOf C.sc scope.names).map _).length=_;unfold mapOf Cx.names bV;simp
end
section
variable {prog:Program}{w:World}{A:Around}{R:Result->Shared->Prop}
def Xs (M:Model)(A:Around)(R:Result->Shared->Prop)(elt target:Expr)(ifs:List Expr)(env:Env)(it acc:Value)(J:Shared->Prop)(s:Shared):Prop :=
 wpAny M A (pyNext it) (λr ah=>match r with
   |none=>R (.ok .next) ah
   |some v=>wpAny M A (letOwnedTupleGo target it v) (λ_ Nx=>wpAny M A (assign target env v) (λ_ aO =>
     wpAny M A (forIn ifs true λc r=>if r=true then do let ok <- isTrue c env (eval c env);pure (ForInStep.yield ok)else pure (ForInStep.yield r)) (λok eQ =>
      if ok=true then wpAny M A (eval elt env) (λx fF =>
       wpAny M A (call (.builtin "list.append") [acc,x]) (λ_ dE=>J dE) (notedBy M A env λe s'=>R (.error e) s') fF) (notedBy M A env λe s'=>R (.error e) s') eQ
      else J eQ) (notedBy M A env λe s'=>R (.error e) s') aO) (notedBy M A env λe s'=>R (.error e) s') Nx) (notedBy M A env λe s'=>R (.error e) s') ah) (notedBy M A env λe s'=>R (.error e) s') s
theorem oP {elt target iter:Expr}{ifs:List Expr}{scope:Scope}{pos:Pos}{it acc:Value}{env:Env}(I:Nat->Shared->Prop)
  (turn:∀n s,I n s->Xs (model prog w) A R elt target ifs env it acc (λs=>∃m,m<n∧I m s) s)
  (n:Nat) (h:I n s) :
  codeAny (model prog w) A (.compLoop (.ListComp elt [⟨target,iter,ifs,0⟩] scope pos) 0 it acc env) R s:=by
 refine codeAny_loop rfl I (λn s hI=>?_) n h;show wpAny _ A ((compTurn (.ListComp elt [⟨target,iter,ifs,0⟩] scope pos) 0 it acc env).onRaise (λx=>do noteFrame x env;theTreesLotGoes x)) _ _ s
 refine wpAny_noted ?_;rw[compTurn_list];refine wpAny_bind (wpAny_standAt (wpAny_bind (wpAny_mono (turn n s hI) (λr ah dQ=>?_) λ_ _ h'=>h')));cases r with
 |none=>exact wpAny_pure dQ
 |some v =>
  refine wpAny_bind (wpAny_mono dQ (λ_ Nx Xu=>?_) λ_ _ h'=>h');refine wpAny_bind (wpAny_mono Xu (λ_ aO ib=>wpAny_bind (wpAny_mono ib (λok eQ TN=>?_) λ_ _ h'=>h')) λ_ _ h'=>h');cases ok with
  |false=>exact wpAny_pure ⟨rfl,TN⟩
  |true =>
   exact wpAny_bind (wpAny_bind (wpAny_mono TN (λx fF qC=>wpAny_bind (wpAny_mono qC (λ_ dE TP=>wpAny_pure (wpAny_pure ⟨rfl,TP⟩)) λ_ _ h'=>h')) λ_ _ h'=>h'))
end
theorem Cm (env:Env)(ifs:List Expr):(forIn ifs false λc r=>if r=true then do let ok <- isTrue c env (eval c env);pure (ForInStep.yield ok)else pure (ForInStep.yield r):Sem Bool)=pure false:=by
 induction ifs with
 |nil=>rfl
 |cons _ r ih=>rw[List.forIn_cons];exact ih
section
variable {n N:Nat}{d:cx}{c:Ca}(O:C.Ok n)(F:bT C.w.params)(D:cZ n d)
include O F D
theorem Lo (ifs:List Expr):∀{i loc hp s},Rep C i loc hp s->SB C [] i loc s (aS true (ifs.map (d.te C.sc)) loc hp) (forIn ifs true λc r=>if r=true then do let ok <- isTrue c C.env (eval c C.env);pure (ForInStep.yield ok)else pure (ForInStep.yield r)):=by
 induction ifs with
 |nil=>exact λae=>sn λq=>wpAny_pure (q.fin ae rfl)
 |cons e r ih =>
  intro i loc hp s ae;rw[List.forIn_cons];refine sn λ{Q E} q=>wpAny_bind (wpAny_bind (cT (D.te O F.base ae e) q λa b au aB ah ak k₁ aP q=>wpAny_pure ?_));subst aP;cases a with
  |true=>exact(ih ak).to q
  |false =>
   show wpAny _ _ (forIn r false λc r=>if r=true then do let ok <- isTrue c C.env (eval c C.env);pure (ForInStep.yield ok)else pure (ForInStep.yield r)) _ _ _
   rw[Cm];exact wpAny_pure (q.fin ak rfl)
end
end
section
section
variable {tg:Tg}{ifs:Tx}{elt:Ex}{m:Nat}{it f9:It}{acc:List V}{loc:Loc}{hp:HP}{r:R (List V)}{v:V}
theorem Cn (h:cR tg ifs elt m it acc loc hp=r)(hr:r≠.bad):∃r',it.next hp=some r':=by
 cases m with
 |zero=>exact absurd h.symm hr
 |succ m =>
  cases hn:it.next hp with
  |none=>unfold cR at h;rw[hn]at h;exact absurd h.symm hr
  |some r'=>exact⟨r',rfl⟩
theorem Ft (h:cR tg ifs elt m it acc loc hp=r)(hr:r≠.bad)(hn:it.next hp=some none):.ok acc hp=r:=by
 cases m with
 |zero=>exact absurd h.symm hr
 |succ m=>unfold cR at h;rw[hn]at h;exact h
theorem Co (h:cR tg ifs elt m it acc loc hp=r)(hr:r≠.bad)(hn:it.next hp=some (some (v,f9))):∃m' c8,m=m'+1∧tg.put v loc=some c8∧az (ifs c8 hp) (λb hp=>if b then az (elt c8 hp) λx hp=>(if acc.length≤1000 then cR tg ifs elt m' f9 (acc++[x]) c8 hp else .bad)else cR tg ifs elt m' f9 acc c8 hp)=r:=by
 cases m with
 |zero=>exact absurd h.symm hr
 |succ m =>
  unfold cR at h;rw[hn]at h;dsimp only at h;cases hq:tg.put v loc with
  |none=>rw[hq]at h;exact absurd h.symm hr
  |some l=>rw[hq]at h;exact⟨m,l,rfl,rfl,h⟩
end
theorem Cp {iter:Expr}(h:iA iter=true):kj iter=false:=by
 unfold kj;cases hc:iz iter with
 |none=>rfl
 |some q =>
  refine aQ (mL hc) λp aC=>?_;subst aC;show(match asName q.1 with|some f=>_|none=>false)=false
  cases hf:asName q.1 with
  |none=>rfl
  |some x =>
   refine aQ (jB hf) λp' e=>?_;rw[e]at h;exact(Bool.or_eq_false_iff.mp ((Bool.not_eq_true' _).mp h)).2
theorem Apart.sub {wr YV:List Addr}(x:Apart C wr)(h:∀b∈YV,b∈wr):Apart C YV:=⟨λb hb q=>x.own b hb (h b q),λe he L hL q=>x.d8 e he L hL (h L q),λy hy k hk mv c hc q=>x.cells y hy k hk mv c hc (h c q)⟩
section
variable {n N:Nat}{d:cx}{c:Ca}(O:C.Ok n)(F:bT C.w.params)(D:cZ n d)
include O F D
omit O F in
theorem Ih {Ci:Cx}(Oi:Ci.Ok n)(Fi:bT Ci.w.params){ifs:List Expr}{elt t:Expr}{wr:List Addr}{P:Expr->Prop}{at_:List Addr->It->Pl->Heap->Prop}{I DD:Addr}(hI:Iter Ci wr I P at_)(mx:∀b∈wr,b∈Ci.no)(apD:Apart Ci [DD])(Ii:DD∈Ci.no)
  (Dw:DD∉wr) (Down:DD∉Ci.own) (Lw:∀b∈wr,b∉Ci.own) {tg:Tg} (fw:ly Ci.sc t=some tg) {go:Nat->It->List V->Loc->HP->R (List V)} {m:Nat} {it:It} {acc:List V} {c8:Loc} {r:R (List V)}
  (er:az (aS true (ifs.map (d.te Ci.sc)) c8 hp) (λb hp=>if b=true then az (d.ex Ci.sc elt c8 hp) (λx hp=>if acc.length≤1000 then go m it (acc++[x]) c8 hp else .bad)else go m it acc c8 hp)=r) (C3:r≠.bad) (YW:∀k,r≠.gH k)
  {m8:Shared} {wG:Pl} (aV:Rep Ci i loc hp s) (gR:aJ Ci.own wG m8 i s) (fD:m8.heap.get? DD=none) {v:V} {a:Value} (hv:Val Ci.no i s.heap v a) (oN:tg.put v loc=some c8) (at2:at_ Ci.no it i s.heap) {its:Array Value} {k:Nat} (eD:s.heap.get? DD=some (listOf its k)) (vD:Vals Ci.no i s.heap acc its.toList)
  {J:Shared->Prop} {E:Value->Shared->Prop} (hJ:∀acc hp' i' its k s',go m it acc c8 hp'=r->Rep Ci i' c8 hp' s'->aJ Ci.own wG m8 i' s'->at_ Ci.no it i' s'.heap->s'.heap.get? DD=some (listOf its k)->Vals Ci.no i' s'.heap acc its.toList->J s') :
  wpAny Ci.M Ci.A (assign t Ci.env a) (λ_ aO=>wpAny Ci.M Ci.A (forIn ifs true λc r=>if r=true then do let ok <- isTrue c Ci.env (eval c Ci.env);pure (ForInStep.yield ok)else pure (ForInStep.yield r)) (λok eQ =>
   if ok=true then wpAny Ci.M Ci.A (eval elt Ci.env) (λx fF=>wpAny Ci.M Ci.A (call (.builtin "list.append") [.ref DD,x]) (λ_ dE=>J dE) E fF) E eQ else J eQ) E aO) E s:=by
 have kD:∀{aB ck:Pl} {a b:Shared},aJ Ci.own aB a ck b->DD∉aB->∀{o},a.heap.get? DD=some o->b.heap.get? DD=some o:=λK qk o e=>K.keep DD o e Down qk;have kW:∀{aB ck:Pl} {a b:Shared},aJ Ci.own aB a ck b->(∀b∈wr,b∉aB)->∀b'∈wr,∀o,a.heap.get? b'=some o->b.heap.get? b'=some o:=λK qk b' hb o e=>K.keep b' o e (Lw b' hb) (qk b' hb);have tk:∀{aB ck:Pl} {l:Loc} {p:HP} {a b:Shared},aJ Ci.own aB a ck b->Rep Ci aB l p a->bq Ci.no a.heap b.heap:=λK R=>K.tup R λb hb=>hb;have tK:∀b∈([]:List Addr),b∈Ci.own:=λ_ h=>absurd h nofun;refine xP Oi fw aV hv oN λeQ cg cK=>?_;have eD3:=kD cK (aV.d9 DD Ii).1 eD;have vD3:=vD.keep cK.g (tk cK aV);refine ux (C:=Ci) (Lo Oi Fi D ifs cg) (by rw[er];exact C3) (λok b rv tS fF q4 fG iE oG uN=>?_) λe xN z=>z.elim λk y=>absurd (er.symm.trans y.1) (YW k);rw[er]at q4;subst oG;have ry:=iE.weaken tK;have Nv:=hI.keep (hI.keep at2 (bB.refl _) (tk cK aV) (kW cK λb hb=>(aV.d9 b (mx b hb)).1)) iE.g (tk ry cg) (kW ry λb hb=>(cg.d9 b (mx b hb)).1);have YX:=kD ry (cg.d9 DD Ii).1 eD3;have YY:=vD3.keep iE.g (tk ry cg);cases ok with
 |false=>exact hJ acc rv tS its k fF q4.symm fG ((gR.trans cK).trans ry) Nv YX YY
 |true =>
  have q4:r=az (d.ex Ci.sc elt c8 rv) (λx hp=>if acc.length≤1000 then go m it (acc++[x]) c8 hp else .bad):=q4
  refine ux (C:=Ci) (D.ex Oi Fi.base fG elt) uN (λx v Fu Lp dE q5 Aq E3 aay Xv=>?_) λe xN z=>z.elim λk y=>absurd (q4.trans y.1) (YW k);rw[<- q4]at q5;have uO:=E3.weaken tK;have YZ:=YY.keep E3.g (tk uO fG);by_cases hlen:acc.length≤1000
  ·rw[if_pos hlen]at q5
   refine append_at (kD uO (fG.d9 DD Ii).1 YX) (λh6 hs6 C4=>?_) (by
    have h2:sizeLine=2 ^ 24:=rfl;rw[<- Array.length_toList,<- (YZ.length),h2];(apply aI<;>trivial))
   have Fv:Off [DD] dE.heap h6:=Off.of hs6 (.head _);have TQ:bq Ci.no dE.heap h6:=Fv.tk λb hb=>List.mem_singleton.mp hb▸Ii
   refine hJ (acc++[v]) Fu Lp (its.push x) _ _ q5.symm (Rep.turn (wr:=[DD]) (d:=dE.drawn) (t:=dE.toks) Oi (λb hb=>List.mem_singleton.mp hb▸Ii) apD Aq (Nat.le_refl _) Fv (λb hb=>by rw[List.mem_singleton.mp hb];exact⟨_,C4⟩)) ((((gR.trans cK).trans ry).trans uO).turn (wr:=[DD]) (λb hb=>List.mem_singleton.mp hb▸fD) (d:=dE.drawn) (t:=dE.toks) Fv rfl)
    (hI.keep (hI.keep Nv E3.g (tk uO fG) (kW uO λb hb=>(fG.d9 b (mx b hb)).1)) (bB.refl _) TQ (λb hb o e=>Fv b o (λq=>Dw (List.mem_singleton.mp q▸hb)) e)) C4 ?_
   rw[Array.toList_push];exact(YZ.keep (bB.refl _) TQ).append (.cons (aay.keep (bB.refl _) TQ) .nil)
  ·exact absurd (if_neg hlen) Xv
omit F D in
theorem Fw {scope:Scope}(hm:oz C.sc scope.names=true){wr no':List Addr}{DD:Addr}(Lw:DD+1∉wr)(mO:Apart C ([DD+1,DD]++wr)):Apart (C.j8 scope (DD+1) no') (DD::wr):=by
 refine bC λnG=>?_;refine j9 (jR hm) λAG TU hm3=>?_;refine nG ?_;have mem:∀b∈DD::wr,b∈[DD+1,DD]++wr:=λb q=>.tail _ q;refine⟨λb hb q=>?_,λe he L hL q=>mO.d8 e he L hL (mem L q),λx hx k xT mv c hc q=>?_⟩
 ·have jh:b=DD+1:=List.mem_singleton.mp hb;subst jh;exact(List.mem_cons.mp q).elim (Nat.succ_ne_self _) Lw
 ·refine aj (qh (List.mem_iff_getElem?.mp hx).choose_spec) λkk hk1 hk2=>?_;rcases AG _ (bP xT)with q'|q'|⟨q',q1',Ij⟩
  ·exact mv q'
  ·have q':k=.globalImplicit:=q';rw[q',fR TU hk1]at xT;cases oi xT;exact absurd hk2 nofun
  ·have q':k=.free:=q';subst q';refine aQ (Option.isSome_iff_exists.mp q1') λj hj=>?_;have Y0:C.env.cells.lookup x=some c:=((kM C.env x scope.names [] (yP O hm)).1 (bP xT)).symm.trans hc;exact Ij.elim (λIj=>mO.cells x (List.mem_of_getElem? (iF hj)) _ Ij (by simp) c Y0 (mem c q)) λIj=>mO.cells x (List.mem_of_getElem? (iF hj)) _ Ij (by simp) c Y0 (mem c q)
theorem xU (ae:Rep C i loc hp s)(elt t iter:Expr)(ifs:List Expr)(scope:Scope)(pos:Pos){tg:Tg}(fw:ly scope.names t=some tg)(hm:oz C.sc scope.names=true)(hk:scope.kind=.function)(hg:scope.isGenerator=false∧scope.isCoroutine=false)
  (Ik:iA iter=true) (hb:cp N (eX d C.sc iter) (mapOf C.sc scope.names) tg (aS true (ifs.map (d.te scope.names))) (d.ex scope.names elt) loc hp≠.bad) {use:Option (Value->Sem Unit)} {pos':Pos} {Q:Value->Shared->Prop} {E:Value->Shared->Prop}
  (hQ:∀vs hp' i' s' DD L,cp N (eX d C.sc iter) (mapOf C.sc scope.names) tg (aS true (ifs.map (d.te scope.names))) (d.ex scope.names elt) loc hp=.ok (.ref hp'.length) (hp'++[.list vs])->Rep (C.cX (L::C.no)) (i'++[DD]) loc (hp'++[.list vs]) s'->aJ [] i s (i'++[DD]) s' ->
   (∃m,s'.heap.Ns L m)->s.heap.get? L=none->Apart C [L]->(C.cX (L::C.no)).Ok n->i'.length=hp'.length->compPost C.M C.A E use Q (.ref DD) L (.ok .next) s')
  (hE:∀e s',PX C [] i s (cp N (eX d C.sc iter) (mapOf C.sc scope.names) tg (aS true (ifs.map (d.te scope.names))) (d.ex scope.names elt) loc hp) e s'->E e s') :
  wpAny C.M C.A (comprehension (.ListComp elt [⟨t,iter,ifs,0⟩] scope pos) scope C.env pos' (newList []) false (eval iter C.env) use) Q E s:=by
 refine bC λnG=>?_;refine j9 (jR hm) λAG TU hm3=>?_;refine nG ?_;have gQ:∀x,foldedSetIterable iter C.env x=pure x:=xQ iter λe=>hb (by unfold cp;rw[e];rfl)
 have kK:∀x∈scope.names,x.2≠.cell:=λx hx q=>by
  rcases AG x hx with q'|q'|⟨q',_⟩<;>rw[q]at q'<;>cases q'
 have nb:eX d C.sc iter loc hp≠.bad:=kU hb;have hb:az (eX d C.sc iter loc hp) (Es N (mapOf C.sc scope.names) tg (aS true (ifs.map (d.te scope.names))) (d.ex scope.names elt) loc)≠.bad:=hb;refine wpAny_comprehension_free (cl:=jQ C.env scope.names []) rfl gQ (Fs (yP O hm)) hk (λx hx q=>by rw[<- q];exact fR TU hx) (xO O F D ae iter ⟨AB fw,λq=>ft ((Cp Ik).symm.trans q)⟩ nb (λ{it au aB I ah} er m=>?_) λz=>hE _ _ z.az);refine bC λnG=>?_;obtain⟨wr,P,at_,hf,mk,hP,ak,k₁,Lm,ap,O',hIw⟩:=m;refine nG ?_;have eq0:cp N (eX d C.sc iter) (mapOf C.sc scope.names) tg (aS true (ifs.map (d.te scope.names))) (d.ex scope.names elt) loc hp=Es N (mapOf C.sc scope.names) tg (aS true (ifs.map (d.te scope.names))) (d.ex scope.names elt) loc it au:=(congrArg (az · _) er).trans rfl;rw[er]at hb;rw[eq0]at hQ;have rA:az (yD (cR tg (aS true (ifs.map (d.te scope.names))) (d.ex scope.names elt) N it [] (kJ (mapOf C.sc scope.names) loc) au)) ou≠.bad:=hb
 have hQ:∀vs hp' i' s' DD L,az (yD (cR tg (aS true (ifs.map (d.te scope.names))) (d.ex scope.names elt) N it [] (kJ (mapOf C.sc scope.names) loc) au)) ou=.ok (.ref hp'.length) (hp'++[.list vs])->Rep (C.cX (L::C.no)) (i'++[DD]) loc (hp'++[.list vs]) s'->aJ [] i s (i'++[DD]) s' ->
   (∃m,s'.heap.Ns L m)->s.heap.get? L=none->Apart C [L]->(C.cX (L::C.no)).Ok n->i'.length=hp'.length->compPost C.M C.A E use Q (.ref DD) L (.ok .next) s':=hQ
 generalize hr:cR tg (aS true (ifs.map (d.te scope.names))) (d.ex scope.names elt) N it [] (kJ (mapOf C.sc scope.names) loc) au=r at rA;rw[hr]at hQ;clear hE;refine wpAny_newObj_type (hd:=by size_fits) (wpAny_newFunctionEnv kK (by intro y hy;simp at hy) (λdQ qD qE=>?_) hk);have xD:(ah.heap.push {cls:=.type "list",dict:=none,data:=.seq ([]:List Value).toArray}).objs.size=ah.heap.objs.size+1:=Heap.size_push ..;dsimp only at qD qE ⊢;rw[xD]at qD qE ⊢;generalize Il:ah.heap.objs.size=DD at qD qE ⊢;have eD:ah.heap.get? DD=none:=by rw[<- Il];exact eS _ 0
 have eL:ah.heap.get? (DD+1)=none:=by rw[<- Il];exact eS _ 1
 have Y1:(DD+1:Addr)≠DD:=Nat.succ_ne_self _
 have old:∀b o,ah.heap.get? b=some o->dQ.get? b=some o:=λb o e=>by
  have iD:=Heap.lt_size e;rw[Il]at iD;exact qE.extBut b o (Nat.ne_of_lt (Nat.lt_succ_of_lt iD)) (Heap.get?_push_of_some _ (Heap.get?_push_of_some _ e))
 have TV:dQ.get? DD=some (listOf #[] 0):=qE.extBut _ _ (Nat.ne_of_lt (Nat.lt_succ_self _)) (Heap.get?_push_of_some _ (by rw[<- Il];exact Heap.get?_push_size _ rfl));refine bC λnG=>?_;refine m6 (id qD) λoL esL epL qF mP _=>?_;refine nG ?_;have fL:s.heap.get? (DD+1)=none:=k₁.none eL;have fD:s.heap.get? DD=none:=k₁.none eD
 have Ny:∀b∈[DD+1,DD],ah.heap.get? b=none:=by
  intro b hb;rcases List.mem_cons.mp hb with rfl|hb
  ·exact eL
  ·rw[List.mem_singleton.mp hb];exact eD
 have Y2:∀b∈[DD+1,DD]++wr,s.heap.get? b=none:=λb hb=>by
  rcases List.mem_append.mp hb with q|q
  ·exact k₁.none (Ny b q)
  ·exact hf b q
 have fG:Rep ((C.cX (wr++C.no)).cX ([DD+1,DD]++(wr++C.no))) aB loc au {heap:=dQ,gens:=ah.gens,drawn:=ah.drawn,toks:=ah.toks+0,os:=ah.os}:=ak.enter O' (wr:=[DD+1,DD]) (d:=ah.drawn) (Nat.le_refl _) old Ny (by
  intro b hb;rcases List.mem_cons.mp hb with rfl|hb
  ·exact⟨_,qF⟩
  ·rw[List.mem_singleton.mp hb];exact⟨_,TV⟩)
 have Lq:∀b∈[DD+1,DD]++(wr++C.no),C.hb.get? b=none:=λb hb=>by
  rcases List.mem_append.mp hb with q|q
  ·exact jC O ae (k₁.none (Ny b q))
  ·exact O'.noNew b q
 have Oi:=TL O hm (no':=[DD+1,DD]++(wr++C.no)) (L:=DD+1) (s:=s) ae hk hg fL (by
  obtain⟨_,o,e,_⟩:=ae.own _ (.head _);refine aQ (k₁.live _ _ e) λo' e'=>?_;have iD:=Heap.lt_size e';rw[Il]at iD;exact Nat.le_of_lt (Nat.lt_succ_of_lt iD)) Lq
 have C3:r≠.bad:=λq=>by rw[q]at rA;exact rA rfl
 have Nz:∀b∈wr,∃o,ah.heap.get? b=some o:=λb hb=>(ak.d9 b (List.mem_append_left _ hb)).2;have Lw:DD+1∉wr:=λq=>by obtain⟨o,e⟩:=Nz _ q;rw[eL]at e;cases e
 have Dw:DD∉wr:=λq=>by obtain⟨o,e⟩:=Nz _ q;rw[eD]at e;cases e
 have Rin:=Rep.j8 (scope:=scope) (loc:=loc) (C:=C) O hm (no':=[DD+1,DD]++(wr++C.no)) fG qD (λq=>by
  refine cb (ak.gw q) λ_ _ _ _ x=>?_;refine aj (x.some) λo e _=>?_;rw[eL]at e;cases e)
 have mx:∀b∈wr,b∈[DD+1,DD]++(wr++C.no):=λb hb=>List.mem_append_right _ (List.mem_append_left _ hb);have hI:=mk Oi mx;have TX:=hI.keep (h':=dQ) (hI.fresh Lm Ny) (bB.refl _) (bq.of old) (λb _ o e=>old b o e);have aaz:aJ [DD+1] i s aB {heap:=dQ,gens:=ah.gens,drawn:=ah.drawn,toks:=ah.toks+0,os:=ah.os}:=(k₁.trans (ak.more (own:=[]) (t:=ah.toks+0) (d:=ah.drawn) old).2).weaken (by simp);have mO:Apart C ([DD+1,DD]++wr):=ae.apart Y2;have C5:Apart (C.j8 scope (DD+1) ([DD+1,DD]++(wr++C.no))) (DD::wr):=Fw O hm Lw mO;have Y3:∀b∈[DD+1],s.heap.get? b=none:=λb hb=>by rw[List.mem_singleton.mp hb];exact fL
 have loop:codeAny C.M C.A (.compLoop (.ListComp elt [⟨t,iter,ifs,0⟩] scope pos) 0 (.ref I) (.ref DD) (C.j8 scope (DD+1) ([DD+1,DD]++(wr++C.no))).env) (compPost C.M C.A E use Q (.ref DD) (DD+1)) {heap:=dQ,gens:=ah.gens,drawn:=ah.drawn,toks:=ah.toks+0,os:=ah.os}:=by
  refine oP (λm s'=>∃f9 acc loc' hp' i' its k,cR tg (aS true (ifs.map (d.te scope.names))) (d.ex scope.names elt) m f9 acc loc' hp'=r∧Rep (C.j8 scope (DD+1) ([DD+1,DD]++(wr++C.no))) i' loc' hp' s'∧aJ [DD+1] i s i' s'∧at_ ([DD+1,DD]++(wr++C.no)) f9 i' s'.heap∧s'.heap.get? DD=some (listOf its k)∧Vals ([DD+1,DD]++(wr++C.no)) i' s'.heap acc its.toList) (λm s' TJ=>?_) N ⟨it,[],_,au,aB,#[],0,hr,Rin,aaz,TX,TV,.nil⟩;refine bC λnG=>?_;refine ZX TJ λf9 acc loc' hp' i' its k er R' K' a' Y4 vD=>?_;refine aQ (Cn er C3) λr' mK=>?_;refine nG ?_;refine hI.next R' a' mK (λqB h' t' off ht=>?_) λv AD qB a h' t' off live ht hv TK=>?_
  ·have er:=Ft er C3 (qB▸mK);show compPost C.M C.A E use Q (.ref DD) (DD+1) (.ok .next) {s' with heap:=h',toks:=t'}
   have Lr:∀b∈(DD+1)::DD::C.no,b∈[DD+1,DD]++(wr++C.no):=λb hb=>by
    simp only[List.mem_cons,List.mem_append,List.not_mem_nil,or_false]at hb ⊢;rcases hb with q|q|q
    ·exact .inl (.inl q)
    ·exact .inl (.inr q)
    ·exact .inr (.inr q)
   have aaA:∀b∈C.no,b∉wr:=λb hb hw=>by
    obtain⟨_,o,e⟩:=ae.d9 b hb;rw[hf b hw]at e;cases e
   have Rl:=Rep.leave (C:=C.cX ((DD+1)::DD::C.no)) (l:=[DD+1,DD]++(wr++C.no)) (wr:=wr) (d:=s'.drawn) (O.cX λb hb=>Lq b (Lr b hb)) Lr Lq mx (ap.cX _) (Rep.back (C:=C) (no':=[DD+1,DD]++(wr++C.no)) ae R' K' (mO.sub (by simp)) (λv a x=>Val.Nw (wr:=[DD+1,DD]++wr) ae Y2 K' Y3 x) R'.fQ ae.xR) (λb hb=>by
    rcases List.mem_cons.mp hb with q|hb
    ·rw[q];exact Lw
    ·rcases List.mem_cons.mp hb with q|hb
     ·rw[q];exact Dw
     ·exact aaA b hb) ht off
   have vDl:Vals ((DD+1)::DD::C.no) i' h' acc its.toList:=(vD.keep (bB.refl i') (off.tk mx)).sub Lr
   have Ra:=Rep.adopt (C:=C) (l:=(DD+1)::DD::C.no) (no':=(DD+1)::C.no) (D:=DD) Rl (by simp) (λb hb=>by
    rcases List.mem_cons.mp hb with q|q
    ·rw[q];exact⟨by simp,Y1⟩
    ·refine⟨List.mem_cons_of_mem _ (List.mem_cons_of_mem _ q),λz=>?_⟩;obtain⟨_,o,e⟩:=ae.d9 b q;rw[z,fD]at e;cases e) (λq=>mO.own _ q (by simp)) (jC O ae fD) (off DD _ Dw Y4) vDl
   have Kf:aJ [DD+1] i s i' {s' with heap:=h',toks:=t'}:=K'.turn hf (d:=s'.drawn) (t:=t') off rfl;refine aj (R'.ns) λmI hmI _=>?_;refine hQ acc hp' i' _ DD (DD+1) (by rw[<- er];rfl) Ra ((Kf.drop Y3).adopt fD) ⟨mI,?_⟩ fL (mO.sub (by simp)) (O.cX λb hb=>?_) R'.len
   ·refine lq hmI λo es ep e r=>?_;exact⟨o,es,ep,off _ o Lw e,r⟩
   ·rcases List.mem_cons.mp hb with q|q
    ·rw[q];exact jC O ae fL
    ·exact O.noNew b q
  ·refine cb (Co er C3 (qB▸mK)) λm' c8 hm oN er=>?_;refine TK hP λdG AE Fp at2=>?_;have oO:Off wr s'.heap dG:=λb o hb e=>AE b o hb (off b o hb e);have gR:aJ [DD+1] i s i' {s' with heap:=dG,toks:=t'}:=K'.turn hf (d:=s'.drawn) (t:=t') oO rfl;exact Ih D Oi (Ci:=C.j8 scope (DD+1) ([DD+1,DD]++(wr++C.no))) F hI mx (⟨λb hb q=>C5.own b hb (by rw[List.mem_singleton.mp q];exact .head _),λe he L hL q=>C5.d8 e he L hL (by rw[List.mem_singleton.mp q];exact .head _),λx hx k hk mv c hc q=>C5.cells x hx k hk mv c hc (by rw[List.mem_singleton.mp q];exact .head _)⟩) (.tail _ (.head _)) Dw (λq=>Y1 (List.mem_singleton.mp q).symm) (λb hb q=>Lw ((List.mem_singleton.mp q:b=DD+1)▸hb)) fw er C3 (λk q=>by rw[q]at rA;exact rA rfl) (Rep.turn (C:=C.j8 scope (DD+1) ([DD+1,DD]++(wr++C.no))) (wr:=wr) (d:=s'.drawn) Oi mx (⟨λb hb q=>C5.own b hb (.tail _ q),λe he L hL q=>C5.d8 e he L hL (.tail _ q),λx hx k hk mv c hc q=>C5.cells x hx k hk mv c hc (.tail _ q)⟩) R' ht oO Fp) gR fD (hv.keep (bB.refl _) (AE.tk mx)) oN at2 (oO DD _ Dw Y4) (vD.keep (bB.refl i') (oO.tk mx)) λacc Fu Lp its k dE g1 g2 g3 g4 g5 g6=>⟨m',hm▸Nat.lt_succ_self m',AD,acc,c8,Fu,Lp,its,k,g1,g2,g3,g4,g5,g6⟩
 exact codeAny_compStart_list loop (hI.self (s:={heap:=dQ,gens:=ah.gens,drawn:=ah.drawn,toks:=ah.toks+0,os:=ah.os}) TX loop)
end
end
section
section
variable {n N:Nat}{d:cx}{c:Ca}(O:C.Ok n)(F:bT C.w.params)(D:cZ n d)
include O F D
theorem Pa (ae:Rep C i loc hp s)(elt t iter:Expr)(ifs:List Expr)(scope:Scope)(pos:Pos){tg:Tg}(fw:ly scope.names t=some tg)(hm:oz C.sc scope.names=true)(hk:scope.kind=.function)(hg:scope.isGenerator=false∧scope.isCoroutine=false)
  (Ik:iA iter=true):SV C [] i loc s (cp N (eX d C.sc iter) (mapOf C.sc scope.names) tg (aS true (ifs.map (d.te scope.names))) (d.ex scope.names elt) loc hp) (eval (.ListComp elt [⟨t,iter,ifs,0⟩] scope pos) C.env):=by
 intro hb;rw[eval_ListComp];refine xU O F D ae elt t iter ifs scope pos fw hm hk hg Ik hb (use:=none) (λvs hp' i' s' DD L er R K qw fL ap O2 hlen=>?_) λ_ _ z=>z;refine aQ qw λm nM=>?_;refine⟨m,nM,λh' tn=>?_⟩
 have Rl:=Rep.leave (C:=C) (l:=L::C.no) (wr:=[L]) (d:=s'.drawn) (t:=s'.toks) O (λb hb=>.tail _ hb) O2.noNew (by simp) ap R (λb hb q=>by
  rw[List.mem_singleton.mp q]at hb;obtain⟨_,o,e⟩:=ae.d9 L hb;rw[fL]at e;cases e) (Nat.le_refl _) (Off.of tn (.head _))
 rw[er];exact dT Rl (K.turn (wr:=[L]) (λb hb=>by rw[List.mem_singleton.mp hb];exact fL) (d:=s'.drawn) (t:=s'.toks) (Off.of tn (.head _)) rfl) (.ref _ _ (by rw[<- hlen];simp))
theorem Ls (ae:Rep C i loc hp s){x:Str}{p:Pos}{kd:NameKind}{m:Nat}(elt t iter:Expr)(ifs:List Expr)(scope:Scope)(pos ng:Pos){tg:Tg}(fw:ly scope.names t=some tg)(hm:oz C.sc scope.names=true)(hk:scope.kind=.function)(hg:scope.isGenerator=false∧scope.isCoroutine=false)
  (Ik:iA iter=true) (xT:C.sc.lookup x=some kd) (fh:kd=.local∨kd=.cell) (hs:slot C.sc x=some m) (nL:swapsWith (.ListComp elt [⟨t,iter,ifs,0⟩] scope pos) (some (.Name x p)) ng.line C.env=pure true) :
  SS C i s (aR m (cp N (eX d C.sc iter) (mapOf C.sc scope.names) tg (aS true (ifs.map (d.te scope.names))) (d.ex scope.names elt)) loc hp) (exec (.Assign [.Name x p] (.ListComp elt [⟨t,iter,ifs,0⟩] scope pos) ng) C.env):=by
 intro hb;unfold aR at hb ⊢;have jh:cp N (eX d C.sc iter) (mapOf C.sc scope.names) tg (aS true (ifs.map (d.te scope.names))) (d.ex scope.names elt) loc hp≠.bad:=λq=>by rw[q]at hb;exact hb rfl
 rw[exec_Assign_Name_used _ _ _ _ nL];refine wpAny_bind (wpAny_standAt (wpAny_bind ?_));show wpAny _ _ (do let _ <- comprehension (.ListComp elt [⟨t,iter,ifs,0⟩] scope pos) scope C.env _ (newList []) false (eval iter C.env) (some (assign (.Name x p) C.env))) _ _ s
 refine wpAny_bind (xU O F D ae elt t iter ifs scope pos fw hm hk hg Ik jh (use:=some (assign (.Name x p) C.env)) (Q:=λ_ s'=>wpAny C.M C.A (pure ():Sem Unit) (λ_ s'=>wpAny C.M C.A (return Flow.next:Sem Flow) _ _ s') _ s') (λvs hp' i' s' DD L er R K qw fL ap O2 hlen=>?_) λe s' z=>?_)
 ·refine aQ qw λmm nM=>?_;have hv:Val (L::C.no) (i'++[DD]) s'.heap (.ref hp'.length) (.ref DD):=.ref _ _ (by rw[<- hlen];simp);have R':Rep (C.cX (L::C.no)) (i'++[DD]) loc (hp'++[.list vs]) s':=R;show wpAny _ _ (assign (.Name x p) C.env (.ref DD)) _ _ _;refine ji (C:=C.cX (L::C.no)) O2 R' xT fh hs hv λaO aV k₂=>?_;have CZ:L∉i'++[DD]:=(R'.d9 L (.head _)).1
  have TY:aO.heap.Ns L mm:=by
   refine lq nM λo es ep e r=>?_;exact⟨o,es,ep,k₂.keep L o e (λq=>ap.own L q (by simp)) CZ,r⟩
  refine⟨mm,TY,λh' tn=>wpAny_pure (wpAny_pure ?_)⟩
  have Rl:=Rep.leave (C:=C) (l:=L::C.no) (wr:=[L]) (d:=aO.drawn) (t:=aO.toks) O (λb hb=>.tail _ hb) O2.noNew (by simp) ap aV (λb hb q=>by
   rw[List.mem_singleton.mp q]at hb;obtain⟨_,o,e⟩:=ae.d9 L hb;rw[fL]at e;cases e) (Nat.le_refl _) (Off.of tn (.head _))
  rw[er];exact dT (lc:=λp:Fl×Loc=>p.2) Rl (((K.weaken (own':=C.own) (by simp)).trans k₂).turn (wr:=[L]) (λb hb=>by rw[List.mem_singleton.mp hb];exact fL) (d:=aO.drawn) (t:=aO.toks) (Off.of tn (.head _)) rfl) trivial
 ·refine dP z λk ek f kx=>?_;exact⟨k,by rw[ek];rfl,f,kx.weaken (by simp)⟩
end
end
noncomputable def k8 (a:Arguments):Bool:=a.posonlyargs.isEmpty&&a.kwonlyargs.isEmpty&&a.vararg.isNone&&a.kwarg.isNone&&decide ((a.args.map (·.arg)).Nodup)
theorem mQ {α:Type}:∀{ps:List Str} {vs:List α},ps.length=vs.length->∀{x:Str},x∈ps->((ps.zip vs).lookup x).isSome=true
 |[],_,_,_,h=>by simp at h
 |p::ps,[],hl,_,_=>by simp at hl
 |p::ps,v::vs,hl,x,h=>by
  simp only[List.zip_cons_cons,List.lookup_cons];cases hx:x==p with
  |true=>rfl
  |false =>
   simp only;rcases List.mem_cons.mp h with q|q
   ·rw[q]at hx;simp at hx
   ·exact mQ (Nat.succ.inj hl) q
theorem Lu {α:Type}:∀(pre:List Str) (ps:List Str) (vs:List α) (sl:List (Str×α)),ps.length=vs.length->ps.Nodup->(∀x∈ps,sl.lookup x=(ps.zip vs).lookup x)->ps.filterMap (λn=>(sl.lookup n).map (n,·))=ps.zip vs:=by
 intro pre ps
 induction ps with
 |nil=>intro vs sl _ _ _;simp
 |cons p ps ih =>
  intro vs sl hl nd h;cases vs with
  |nil=>simp at hl
  |cons v vs =>
   have xV:=List.nodup_cons.mp nd;have h0:=h p (.head _);simp only[List.zip_cons_cons,List.lookup_cons,beq_self_eq_true]at h0;rw[List.filterMap_cons,h0];simp only[Option.map_some,List.zip_cons_cons];rw[ih vs sl (by simpa using hl) xV.2 λx hx=>?_];have:=h x (.tail _ hx);simp only[List.zip_cons_cons,List.lookup_cons]at this
   have ja:(x==p)=false:=by
    cases z:x==p with
    |false=>rfl
    |true=>rw[beq_iff_eq.mp z]at hx;exact absurd hx xV.1
   rw[ja]at this;exact this
theorem TZ {α β:Type}(a:α)(f:α->Sem β):((pure a:Sem α)>>=f)=f a:=rfl
theorem Lv:seqItems? Value.none=pure none:=rfl
theorem Ly {c d:Prop}[Decidable c][Decidable d]{x y z:α}(hc:¬c)(hd:¬d):ite c x (ite d y z)=z:=by rw[if_neg hc,if_neg hd]
theorem Lz {name qual:Str}{as:List Arg}{kd:List (Option Expr)}{df:List Expr}{body:FuncBody}{sc:Scope}{g:Addr}{cl:List (Str×Addr)}{kw dc pm code ct:Value}{an:Option Addr}{b:Addr}{vs:List Value}(hl:(as.map (·.arg)).length=vs.length)(nd:(as.map (·.arg)).Nodup) :
  bindArgs {name:=name,qualname:=qual,params:=⟨[],as,none,[],kd,none,df⟩,body:=body,scope:=sc,globals:=g,closure:=cl,defaults:=.none,kwdefaults:=kw,doc:=dc,pyModule:=pm,annotations:=an,code:=code,closureTuple:=ct,builtins:=b} ⟨vs,[]⟩=pure ((as.map (·.arg)).zip vs):=by
 have Xw:((as.map (·.arg)).take (as.map (·.arg)).length).filter (λn=>(((as.map (·.arg)).zip vs).lookup n).isNone)=[] :=
  List.filter_eq_nil_iff.mpr λx hx=>by
   have:=mQ hl (List.mem_of_mem_take hx);rw[Option.isNone_eq_false_iff.mpr this];exact nofun
 unfold bindArgs;dsimp only[List.map_nil,List.nil_append,List.forIn_nil,List.append_nil,Lv,TZ,Option.getD_none,List.drop_nil,List.length_nil,Nat.sub_zero];refine(Ly ?_ ?_).trans ?_
 ·show ¬(decide (vs.length>(as.map (·.arg)).length)&&true)=true
  rw[hl,decide_eq_false (Nat.lt_irrefl _)];exact nofun
 ·rw[List.drop_nil];show ¬(!(((as.map (·.arg)).take (as.map (·.arg)).length).filter λn=>(((as.map (·.arg)).zip vs).lookup n).isNone).isEmpty)=true
  rw[Xw];exact nofun
 rw[List.drop_nil,List.zip_nil_right];have hz:=Lu [] (as.map (·.arg)) vs ((as.map (·.arg)).zip vs) hl nd λ_ _=>rfl
 show(pure (List.filterMap (λn=>Option.map (λx=>(n,x)) (List.lookup n ((as.map (·.arg)).zip vs))) ((as.map (·.arg))++[])):Sem _)=_
 rw[List.append_nil,hz]
theorem oQ {name qual:Str}{st:Stmt}{cl:List (Str×Addr)}{pm code ct:Value}(hp:k8 (bf st)=true){vs:List Value}(hl:((bf st).args.map (·.arg)).length=vs.length) :
  bindArgs (qe name qual st cl pm code ct) ⟨vs,[]⟩=pure (((bf st).args.map (·.arg)).zip vs):=by
 unfold qe;unfold k8 at hp;generalize bf st=p at hp hl ⊢;obtain⟨po,as,va,ko,kd,kw,df⟩:=p;have a1:=Bool.and_eq_true_iff.mp hp;have a2:=Bool.and_eq_true_iff.mp a1.1;have a3:=Bool.and_eq_true_iff.mp a2.1;have a4:=Bool.and_eq_true_iff.mp a3.1;have h1:po=[]:=fW a4.1;have h2:ko=[]:=fW a4.2;have h3:va=none:=l7 a3.2;have h4:kw=none:=l7 a2.2;subst h1 h2 h3 h4;exact Lz hl (of_decide_eq_true a1.2)
def t4 (st:Stmt)(cl:List (Str×Addr)):Bool :=
 (aw st).kind==.function&&!(aw st).isGenerator&&!(aw st).isCoroutine&&k8 (bf st)&&decide (((aw st).names.map (·.1)).Nodup)&&(aw st).names.all (λp=>!(p.1==("__debug__":Str))) &&
 (bf st).args.all (λa=>(aw st).names.lookup a.arg==some .local||(aw st).names.lookup a.arg==some .cell) &&
 (aw st).names.all (λp=>!(p.2==.free)||((cl.lookup p.1).isSome&&!(p.1==("__classdict__":Str))))&&(cl.isEmpty||(aw st).names.all (λp=>!(p.2==.cell)))&&decide ((cl.map (·.2)).Nodup)
structure t5 (st:Stmt)(cl:List (Str×Addr)):Prop where
 kind:(aw st).kind=.function
 gen:(aw st).isGenerator=false
 co:(aw st).isCoroutine=false
 plain:k8 (bf st)=true
 nd:((aw st).names.map (·.1)).Nodup
 Y5:∀p∈(aw st).names,(p.1==("__debug__":Str))=false
 args:∀x∈(bf st).args.map (·.arg),(aw st).names.lookup x=some .local∨(aw st).names.lookup x=some .cell
 free:∀x,(x,NameKind.free)∈(aw st).names->(∃c,cl.lookup x=some c)∧(x==("__classdict__":Str))=false
 cells:cl=[]∨∀p∈(aw st).names,p.2≠.cell
 aaB:(cl.map (·.2)).Nodup
theorem gK {st:Stmt}{cl:List (Str×Addr)}(h:t4 st cl=true):t5 st cl:=by
 unfold t4 at h;simp only[Bool.and_eq_true]at h;obtain⟨⟨⟨⟨⟨⟨⟨⟨⟨h1,h2⟩,h3⟩,h4⟩,h5⟩,h6⟩,h7⟩,h8⟩,h9⟩,uv⟩:=h;refine⟨by simpa using h1,by simpa using h2,by simpa using h3,h4,of_decide_eq_true h5,λp hp=>?_,λx hx=>?_,λx hx=>?_,?_,of_decide_eq_true uv⟩
 ·have:=List.all_eq_true.mp h6 p hp
  simpa using this
 ·refine aj (List.mem_map.mp hx) λa ha bH=>?_;subst bH;have:=List.all_eq_true.mp h7 a ha
  simpa using this
 ·have:=List.all_eq_true.mp h8 _ hx;simp only[beq_self_eq_true,Bool.not_true,Bool.false_or,Bool.and_eq_true,Bool.not_eq_true']at this;exact⟨Option.isSome_iff_exists.mp this.1,this.2⟩
 ·rcases(Bool.or_eq_true_iff.mp h9)with q|q
  ·left;simpa using q
  ·right
   intro p hp;have:=List.all_eq_true.mp q p hp
   simpa using this
structure gW (s:Shared)(f:Addr)(code:Value)(scope:Scope)(cl:List (Str×Addr))(bs:List (Str×Value))(env:Env)(oc:List Addr)(ah:Shared):Prop where
 sc:env.scope=scope
 func:env.func=some f
 code:env.code=code
 globals:env.globals=mainGlobals
 builtins:env.builtins=builtinsNs
 frame:env.frame=some env.locals
 above:s.heap.objs.size≤env.locals
 same:∃h' t,ah={s with heap:=h',toks:=t}
 toks:s.toks≤ah.toks
 keep:∀b o,s.heap.get? b=some o->ah.heap.get? b=some o
 ns:∃m,ah.heap.Ns env.locals m∧∀x,scope.names.lookup x=some .local->m x=bs.lookup x
 cell:∀x,scope.names.lookup x=some .cell->∃c,env.cells.lookup x=some c∧c∈oc∧ah.heap.IsCell c (bs.lookup x)
 free:∀x,(x,NameKind.free)∈scope.names->env.cells.lookup x=cl.lookup x
 inj:∀x y c,env.cells.lookup x=some c->env.cells.lookup y=some c->x=y
 oc:∀b∈oc,s.heap.get? b=none∧b≠env.locals∧∃v,ah.heap.IsCell b v
theorem Im {k:Str->Option NameKind}:∀(bs:List (Str×Value)) (m:Str->Option Value),(bs.map (·.1)).Nodup->∀x,k x=some .local->bindL k bs m x=(bs.lookup x).or (m x):=by
 intro bs
 induction bs with
 |nil=>exact λm _ x _=>rfl
 |cons p r ih =>
  intro m nd x hx;obtain⟨n,v⟩:=p;have xV:=List.nodup_cons.mp nd;unfold bindL;rw[ih _ xV.2 x hx];cases hq:x==n with
  |true =>
   have:x=n:=beq_iff_eq.mp hq;subst this
   have T4:r.lookup x=none:=by
    cases z:r.lookup x with
    |none=>rfl
    |some w=>exact absurd (List.mem_map.mpr ⟨(x,w),bP z,rfl⟩) xV.1
   simp[T4,hx,List.lookup_cons]
  |false =>
   have ja:x≠n:=λq=>by rw[q]at hq;simp at hq
   simp only[List.lookup_cons,hq];congr 1;split
   ·simp[ja]
   ·rfl
theorem Io {k:Str->Option NameKind}:∀(bs:List (Str×Value)) (m:Str->Option Value),(bs.map (·.1)).Nodup->∀x,k x≠some .local->bindC k bs m x=(bs.lookup x).or (m x):=by
 intro bs
 induction bs with
 |nil=>exact λm _ x _=>rfl
 |cons p r ih =>
  intro m nd x hx;obtain⟨n,v⟩:=p;have xV:=List.nodup_cons.mp nd;unfold bindC;rw[ih _ xV.2 x hx];cases hq:x==n with
  |true =>
   have:x=n:=beq_iff_eq.mp hq;subst this
   have T4:r.lookup x=none:=by
    cases z:r.lookup x with
    |none=>rfl
    |some w=>exact absurd (List.mem_map.mpr ⟨(x,w),bP z,rfl⟩) xV.1
   simp[T4,hx,List.lookup_cons]
  |false =>
   have ja:x≠n:=λq=>by rw[q]at hq;simp at hq
   simp only[List.lookup_cons,hq];congr 1;split
   ·rfl
   ·simp[ja]
theorem i8 {x:Str}:∀(names:List (Str×NameKind)) (n:Nat) (acc:List (Str×Addr)),((x,NameKind.cell)∈names∨(acc.lookup x).isSome=true)->((cellsFrom n names acc).lookup x).isSome=true
 |[],n,acc,h=>by
  rcases h with h|h
  ·simp at h
  ·exact h
 |(y,k)::r,n,acc,h=>by
  unfold cellsFrom;split
  ·rename_i hk;refine i8 r (n+1) _ ?_;by_cases hx:x==y
   ·right;simp[List.lookup_cons,hx]
   ·rcases h with h|h
    ·refine(List.mem_cons.mp h).elim (λq=>?_) λq=>?_
     ·injection q with q;subst q;simp at hx
     ·left;exact q
    ·right;simp only[List.lookup_cons];simp[hx,h]
  ·rename_i hk;refine i8 r n _ ?_;rcases h with h|h
   ·refine(List.mem_cons.mp h).elim (λq=>?_) λq=>?_
    ·injection q with q z9;subst q z9;simp at hk
    ·left;exact q
   ·right;exact h
theorem Fx {x:Str}:∀{bs:List (Str×Value)},(bs.map (·.1)).Nodup->bs.reverse.lookup x=bs.lookup x:=by
 intro bs nd
 have mem:∀{l:List (Str×Value)} {w:Value},l.lookup x=some w->(x,w)∈l:=by
  intro l
  induction l with
  |nil=>intro w h;exact(Option.some_ne_none _ h.symm).elim
  |cons p l ih =>
   intro w h;obtain⟨a,b⟩:=p;simp only[List.lookup_cons]at h;cases hh:x==a with
   |true=>rw[hh]at h;obtain rfl:=oi h;rw[beq_iff_eq.mp hh];exact .head _
   |false=>rw[hh]at h;exact .tail _ (ih h)
 have of:∀{l:List (Str×Value)} {w:Value},(l.map (·.1)).Nodup->(x,w)∈l->l.lookup x=some w:=by
  intro l
  induction l with
  |nil=>intro w _ h;simp at h
  |cons p l ih =>
   intro w nd h;obtain⟨a,b⟩:=p;simp only[List.map_cons,List.nodup_cons]at nd;rcases List.mem_cons.mp h with h|h
   ·injection h with h z9;subst h z9;simp[List.lookup_cons]
   ·have hx:(x==a)=false:=by
     cases z:x==a with
     |false=>rfl
     |true=>rw[beq_iff_eq.mp z]at h;exact absurd (List.mem_map.mpr ⟨_,h,rfl⟩) nd.1
    simp only[List.lookup_cons,hx];exact ih nd.2 h
 have ndr:(bs.reverse.map (·.1)).Nodup:=by rw[List.map_reverse];exact List.pairwise_reverse.mpr (nd.imp λh=>Ne.symm h)
 cases h1:bs.lookup x with
 |some w=>exact of ndr (List.mem_reverse.mpr (mem h1))
 |none =>
  cases h2:bs.reverse.lookup x with
  |none=>rfl
  |some w=>rw[of nd (List.mem_reverse.mp (mem h2))]at h1;exact absurd h1 nofun
theorem tp {st:Stmt}(ok:t5 st []){qual:Str}{f:Addr}{code:Value}{bs:List (Str×Value)}(Ip:(bs.map (·.1)).Nodup){env:Env}(he:env=newEnv (aw st) s.heap.objs.size mainGlobals (cellsFrom (s.heap.objs.size+1) (aw st).names []) qual (some f) code none builtinsNs)
  {s':Shared} (X:InCallC s env.locals (bindL env.kindOf bs λ_=>none) env.cells (bindC env.kindOf bs λ_=>none) s') (ht:s.toks≤s'.toks) :
  gW s f code (aw st) [] bs env ((aw st).names.filterMap λp=>if p.2==.cell then env.cells.lookup p.1 else none) s':=by
 have ek:∀x,env.kindOf x=(aw st).names.lookup x:=λx=>by rw[he];rfl
 have ec:env.cells=cellsFrom (s.heap.objs.size+1) (aw st).names []:=by rw[he];rfl
 have eL:env.locals=s.heap.objs.size:=by rw[he];rfl
 have kK:∀x,(aw st).names.lookup x=some .cell->∃c,env.cells.lookup x=some c∧s'.heap.IsCell c (bs.lookup x):=λx hx=>by
  have hs:=i8 (aw st).names (s.heap.objs.size+1) [] (.inl (bP hx));rw[<- ec]at hs;refine aQ (Option.isSome_iff_exists.mp hs) λc hc=>?_;refine⟨c,hc,?_⟩;have:=X.cell x c hc;rw[Io _ _ Ip x (by rw[ek,hx];simp)]at this
  simpa using this
 refine⟨by rw[he];rfl,by rw[he];rfl,by rw[he];rfl,by rw[he];rfl,by rw[he];rfl,by rw[he];rfl,Nat.le_of_eq eL.symm,X.toInCall.same,ht,X.toInCall.keep,⟨_,X.toInCall.ns,λx hx=>?_⟩,λx hx=>?_,λx hx=>?_,λx y c hx hy=>?_,λb hb=>?_⟩
 ·rw[Im _ _ Ip x (by rw[ek];exact hx)];simp
 ·refine aj (kK x hx) λc hc hi=>?_;exact⟨c,hc,List.mem_filterMap.mpr ⟨_,bP hx,by simpa using hc⟩,hi⟩
 ·obtain⟨⟨c,hc⟩,_⟩:=ok.free x hx;exact(Option.some_ne_none _ hc.symm).elim
 ·exact name_of_addr X.apart (mem_of_lookup_some hx) (mem_of_lookup_some hy)
 ·obtain⟨⟨x,k⟩,hm,e⟩:=List.mem_filterMap.mp hb;split at e
  ·rename_i hk;have Tt:k=.cell:=by simpa using hk
   subst Tt;refine aj (kK x (fR ok.nd hm)) λc hc hi=>?_;rw[hc]at e;cases e
   have uF:=X.above x b (mem_of_lookup_some hc);rw[eL]at uF;refine⟨?_,by rw[eL];exact Nat.ne_of_gt uF,_,hi⟩;cases z:s.heap.get? b with
   |none=>rfl
   |some o=>exact absurd (Heap.lt_size z) (Nat.not_lt.mpr (Nat.le_of_lt uF))
  ·exact absurd e nofun
theorem AH {M:Model}{A:Around}{st:Stmt}{cl:List (Str×Addr)}(ok:t5 st cl){qual:Str}{f:Addr}{code:Value}{as:List Value}(hl:((bf st).args.map (·.arg)).length=as.length){Q:Env->Shared->Prop}{E:Value->Shared->Prop}
  (hQ:∀env oc ah,gW s f code (aw st) cl (((bf st).args.map (·.arg)).zip as) env oc ah->Q env ah):wpAny M A (newFunctionEnv (aw st) mainGlobals cl (((bf st).args.map (·.arg)).zip as) qual (some f) code none builtinsNs) Q E s:=by
 have hpn:((bf st).args.map (·.arg)).Nodup:=by
  have:=ok.plain;unfold k8 at this;simp only[Bool.and_eq_true]at this;exact of_decide_eq_true this.2
 have T5:(((bf st).args.map (·.arg)).zip as).map (·.1)=(bf st).args.map (·.arg):=by
  rw[List.map_fst_zip];(apply Nat.le_of_eq<;>trivial)
 have Ip:((((bf st).args.map (·.arg)).zip as).map (·.1)).Nodup:=by rw[T5];exact hpn
 have NA:∀x∈((bf st).args.map (·.arg)).zip as,x.1∈(bf st).args.map (·.arg):=λx hx=>by rw[<- T5];exact List.mem_map.mpr ⟨x,hx,rfl⟩
 rcases ok.cells with nP|AI
 ·subst nP;refine wpAny_with_toks (Nat.le_refl s.toks) (wpAny_newFunctionEnv_cells ok.kind (λx hx=>?_) λenv he s' X ht=>?_)
  ·rcases ok.args x.1 (NA x hx)with q|q
   ·exact .inl q
   ·exact .inr ⟨q,i8 _ _ _ (.inl (bP q))⟩
  ·exact hQ env _ s' (tp ok Ip he X ht)
 ·refine wpAny_with_toks (Nat.le_refl s.toks) (wpAny_newFunctionEnv AI (λx hx=>?_) (λh' qw xI ht=>?_) ok.kind)
  ·refine(ok.args x.1 (NA x hx)).elim (λq=>?_) λq=>?_
   ·exact q
   ·exact absurd rfl (AI _ (bP q))
  ·refine hQ _ [] _ ⟨rfl,rfl,rfl,rfl,rfl,rfl,Nat.le_refl _,⟨_,_,rfl⟩,ht,λb o e=>xI.extBut b o (Nat.ne_of_lt (Heap.lt_size e)) (Heap.get?_push_of_some _ e),⟨_,qw,λx _=>Fx Ip⟩,λx hx=>absurd rfl (AI _ (bP hx)),λx _=>rfl,λx y c hx hy=>?_,by simp⟩;have nd:=ok.aaB;have hx':cl.lookup x=some c:=hx;have hy':cl.lookup y=some c:=hy;have pw:cl.Pairwise λx y=>x.2≠y.2:=List.pairwise_map.mp nd;exact name_of_addr pw (mem_of_lookup_some hx') (mem_of_lookup_some hy')
section
theorem yR {a n l k m:Nat}(h:Nat.ble k l=true)(q:a+l*(n+1)≤m):a+k+l*n≤m:=by
 refine Nat.le_trans ?_ q;rw[Nat.add_assoc,Nat.mul_succ,Nat.add_comm (l*n)];exact Nat.add_le_add_left (Nat.add_le_add_right (Nat.le_of_ble_eq_true h) _) _
def oR (C:Cx)(i:Pl)(loc:Loc)(s:Shared)(r:R V):Result->Shared->Prop:=λq s'=>match q with
 |.ok (.ret v)=>PN C [] i s (λ_=>loc) (Val C.no) r v s'
 |.ok _=>False
 |.error e=>PX C [] i s r e s'
def LA (P:Params)(f:Addr)(st:Stmt):Prop:=∃oc od nQ name qual cl pm code ct,(K P).lookup f=some ⟨oc,od,.func (qe name qual st cl pm code ct),nQ⟩∧codeIn (K P) code qual=true∧t4 st cl=true∧∀x c,cl.lookup x=some c->∃co v,(K P).lookup c=some co∧co.data=.cell v
theorem rC {vs:List V}:∀{as:List Value},Vals no i h vs as->∀{ps:List Str} {x:Str} {u:V},(ps.zip vs).lookup x=some u->∃a,(ps.zip as).lookup x=some a∧Val no i h u a:=by
 induction vs with
 |nil=>intro as _ ps x u e;simp at e
 |cons v vs ih =>
  intro as hh ps x u e;refine cb hh.inv λa bs rz hv xK=>?_;subst rz;cases ps with
  |nil=>exact bx e
  |cons p ps =>
   simp only[List.zip_cons_cons,List.lookup_cons]at e ⊢;cases hx:x==p with
   |true=>rw[hx]at e;obtain rfl:=oi e;exact⟨_,rfl,hv⟩
   |false=>rw[hx]at e;exact ih xK e
theorem C6 {α:Type}{x:Str}:∀{ps:List Str} {vs:List α},x∉ps->(ps.zip vs).lookup x=none
 |[],_,_=>by simp
 |p::ps,[],_=>by simp
 |p::ps,v::vs,h=>by
  simp only[List.mem_cons,not_or]at h;simp only[List.zip_cons_cons,List.lookup_cons];have:(x==p)=false:=by simpa using h.1
  rw[this];exact C6 h.2
theorem fS.drop (k:fS own i s s')(hf:∀b∈own,s.heap.get? b=Option.none):fS [] i s s':=λb o e hn _ h2=>k b o e hn (λq=>by rw[hf b q]at e;exact(Option.some_ne_none _ e.symm).elim) h2
noncomputable def flv (fl:Flow):Value:=match fl with
 |.ret v=>v
 |_=>.none
def T6 (r:R (Fl×Loc)):R V:=az r λp hp=>match p.1 with
 |.ret v=>.ok v hp
 |.next=>.ok .none hp
noncomputable abbrev Cx.fn (C:Cx) (env:Env) (oc:List Addr) (sc:Sc):Cx:={C with A:=C.A.deeper env,env:=env,d8:=env::C.d8,oc:=oc,sc:=sc}
section
variable {n N:Nat}{d:cx}{c:Ca}{st:Stmt}{cl:List (Str×Addr)}{as:List Value}{vs:List V}{env:Env}{oc:List Addr}{f:Addr}{code:Value}(O:C.Ok (n+1))
include O
theorem oS (ae:Rep C i loc hp s)(T:gW s f code (aw st) cl (((bf st).args.map (·.arg)).zip as) env oc ah):∀b∈(C.fn env oc (aw st).names).own,s.heap.get? b=none:=λb hb=>by
 rcases List.mem_cons.mp hb with q|q
 ·rw[q];cases z:s.heap.get? env.locals with
  |none=>rfl
  |some o=>exact absurd (Heap.lt_size z) (Nat.not_lt.mpr T.above)
 ·exact(T.oc b q).1
theorem Fy (ae:Rep C i loc hp s)(ok:t5 st cl)(T:gW s f code (aw st) cl (((bf st).args.map (·.arg)).zip as) env oc ah):(C.fn env oc (aw st).names).Ok n:=by
 have ek:∀x,env.kindOf x=(aw st).names.lookup x:=λx=>by show env.scope.names.lookup x=_;rw[T.sc]
 refine⟨Around.frames_deeper O.frames,?_,?_,O.handled,O.dI,O.top,?_,T.globals,T.builtins,λx k e=>⟨?_,ok.Y5 _ (bP e)⟩,ok.nd,T.inj,λb hb=>jC (n:=n+1) O ae (oS O ae T b hb),?_,O.noNew,⟨env.locals,C.d8,env,T.frame,rfl,T.frame⟩,?_⟩
 ·exact yR (l:=10) (show Nat.ble 1 10=true from rfl) O.depth
 ·exact yR (l:=40) (show Nat.ble 3 40=true from rfl) O.units
 ·show env.scope.kind=_;rw[T.sc];exact ok.kind
 ·cases k with
  | «local»=>exact(ek x).trans e
  |cell =>
   refine dP (T.cell x e) λc hc ho _=>?_;exact⟨(ek x).trans e,c,hc,.tail _ ho,(T.oc c ho).2.1⟩
  |free =>
   have hm:=bP e;refine bC λnG=>?_;obtain⟨⟨c,hc⟩,hd⟩:=ok.free x hm;refine nG ?_;exact⟨.inr ⟨(ek x).trans e,hd⟩,c,(T.free x hm).trans hc⟩
  |globalImplicit=>exact(ek x).trans e
  |globalExplicit=>trivial
 ·refine bC λnG=>?_;obtain⟨_,o,e,_⟩:=ae.own _ (.head _);refine nG ?_;exact Nat.le_trans O.above (Nat.le_trans (Nat.le_of_lt (Heap.lt_size e)) T.above)
 ·show env.scope.isGenerator=false∧env.scope.isCoroutine=false;rw[T.sc];exact⟨ok.gen,ok.co⟩
theorem Iq (ae:Rep C i loc hp s)(ok:t5 st cl)(nP:∀x c,cl.lookup x=some c->∃co v,(K C.w.params).lookup c=some co∧co.data=.cell v)(T:gW s f code (aw st) cl (((bf st).args.map (·.arg)).zip as) env oc ah)(hv:Vals C.no i s.heap vs as) :
  Rep (C.fn env oc (aw st).names) i (cB (bV (aw st).names) ((bf st).args.map (·.arg)) vs) hp ah∧aJ [] i s i ah:=by
 refine bC λnG=>?_;refine jI (T.same) λh' t Fz=>?_;have hk:=T.keep;have ht:=T.toks;subst Fz;have z9:=ae.more (own:=[]) (t:=t) (d:=s.drawn) (h':=h') hk ht;have ak:=z9.1;have k₁:=z9.2;have NB:Vals C.no i h' vs as:=hv.keep (bB.refl i) (bq.of hk);refine aj (T.ns) λm hm pZ=>?_;refine m6 (id hm) λoL es ep qF mP T7=>?_;refine nG ?_;have uL:s.heap.get? env.locals=none:=oS O ae T _ (.head _)
 have T8:∀b,s.heap.get? b=none->b∉i:=λb hb hm=>by
  refine cb (ae.gw hm) λ_ _ _ _ x=>?_;refine aj (x.some) λo e _=>?_;rw[hb]at e;exact(Option.some_ne_none _ e.symm).elim
 refine⟨⟨⟨m,hm,λk v e=>?_⟩,ak.len,ak.objs,ak.nd,ak.new,λb hb=>?_,ak.base,⟨?_,⟨env.locals,oL,T.frame,jC (n:=n+1) O ae uL,qF,by rw[mP];simp⟩,ak.fQ⟩,ak.gens,ak.os,ak.pos,by simp[cB],ak.d9⟩,k₁⟩
 ·unfold cB at e;rw[List.getElem?_map]at e;refine aj (Option.map_eq_some_iff.mp e) λx hx e=>?_;refine aj (qh hx) λkd fh ij=>?_;have gM:=fR ok.nd fh;refine⟨x,kd,hx,gM,?_⟩;cases kd with
  | «local» =>
   intro u hu;subst hu;refine aj (rC NB e) λa ha uP=>?_;exact⟨a,(pZ x gM).trans ha,uP⟩
  |cell =>
   refine dP (T.cell x gM) λc hc _ hi=>?_;refine⟨c,_,hc,hi,λu hu=>?_⟩;subst hu;refine aj (rC NB e) λa ha uP=>?_;exact⟨a,ha,uP⟩
  |free =>
   obtain⟨⟨c,hc⟩,_⟩:=ok.free x fh;refine eG (nP x c hc) λco v0 Nm my=>?_;refine⟨c,v0,(T.free x fh).trans hc,⟨co,hk _ _ (ae.base _ _ (O.dI _ _ Nm)),my⟩,λu hu=>?_⟩;subst hu
   have hnp:x∉(bf st).args.map (·.arg):=λq=>by
    rcases ok.args x q with z|z<;>rw[gM]at z<;>cases z
   rw[C6 hnp]at e;exact absurd e nofun
  |globalImplicit=>cases ij
  |globalExplicit=>cases ij
 ·rcases List.mem_cons.mp hb with q|q
  ·rw[q];exact⟨T8 _ uL,oL,qF,by rw[mP];simp,by rw[mP];simp⟩
  ·refine bC λnG=>?_;obtain⟨h1,_,v,o,ho,hd⟩:=T.oc b q;refine nG ?_;exact⟨T8 _ h1,o,ho,by rw[hd];simp,by rw[hd];simp⟩
 ·rw[T.sc,ok.kind];simp
theorem C7 (ae:Rep C i loc hp s)(T:gW s f code (aw st) cl (((bf st).args.map (·.arg)).zip as) env oc ah)(k₁:aJ [] i s i ah){r:R (Fl×Loc)}{fl:Flow}{aO:Shared}
  (x:PN (C.fn env oc (aw st).names) (C.fn env oc (aw st).names).own i ah (·.2) (tM C.no) r fl aO):oR C i loc s (T6 r) (.ok (.ret (flv fl))) aO:=by
 have fresh:=oS (n:=n) O ae T;refine fj x λp bJ ck er aV k₂ cW=>?_;have gR:aJ (C.fn env oc (aw st).names).own i s ck aO:=(k₁.weaken (by simp)).trans k₂;have Rb:Rep C ck loc bJ aO:=Rep.back (C:=C) (no':=C.no) ae aV gR (ae.apart fresh) (λv a x=>Val.Nw (wr:=[]) ae (by simp) gR fresh x) aV.fQ.2.2 ae.xR;have LB:=gR.drop fresh;obtain⟨fp,lp⟩:=p;subst er;cases fp with
 |next =>
  cases fl with
  |next=>exact dT Rb LB .none
  |_=>exact cW.elim
 |ret v =>
  cases fl with
  |ret a=>exact dT Rb LB cW
  |_=>exact cW.elim
theorem Ir (ae:Rep C i loc hp s)(ok:t5 st cl)(T:gW s f code (aw st) cl (((bf st).args.map (·.arg)).zip as) env oc ah)(k₁:aJ [] i s i ah){r:R (Fl×Loc)}{e:Value}{aO:Shared}{E:Value->Shared->Prop}
  (x:PX (C.fn env oc (aw st).names) (C.fn env oc (aw st).names).own i ah r e aO):wpAny C.M (C.A.deeper env) (leaving env e) (λ_ xN=>oR C i loc s (T6 r) (.error e) xN) E aO:=by
 have fresh:=oS (n:=n) O ae T;have jx:=Fy O ae ok T;refine dP x λk er fly kx=>?_;unfold leaving;refine wpAny_bind (tW jx (outer:=C.d8) rfl fly λh' f' ev held=>oH jx f' held none (.inl rfl) λdG Au Tj tr=>?_);show PX C [] i s _ e _;refine⟨k,by rw[er];rfl,⟨?_,Au.base,Au.fQ.2.2,Au.gens,Au.os⟩,?_⟩
 ·refine bC λnG=>?_;obtain⟨ea,dd,oe,Tf,t,e0,e1,e2,e3,e4,_,r1,r2,r3,r4,r5,r6⟩:=Au.obj;subst e0;obtain⟨xM,H7,T',oT,ts,a1,a2,a3,a4,a5,a6,a7,a8,a9,Y6⟩:=tr ea rfl;refine nG ?_;exact⟨ea,dd,oe,Tf,t,rfl,e1,e2,e3,e4,⟨xM,H7,a1,a2,a3,.inr ⟨T',oT,ts,_,a4,a5,a6,a7,a8,a9,Y6,.inl rfl⟩⟩,r1,r2,r3,r4,r5,λv hv=>r6 v (.tail _ hv)⟩
 ·exact fS.drop ((k₁.weaken (own':=(C.fn env oc (aw st).names).own) (by simp)).z5 (fS.Ar (fS.Ar kx ev) Tj)) fresh
end
section
variable {n N:Nat}{d:cx}{c:Ca}{st:Stmt}(O:C.Ok (n+1))(F:bT C.w.params)(D:cZ n d)
include O F D
theorem Pb (ae:Rep C i loc hp s){f:Addr}(hf:LA C.w.params f st){vs:List V}{as:List Value}(hv:Vals C.no i s.heap vs as) :
  (if((bf st).args.map (·.arg)).length==vs.length then bj (aF ((di st).map (d.st (aw st).names))) (cB (bV (aw st).names) ((bf st).args.map (·.arg)) vs) hp else .bad)≠.bad ->
  codeAny C.M C.A (.call (.ref f) ⟨as,[]⟩) (oR C i loc s (if((bf st).args.map (·.arg)).length==vs.length then bj (aF ((di st).map (d.st (aw st).names))) (cB (bV (aw st).names) ((bf st).args.map (·.arg)) vs) hp else .bad)) s:=by
 intro hb;by_cases hlen:(((bf st).args.map (·.arg)).length==vs.length)=true
 ·rw[if_pos hlen]at hb;simp only[if_pos hlen];have yS:((bf st).args.map (·.arg)).length=as.length:=by rw[<- hv.length];simpa using hlen
  refine bC λnG=>?_;obtain⟨AF,od,nQ,name,qual,cl,pm,code,ct,gM,my,i9,nP⟩:=hf;have ok:=gK i9;refine wg (O.top) λp loose mg mb TR=>?_;refine nG ?_;have T9:=O.depth;have hX:(K C.w.params).In s.heap:=ae.dI O;refine codeAny_call_function (fd:=qe name qual st cl pm code ct) (body:=di st) (by have:recursionLimit=1000:=rfl;(apply uk<;>trivial)) (hX _ _ gM) rfl ok.co ok.gen rfl (codeRec_of hX my) ?_;rw[oQ ok.plain yS];refine wpAny_pure (AH ok yS λenv oc ah T=>⟨(TR.nolimit.keeps ae.base).keeps T.keep,codeAny_func ?_⟩);have z9:=Iq O ae ok nP T hv;have ak:=z9.1;have k₁:=z9.2;have jx:=Fy O ae ok T;have jh:aF ((di st).map (d.st (aw st).names)) (cB (bV (aw st).names) ((bf st).args.map (·.arg)) vs) hp≠.bad:=λq=>by unfold bj at hb;rw[q]at hb;exact hb rfl
  exact wpAny_mono (nK (C:=C.fn env oc (aw st).names) jx F D ⟨C.d8,rfl⟩ (di st) ak jh) (λfl aO x=>by have:=C7 O ae T k₁ x;cases fl<;>exact this) λe aO x=>Ir O ae ok T k₁ x
 ·rw[if_neg hlen]at hb;exact absurd rfl hb
end
end
section
def qG (n:Nat)(c:Ca):Prop:=∀{C:Cx},C.Ok n->bT C.w.params->∀{i loc hp s},Rep C i loc hp s->∀{f:Addr} {vs:List V} {as:List Value},isClass f=false->Vals C.no i s.heap vs as->c (.fix (.ref f)) vs hp≠.bad ->
 codeAny C.M C.A (.call (.ref f) ⟨as,[]⟩) (oR C i loc s (c (.fix (.ref f)) vs hp)) s
theorem Rep.Ua (ae:Rep C i loc hp s){a b:Addr}{o o':O}{h':Heap}{t:Nat}{d:Drawn}(k:∀b o,s.heap.get? b=some o->h'.get? b=some o)(hn:s.heap.get? a=none)(hm:s.heap.get? b=none)(uF:a≠b)
  (ho:bq C.no s.heap h'->fK C.no (i++[a,b]) C.w.params h' a o) (qi:bq C.no s.heap h'->fK C.no (i++[a,b]) C.w.params h' b o') (ht:s.toks≤t) :
  Rep C (i++[a,b]) loc (hp++[o,o']) {heap:=h',gens:=s.gens,drawn:=d,toks:=t,os:=s.os}∧aJ own i s (i++[a,b]) {heap:=h',gens:=s.gens,drawn:=d,toks:=t,os:=s.os}:=by
 have qk:∀x,s.heap.get? x=none->x∉i:=λx hx hm=>by
  refine cb (ae.gw hm) λ_ _ _ _ q=>?_;refine aj (q.some) λob e _=>?_;rw[hx]at e;exact(Option.some_ne_none _ e.symm).elim
 have gr:bB i (i++[a,b]):=⟨[a,b],rfl⟩;refine ae.step (λb o e _=>k b o e) ⟨[a,b],rfl,by simp[hn,hm]⟩ (λb hb=>?_) (by simp[ae.len]) ?_ (λtk n ob e=>?_) rfl rfl ht
 ·refine cb (ae.gw hb) λ_ _ _ _ q=>?_;refine fi (q.some) λo e _ h2 _=>?_;exact⟨o,k b o e,h2⟩
 ·rw[List.nodup_append];refine⟨ae.nd,by simp[uF],λx hx y hy=>?_⟩;simp at hy;rcases hy with rfl|rfl
  ·rintro rfl;exact qk _ hn hx
  ·rintro rfl;exact qk _ hm hx
 ·by_cases hl:n<hp.length
  ·rw[List.getElem?_append_left hl]at e;refine aj (ae.objs n ob e) λc e1 q=>?_;refine aj (q.some) λob' e2 _=>?_;exact⟨c,gr.get e1,q.keep gr tk ((k c ob' e2).trans e2.symm)⟩
  ·refine aQ (Nat.exists_eq_add_of_le (Nat.le_of_not_lt hl)) λm rz=>?_;subst rz;rw[List.getElem?_append_right (Nat.le_add_right _ _),Nat.add_sub_cancel_left]at e;have ei:∀m,(i++[a,b])[hp.length+m]?=[a,b][m]?:=λm=>by rw[<- ae.len,List.getElem?_append_right (Nat.le_add_right _ _),Nat.add_sub_cancel_left]
   cases m with
   |zero=>obtain rfl:=oi e;exact⟨a,ei 0,ho tk⟩
   |succ m =>
    cases m with
    |zero=>obtain rfl:=oi e;exact⟨b,ei 1,qi tk⟩
    |succ m=>exact bx e
theorem Rep.under (R:Rep C i loc hp s)(A':Around):Rep {C with A:=A'} i loc hp s:=⟨R.ns,R.len,R.objs,R.nd,R.new,R.own,R.base,R.fQ,R.gens,R.os,R.pos,R.ll,R.d9⟩
theorem Rep.above {A':Around}(R:Rep {C with A:=A'} i loc hp s):Rep C i loc hp s:=⟨R.ns,R.len,R.objs,R.nd,R.new,R.own,R.base,R.fQ,R.gens,R.os,R.pos,R.ll,R.d9⟩
theorem ml.above {A':Around}{k:Int}{e:Value}(f:ml {C with A:=A'} k e s):ml C k e s:=⟨f.obj,f.base,f.fQ,f.gens,f.os⟩
theorem Cx.Ok.under {n:Nat}(O:C.Ok (n+1)){A':Around}(hf:A'.frames=C.A.frames)(hd:A'.depth≤C.A.depth+10)(hu:A'.units≤C.A.units+40)(hh:A'.handled=C.A.handled):Cx.Ok {C with A:=A'} n :=
 ⟨hf.trans O.frames,Nat.le_trans (Nat.add_le_add_right hd _) (yR (l:=10) (Nat.ble_self_eq_true _) O.depth),Nat.le_trans (Nat.add_le_add_right hu _) (yR (l:=40) (Nat.ble_self_eq_true _) O.units),hh.trans O.handled,O.dI,O.top,O.kind,O.globals,O.builtins,λx kd e=>by
  refine bp (O.names x kd e) λh1 h2=>?_;refine⟨?_,h2⟩;cases kd<;>exact h1,O.nd,O.cells,O.nD,O.above,O.noNew,O.frame,O.func⟩
theorem AJ (C:Addr)(rest:List Value)(kw:List (Str×Value)):(Code.builtin "type.__call__" ⟨.ref C::rest,kw⟩).cUnits=1:=by rfl
theorem yx (C:Addr)(rest:List Value)(kw:List (Str×Value)):(Code.builtin "type.__call__" ⟨.ref C::rest,kw⟩).weight=1:=by rfl
theorem Cq (C:Addr)(rest:List Value)(kw:List (Str×Value)):(Code.builtin "type.__call__" ⟨.ref C::rest,kw⟩).envs=[]:=by rfl
theorem AK (CC:Addr)(as:List Value)(A:Around):(A.under (.builtin "type.__call__" ⟨.ref CC::as,[]⟩)).frames=A.frames:=by
 unfold Around.under;rw[Cq];rfl
theorem tq (CC:Addr)(as:List Value)(A:Around):(A.under (.builtin "type.__call__" ⟨.ref CC::as,[]⟩)).depth≤A.depth+10:=by
 unfold Around.under;rw[yx];exact Nat.add_le_add_left (by decide) _
theorem Cr (CC:Addr)(as:List Value)(A:Around):(A.under (.builtin "type.__call__" ⟨.ref CC::as,[]⟩)).units≤A.units+40:=by
 unfold Around.under;rw[AJ];exact Nat.add_le_add_left (by decide) _
section
variable {n N:Nat}{d:cx}{c:Ca}(O:C.Ok (n+1))(F:bT C.w.params)(Y7:∀CC,isClass CC=true->makesIn (K C.w.params) CC=true)(cF:qG n c)
include O F Y7 cF
theorem LC (ae:Rep C i loc hp s){CC:Addr}(hC:isClass CC=true){vs:List V}{as:List Value}(hv:Vals C.no i s.heap vs as)(hnf:∀f,ff (d0 CC) .init=some f->isClass f=false)(hb:m5 c CC vs hp≠.bad) :
  codeAny C.M C.A (.call (.ref CC) ⟨as,[]⟩) (oR C i loc s (m5 c CC vs hp)) s:=by
 unfold m5 at hb ⊢;cases hk:ff (d0 CC) .init with
 |none=>rw[hk]at hb;exact absurd rfl hb
 |some f =>
  rw[hk]at hb;simp only at hb ⊢;refine bp ((F.cls CC hC).bA .init f hk) λh1 h2=>?_;have X:(K C.w.params).In s.heap:=ae.dI O;obtain⟨hh,g,dd,t,os⟩:=s;have sz:(hh.push emptyDict).objs.size=hh.objs.size+1:=Heap.size_push ..;refine make_core (makes_of X (Y7 CC hC)) (looks_findIn X h1) (λself=>bind_fn X self h2) (.inl rfl) ?_;have kp:∀b o,hh.get? b=some o->((hh.push emptyDict).push (instObj CC hh.objs.size)).get? b=some o:=λb o e=>Heap.get?_push_of_some _ (Heap.get?_push_of_some _ e);have gd:((hh.push emptyDict).push (instObj CC hh.objs.size)).get? hh.objs.size=some emptyDict:=Heap.get?_push_of_some _ (Heap.get?_push_size _ rfl);have gx:((hh.push emptyDict).push (instObj CC hh.objs.size)).get? (hh.objs.size+1)=some (instObj CC hh.objs.size):=by rw[<- sz];exact Heap.get?_push_size _ rfl
  obtain⟨aV,gR⟩:=ae.Ua (own:=[]) (a:=hh.objs.size+1) (b:=hh.objs.size) (o:=.inst CC (hp.length+1)) (o':=.dict []) (d:=dd) (t:=t) kp (eS _ 1) (eS _ 0) (Nat.succ_ne_self _)
   (λtk=>⟨hh.objs.size,by
    rw[<- ae.len,List.getElem?_append_right (Nat.le_add_right _ _)];have e0:i.length+1 - i.length=1:=by apply yy<;>trivial
    rw[e0];rfl,gx⟩) (λtk=>⟨[],_,gd,.nil,by simp⟩) (Nat.le_refl _)
  have aaC:=O.under (A':=C.A.under (.builtin "type.__call__" ⟨.ref CC::as,[]⟩)) (AK CC as C.A) (tq CC as C.A) (Cr CC as C.A) rfl;have lJ:(i++[hh.objs.size+1,hh.objs.size])[hp.length]?=some (hh.objs.size+1):=by rw[<- ae.len];simp
  have Xx:Vals C.no (i++[hh.objs.size+1,hh.objs.size]) ((hh.push emptyDict).push (instObj CC hh.objs.size)) (.ref hp.length::vs) (.ref (hh.objs.size+1)::as):=.cons (.ref _ _ lJ) (hv.keep gR.g (bq.of kp));have jh:c (.fix (.ref f)) (.ref hp.length::vs) (hp++[.inst CC (hp.length+1),.dict []])≠.bad:=λq=>by rw[q]at hb;exact hb rfl
  refine codeAny_mono (cF (C:={C with A:=C.A.under (.builtin "type.__call__" ⟨.ref CC::as,[]⟩)}) aaC F (aV.under _) (hnf f hk) Xx jh) λr s' z=>?_;rcases r with e|(_|_|_|v)
  ·refine dP z λk er f' kx=>?_;exact⟨k,by rw[er];rfl,f'.above,gR.z5 kx⟩
  all_goals first|exact z.elim|skip
  refine fj z λb hp' i' er R' K' NC=>?_;rw[er]at hb;simp only[az]at hb;split at hb
  ·cases NC with
   |none =>
    refine⟨rfl,?_⟩;show PN C [] i _ _ _ _ _ _;rw[er];exact dT (C:=C) R'.above (gR.trans K') (.ref _ _ (K'.g.get lJ))
  ·exact absurd rfl hb
end
end
section
structure k9 (P:Params):Prop where
 two:bT P
 fns:∀a st,table.lookup a=some st->LA P a st
 made:∀CC,isClass CC=true->makesIn (K P) CC=true
 keep:∀a,(isClass a=true∨(table.lookup a).isSome=true)->keepIn (K P) (.ref a)=true
 get:∀{M:Model} {A:Around} (pl:Sem Bool) (Q:Value×List Value->Shared->Prop) (E:Value->Shared->Prop) (s:Shared),(K P).In s.heap->Q (.builtin "dict.get",[.ref 89]) s->wpAny M A (getMethod (.ref 89) "get" pl) Q E s
section
variable {n N:Nat}{d:cx}(O:C.Ok n)(FA:∀P,k9 P)(D:cZ n d)
include O FA D
omit O FA D in
theorem iW {b:Bool}(h:(!b)=true):b=false:=(Bool.not_eq_true' b).mp h
theorem AL (ae:Rep C i loc hp s)(elt:Expr)(scope:Scope)(g:Comprehension)(pos:Pos):SV C [] i loc s (EH N d C.sc elt scope g loc hp) (eval (.ListComp elt [g] scope pos) C.env):=by
 obtain⟨tg,it,ifs,a⟩:=g;refine eu λt ht=>fY λhc=>?_;have h0:=bk hc;have h1:=bk h0.2;have h2:=bk h1.2;have h3:=bk h2.2;have h4:=bk h3.2;have ha:a=0:=beq_iff_eq.mp h0.1;subst ha;exact Pa O (FA C.w.params).two D ae elt tg it ifs scope pos ht h1.1 (beq_iff_eq.mp h2.1) ⟨iW h3.1,iW h4.1⟩ h4.2
theorem Iu (ae:Rep C i loc hp s)(e:Expr):SV C [] i loc s (zY N d C.sc e loc hp) (eval e C.env):=by
 refine eu λq hq=>eu λg hg=>?_;obtain⟨elt,gs,scope⟩:=q;refine aQ (xr hq) λp aC=>?_;subst aC;have eg:gs=[g]:=fg hg;subst eg;exact AL O FA D ae elt scope g p
omit O FA D in
theorem FC {κ:Type}{o:Option κ}{f:κ->Ex}{m:Nat}{t:Sem Flow}(h:∀k,o=some k->SS C i s (aR m (f k) loc hp) t):SS C i s (aR m (xo o f) loc hp) t:=by
 cases o with
 |none=>exact λhb=>absurd rfl hb
 |some k=>exact h k rfl
omit O FA D in
theorem Xy {b:Bool}{f:Ex}{m:Nat}{t:Sem Flow}(h:b=true->SS C i s (aR m f loc hp) t):SS C i s (aR m (xi b f) loc hp) t:=by
 cases b with
 |false=>exact λhb=>absurd rfl hb
 |true=>exact h rfl
theorem FG (ae:Rep C i loc hp s){x:Str}{p:Pos}{kd:NameKind}{m:Nat}(e:Expr)(ng:Pos)(xT:C.sc.lookup x=some kd)(fh:kd=.local∨kd=.cell)(hs:slot C.sc x=some m)(nL:swapsWith e (some (.Name x p)) ng.line C.env=pure true) :
  SS C i s (aR m (zY N d C.sc e) loc hp) (exec (.Assign [.Name x p] e ng) C.env):=by
 refine FC λq hq=>?_;refine aQ (xr hq) λpos aC=>?_;subst aC;refine FC λg hg=>?_;obtain⟨elt,gs,scope⟩:=q;obtain rfl:gs=[g]:=fg hg;obtain⟨tg,it,ifs,a⟩:=g;refine FC λt ht=>Xy λhc=>?_;have h0:=bk hc;have h1:=bk h0.2;have h2:=bk h1.2;have h3:=bk h2.2;have h4:=bk h3.2;obtain rfl:a=0:=beq_iff_eq.mp h0.1;exact Ls O (FA C.w.params).two D ae elt tg it ifs scope pos ng ht h1.1 (beq_iff_eq.mp h2.1) ⟨iW h3.1,iW h4.1⟩ h4.2 xT fh hs nL
end
section
variable {n N:Nat}{d:cx}{c:Ca}(O:C.Ok n)(FA:∀P,k9 P)(D:cZ n d)(cO:kY n c)(kO:nI C.w.params c)
include O FA D cO kO
omit cO kO in
theorem LD (ae:Rep C i loc hp s)(o:Expr)(as:List Expr)(apos pos:Pos)(h0:jA o=false)(h3:(apos.endLine==pos.line)=true):SV C [] i loc s (Nb d C.sc o as loc hp) (eval (.Call (.Attribute o "replace" apos) as [] pos) C.env):=by
 refine eu λq1 e1=>eu λy e2=>eu λnn e3=>eu λq4 e4=>eu λf e5=>eu λx e6=>eu λx' e7=>fY λe8=>?_;refine jI (tN e2) λq p h2=>?_;refine aQ (mL e4) λpc h4=>?_;refine aQ (jB e5) λpf h5=>?_;refine aQ (jB e7) λpx h7=>?_;refine bp (qA (bk e8).2) λC8 C9=>?_;rw[mj e1,h2,h4,h5,fg e6,h7,fW (bk e8).1,C8];exact O1 O (FA C.w.params).two D ae o y nn q p "str" x' pf px pc apos pos (fg e3) rfl C9 h0 h3
theorem LF (ae:Rep C i loc hp s)(f:Expr)(as:List Expr)(pos:Pos)(h1:as.all noStar=true)(h2:as.length<20):SV C [] i loc s (Nc c d C.sc f as pos loc hp) (eval (.Call f as [] pos) C.env):=by
 have F:=(FA C.w.params).two;cases f with
 |Attribute o m apos =>
  refine fY λhc=>?_;have h3:=(bk hc).1;have h0:=iW (bk hc).2;by_cases hm:(m==("replace":Str))=true
  ·rw[if_pos hm];have nM:m=("replace":Str):=beq_iff_eq.mp hm;subst nM;exact LD O FA D ae o as apos pos h0 h3
  ·rw[if_neg hm];exact eu λk hk=>OP O F D cO kO (λpl Q E s hX hq=>(FA C.w.params).get pl Q E s hX hq) ae o m k as apos pos hk h1 h2 h0 h3
 |Name x p=>exact ON O F D cO kO ae _ as pos h1 ⟨_,_,rfl⟩
 |_=>exact λhb=>absurd rfl hb
omit cO kO in
theorem Pc (ae:Rep C i loc hp s)(o sl:Expr)(pos:Pos):SV C [] i loc s (Sd d C.sc o sl loc hp) (eval (.Subscript o sl pos) C.env):=by
 have F:=(FA C.w.params).two;cases sl with
 |Slice lo hi st p=>exact fY λh=>by rw[l7 h];exact KP O F D ae o lo hi p pos
 |Constant k q p =>
  cases k with
  |str x=>exact eu λk hk=>OT O F D ae o x k q p pos hk
  |_=>exact HR O F D ae o _ pos rfl
 |_=>exact HR O F D ae o _ pos rfl
theorem Pe (ae:Rep C i loc hp s)(e:Expr):SV C [] i loc s (Hv c N d C.sc e loc hp) (eval e C.env):=by
 have F:=(FA C.w.params).two;have z:∀{es:List Expr},EI es=true->es.all noStar=true∧es.length≤sizeLine:=λh=>⟨(bk h).1,Nat.le_trans (of_decide_eq_true (bk h).2) (by decide)⟩;cases e with
 |Constant k q p=>exact sZ O F.base ae k q p
 |Name x p=>exact hG O ae (λv hv=>F.base.iR _ v hv)
 |BoolOp op es pos=>exact OL O F.base D op pos es ae
 |BinOp a op b p=>exact So O F.base D ae a op b p
 |UnaryOp op e p =>
  cases op with
  |USub=>exact Sp O F.base D ae e p
  |Not=>exact Sq O F.base D ae e p
  |_=>exact λhb=>absurd rfl hb
 |IfExp t a b p=>exact Xa O F.base D ae t a b p
 |Dict ks vs pos =>
  refine eu λkk hkk=>fY λhc=>?_;have h1:=bk hc;have h2:=bk h1.2;exact OW O F D ae ks kk vs pos hkk (beq_iff_eq.mp h1.1) (λq=>by rw[q]at h2;exact absurd h2.1 nofun) (of_decide_eq_true h2.2)
 |List es p=>exact fY λh=>Sz O F.base D ae es p (z h).1 (z h).2
 |Tuple es q p=>exact fY λh=>Sy O F.base D ae es q p (z h).1 (z h).2
 |ListComp elt gs scope p=>exact eu λg hg=>by rw[fg hg];exact AL O FA D ae elt scope g p
 |Compare e ops es p=>exact fY λh=>Sv O F.base D ae e ops es p (beq_iff_eq.mp (bk h).1) (iW (bk h).2)
 |Call f as ks p=>exact fY λh=>by rw[fW (bk h).1];exact LF O FA D cO kO ae f as p (bk (bk h).2).1 (of_decide_eq_true (bk (bk h).2).2)
 |FormattedValue e k fs p=>exact fY λh=>by rw[l7 (bk h).2,show k=-1 from beq_iff_eq.mp (bk h).1];exact SJ O F D ae e p
 |JoinedStr es p=>exact OV O F D ae es p
 |Attribute o m p=>exact fY λh=>eu λk hk=>OQ O F D cO kO ae o m k p hk (iW h)
 |Subscript o sl p=>exact Pc O FA D ae o sl p
 |_=>exact λhb=>absurd rfl hb
end
end
section
section
variable {n N:Nat}{d:cx}{c:Ca}(O:C.Ok n)(FA:∀P,k9 P)(D:cZ n d)
include O FA D
theorem Pg (ae:Rep C i loc hp s)(e:Expr):SB C [] i loc s (Hw d C.sc e loc hp) (isTrue e C.env (eval e C.env)):=by
 have F:=(FA C.w.params).two;cases e with
 |UnaryOp op a p =>
  cases op with
  |Not=>exact Ss O F.base D ae a p
  |_=>exact HE O F.base D ae _ rfl
 |BoolOp op es p=>exact Sr O F.base D op es ae
 |IfExp a b c p=>exact Xb O F.base D ae a b c p
 |Compare e ops es p=>exact fY λh=>Sw O F.base D ae e ops es p (beq_iff_eq.mp (bk h).1) (iW (bk h).2)
 |_=>exact HE O F.base D ae _ rfl
end
end
section
def wI (n:Nat):Prop:=∀{C:Cx},C.Ok n->∀{d:cx},cZ n d->∀{i loc hp s},Rep C i loc hp s->∀(p q r:Pos) (a b:Expr),C.sc.lookup ("TextFault":Str)=some .globalImplicit->noStar a=true->noStar b=true ->
 SS C i s (c7 (d.ex C.sc a) (d.ex C.sc b) loc hp) (exec (.Raise (some (.Call (.Name "TextFault" p) [a,b] [] q)) none r) C.env)
section
variable {n N:Nat}{d:cx}{c:Ca}(O:C.Ok n)(FA:∀P,k9 P)(D:cZ n d)(rO:wI n)
include O FA D rO
omit rO in
theorem Iv (ae:Rep C i loc hp s)(t e:Expr)(pos:Pos):SS C i s (Sf N d C.sc e t loc hp) (exec (.Assign [t] e pos) C.env):=by
 have F:=(FA C.w.params).two;cases t with
 |Name x p =>
  refine fY λh1=>eu λm h2=>?_;have h1:C.sc.lookup x=some .local:=beq_iff_eq.mp h1;refine aj (uJ e x p pos.line C.env) λb nL Ub=>?_;cases hc:fC e with
  |true =>
   cases b with
   |true=>exact FG O FA D ae e pos h1 (.inl rfl) h2 nL
   |false=>exact tU O F D ae e (Iu O FA D ae e) pos h1 (.inl rfl) h2 nL
  |false =>
   rw[Ub hc]at nL;exact tU O F D ae e (D.ex O F.base ae e) pos h1 (.inl rfl) h2 nL
 |Attribute o m p=>exact fY λh=>eu λk hk=>La O F D ae o m k p e pos hk (iW (bk h).2)
 |Subscript o sl p =>
  refine fY λh=>eu λx hx=>eu λk hk=>?_;refine jI (tN hx) λq px bH=>?_;subst bH;exact Lb O F D ae o x q px k p e pos hk (iW h)
 |Tuple ts q p =>
  refine fY λh=>eu λis TG=>?_;have h:=Bool.or_eq_false_iff.mp (iW h);exact O5 O F D ae (ta ts is TG) q p e pos h.1 h.2
 |_=>exact λhb=>absurd rfl hb
omit FA in
theorem Cs (ae:Rep C i loc hp s)(e:Expr)(r:Pos):SS C i s (Hx d C.sc e loc hp) (exec (.Raise (some e) none r) C.env):=by
 refine eu λq1 e1=>eu λx e2=>eu λq3 e3=>fY λe4=>?_;obtain⟨f,as,ks⟩:=q1;obtain⟨a,b⟩:=q3;refine aQ (mL e1) λq aC=>?_;subst aC;refine aQ (jB e2) λp h2=>?_;have h3:as=[a,b]:=mj e3;have h4:ks=[]:=fW (bk e4).1;have h5:=bk (bk e4).2;refine bp (qA h5.1) λnF h6=>?_;subst nF;have h2:f=.Name "TextFault" p:=h2;subst h2 h3 h4;exact rO O D ae p q r a b h6 (bk h5.2).1 (bk h5.2).2
theorem Ph (eR:∃outer,C.d8=C.env::outer)(ae:Rep C i loc hp s)(st:Stmt):SS C i s (Hy N d C.sc st loc hp) (exec st C.env):=by
 have F:=(FA C.w.params).two;cases st with
 |Expr e pos=>exact fY λh=>O4 O F D ae e pos (iW h)
 |Return e pos =>
  cases e with
  |none=>exact O3 O F D ae pos
  |some e=>exact Tb O F D ae e pos
 |Assign ts e pos=>exact eu λt ht=>by rw[fg ht];exact Iv O FA D ae t e pos
 |If t a b pos=>exact Xi O F D eR ae t a b pos
 |While t a b pos =>
  refine fY λh=>?_;refine aQ eR λouter Ln=>?_;rw[fW h];exact Lc O F D Ln ae t a pos
 |For t it a b pos=>exact fY λh=>eu λtg hk=>by rw[fW (bk h).1];exact TH O F D eR ae t it a pos hk (iW (bk h).2▸Bool.false_ne_true)
 |Raise e r pos =>
  refine fY λh=>?_;rw[l7 h];cases e with
  |none=>exact λhb=>absurd rfl hb
  |some e=>exact Cs O D rO ae e pos
 |_=>exact λhb=>absurd rfl hb
end
theorem uQ {n N:Nat}{c:Ca}(FA:∀P,k9 P)(cO:kY n c)(kO:∀P,nI P c)(rO:wI n)(m:Nat):cZ n (gu c N m):=by
 induction m with
 |zero=>exact⟨λ_ _ _ _ _ _ _ _ hb=>absurd rfl hb,λ_ _ _ _ _ _ _ _ hb=>absurd rfl hb,λ_ _ _ _ _ _ _ _ _ hb=>absurd rfl hb⟩
 |succ m ih=>exact⟨λO _ _ _ _ _ R e=>Pe O FA ih cO (kO _) R e,λO _ _ _ _ _ R e=>Pg O FA ih R e,λO _ hf _ _ _ _ R st=>Ph O FA ih rO hf R st⟩
end
section
theorem qH {K:Frag}{h:Heap}{C:Addr}{cd:ClassData}(X:K.In h)(e:clsIn K C=some cd):∃c d sl,h.get? C=some ⟨c,d,.cls cd,sl⟩:=by
 unfold clsIn at e;cases ho:K.lookup C with
 |none=>rw[ho]at e;exact bx e
 |some o =>
  rw[ho]at e;cases o with|mk c d x sl =>
  cases x with
  |cls cd'=>exact⟨c,d,sl,oi e▸X _ _ ho⟩
  |_=>exact bx e
theorem xW {o:Expr}{name:Str}{apos pos:Pos}{args:List Expr}{env:Env}(hs:args.all noStar=true)(hl:args.length<20)(ay:(apos.endLine==pos.line)=true) :
  eval (.Call (.Attribute o name apos) args [] pos) env=(do
   let ov <- attributeBase o name env (eval o env)
   standAt apos.atName
   let(f,first) <- holding [ov] (getMethod ov name (do return (<- importBound o env).getD true))
   callWith pos f first (backTo pos (starEach args env)) []):=by
 show(do
  let ov <- attributeBase o name env (eval o env)
  standAt apos.atName
  methodCall o name apos pos env ov (args.length+0) (backTo pos (starEach args env)) (backToKw pos (keywordEach [] env)))=_
 have few:methodCallForm (args.length+0) (backTo pos (starEach args env)) (backToKw pos (keywordEach [] env))=true:=by
  have h1:(backTo pos (starEach args env)).all (λx=>!x.1)=true:=by
   have:=iU args pos env hs;rw[List.any_eq_false]at this;rw[List.all_eq_true];intro x hx
   simpa using this x hx
  show((backTo pos (starEach args env)).all (λx=>!x.1)&&([]:List (Option Str×Sem Value)).all (λx=>x.1.isSome)&&decide (args.length+0+0<30))=true;rw[h1];simp;(apply aI<;>trivial)
 have ep:methodCallPos true o env apos pos=pure pos:=by
  unfold methodCallPos;rw[ay];rfl
 congr 1;funext ov;congr 1;funext _;unfold methodCall;rw[few]
 show(do
   let(f,first) <- holding [ov] (getMethod ov name (do return (<- importBound o env).getD true))
   let iV <- methodCallPos true o env apos pos
   callWith iV f first (backTo pos (starEach args env)) [])=_
 rw[ep];congr 1
section
variable {w:World}{A:Around}{E:Value->Shared->Prop}{f:Addr}{st:Stmt}{name qual:Str}{cl:List (Str×Addr)}{pm code ct:Value}{oc:Value}{od:Option Addr}{nQ:Array (Option Value)}
theorem t9 (gM:(K w.params).lookup f=some ⟨oc,od,.func (qe name qual st cl pm code ct),nQ⟩)(my:codeIn (K w.params) code qual=true)(i9:t4 st cl=true)(X:(K w.params).In s.heap)(nl:s.heap.NoLimit)(hd:A.depth<recursionLimit)
  {as:List Value} (hl:((bf st).args.map (·.arg)).length=as.length) {R:Result->Shared->Prop}
  (h:∀env oc ah,gW s f code (aw st) cl (((bf st).args.map (·.arg)).zip as) env oc ah->codeAny (model pw w) A (.func (di st) env) R ah) :
  codeAny (model pw w) A (.call (.ref f) ⟨as,[]⟩) R s:=by
 have ok:=gK i9;refine codeAny_call_function (fd:=qe name qual st cl pm code ct) (body:=di st) hd (X _ _ gM) rfl ok.co ok.gen rfl (codeRec_of X my) ?_;rw[oQ ok.plain hl];exact wpAny_pure (AH ok hl λenv oc ah T=>⟨nl.keeps T.keep,h env oc ah T⟩)
end
structure lK (P:Params)(f:Addr)(st:Stmt)(D C cc mz:Addr):Prop where
 fn:∃oc od nQ name qual pm ct,(K P).lookup f=some ⟨oc,od,.func (qe name qual st [("__class__",cc)] pm (.ref mz) ct),nQ⟩∧codeIn (K P) (.ref mz) qual=true
 ok:t4 st [("__class__",cc)]=true
 arg:∃ar,((bf st).posonlyargs++(bf st).args).head?=some ar∧ar.arg=("self":Str)
 qI:(aw st).names.lookup ("super":Str)=some .globalImplicit
 nR:(aw st).names.lookup ("__class__":Str)=some .free
 lL:(aw st).names.lookup ("self":Str)=some .local
 code:∃Y8 Y9 vs Za file tf,(K P).lookup mz=some ⟨Y8,Y9,.fields vs,Za⟩∧vs[2]?=some (.str file tf)∧((pw.main.file:Str)==file)=true
 cell:∃c d sl,(K P).lookup cc=some ⟨c,d,.cell (some (.ref D)),sl⟩
 cls:∃cd,clsIn (K P) D=some cd
 sub:mroIn (K P) C (.ref D)=some true
 glob:nsIn (K P) mainGlobals "super"=some none
section
variable {w:World}{A:Around}{E:Value->Shared->Prop}{f D CC cc mz x:Addr}{st:Stmt}{bs:List (Str×Value)}{env:Env}{oc:List Addr}{ox:Obj}{p:Program}{loose:List Str}{mg mb:Str->Option Value}{hb:Heap}
theorem AM (S:lK w.params f st D CC cc mz)(ok:t5 st [("__class__",cc)])(X:(K w.params).In ah.heap)(T:gW s f (.ref mz) (aw st) [("__class__",cc)] bs env oc ah)
  (TR:TopRead p loose mg mb hb) (jS:(K w.params).In hb) (kb:∀b o,hb.get? b=some o->ah.heap.get? b=some o) (hv:bs.lookup ("self":Str)=some (.ref x)) (hx:ah.heap.get? x=some ox) (hxc:ox.cls=.ref CC) (Iw:∀c,ox.data≠.cls c)
  {body:List Stmt} {p0 p1:Pos} {whole:Sem Value} {Q:Value->Shared->Prop}
  (h:∀h',h'.get? ah.heap.objs.size=some (ks_superObj D x CC)->(∀y o,ah.heap.get? y=some o->h'.get? y=some o)->Q (.ref ah.heap.objs.size) {ah with heap:=h'}) :
  _root_.PySem.wpAt (model pw w) A (.func body env) (attributeBase (.Call (.Name "super" p0) [] [] p1) "__init__" env whole) Q E ah:=by
 obtain⟨AF,od,nQ,name,qual,pm,ct,gM,my⟩:=S.fn;refine aj (S.arg) λar har aaD=>?_;refine ZW (S.code) λY8 Y9 vs Za file tf Dc uR hc3=>?_;refine ot (S.cell) λc d sl kK=>?_;refine aQ (S.cls) λcd hD=>?_
 obtain⟨oD,Zb,Zc⟩:∃oD,ah.heap.get? D=some oD∧oD.data=.cls cd:=by
  refine ot (qH X hD) λc d sl ho=>?_;exact⟨_,ho,rfl⟩
 have ek:∀y,env.kindOf y=(aw st).names.lookup y:=λy=>by
  show env.scope.names.lookup y=_;rw[T.sc]
 have yQ:env.scope.kind=.function:=by rw[T.sc];exact ok.kind
 refine aj (T.ns) λm hm pZ=>?_;have lJ:=(pZ _ S.lL).trans hv;refine ks_wpAt_super_base (env:=env) ((ek _).trans S.qI) ((ek _).trans S.nR) rfl T.func (X _ _ gM) rfl har T.code (X _ _ Dc) rfl uR hc3 (by kernel_rfl) ?_;refine ks_loadName_global yQ ((ek _).trans S.qI) (loadGlobal_builtin (mg:=mg) (mb:=mb) (by rw[T.globals];exact TR.g.keeps kb) (mg_none_of jS TR.g S.glob) (by rw[T.builtins];exact TR.b.keeps kb) ((TR.builtins _ (by decide +kernel)).trans (by kernel_rfl)) ⟨rfl,?_⟩)
 have nP:env.cells.lookup ("__class__":Str)=some cc:=by
  rw[T.free _ (bP S.nR)];rfl
 refine wpAny_loadName_free yQ ((ek _).trans S.nR) nP ⟨_,X _ _ kK,rfl⟩ ?_;rw[aaD];refine wpAny_loadName_local yQ ((ek _).trans S.lL) hm lJ ?_;obtain⟨hh,g,dr,t,os⟩:=ah;refine ks_wpAny_isType_cls Zb Zc ⟨rfl,?_⟩;exact ks_wpAny_call_super Zb Zc hx hxc Iw (looks_mroIn X S.sub) λh' e k=>h h' e k
end
end
section
theorem tu:Slot "wrapper_descriptor" "__get__" "wrapper_descriptor.__get__":=.of (owner:="wrapper_descriptor") (n:="__get__") (by rw[typeLookup_type,builtinLookup_eq_fast];kernel_rfl) (by decide +kernel) (by decide +kernel) (by decide +kernel)
 (by first|exact .inl (by decide +kernel)|exact .inr (by decide +kernel)) (by rw[isSubtype_type];kernel_rfl)
theorem AN:entryFor PySem.table "wrapper_descriptor.__get__"=some Builtin.«wrapper_descriptor.__get__»:=entryFor_of_tree (by kernel_rfl)
theorem Ct (a b c:Value):argsOk "wrapper_descriptor.__get__" ⟨[a,b,c],[]⟩:=by unfold argsOk;kernel_rfl
theorem Pj:typeOf (.builtin "Exception.__init__")=pure (.type "wrapper_descriptor"):=by kernel_rfl
theorem Pk (x C:Addr):∃err:Sem Unit,Builtin.«wrapper_descriptor.__get__» ⟨[.builtin "Exception.__init__",.ref x,.ref C],[]⟩ =
  ((do if !(<- isInstance (.ref x) (.type "Exception"))then err)>>=λ_=>newFields "method-wrapper" [.builtin "Exception.__init__",.ref x]>>=λv=>ret v):=⟨_,by rfl⟩
noncomputable abbrev rD (x:Addr):Obj:={cls:=.type "method-wrapper",dict:=none,data:=.fields #[.builtin "Exception.__init__",.ref x],slots:=#[]}
theorem xX {P:Params}{h:Heap}{x C:Addr}{ox:Obj}{cd:ClassData}(X:(K P).In h)(hx:h.get? x=some ox)(Iw:∀c,ox.data≠.cls c)(hc:clsIn (K P) C=some cd):x≠C:=by
 rintro rfl;refine ot (qH X hc) λc d sl ho=>?_;exact Iw cd (oi (hx.symm.trans ho)▸rfl)
section
variable {w:World}{A:Around}{E:Value->Shared->Prop}{h:Heap}{g:Array GenState}{d:Drawn}{t:Nat}{os:OsState}
theorem Uc {x C:Addr}{Q:Fin->Shared->Prop}(jS:Looks (model pw w) h (isInstance (.ref x) (.type "Exception")) true)(hq:Q (.done (.ret (.ref h.objs.size))) ⟨h.push (rD x),g,d,t,os⟩) :
  wpAny (model pw w) A (Builtin.«wrapper_descriptor.__get__» ⟨[.builtin "Exception.__init__",.ref x,.ref C],[]⟩) Q E ⟨h,g,d,t,os⟩:=by
 refine aQ (Pk x C) λerr e=>?_;rw[e];refine wpAny_bind (wpAny_bind (jS.here ?_));refine wpAny_pure (wpAny_bind ?_);unfold newFields;refine wpAny_newObj_type (wpAny_pure ?_) (by size_fits);exact hq
theorem FH {so D x C:Addr}{l₀ l:List Value}{P:Params}{name:Str}{tk:Tok}{Q:Fin->Shared->Prop}
  (qa:h.get? so=some (ks_superObj D x C)) (cS:Looks (model pw w) h (opaqueClassAbove (.ref C)) none)
  (hC:Looks (model pw w) h (mroOf (.ref C)) l₀) (hl:(l₀.dropWhile (· != .ref D)).drop 1=l) (X:(K P).In h)
  (hf:alongIn (K P) name l=some (some (.builtin "Exception.__init__"))) (hxC:x≠C) (hn:(name==("__class__":Str))=false) (jS:Looks (model pw w) h (isInstance (.ref x) (.type "Exception")) true)
  (hq:Q (.done (.ret (.ref h.objs.size))) ⟨h.push (rD x),g,d,t,os⟩) :
  wpAny (model pw w) A (Builtin.«super.__getattribute__» ⟨[.ref so,.str name tk],[]⟩) Q E ⟨h,g,d,t,os⟩:=by
 have gM:=tu.lookup;have ja:(Value.ref x==Value.ref C)=false:=by simp[hxC]
 have Ud:(ks_superObj D x C).data=.fields #[.ref D,.ref x,.ref C]:=rfl;have f0:(#[.ref D,.ref x,.ref C]:Array Value)[0]?=some (.ref D):=rfl;have f1:(#[.ref D,.ref x,.ref C]:Array Value)[1]?=some (.ref x):=rfl;have f2:(#[.ref D,.ref x,.ref C]:Array Value)[2]?=some (.ref C):=rfl;have Zd:∀s:Shared,s.TypeIs (.builtin "Exception.__init__") "wrapper_descriptor":=λs=>Pj;unfold Builtin.«super.__getattribute__»
 repeat (first
  |(with_reducible refine wpAny_field qa Ud f0 ?_)|(with_reducible refine wpAny_field qa Ud f1 ?_)|(with_reducible refine wpAny_field qa Ud f2 ?_)
  |(with_reducible refine ks_wpAny_notOpaque cS ?_)
  |(with_reducible refine Uc jS ?_)
  |(with_reducible refine Looks.at hC ?_;rw[hl])
  |(refine ks_forIn_along X (λ_ _=>rfl) rfl ?_ hf)
  |(with_reducible refine wpAny_typeOf (Zd _) ?_)
  |(with_reducible refine wpAny_call_entry tu (Zd _) AN ?_ (Ct _ _ _))
  |(with_reducible refine⟨_,rfl,?_⟩)
  |(simp only[hn,ja,Bool.or_false,Bool.false_eq_true,if_false])
  |wp_step
  |dsimp only)
 all_goals exact hq
end
end
section
noncomputable abbrev eJ (dd:Option Addr) (t:Addr):Obj:={cls:=.ref 81,dict:=dd,data:=.fields #[.ref t,.none,.none,.none,.bool false,.none],slots:=#[]}
inductive Ze (P:Params):Prop
 |mk:∀nm q N bs hdct sn sub ab col dd k0 k1 k2 k3 k5,(K P).lookup 81=some (excClassObj nm q 81 N bs [.ref 69,.ref 40,.type "Exception",.type "BaseException",.type "object"] hdct sn sub ab col dd k0 k1 k2 k3 k5 "Exception.__new__")->Ze P
structure jT (P:Params):Prop where
 cls:∃cd,clsIn (K P) 81=some cd∧cd.mro=[.ref 81,.ref 69,.ref 40,.type "Exception",.type "BaseException",.type "object"]∧cd.hasDict=true
 sa:findIn (K P) (.ref 81) "__setattr__"=some (some (.builtin "object.__setattr__"))
 init:findIn (K P) (.ref 81) "__init__"=some (some (.ref 59))
 t1:takerIn (K P) 81 "what"=some none
 t2:takerIn (K P) 81 "spot"=some none
 sup:ks_superIn (K P) 81 69 "__init__"=some (some (.ref 30))
 Ue:ks_superIn (K P) 81 40 "__init__"=some (some (.builtin "Exception.__init__"))
 Dd:nsIn (K P) cStatics "thirdparty.any"=some none
 call:specialIn (K P) (.ref 81) "__call__"=some (some (.builtin "type.__call__"))
 typ:instIn (K P) (.ref 81) (.type "type")=some true
 ND:Ze P
 Ug:typeIn (K P) (.ref 30)=some (.type "function")
 NF:fnIn (K P) 30=true
 Uh:typeIn (K P) (.ref 59)=some (.type "function")
section
variable {w:World}{A:Around}{E:Value->Shared->Prop}{R:Result->Shared->Prop}{x:Addr}{ox:Obj}{od:Option Obj}
theorem FI (self:Value):refuseLoop self "__setattr__" [.ref 81,.ref 69,.ref 40,.type "Exception",.type "BaseException",.type "object"]=pure ():=by
 rw[refuseLoop_ref,refuseLoop_ref,refuseLoop_ref];exact PySem.F.store_Exception.passes self
theorem De (F:jT w.params)(X:(K w.params).In s.heap)(I:InstAt s.heap x ox 81 od){base:Value}(hb:([.ref 81,.ref 69,.ref 40,.type "Exception",.type "BaseException",.type "object"]:List Value).contains base=true) :
  Looks (model pw w) s.heap (isInstance (.ref x) base) true:=by
 refine dP (F.cls) λcd hc hm _=>?_;exact I.type.andThen (looks_mroIn X (by unfold mroIn;rw[hc,Option.bind_some,if_neg (by rw[hm];decide),hm,hb]))
theorem Df (F:jT w.params)(X:(K w.params).In s.heap)(I:InstAt s.heap x ox 81 od){name:Str}{tk:Tok}{v:Value}(ht:takerIn (K w.params) 81 name=some none)
  (h:∀b,wpAny (model pw w) A.in1 (Builtin.ObjectAttr.storeInOwnDict (.ref x) (.ref 81) (.str name tk) name v b)
   (λfin s'=>match fin with|.done f=>R (.ok f) s'|.again c'=>c'.quiet=true∧codeAny (model pw w) A c' R s') (λe s'=>R (.error e) s') s) :
  codeAny (model pw w) A (.call (.builtin "object.__setattr__") ⟨[.ref x,.str name tk,v],[]⟩) R s:=by
 have SF:=PySem.F.store_object;refine dP (F.cls) λcd hc Dh _=>?_;have sub:Looks (model pw w) s.heap (isInstance (.ref x) (.type "object")) true:=De F X I (by decide +kernel);refine codeAny_call_builtin SF.slot.plain SF.entry (@check_slot (model pw w) _ _ s "object.__setattr__" "object" "__setattr__" (.ref x) [.str name tk,v] [] _ SF.kind SF.split sub (SF.args (.ref x) (.str name tk) v) ?_);refine aj (Option.bind_eq_some_iff.mp ht) λattr ha hr=>?_;have hm:Looks (model pw w) s.heap (mroOf (.ref 81)) cd.mro:=(looks_clsIn X hc).andThen .now
 have L3:Looks (model pw w) s.heap (Builtin.ObjectAttr.storeTaker? attr) none:=by
  cases attr with
  |none=>exact .now
  |some a =>
   refine aj (Option.map_eq_some_iff.mp hr) λb hb hr=>?_;refine(looks_takesIn X hb).andThen ?_;cases b
   ·exact .now
   ·exact(Option.some_ne_none _ hr).elim
 rw[osa_eq,refuse_eq];refine wpAny_bind (wpAny_bind (I.type.here (wpAny_bind (hm.here ?_))));rw[Dh,FI];exact wpAny_pure (wpAny_bind (I.type.here (wpAny_bind ((looks_findIn X ha).here (wpAny_bind (L3.here (h _)))))))
theorem AO (name:Str)(gB:Int)(key v:Value):∀es:List DictEntry,(putL name gB key v es).length≤es.length+1
 |[]=>by simp[putL]
 |e::r=>by
  have:=AO name gB key v r;unfold putL;split
  ·simp
  ·simp;assumption
theorem xY {dx:Addr}{ds:List DictEntry}{n:Nat}{name:Str}{tk:Tok}{v:Value}{Q:Fin->Shared->Prop}(D:s.heap.get? dx=some (dictOf ds n))(hl:(getL name ds).isSome=true)(hz:ds.length≤900)
  (h:∀h',h'.get? dx=some (dictOf (putL name (PyData.keyHash w.params name) (.str name s.toks) v ds) (putN name ds n))->(∀b o,b≠dx->s.heap.get? b=some o->h'.get? b=some o)->Q (.done (.ret .none)) {s with heap:=h',toks:=s.toks+1}) :
  wpAny (model pw w) A (Builtin.ObjectAttr.storeInDict dx (.str name tk) name v) Q E s:=by
 unfold Builtin.ObjectAttr.storeInDict Builtin.ObjectAttr.newKeyGuard;refine wpAny_bind (wpAny_pure (wpAny_bind ?_));unfold nsSet;refine wpAny_bind (wpAny_bind (wpAny_askSetting (wpAny_pure (wpAny_bind (wpAny_mkText (wpAny_bind (wpAny_loadPart D ?_)))))));dsimp only
 have c:(!ds.toArray.any (·.key.isStr name)&&ds.toArray.any (·.refKey))=false:=by
  rw[<- Array.any_toList,<- Array.any_toList];unfold getL at hl;split at hl
  ·rename_i en he;rw[List.any_eq_true.mpr ⟨en,List.mem_of_find?_eq_some he,List.find?_some he⟩];rfl
  ·split at hl
   ·exact absurd hl nofun
   ·rename_i z;rw[Bool.not_eq_true]at z;rw[z,Bool.and_false]
 rw[aRefKeyMayBeTheName_at,c];have e:Obj.putName name (PyData.keyHash w.params name) (.str name s.toks) v (dictOf ds n)=dictOf (putL name (PyData.keyHash w.params name) (.str name s.toks) v ds) (putN name ds n):=putName_dict ..;refine wpAny_updatePart D ?_
 have g:(s.heap.update dx (Obj.putName name (PyData.keyHash w.params name) (.str name s.toks) v)).get? dx=some (dictOf (putL name (PyData.keyHash w.params name) (.str name s.toks) v ds) (putN name ds n)):=by
  rw[Heap.get?_update_self _ D (by rw[e];rfl),e]
 refine wpAny_bind (wpAny_lookBehind g (pastItsLine_dict ?_) ?_)
 ·rw[List.size_toArray,sizeLine_eq];have:=AO name (PyData.keyHash w.params name) (.str name s.toks) v ds;omega
 ·exact wpAny_pure (h _ g λb o hb e=>(Heap.get?_update_ne _ _ _ _ hb).trans e)
theorem Cu (F:jT w.params)(X:(K w.params).In s.heap){t0:Addr}(hx:s.heap.get? x=some (eJ none t0)){name:Str}{v:Value}(ht:takerIn (K w.params) 81 name=some none){Q:Unit->Shared->Prop}
  (h:∀h' k,h'.get? x=some (eJ (some s.heap.objs.size) t0)->h'.get? s.heap.objs.size=some (dictOf [⟨PyData.keyHash w.params name,.str name (s.toks+1),v⟩] k)->(∀b o,b≠x->s.heap.get? b=some o->h'.get? b=some o)->Q () {s with heap:=h',toks:=s.toks+2}) :
  wpAny (model pw w) A (setAttr (.ref x) name v) Q E s:=by
 have I:InstAt s.heap x (eJ none t0) 81 none:=⟨hx,rfl,rfl,trivial⟩;have I':InstAt {s with toks:=s.toks+1}.heap x (eJ none t0) 81 none:=I;refine dP (F.cls) λcd hc Dh hd=>?_;refine set_plain X I F.sa (Df (s:={s with toks:=s.toks+1}) F X I' ht λb=>?_);have Zf:x≠s.heap.objs.size:=Nat.ne_of_lt (Heap.lt_size hx);obtain⟨hh,g,dr,t,os⟩:=s;refine wpAny_bind (wpAny_pure (wpAny_bind ?_));refine wpAny_bind (wpAny_loadPart hx (wpAny_bind (Looks.at (looks_clsIn X hc) ?_)));rw[hd];have e0:(eJ (some hh.objs.size) t0).isFreed=false:=rfl;have g1:((hh.push emptyDict).update x λo=>{o with dict:=some hh.objs.size}).get? x=some (eJ (some hh.objs.size) t0):=Heap.get?_update_self _ (Heap.get?_push_of_some _ hx) e0;have g2:((hh.push emptyDict).update x λo=>{o with dict:=some hh.objs.size}).get? hh.objs.size=some (dictOf [] 0):=(Heap.get?_update_ne _ _ _ _ (Ne.symm Zf)).trans (Heap.get?_push_size _ rfl);show wpAny _ _ (alloc emptyDict>>=λdd=>update x (λo=>{o with dict:=some dd})>>=λ_=>dictMade (.ref 81) x dd) _ _ _;refine wpAny_bind (wpAny_alloc' (wpAny_bind (wpAny_update' (Heap.get?_push_of_some _ hx) (wpAny_pure ?_))));refine xY (s:=⟨(hh.push emptyDict).update x λo=>{o with dict:=some hh.objs.size},g,dr,t+1,os⟩) g2 rfl (by decide) λh' e k=>?_;refine h h' _ (k x _ Zf g1) e λb o hb eb=>k b o (Nat.ne_of_lt (Heap.lt_size eb)) ((Heap.get?_update_ne _ _ _ _ hb).trans (Heap.get?_push_of_some _ eb))
theorem Cv (F:jT w.params)(X:(K w.params).In s.heap){t0 dx:Addr}{ds:List DictEntry}{n:Nat}(hx:s.heap.get? x=some (eJ (some dx) t0))(D:s.heap.get? dx=some (dictOf ds n)){name:Str}{v:Value}(ht:takerIn (K w.params) 81 name=some none)
  (hl:(getL name ds).isSome=true) (hz:ds.length≤900) {Q:Unit->Shared->Prop}
  (h:∀h',h'.get? dx=some (dictOf (putL name (PyData.keyHash w.params name) (.str name (s.toks+1)) v ds) (putN name ds n))->(∀b o,b≠dx->s.heap.get? b=some o->h'.get? b=some o)->Q () {s with heap:=h',toks:=s.toks+2}) :
  wpAny (model pw w) A (setAttr (.ref x) name v) Q E s:=by
 have I:InstAt s.heap x (eJ (some dx) t0) 81 (some (dictOf ds n)):=⟨hx,rfl,rfl,D⟩;have I':InstAt {s with toks:=s.toks+1}.heap x (eJ (some dx) t0) 81 (some (dictOf ds n)):=I;refine dP (F.cls) λcd hc Dh hd=>?_;refine set_plain X I F.sa (Df (s:={s with toks:=s.toks+1}) F X I' ht λb=>?_);obtain⟨hh,g,dr,t,os⟩:=s;refine wpAny_bind (wpAny_pure (wpAny_bind ?_));refine wpAny_bind (wpAny_loadPart hx (wpAny_bind (Looks.at (looks_clsIn X hc) ?_)));rw[hd];refine wpAny_pure (a:=some dx) (wpAny_bind (wpAny_pure ?_));exact xY (s:=⟨hh,g,dr,t+1,os⟩) (tk:=t) D hl hz λh' e k=>h h' e k
end
end
section
structure dv (x:Addr)(s s':Shared):Prop where
 keep:∀b o,b≠x->s.heap.get? b=some o->s'.heap.get? b=some o
 same:∃h t,s'={s with heap:=h,toks:=t}
 toks:s.toks≤s'.toks
theorem dv.trans {x:Addr}(a:dv x s ah)(b:dv x ah aO):dv x s aO:=by
 refine jI (a.same) λh t e=>?_;refine jI (b.same) λh' t' e'=>?_;exact⟨λy o hy e=>b.keep y o hy (a.keep y o hy e),⟨h',t',by rw[e',e]⟩,Nat.le_trans a.toks b.toks⟩
theorem dv.of {x:Addr}{h':Heap}{t:Nat}(k:∀b o,b≠x->s.heap.get? b=some o->h'.get? b=some o)(ht:s.toks≤t):dv x s {s with heap:=h',toks:=t}:=⟨k,⟨_,_,rfl⟩,ht⟩
theorem jF {P:Params}{x:Addr}(X:(K P).In s.heap)(hx:(K P).lookup x=none)(a:dv x s ah):(K P).In ah.heap:=λb o e=>a.keep b o (λq=>by rw[q,hx]at e;cases e) (X b o e)
def ui (attr:Str)(b:List Stmt):Prop:=∃p0 p1 apos px pos pe py pz Ui pa,b=[.Expr (.Call (.Attribute (.Call (.Name "super" p0) [] [] p1) "__init__" apos) [.Name "what" px] [] pos) pe,.Assign [.Attribute (.Name "self" py) attr pz] (.Name attr Ui) pa]∧apos.endLine=pos.line
section
variable {w:World}{A:Around}{E:Value->Shared->Prop}{R:Result->Shared->Prop}{x:Addr}{v v2:Value}{dd:Option Addr}{t0:Addr}
theorem Pm {b:Addr}(FE:jT w.params)(X:(K w.params).In s.heap)(hb:s.heap.get? b=some (rD x))(hx:s.heap.get? x=some (eJ dd t0)){Q:Value->Shared->Prop}
  (h:∀h',h'.get? x=some (eJ dd s.heap.objs.size)->(∀y o,y≠x->s.heap.get? y=some o->h'.get? y=some o)->Q .none {s with heap:=h'}):wpAny (model pw w) A (call (.ref b) [v]) Q E s:=by
 refine wpAny_call (codeAny_of_tree ?_);show wpAny _ A.in1 (callAny (.ref b) ⟨[v],[]⟩) _ _ _;unfold callAny;refine wpAny_bind (wpAny_load hb ?_);show wpAny _ _ (checkBoundCall "Exception.__init__" ⟨[.ref x,v],[]⟩>>=λ_=>again (.builtin "Exception.__init__" ⟨[.ref x,v],[]⟩)) _ _ _;have F:=PySem.F.excCall_Exception;have hshort:=F.noStar;refine wpAny_bind ?_;simp only[checkBoundCall,F.initKind,F.initRow]
 have chk:∀{Q:Unit->Shared->Prop},Q () s->wpAny (model pw w) A.in1 (Bind.checkArgs "Exception.__init__" ⟨.positional,"*","Exception",.self,[⟨"args",.varPos,false⟩]⟩ ⟨[.ref x,v],[]⟩) Q (λe s'=>E e s') s:=λq=>by
  refine aj (FE.cls) λcd hc _=>?_;refine ot (qH X hc) λoc od sl h81=>?_;unfold Bind.checkArgs
  repeat (first|(with_reducible refine wpAny_loadPart_at hx ?_)|(with_reducible refine wpAny_loadPart_at h81 ?_)|wp_step)
  exact q
 refine chk (wpAny_pure ⟨plainId_quiet PySem.F.excCall_Exception.init.plain _,codeAny_builtin PySem.F.excCall_Exception.initEntry ?_⟩);unfold Builtin.«BaseException.__init__»;dsimp only;rw[if_neg (by simp)];unfold newTuple Builtin.BaseException.bexcPut;have FJ:=Heap.get?_push_of_some (h:=s.heap) {cls:=.type "tuple",data:=.seq [v].toArray} hx;refine wpAny_bind (wpAny_newObj_type (wpAny_bind (wpAny_bind (wpAny_field FJ rfl rfl (wpAny_bind (wpAny_setField FJ rfl (by show 0<6;decide) ?_))))) (by size_fits));refine wpAny_letGo (wpAny_pure ?_);refine h _ ?_ λy o hy e=>(Heap.get?_update_ne _ _ _ _ hy).trans (Heap.get?_push_of_some _ e);rw[Heap.get?_update_self _ FJ rfl];rfl
theorem iX {env:Env}{sc:Scope}(hs:env.scope=sc)(hk:sc.kind=.function){n:Str}{p:Pos}{m:Str->Option Value}(hl:sc.names.lookup n=some .local)(hm:s.heap.Ns env.locals m)(hv:m n=some v){Q:Value->Shared->Prop}(hq:Q v s)(hd:(n==("__debug__":Str))=false:=by rfl) :
  wpAny (model pw w) A (eval (.Name n p) env) Q E s :=
 wpAny_Name (wpAny_loadName_local (by rw[hs];exact hk) (by show env.scope.names.lookup n=_;rw[hs];exact hl) hm hv hq) hd
theorem Di {env:Env}{pos:Pos}{n:Str}{p:Pos}{f:Value}{Q:Args->Shared->Prop}(h:wpAny (model pw w) A (eval (.Name n p) env) (λa=>Q ⟨[a],[]⟩) E s) :
  wpAny (model pw w) A (evalArgs f true (backTo pos (starEach [.Name n p] env)) []) Q E s:=by
 show wpAny _ _ (evalArgs f true ((false,eval (.Name n p) env)::backTo pos (starEach [] env)) []) _ _ _;exact Calls.evalArgs_plain (Calls.spliced_cons (wpAny_mono h (λa s' z=>Calls.spliced_nil z) λ_ _ z=>z))
theorem Dj {f D cc mz:Addr}{st:Stmt}{attr:Str}{env:Env}{oc:List Addr}{p:Program}{loose:List Str}{mg mb:Str->Option Value}{hb:Heap}{bs:List (Str×Value)}
  (S:lK w.params f st D 81 cc mz) (gB:ui attr (di st))
  (X:(K w.params).In ah.heap) (TR:TopRead p loose mg mb hb) (jS:(K w.params).In hb) (kb:∀b o,hb.get? b=some o->ah.heap.get? b=some o) (T:gW s f (.ref mz) (aw st) [("__class__",cc)] bs env oc ah)
  (hv0:bs.lookup ("self":Str)=some (.ref x)) (hx:ah.heap.get? x=some (eJ none t0))
  (h:∀aO so pl pos p px py pa ng,dv x ah aO->aO.heap.get? x=some (eJ none t0)->aO.heap.get? so=some (ks_superObj D x 81)->wpAny (model pw w) (A.deeper env) (getMethod (.ref so) "__init__" pl) (λfx eQ=>wpAny (model pw w) (A.deeper env) (callWith pos fx.1 fx.2 (backTo pos (starEach [.Name "what" p] env)) [])
   (λ_ fF=>wpAny (model pw w) (A.deeper env) (exec (.Assign [.Attribute (.Name "self" px) attr py] (.Name attr pa) ng) env) (λf dE=>f=.next∧R (.ok (.ret .none)) dE) (λ_ _=>False) fF) (λ_ _=>False) eQ) (λ_ _=>False) aO) :
  codeAny (model pw w) A (.func (di st) env) R ah:=by
 have ok:=gK S.ok;obtain⟨p0,p1,apos,px,pos,pe,py,pz,Ui,pa,eb,uS⟩:=gB;rw[eb];have hint:interactive env=false:=by unfold interactive;rw[T.sc,ok.kind];rfl
 refine ks_codeAny_funcAt (ks_wpAt_execs_cons (ks_wpAt_Expr_any ?_ hint rfl));refine ks_wpAt_MethodCall (pl:=do return (<- importBound (.Call (.Name "super" p0) [] [] p1) env).getD true) ?_ (xW (args:=[.Name "what" px]) rfl (by show 1<20;decide) (by simpa using uS))
 refine AM S ok X T TR jS kb hv0 hx rfl (λc e=>by cases e) λh' e k=>?_;have cJ:dv x ah {ah with heap:=h'}:=dv.of (t:=ah.toks) (λb o _ e=>k b o e) (Nat.le_refl _);refine wpAny_mono (h _ _ _ pos px py pz Ui pa cJ (k _ _ hx) e) (λfx eQ z=>wpAny_mono z (λ_ fF z=>?_) λ_ _ z=>False.elim z) λ_ _ z=>False.elim z;refine ks_wpAt_execs_cons (wpAt_of_wpAny ?_);refine wpAny_mono z (λfl dE z=>?_) λ_ _ z=>False.elim z;obtain⟨rfl,z⟩:=z;exact wpAt_of_wpAny (wpAny_execs_nil z)
theorem Iy {so x:Addr}{pl:Sem Bool}{Q:Value×List Value->Shared->Prop}(F:jT w.params)(X:(K w.params).In s.heap)(qa:s.heap.get? so=some (ks_superObj 40 x 81))(hx:s.heap.get? x=some (eJ dd t0))
  (hq:∀h',h'.get? s.heap.objs.size=some (rD x)->(∀b o,s.heap.get? b=some o->h'.get? b=some o)->Q (.ref s.heap.objs.size,[]) {s with heap:=h',toks:=s.toks+1}):wpAny (model pw w) A (getMethod (.ref so) "__init__" pl) Q E s:=by
 have gM:=PySem.F.ks_slot_super_ga.lookup;have aaE:=PySem.F.ks_canon_super_ga;obtain⟨h,g,d,t,os⟩:=s;have hT:∀t',(⟨h,g,d,t',os⟩:Shared).TypeIs (.ref so) "super":=λ_=>⟨_,qa,rfl⟩;refine dP (F.cls) λcd hc Dh hd=>?_;have hm:=F.Ue;unfold ks_superIn at hm;rw[hc]at hm;have I:InstAt h x (eJ dd t0) 81 ((dd.bind λd=>h.get? d))∨True:=.inr trivial;have ja:x≠81:=xX X hx (λc e=>by cases e) hc;have L1:Looks (model pw w) h (typeOf (.ref x)) (.ref 81):=(Looks.ld hx).andThen .now;have jS:Looks (model pw w) h (isInstance (.ref x) (.type "Exception")) true:=L1.andThen (looks_mroIn X (by unfold mroIn;rw[hc,Option.bind_some,if_neg (by rw[Dh];decide),Dh];decide +kernel));have hC:Looks (model pw w) h (mroOf (.ref 81)) cd.mro:=λA Q E s k q=>wpAny_bind ((looks_clsIn X hc) A _ E s k (wpAny_pure q));unfold getMethod;refine wpAny_bind (wpAny_specialOf (hT _) gM ?_);show wpAny _ _ (if(Manifest.canonical "super.__getattribute__" != "object.__getattribute__")=true then _ else _) _ _ _
 rw[if_pos aaE];unfold getAttr getAttrBy;refine wpAny_bind (wpAny_bind (wpAny_mkText (wpAny_holding (wpAny_bind (wpAny_typeOf (hT _) (wpAny_bind (wpAny_of_eq gM ?_)))))));show wpAny _ _ (getAttrByItsOwn (.ref so) (.str "__init__" t) (.type "super") (.builtin "super.__getattribute__") true false) _ _ _;unfold getAttrByItsOwn hookBefore callGetattribute boundAndCalled;refine wpAny_bind (wpAny_of_eq (show(if onTheHeap (.type "super")then typeLookup (.type "super") "__getattr__" else pure none)=pure none from rfl) ?_)
 refine wpAny_bind (wpAny_attempt (wpAny_holding ?_));show wpAny _ _ (bindSpecial (.builtin "super.__getattribute__") (.ref so)>>=_) _ _ _;refine wpAny_bind (wpAny_of_eq (PySem.F.ks_slot_super_ga.bind _) ?_)
 refine wpAny_mono (Q:=λv s'=>v=.ref h.objs.size∧s'=⟨h.push (rD x),g,d,t+1,os⟩) (E:=λ_ _=>False)
  (wpAny_call_entry PySem.F.ks_slot_super_ga (hT _) PySem.F.ks_entry_super_ga (FH qa (looks_opaque X F.Dd) hC rfl X hm ja rfl jS ⟨_,rfl,rfl,rfl⟩) (PySem.F.ks_gaArgs_super _ _)) (λv s' hv=>?_) λ_ _ z=>z.elim
 refine bp hv λnF aC=>?_;subst nF;subst aC;exact wpAny_pure (wpAny_pure (hq _ (Heap.get?_push_at rfl rfl) λb o e=>Heap.get?_push_of_some _ e))
theorem xZ {so D x C f2:Addr}{pl:Sem Bool}{Q:Value×List Value->Shared->Prop}{ox:Obj}(aaF:nsIn (K w.params) cStatics "thirdparty.any"=some none)(hm:ks_superIn (K w.params) C D "__init__"=some (some (.ref f2)))(hf:typeIn (K w.params) (.ref f2)=some (.type "function"))
  (X:(K w.params).In s.heap) (qa:s.heap.get? so=some (ks_superObj D x C)) (hx:s.heap.get? x=some ox) (Iw:∀c,ox.data≠.cls c)
  (hq:∀h',h'.get? s.heap.objs.size=some (methodObj (.ref f2) (.ref x))->(∀b o,s.heap.get? b=some o->h'.get? b=some o)->Q (.ref s.heap.objs.size,[]) {s with heap:=h',toks:=s.toks+1}):wpAny (model pw w) A (getMethod (.ref so) "__init__" pl) Q E s:=by
 obtain⟨h,g,d,t,os⟩:=s;cases hc:clsIn (K w.params) C with
 |none=>unfold ks_superIn at hm;rw[hc]at hm;cases hm
 |some cd =>
  unfold ks_superIn at hm;rw[hc]at hm
  obtain⟨of,hof,aaG⟩:∃of,h.get? f2=some of∧of.cls=.type "function":=by
   have CS:((K w.params).lookup f2).map (·.cls)=some (.type "function"):=hf
   cases z:(K w.params).lookup f2 with
   |none=>rw[z]at CS;exact(Option.some_ne_none _ CS.symm).elim
   |some of=>rw[z]at CS;exact⟨of,X _ _ z,oi CS⟩
  exact ks_wpAny_getMethod_super qa (looks_opaque X aaF) (l₀:=cd.mro) (λA Q E s k q=>wpAny_bind ((looks_clsIn X hc) A _ E s k (wpAny_pure q))) rfl X hm hof aaG (xX X hx Iw hc) rfl
   (hq _ (Heap.get?_push_at rfl rfl) λb o e=>Heap.get?_push_of_some _ e)
end
end
section
section
variable {w:World}{A:Around}{E:Value->Shared->Prop}{R:Result->Shared->Prop}{x:Addr}{v v2:Value}{dd:Option Addr}{t0:Addr}
theorem AP {n y attr:Str}{pa px py pos:Pos}{env:Env}{Q:Flow->Shared->Prop}(h:wpAny (model pw w) A (eval (.Name n pa) env) (λb ah=>wpAny (model pw w) A (eval (.Name y px) env) (λov aO=>wpAny (model pw w) A (setAttr ov attr b) (λ_=>Q .next) E aO) E ah) E s) :
  wpAny (model pw w) A (exec (.Assign [.Attribute (.Name y px) attr py] (.Name n pa) pos) env) Q E s:=by
 rw[gz];refine wpAny_bind (wpAny_standAt ?_);show wpAny _ _ (do let v <- eval (.Name n pa) env;assignStores env v (<- swappedStores [.Attribute (.Name y px) attr py] (.Name n pa) env) ((assignEach [.Attribute (.Name y px) attr py] env).map (·.2))) _ _ _
 have h0:swappedStores [.Attribute (.Name y px) attr py] (.Name n pa) env=pure none:=rfl;rw[h0];refine wpAny_bind (wpAny_mono h (λb ah z=>?_) λ_ _ z=>z);refine wpAny_bind (wpAny_pure ?_)
 show wpAny _ _ ((do
  let ov <- holding [b] (eval (.Name y px) env)
  standAt py.atName
  holding [b,ov] (setAttr ov attr b)
  release [b,ov] [])>>=λ_=>pure Flow.next) _ _ _
 refine wpAny_bind (wpAny_bind (wpAny_holding (wpAny_mono z (λa aO z=>?_) λ_ _ z=>z)));refine wpAny_bind (wpAny_standAt (wpAny_bind (wpAny_holding (wpAny_mono z (λ_ eQ z=>?_) λ_ _ z=>z))));exact wpAny_release' (wpAny_pure z)
structure nS (P:Params):Prop where
 exc:jT P
 Iz:keepIn (K P) (.ref 81)=true
 Zg:lK P 30 (aK 1 0) 40 81 18 29
 Zh:lK P 59 (aK 2 0) 69 81 47 58
 Uj:ui "what" (di (aK 1 0))
 Uk:ui "spot" (di (aK 2 0))
 Ul:(bf (aK 1 0)).args.map (·.arg)=[("self":Str),("what":Str)]
 Um:(bf (aK 2 0)).args.map (·.arg)=[("self":Str),("what":Str),("spot":Str)]
 NG:(aw (aK 1 0)).names.lookup ("what":Str)=some .local
 Un:(aw (aK 2 0)).names.lookup ("what":Str)=some .local
 Uo:(aw (aK 2 0)).names.lookup ("spot":Str)=some .local
variable {p:Program}{loose:List Str}{mg mb:Str->Option Value}{hb:Heap}
theorem uT {f:Addr}{code:Value}{scope:Scope}{cl:List (Str×Addr)}{bs:List (Str×Value)}{env:Env}{oc:List Addr}(T:gW s f code scope cl bs env oc ah)(x:Addr):dv x s ah:=⟨λb o _ e=>T.keep b o e,T.same,T.toks⟩
theorem x7 {f:Addr}{code:Value}{scope:Scope}{cl:List (Str×Addr)}{bs:List (Str×Value)}{env:Env}{oc:List Addr}(T:gW s f code scope cl bs env oc ah){x:Addr}{o:Obj}(hx:s.heap.get? x=some o):env.locals≠x:=λq=>absurd (Heap.lt_size hx) (by rw[<- q];exact Nat.not_lt.mpr T.above)
theorem dv.ns {L:Addr}{m:Str->Option Value}(a:dv x s ah)(hL:L≠x)(hm:s.heap.Ns L m):ah.heap.Ns L m:=by
 refine lq hm λo es ep e r=>?_;exact⟨o,es,ep,a.keep _ _ hL e,r⟩
theorem Up (I:nS w.params)(X:(K w.params).In s.heap)(tw:(K w.params).lookup x=none)(TR:TopRead p loose mg mb hb)(jS:(K w.params).In hb)(kb:∀b o,hb.get? b=some o->s.heap.get? b=some o)(hd:A.depth<recursionLimit)
  (hx:s.heap.get? x=some (eJ none t0))
  (h:∀dE t1 dx k tk,dv x s dE->dE.heap.get? x=some (eJ (some dx) t1)->s.heap.get? dx=none->dE.heap.get? dx=some (dictOf [⟨PyData.keyHash w.params "what",.str "what" tk,v⟩] k)->R (.ok (.ret .none)) dE) :
  codeAny (model pw w) A (.call (.ref 30) ⟨[.ref x,v],[]⟩) R s:=by
 have F:=I.exc;have S:=I.Zg;have ok:=gK S.ok;obtain⟨AF,od,nQ,name,qual,pm,ct,gM,my⟩:=S.fn;refine t9 gM my S.ok X (TR.nolimit.keeps kb) hd (by rw[I.Ul];rfl) λenv oc ah T=>?_;rw[I.Ul]at T;have T':gW s 30 (.ref 29) (aw (aK 1 0)) [("__class__",18)] [("self",.ref x),("what",v)] env oc ah:=T;refine aj (T'.ns) λm hm pZ=>?_;have AQ:=x7 T' hx;have cJ:=uT T' x;have Uq:=(pZ _ S.lL).trans (show([("self",.ref x),("what",v)]:List (Str×Value)).lookup ("self":Str)=some (Value.ref x)from rfl);have uK:=(pZ _ I.NG).trans (show([("self",.ref x),("what",v)]:List (Str×Value)).lookup ("what":Str)=some v from rfl);refine Dj S I.Uj (jF X tw cJ) TR jS (λb o e=>T'.keep _ _ (kb b o e)) T' rfl (T'.keep _ _ hx) λaO so pl pos p px py pa ng cq x8 qa=>?_;have X2:=jF X tw (cJ.trans cq);refine Iy F X2 qa x8 λh' IA k=>?_;have jl:dv x s {aO with heap:=h',toks:=aO.toks+1}:=(cJ.trans cq).trans (dv.of (λb o _ e=>k b o e) (Nat.le_succ _));have AR:dv x ah {aO with heap:=h',toks:=aO.toks+1}:=cq.trans (dv.of (λb o _ e=>k b o e) (Nat.le_succ _));have X3:=jF X tw jl;refine callWith_of (P:=λh=>h.get? aO.heap.objs.size=some (rD x)) rfl (λh q=>⟨.machine,.inr (.inl rfl),(Looks.ld (part:=none) q).andThen .now⟩) (Di ?_);refine iX T'.sc ok.kind I.NG (AR.ns AQ hm) uK ⟨IA,?_⟩;refine Pm F X3 IA (k _ _ x8) λdG uU k5=>?_;have mR:=jl.trans (dv.of (h':=dG) k5 (Nat.le_refl _));have wJ:=AR.trans (dv.of (h':=dG) k5 (Nat.le_refl _));have X5:=jF X tw mR;refine AP (iX T'.sc ok.kind I.NG (wJ.ns AQ hm) uK (iX T'.sc ok.kind S.lL (wJ.ns AQ hm) Uq ?_));refine Cu F X5 uU F.t1 λh6 k6 hx6 C4 hk6=>⟨rfl,?_⟩;have Zi:=mR.trans (dv.of (h':=h6) (t:=aO.toks+1+2) hk6 (Nat.le_add_right _ _));refine h _ _ _ _ _ Zi hx6 ?_ C4;cases z:s.heap.get? dG.objs.size with
 |none=>rfl
 |some o =>
  by_cases q:dG.objs.size=x
  ·have:=Heap.lt_size uU;rw[q]at this;exact absurd this (Nat.lt_irrefl _)
  ·exact absurd (Heap.lt_size (mR.keep _ _ q z)) (Nat.lt_irrefl _)
theorem Ur (I:nS w.params)(X:(K w.params).In s.heap)(tw:(K w.params).lookup x=none)(TR:TopRead p loose mg mb hb)(jS:(K w.params).In hb)(kb:∀b o,hb.get? b=some o->s.heap.get? b=some o)(hbx:hb.get? x=none)(hd:A.depth+10<recursionLimit)
  (hx:s.heap.get? x=some (eJ none t0))
  (h:∀dE t1 dx ds k,dv x s dE->dE.heap.get? x=some (eJ (some dx) t1)->s.heap.get? dx=none->dE.heap.get? dx=some (dictOf ds k)->getL "spot" ds=some (some v2)->R (.ok (.ret .none)) dE) :
  codeAny (model pw w) A (.call (.ref 59) ⟨[.ref x,v,v2],[]⟩) R s:=by
 have F:=I.exc;have S:=I.Zh;have ok:=gK S.ok;obtain⟨AF,od,nQ,name,qual,pm,ct,gM,my⟩:=S.fn;refine t9 gM my S.ok X (TR.nolimit.keeps kb) (by apply WU<;>trivial) (by rw[I.Um];rfl) λenv oc ah T=>?_;rw[I.Um]at T;have T':gW s 59 (.ref 58) (aw (aK 2 0)) [("__class__",47)] [("self",.ref x),("what",v),("spot",v2)] env oc ah:=T;refine aj (T'.ns) λm hm pZ=>?_;have AQ:=x7 T' hx;have cJ:=uT T' x;have Uq:=(pZ _ S.lL).trans (show([("self",.ref x),("what",v),("spot",v2)]:List (Str×Value)).lookup ("self":Str)=some (Value.ref x)from rfl);have uK:=(pZ _ I.Un).trans (show([("self",.ref x),("what",v),("spot",v2)]:List (Str×Value)).lookup ("what":Str)=some v from rfl);have CY:=(pZ _ I.Uo).trans (show([("self",.ref x),("what",v),("spot",v2)]:List (Str×Value)).lookup ("spot":Str)=some v2 from rfl);refine Dj S I.Uk (jF X tw cJ) TR jS (λb o e=>T'.keep _ _ (kb b o e)) T' rfl (T'.keep _ _ hx) λaO so pl pos p px py pa ng cq x8 qa=>?_;have X2:=jF X tw (cJ.trans cq);refine xZ F.Dd F.sup F.Ug X2 qa x8 (λc e=>by cases e) λh' IA k=>?_;have jl:dv x s {aO with heap:=h',toks:=aO.toks+1}:=(cJ.trans cq).trans (dv.of (λb o _ e=>k b o e) (Nat.le_succ _));have AR:dv x ah {aO with heap:=h',toks:=aO.toks+1}:=cq.trans (dv.of (λb o _ e=>k b o e) (Nat.le_succ _));have X3:=jF X tw jl;refine callWith_of (P:=MethP (K w.params) aO.heap.objs.size 30 (.ref x)) rfl (λh q=>keeps_M F.NF h q) (Di ?_);refine iX T'.sc ok.kind I.Un (AR.ns AQ hm) uK ⟨⟨IA,X3⟩,?_⟩;have kb3:∀b o,hb.get? b=some o->h'.get? b=some o:=λb o e=>jl.keep b o (λq=>by rw[q,hbx]at e;exact absurd e nofun) (kb b o e);refine wpAny_call (ks_codeAny_call_bound IA (Up (v:=v) I X3 tw TR jS kb3 ?_ (k _ _ x8) λdE t1 dx kk tk mR uU uV Us=>?_))
 ·show A.depth+1<recursionLimit;(apply yz<;>trivial)
 have wJ:=jl.trans mR;have NH:=AR.trans mR;have X5:=jF X3 tw mR;refine AP (iX T'.sc ok.kind I.Uo (NH.ns AQ hm) CY (iX T'.sc ok.kind S.lL (NH.ns AQ hm) Uq ?_));have mK:dx≠x:=λq=>by rw[q,k _ _ x8]at uV;exact absurd uV nofun
 refine Cv F X5 uU Us F.t2 ?_ (by show 1≤900;decide) λh6 C4 k6=>⟨rfl,?_⟩
 ·rfl
 have Ut:s.heap.get? dx=none:=by
  cases z:s.heap.get? dx with
  |none=>rfl
  |some o=>rw[jl.keep _ _ mK z]at uV;exact absurd uV nofun
 refine h _ t1 dx _ _ ⟨λb o hb e=>k6 b o (λq=>by rw[q,Ut]at e;exact absurd e nofun) (wJ.keep b o hb e),?_,Nat.le_trans wJ.toks (Nat.le_add_right _ _)⟩ (k6 _ _ (Ne.symm mK) uU) Ut C4 ?_
 ·refine jI (wJ.same) λh7 t7 e7=>?_;exact⟨h6,dE.toks+2,by rw[e7]⟩
 ·rfl
end
end
section
noncomputable abbrev oU:List Value:=[.ref 69,.ref 40,.type "Exception",.type "BaseException",.type "object"]
section
variable {w:World}{A:Around}{E:Value->Shared->Prop}{R:Result->Shared->Prop}{h:Heap}{g:Array GenState}{d:Drawn}{t:Nat}{os:OsState}
variable {nm q:Str}{N:Addr}{bs:List Value}{hdct:Bool}{sn:List Str}{sub:List Value}{ab:Bool}{col:Option Bool}{dd:Option Addr}{k0 k1 k2 k3 k5:Option Value}
theorem Cw {rest:List Value}{Q:Unit->Shared->Prop}(hC:h.get? 81=some (excClassObj nm q 81 N bs oU hdct sn sub ab col dd k0 k1 k2 k3 k5 "Exception.__new__"))(hq:Q () ⟨h,g,d,t,os⟩) :
  wpAny (model pw w) A (checkBuiltinCall "Exception.__new__" ⟨.ref 81::rest,[]⟩) Q E ⟨h,g,d,t,os⟩:=by
 have Fn:=PySem.F.excBase_Exception;have Xz:(Value.ref 81::oU).contains (.type "Exception")=true:=by decide +kernel
 have hstar:=Fn.noStar;simp only[checkBuiltinCall,Fn.newKind,Fn.newSplit,Fn.newRow]
 repeat (first|refine wpAny_loadPart_at hC ?_|(refine wpAny_isSubtype_exc hC ?_;rw[Xz])|refine wpAny_staticBase_exc hC ?_|refine wpAny_madeBy_exc hC ?_|dsimp only[bne_self_eq_false,Bool.false_eq_true,if_false]|wp_step)
 exact hq
theorem XA {rest:List Value}(hC:h.get? 81=some (excClassObj nm q 81 N bs oU hdct sn sub ab col dd k0 k1 k2 k3 k5 "Exception.__new__"))
  (hq:R (.ok (.ret (.ref (h.objs.size+1)))) ⟨(h.push {cls:=.type "tuple",data:=.seq rest.toArray}).push (eJ none h.objs.size),g,d,t,os⟩) (hrest:rest.length≤sizeLine) :
  codeAny (model pw w) A (.builtin "Exception.__new__" ⟨.ref 81::rest,[]⟩) R ⟨h,g,d,t,os⟩:=by
 have Fn:=PySem.F.excBase_Exception;have hends:=Fn.ends;have Uu:(Value.ref 81::oU).contains (.type "Exception")=true:=by decide +kernel
 have hcA:(Value.ref 81::oU).contains (.type "AttributeError")=false:=by decide +kernel
 have hcN:(Value.ref 81::oU).contains (.type "NameError")=false:=by decide +kernel
 refine codeAny_builtinAt Fn.entry ?_;unfold Builtin.«BaseException.__new__»;refine _root_.PySem.wpAt_bind ?_;show _root_.PySem.wpAt _ _ _ (stack>>=_) _ _ _;refine _root_.PySem.wpAt_bind (_root_.PySem.wpAt_stack λp below=>_root_.PySem.wpAt_of_wpAny ?_)
 wp_walk
 refine _root_.PySem.wpAt_of_wpAny ?_;rw[Fn.owner]
 repeat (first|with_reducible refine wpAny_madeHere_exc Fn.canon hC ?_|with_reducible refine wpAny_loadPart_at hC ?_|(with_reducible refine wpAny_isSubtype_exc hC ?_;first|rw[Uu]|rw[hcA]|rw[hcN])|wp_step)
 show R _ _;rw[Heap.size_push];exact hq
theorem Uv {v v2:Value}{p:Program}{loose:List Str}{mg mb:Str->Option Value}{hb:Heap}(I:nS w.params)(X:(K w.params).In s.heap)(TR:TopRead p loose mg mb hb)(jS:(K w.params).In hb)(kb:∀b o,hb.get? b=some o->s.heap.get? b=some o)(hd:A.depth+30<recursionLimit)
  {Q:Value->Shared->Prop} (hq:∀e t1 dx ds k s',(∀b o,s.heap.get? b=some o->s'.heap.get? b=some o)->(∃h t,s'={s with heap:=h,toks:=t})->s.toks≤s'.toks->s.heap.get? e=none->s.heap.get? dx=none->s'.heap.get? e=some (eJ (some dx) t1)->s'.heap.get? dx=some (dictOf ds k) ->
   getL "spot" ds=some (some v2)->Q (.ref e) s'):wpAny (model pw w) A (call (.ref 81) [v,v2]) Q E s:=by
 have F:=I.exc;refine bC λnG=>?_;obtain⟨nm,q,N,bs,hdct,sn,sub,ab,col,dd,k0,k1,k2,k3,k5,hK⟩:=F.ND;obtain⟨h,g,d,t,os⟩:=s;refine nG ?_;have hC:=X _ _ hK;have f1:=tc_lookup;have f2:=tc_bind (.ref 81);have hT:(⟨h,g,d,t,os⟩:Shared).TypeIs (.ref 81) "type":=⟨_,hC,rfl⟩;refine wpAny_call (codeAny_of_tree ?_);show wpAny _ _ (callAny (.ref 81) _) _ _ _
 repeat (any_goals (first|assumption|with_reducible refine wpAny_loadPart_at hC ?_|wp_step))
 refine⟨rfl,?_⟩;refine codeAny_call_builtin_at (Code.quiet_builtin _ (by decide +kernel)) entry_typeCall (wpAny_check_type_call_sub hC ?_)
 repeat (first|with_reducible refine wpAny_loadPart_at hC ?_|with_reducible refine wpAny_madeBy_exc hC ?_|wp_step)
 refine codeAny_call_builtin_code (Code.quiet_builtin _ PySem.F.excBase_Exception.quiet) (Cw hC ?_);refine XA hC ?_ (by show 2≤sizeLine;rw[sizeLine_eq];decide);show wpAny _ _ _ _ _ _;have kp:∀b o,h.get? b=some o->((h.push {cls:=.type "tuple",data:=.seq [v,v2].toArray}).push (eJ none h.objs.size)).get? b=some o:=λb o e=>Heap.get?_push_of_some _ (Heap.get?_push_of_some _ e);have wu:((h.push {cls:=.type "tuple",data:=.seq [v,v2].toArray}).push (eJ none h.objs.size)).get? (h.objs.size+1)=some (eJ none h.objs.size):=by heap_get
 have hcC:(Value.ref 81::oU).contains (.ref 81)=true:=by decide +kernel
 have XB:=kp _ _ hC;have LG:(K w.params).In ((h.push {cls:=.type "tuple",data:=.seq [v,v2].toArray}).push (eJ none h.objs.size)):=λb o e=>kp _ _ (X b o e);have li:=looks_findIn (M:=model pw w) LG F.init;have lb:=bind_fn (M:=model pw w) LG (.ref (h.objs.size+1)) F.Uh;unfold isInstance
 repeat (first|with_reducible refine wpAny_loadPart_at wu ?_|wp_step)
 refine wpAny_isSubtype_exc XB ?_;rw[hcC]
 repeat wp_step
 refine Looks.at li ?_;refine wpAny_holding (wpAny_bind (Looks.at lb ?_))
 have mK:(K w.params).lookup (h.objs.size+1)=none:=by
  cases z:(K w.params).lookup (h.objs.size+1)with
  |none=>rfl
  |some o=>have:=Heap.lt_size (X _ _ z);exact absurd this (by show ¬h.objs.size+1<h.objs.size;exact Nat.not_lt.mpr (Nat.le_succ _))
 have hnb:hb.get? (h.objs.size+1)=none:=by
  cases z:hb.get? (h.objs.size+1)with
  |none=>rfl
  |some o=>have:=Heap.lt_size (kb _ _ z);exact absurd this (by show ¬h.objs.size+1<h.objs.size;exact Nat.not_lt.mpr (Nat.le_succ _))
 refine wpAny_bind (wpAny_call (Ur (v:=v) (v2:=v2) (s:=⟨(h.push {cls:=.type "tuple",data:=.seq [v,v2].toArray}).push (eJ none h.objs.size),g,d,t,os⟩) I LG mK TR jS (λb o e=>kp _ _ (kb b o e)) hnb ?_ wu λdE t1 dx ds k st uU uV Us IB=>?_))
 ·have:=tq 81 [v,v2] A;exact Nat.lt_of_le_of_lt (Nat.add_le_add_right this 10) (by apply RH<;>trivial)
 refine wpAny_pure (wpAny_pure ?_);have kp5:∀b o,h.get? b=some o->dE.heap.get? b=some o:=λb o e=>st.keep b o (λq=>by have:=Heap.lt_size e;rw[q]at this;exact absurd this (Nat.not_lt.mpr (Nat.le_succ _))) (kp b o e);refine hq _ t1 dx ds k dE kp5 (by obtain⟨h7,t7,e7⟩:=st.same;exact⟨h7,t7,by rw[e7]⟩) st.toks ?_ ?_ uU Us IB
 ·cases z:h.get? (h.objs.size+1)with
  |none=>rfl
  |some o=>exact absurd (Heap.lt_size z) (Nat.not_lt.mpr (Nat.le_succ _))
 ·cases z:h.get? dx with
  |none=>rfl
  |some o=>rw[kp _ _ z]at uV;exact(Option.some_ne_none _ uV).elim
theorem Pn {env:Env}{x:Sem Value}{Q:Flow->Shared->Prop}(hh:A.handled=none)
  (h:wpAny (model pw w) A x (λv ah=>∃e Zj t,v=.ref e∧ah.heap.get? 81=some (excClassObj nm q 81 N bs oU hdct sn sub ab col dd k0 k1 k2 k3 k5 "Exception.__new__")∧ah.heap.get? e=some (eJ Zj t)∧E (.ref e) ah) E s) :
  wpAny (model pw w) A (raiseStmt env (some x) none) Q E s:=by
 have Uu:(Value.ref 81::oU).contains (.type "BaseException")=true:=by decide +kernel
 unfold raiseStmt;refine wpAny_bind (wpAny_mono h (λv ah dQ=>?_) λ_ _ x=>x);refine bC λnG=>?_;refine fj dQ λe Zj t eP hC he hE=>?_;subst eP;obtain⟨hp,g,d,tk,os⟩:=ah;refine nG ?_
 repeat (first|with_reducible refine wpAny_loadPart_at he ?_|with_reducible refine wpAny_loadPart_at hC ?_|(with_reducible refine wpAny_isSubtype_exc hC ?_;rw[Uu])|wp_step)
 exact wpAny_raiseNew_none hh hE
end
end
theorem AS {n:Nat}(FA:∀P,k9 P)(II:∀P,nS P):wI n:=by
 intro C O d D i loc hp s ae p q r a b hg ha Zk;have F:=(FA C.w.params).two;have I:=II C.w.params;have tK:∀x∈([]:List Addr),x∈C.own:=λ_ h=>absurd h List.not_mem_nil;refine sn λ{Q E} qq=>?_;obtain⟨nm,qn,N,bs,hdct,sn,sub,ab,col,dd,k0,k1,k2,k3,k5,hK⟩:=I.exc.ND;rw[arm_exec_Raise];refine wpAny_bind (wpAny_standAt ?_);refine Pn (nm:=nm) (q:=qn) (N:=N) (bs:=bs) (hdct:=hdct) (sn:=sn) (sub:=sub) (ab:=ab) (col:=col) (dd:=dd) (k0:=k0) (k1:=k1) (k2:=k2) (k3:=k3) (k5:=k5) O.handled ?_;show wpAny _ _ (eval (.Call (.Name "TextFault" p) [a,b] [] q) C.env>>=λv=>standAt r>>=λ_=>pure v) _ _ _;refine wpAny_bind ?_;show wpAny _ _ (do callWith q (<- eval (.Name "TextFault" p) C.env) [] (backTo q (starEach [a,b] C.env)) []) _ _ _
 refine wpAny_bind (mN O F ae (v:=.ref 81) p hg (by kernel_rfl) λwG m8 ak k₁=>?_);have qq:=qq.up (k₁.weaken tK);have hs:[a,b].all noStar=true:=by unfold List.all;rw[ha];unfold List.all;rw[Zk];rfl
 refine callWith_of (P:=λh=>(K C.w.params).In h) (by rw[iU _ _ _ hs];rfl) (λh X=>keeps_K (K:=K C.w.params) I.Iz h X) ?_;rw[gI ha [b] q C.env];refine Calls.evalArgs_plain (Calls.spliced_cons (cT (D.ex O F.base ak a).jt qq λav u au aB ah aV k₂ cW qq=>?_));rw[gI Zk [] q C.env];refine Calls.spliced_cons (cT (D.ex O F.base aV b).jt qq λbv v bJ ck aO cg cK m7 qq=>Calls.spliced_nil ⟨cg.dI O,?_⟩);refine aj (qq.rB) λk hk qq=>?_;refine aQ ((iS hk▸m7:Val C.no ck aO.heap (.int k) bv).dn) λt aC=>?_;subst aC;refine wg (O.top) λpp loose mg mb TR=>?_;have T9:=O.depth;refine Uv I (cg.dI O) TR O.dI cg.base (by have:recursionLimit=1000:=rfl;(apply Hm<;>trivial)) λe t1 dx ds kk s' kp sm ht hen uV he hdx IB=>?_;refine jI sm λh7 t7 bH=>?_;subst bH
 refine wpAny_bind (wpAny_standAt (wpAny_pure ⟨e,_,t1,rfl,kp _ _ (cg.dI O _ _ hK),he,qq.e _ _ ⟨k,rfl,⟨⟨e,dx,_,_,t,rfl,he,rfl,rfl,jC O cg hen,⟨_,_,he,rfl,by show 1<6;decide,.inl rfl⟩,hdx,rfl,rfl,λ_=>Data.noConfusion,IB,λv hv q=>(FunFrames.at_ cg.fQ v hv q).elim λo e=>bx (uV.symm.trans e)⟩,
  λb o q=>kp _ _ (cg.base b o q),FunFrames.uw (λb o q hn=>⟨o,kp _ _ q,hn⟩) cg.fQ,cg.gens,cg.os⟩,λb o q _ _ _=>⟨o.slots,kp _ _ q⟩⟩⟩))
section
def LH (b:List Stmt):Prop:=∃p0 p1 apos a pos pe rest,b=.Expr (.Call (.Attribute (.Call (.Name "super" p0) [] [] p1) "__init__" apos) [a] [] pos) pe::rest∧noStar a=true∧apos.endLine=pos.line
structure yT (P:Params)(f D f2:Addr)(st:Stmt):Prop where
 is:∃cc mz,lK P f st D D cc mz
 shape:LH (di st)
 NI:(bV (aw st).names)[0]?=some ("self":Str)
 init:ks_superIn (K P) D D "__init__"=some (some (.ref f2))
 Dd:nsIn (K P) cStatics "thirdparty.any"=some none
 Zl:typeIn (K P) (.ref f2)=some (.type "function")
 Uw:fnIn (K P) f2=true
def qJ (d:cx)(c:Ca)(st:Stmt)(vs:List V)(hp:HP):R V :=
 if((bf st).args.map (·.arg)).length==vs.length then(match Nd (di st)with
  |some q=>bj (aF (bo (jg c (q.1.map (d.ex (aw st).names)))::q.2.map (d.st (aw st).names))) (cB (bV (aw st).names) ((bf st).args.map (·.arg)) vs) hp
  |none=>.bad)else .bad
section
variable {n N:Nat}{d:cx}{c:Ca}{st:Stmt}{env:Env}{oc:List Addr}{D f f2 cc mz:Addr}{bs:List (Str×Value)}(O:C.Ok (n+1))(F:bT C.w.params)(Dn:cZ n d)(cF:qG n c)
include O F Dn cF
omit O F Dn cF in
theorem Cy {k:Nat}(h:md hp k=true):∃d,hp[k]?=some (.inst 434 d):=by
 unfold md at h;cases hq:lG hp k with
 |none=>rw[hq]at h;exact ft h
 |some q=>rw[hq]at h;exact⟨q.2,(tI hq).trans (by rw[beq_iff_eq.mp h])⟩
theorem IC (S:lK C.w.params f st D D cc mz)(SF:yT C.w.params f D f2 st)(hD:D=434)(C9:f2=291){m8:Shared}(jx:(C.fn env oc (aw st).names).Ok n)(T:gW m8 f (.ref mz) (aw st) [("__class__",cc)] bs env oc s)
  (ak:Rep (C.fn env oc (aw st).names) i loc hp s) (lJ:∀a,loc[0]?=some (some (V.ref a))->∃ad,i[a]?=some ad∧bs.lookup ("self":Str)=some (.ref ad)) {body:List Stmt} {p0 p1 apos pos:Pos} {a:Expr} (hs:noStar a=true) (uS:(apos.endLine==pos.line)=true)
  {Q:Value->Shared->Prop} {E:Value->Shared->Prop} (q:To (C.fn env oc (aw st).names) [] i s (λ_=>loc) (Val C.no) (jg c [d.ex (aw st).names a] loc hp) Q E) :
  _root_.PySem.wpAt C.M (C.A.deeper env) (.func body env) (eval (.Call (.Attribute (.Call (.Name "super" p0) [] [] p1) "__init__" apos) [a] [] pos) env) Q E s:=by
 subst hD C9;refine aj (q.rB) λo hl q=>?_;refine aj (q.rB) λv aC q1=>?_;subst aC;refine aj (q1.rB) λk hk q=>?_;refine bp (q.rI) λhr q=>?_;rw[gv hk]at hl;refine aQ (Cy hr) λdd hq=>?_;refine aj (lJ k hl) λad Zm Nf=>?_;refine aj (ak.ref Zm hq) λdx _ hx=>?_;refine wg (jx.top) λp loose mg mb TR=>?_;have X:=ak.dI jx;have Ux:[a].all noStar=true:=by unfold List.all;rw[hs];rfl
 refine ks_wpAt_MethodCall (pl:=do return (<- importBound (.Call (.Name "super" p0) [] [] p1) env).getD true) ?_ (xW (args:=[a]) Ux (show 1<20 by decide) uS)
 refine AM S (gK S.ok) X T TR jx.dI ak.base Nf hx rfl (λc=>Data.noConfusion) λh' e kp=>?_;refine bp (ak.more (own:=[]) (h':=h') (t:=s.toks) (d:=s.drawn) kp (Nat.le_refl _)) λaV k₂=>?_;refine xZ SF.Dd SF.init SF.Zl (Rep.dI (C:=C.fn env oc (aw st).names) jx aV) e (kp _ _ hx) (λc=>Data.noConfusion) λdG e' kp'=>?_;refine bp (aV.more (own:=[]) (h':=dG) (t:=s.toks+1) (d:=s.drawn) kp' (Nat.le_succ _)) λcg cK=>?_;have q:=(q.up k₂).up cK
 have cS:h'.objs.size∉i:=λhm=>by
  refine cb (ak.gw hm) λ_ _ _ _ q=>?_;exact q.some.elim λo x=>absurd (Heap.lt_size (kp _ _ x.1)) (Nat.lt_irrefl _)
 refine callWith_of (P:=MethP (K C.w.params) h'.objs.size 291 (.ref ad)) (by rw[iU [a] pos env Ux];rfl) (keeps_M SF.Uw) ?_;have e1:=gI hs [] pos env;rw[e1];refine Calls.evalArgs_plain ?_;rw[<- e1];refine cT (oE jx F.base Dn [a] pos cg Ux) q λas vs au aB ah fG iE oG q=>?_;have hm:ah.heap.get? h'.objs.size=some (methodObj (.ref 291) (.ref ad)):=iE.keep _ _ e' List.not_mem_nil cS;refine⟨⟨hm,Rep.dI (C:=C.fn env oc (aw st).names) jx fG⟩,wpAny_call (ks_codeAny_call_bound hm ?_)⟩;refine codeAny_mono (cF (C:=C.fn env oc (aw st).names) jx F fG (f:=291) (vs:=.ref k::vs) (as:=.ref ad::as) rfl (.cons (.ref _ _ (iE.g.get Zm)) oG) q.nb) λr aO z=>?_;rcases r with e|(_|_|_|v)
 ·exact q.e _ _ z
 all_goals first|exact False.elim z|skip
 exact q.q _ _ z
theorem LI (ae:Rep C i loc hp s)(SF:yT C.w.params 370 434 291 st){vs:List V}{as:List Value}(hv:Vals C.no i s.heap vs as)(hb:qJ d c st vs hp≠.bad) :
  codeAny C.M C.A (.call (.ref 370) ⟨as,[]⟩) (oR C i loc s (qJ d c st vs hp)) s:=by
 obtain⟨p0,p1,apos,a,pos,pe,rest,eb,hs,uS⟩:=SF.shape;have es:qJ d c st vs hp=if((bf st).args.map (·.arg)).length==vs.length then bj (aF (bo (jg c [d.ex (aw st).names a])::rest.map (d.st (aw st).names))) (cB (bV (aw st).names) ((bf st).args.map (·.arg)) vs) hp else .bad:=by unfold qJ;rw[eb];rfl
 rw[es]at hb ⊢;by_cases hlen:(((bf st).args.map (·.arg)).length==vs.length)=true
 ·rw[if_pos hlen]at hb ⊢;have yS:((bf st).args.map (·.arg)).length=as.length:=by rw[<- hv.length];simpa using hlen
  refine jI (SF.is) λcc mz S=>?_;obtain⟨AF,od,nQ,name,qual,pm,ct,gM,my⟩:=S.fn;have ok:=gK S.ok;refine wg (O.top) λp loose mg mb TR=>?_;have T9:=O.depth;have hX:(K C.w.params).In s.heap:=ae.dI O;refine t9 gM my S.ok hX (TR.nolimit.keeps ae.base) (by have:recursionLimit=1000:=rfl;(apply uk<;>trivial)) yS λenv oc ah T=>?_
  have nP:∀x c,([(("__class__":Str),cc)]:List (Str×Addr)).lookup x=some c->∃co v,(K C.w.params).lookup c=some co∧co.data=.cell v:=λx c e=>by
   refine ot (S.cell) λc1 d1 sl kK=>?_;simp only[List.lookup_cons]at e;split at e
   ·obtain rfl:=oi e;exact⟨_,_,kK,rfl⟩
   ·exact(Option.some_ne_none _ e.symm).elim
  have z9:=Iq O ae ok nP T hv;have ak:=z9.1;have k₁:=z9.2;have jx:=Fy O ae ok T
  have lJ:∀a,(cB (bV (aw st).names) ((bf st).args.map (·.arg)) vs)[0]?=some (some (V.ref a))->∃ad,i[a]?=some ad∧(((bf st).args.map (·.arg)).zip as).lookup ("self":Str)=some (.ref ad):=λa e=>by
   unfold cB at e;rw[List.getElem?_map,SF.NI]at e;refine aj (rC hv (oi e)) λb hb NC=>?_;refine aj (NC.cP) λad aC he=>?_;subst aC;exact⟨ad,he,hb⟩
  rw[eb];have jh:aF (bo (jg c [d.ex (aw st).names a])::rest.map (d.st (aw st).names)) (cB (bV (aw st).names) ((bf st).args.map (·.arg)) vs) hp≠.bad:=λq=>by unfold bj at hb;rw[q]at hb;exact hb rfl
  have hint:interactive env=false:=by unfold interactive;rw[T.sc,ok.kind];rfl
  refine ks_codeAny_funcAt (ks_wpAt_mono (Q:=PN (C.fn env oc (aw st).names) (C.fn env oc (aw st).names).own i ah (·.2) (tM C.no) (aF (bo (jg c [d.ex (aw st).names a])::rest.map (d.st (aw st).names)) (cB (bV (aw st).names) ((bf st).args.map (·.arg)) vs) hp))
   (E:=PX (C.fn env oc (aw st).names) (C.fn env oc (aw st).names).own i ah (aF (bo (jg c [d.ex (aw st).names a])::rest.map (d.st (aw st).names)) (cB (bV (aw st).names) ((bf st).args.map (·.arg)) vs) hp)) ?_
   (λfl aO x=>by have:=C7 O ae T k₁ x;cases fl<;>exact this) λe aO x=>Ir O ae ok T k₁ x)
  dsimp only[aF,bo]at jh ⊢;generalize cB (bV (aw st).names) ((bf st).args.map (·.arg)) vs=qv at jh ak lJ ⊢
  have Uy:jg c [d.ex (aw st).names a] qv hp≠.bad:=λq=>by rw[q]at jh;exact jh rfl
  refine ks_wpAt_execs_cons (ks_wpAt_Expr_any (ks_wpAt_mono (IC O F Dn cF (bs:=((bf st).args.map (·.arg)).zip as) S SF rfl rfl jx T ak lJ (body:=.Expr (.Call (.Attribute (.Call (.Name "super" p0) [] [] p1) "__init__" apos) [a] [] pos) pe::rest) (p0:=p0) (p1:=p1) hs (by simpa using uS) ⟨Uy,λ_ _ x=>x,λ_ _ x=>x⟩) (λv aO z=>?_) λe aO z=>?_) hint rfl)
  ·refine fj z λb au aB e aV k₂ NC=>?_;rw[e]at jh ⊢;refine wpAt_of_wpAny ?_;simp only[az]at jh ⊢;have XC:aJ (C.fn env oc (aw st).names).own i ah aB aO:=k₂.weaken (by simp);exact eE.up (nK (C:=C.fn env oc (aw st).names) jx F Dn ⟨C.d8,rfl⟩ rest aV) XC jh
  ·refine dP z λk e f kx=>?_;exact⟨k,by rw[e];rfl,f,kx.weaken (by simp)⟩
 ·rw[if_neg hlen]at hb;exact absurd rfl hb
end
end
section
structure AU:Prop where
 fa:∀P,k9 P
 ii:∀P,nS P
 sup:∀P,yT P 370 434 291 (aK 27 0)
theorem Po {CC f:Addr}(e:ff (d0 CC) .init=some f):isClass f=false:=by
 have h:=uE e;unfold isClass at h;simp only[Bool.or_eq_true,beq_iff_eq]at h;rcases h with(rfl|rfl)|rfl<;>(cases e;rfl)
theorem LJ (c:Ca)(N:Nat)(st:Stmt)(vs:List V)(hp:HP):uu c N st vs hp=qJ (gu c N deep) c st vs hp:=rfl
section
variable {n N:Nat}{c:Ca}(FK:AU)(cF:qG n c)(cO:kY n c)(kO:∀P,nI P c)
include FK cF cO kO
theorem tx:qG (n+1) (fE N c):=by
 intro C O F i loc hp s R f vs as aaH hv hb;have D:cZ n (gu c N deep):=uQ FK.fa cO kO (AS FK.fa FK.ii) deep
 have e0:fE N c (.fix (.ref f)) vs hp=(if isClass f then m5 c f vs hp else match table.lookup f with
  |some st=>if f==370 then uu c N st vs hp else Hc c N st vs hp
  |none=>.bad):=rfl
 rw[e0,if_neg (by rw[aaH];decide)]at hb ⊢;cases ht:table.lookup f with
 |none=>rw[ht]at hb;exact absurd rfl hb
 |some st =>
  rw[ht]at hb;simp only at hb ⊢;split at hb
  ·rename_i FN;rw[if_pos FN];have XD:f=370:=by simpa using FN
   subst XD;have e1:table.lookup 370=some (aK 27 0):=by kernel_rfl
   rw[e1]at ht;cases ht
   rw[LJ]at hb ⊢;exact LI O F D cF R (FK.sup _) hv hb
  ·rename_i FN;rw[if_neg FN];exact Pb O F D R ((FK.fa _).fns f st ht) hv hb
theorem Cz:kY (n+1) (fE N c):=by
 intro C O F0 i loc hp s R f fa vs as hf hv hb;have F:=(FK.fa C.w.params).two;cases hf with
 |fix v =>
  have fin:∀{a:Addr},codeAny C.M C.A (.call (.ref a) ⟨as,[]⟩) (oR C i loc s (fE N c (.fix (.ref a)) vs hp)) s->wpAny C.M C.A (call (.ref a) as) (PN C [] i s (λ_=>loc) (Val C.no) (fE N c (.fix (.ref a)) vs hp)) (PX C [] i s (fE N c (.fix (.ref a)) vs hp)) s:=λh =>
   wpAny_call (codeAny_mono h λr s' z=>by rcases r with e|(_|_|_|v)<;>exact z)
  have e0:fE N c (.fix fa) vs hp=(match fa with
   |.ref a=>if isClass a then m5 c a vs hp else match table.lookup a with
    |some st=>if a==370 then uu c N st vs hp else Hc c N st vs hp
    |none=>.bad
   |.builtin b=>match builtins.lookup b with
    |some g=>g vs hp
    |none=>.bad
   |.type t=>match types.lookup t with
    |some g=>g vs hp
    |none=>.bad
   |_=>.bad):=by cases fa<;>rfl
  cases fa with
  |ref a =>
   by_cases hc:isClass a=true
   ·refine fin ?_;have e1:fE N c (.fix (.ref a)) vs hp=m5 c a vs hp:=by rw[e0];simp only[hc,if_true]
    rw[e1]at hb ⊢;exact LC O F (FK.fa _).made cF R hc hv (λf e=>Po e) hb
   ·exact fin (tx (N:=N) FK cF cO kO O F R (by simpa using hc) hv hb)
  |builtin b =>
   rw[e0]at hb ⊢;simp only at hb ⊢;cases hl:builtins.lookup b with
   |none=>rw[hl]at hb;exact absurd rfl hb
   |some g =>
    rw[hl]at hb;exact K0 O F hl R hv hb
  |type b =>
   rw[e0]at hb ⊢;simp only at hb ⊢;cases hl:types.lookup b with
   |none=>rw[hl]at hb;exact absurd rfl hb
   |some g =>
    rw[hl]at hb;exact K1 O F hl R hv hb
  |_=>rw[e0]at hb;exact absurd rfl hb
 |_=>exact absurd rfl hb
omit cF cO kO in
theorem CA (P:Params):nI P (fE N c):=by
 intro f vs hp hb no i h fa hf;cases hf with
 |fix v =>
  cases fa with
  |ref a =>
   have e0:fE N c (.fix (.ref a)) vs hp=(if isClass a then m5 c a vs hp else match table.lookup a with
    |some st=>if a==370 then uu c N st vs hp else Hc c N st vs hp
    |none=>.bad):=rfl
   rw[e0]at hb;refine(FK.fa P).keep a ?_;by_cases hc:isClass a=true
   ·exact .inl hc
   ·rw[if_neg hc]at hb;cases ht:table.lookup a with
    |none=>rw[ht]at hb;exact absurd rfl hb
    |some st=>exact .inr rfl
  |_=>rfl
 |_=>exact absurd rfl hb
end
theorem x9 (FK:AU)(N:Nat):∀n,qG n (ag N n)∧kY n (ag N n)∧∀P,nI P (ag N n)
 |0=>⟨λ_ _ _ _ _ _ _ _ _ _ _ _ hb=>absurd rfl hb,λ_ _ _ _ _ _ _ _ _ _ _ _ _ hb=>absurd rfl hb,λP f vs hp hb=>absurd rfl hb⟩
 |n+1=>let⟨a,b,d⟩:=x9 FK N n
  ⟨tx FK a b d,Cz FK a b d,CA FK⟩
end
section
section
variable {P:Params}
theorem lA {x:Str}{a:Value}(hx:x≠"__name__")(h1:nsIn (K P) mainGlobals x=some none)(h2:bootBuiltins x=some a):gy P x (.fix a):=⟨hx,.inr ⟨a,h1,h2,rfl⟩⟩
theorem dC {x:Str}{a:Addr}(hx:x≠"__name__")(h1:nsIn (K P) mainGlobals x=some (some (.ref a))):gy P x (du a):=⟨hx,.inl ⟨_,h1,λno i h _ _=>.fix _⟩⟩
theorem FO {x:Str}{l:List Nat}{t:Tok}(hx:x≠"__name__")(h1:nsIn (K P) mainGlobals x=some (some (.str (S l) t))):gy P x (.str l):=⟨hx,.inl ⟨_,h1,λno i h _ _=>.str _ _⟩⟩
theorem XE {x:Str}{k:Int}{t:Tok}(hx:x≠"__name__")(h1:nsIn (K P) mainGlobals x=some (some (.int k t))):gy P x (.int k):=⟨hx,.inl ⟨_,h1,λno i h _ _=>.int _ _⟩⟩
theorem ID {no:List Addr}(cS:∀b∈no,(K P).lookup b=none){a:Addr}{o:Obj}(e:(K P).lookup a=some o):a∉no:=λhm=>by rw[cS a hm]at e;cases e
def Dk (l:List String)(ts:List Nat):List Value:=(l.zip ts).map λp=>.str (S (af p.1)) p.2
theorem AV {no:List Addr}{i:Pl}{h:Heap}:∀(l:List String) (ts:List Nat),l.length=ts.length->Vals no i h (l.map λs=>.str (af s)) (Dk l ts)
 |[],_,_=>.nil
 |_::_,[],e=>by simp at e
 |s::l,t::ts,e=>.cons (.str _ _) (AV l ts (by simpa using e))
theorem AW {x:Str}{l:List String}{a:Addr}{ts:List Nat}(hx:x≠"__name__")(hl:l.length=ts.length)(h1:nsIn (K P) mainGlobals x=some (some (.ref a)))(h2:(K P).lookup a=some ⟨.type "tuple",none,.seq (Dk l ts).toArray 0,#[]⟩):gy P x (yF l) :=
 ⟨hx,.inl ⟨_,h1,λno i h X cS=>.tup (ID cS h2) ⟨_,X _ _ h2⟩ (by simpa using AV l ts hl)⟩⟩
theorem Uz:∀x v,([]:List (Str×V)).lookup x=some v->gy P x v:=λ_ _ e=>by simp at e
theorem bt {y:Str}{u:V}{l:List (Str×V)}(h:gy P y u)(r:∀x v,l.lookup x=some v->gy P x v):∀x v,((y,u)::l).lookup x=some v->gy P x v:=λx v e=>by
 rw[List.lookup_cons]at e;split at e
 ·rename_i hh;cases e;rw[beq_iff_eq.mp hh];exact h
 ·exact r x v e
theorem la {no:List Addr}{h:Heap}{a:Addr}{its:Array Value}{vs:List V}(X:(K P).In h)(cS:∀b∈no,(K P).lookup b=none)(e:(K P).lookup a=some ⟨.type "tuple",none,.seq its 0,#[]⟩)(y:Vals no [] h vs its.toList):Val no [] h (.tup vs) (.ref a) :=
 .tup (ID cS e) ⟨_,X _ _ e⟩ y
theorem lM {no:List Addr}{h:Heap}{a:Addr}{i j:Int}{ti tj:Tok}(X:(K P).In h)(cS:∀b∈no,(K P).lookup b=none)(e:(K P).lookup a=some ⟨.type "tuple",none,.seq #[.int i ti,.int j tj] 0,#[]⟩):Val no [] h (pr i j) (.ref a) :=
 la X cS e (.cons (.int _ _) (.cons (.int _ _) .nil))
noncomputable def IE:List (Nat×Nat):=[(299,300),(302,303),(305,306),(308,309),(311,312),(314,315),(317,318),(320,321),(323,324),(326,327),(329,330),(332,333),(335,336),(338,339),(341,342),(344,345),(347,348),(350,351),(352,353),(354,355),(356,357),(358,359),(360,361),(362,363),(364,365),(366,367),(368,369),(370,371),(372,373),(374,375),(376,377)]
noncomputable def UA:List (Nat×Nat):=[(393,91),(396,93),(399,95),(402,98),(407,101),(412,103),(415,105)]
def wK (P:Params)(l:List (List Nat×Nat×Value)):List DictEntry:=l.map λp=>⟨PyData.keyHash P (S p.1),.str (S p.1) p.2.1,p.2.2⟩
def uW (l:List (List Nat×Nat×Value)):List (Str×Value):=l.map λp=>(S p.1,p.2.2)
theorem AX (w:World):∀l:List (List Nat×Nat×Value),Pairs (SK w) (wK w.params l) (uW l)
 |[]=>.nil
 |p::l=>.cons (strKind_is pw w (S p.1) p.2.1) rfl (AX w l)
theorem Pp (w:World)(l:List (List Nat×Nat×Value)):KeysOf (SK w) (wK w.params l).toArray:=λe he=>by
 have uX:e∈wK w.params l:=by simpa using he
 refine aj (List.mem_map.mp uX) λp _ bH=>?_;subst bH;exact⟨S p.1,strKind_is pw w (S p.1) p.2.1,rfl⟩
theorem Dl {w:World}{h:Heap}{a:Addr}{l:List (List Nat×Nat×Value)}{n:Nat}(e:h.get? a=some (dictOf (wK w.params l) n))(nd:(l.map (·.1)).Nodup):h.DictOf (SK w) a (uW l):=by
 refine⟨_,_,n,e,⟨rfl,rfl,rfl⟩,rfl,Pp w l,by simpa using AX w l,?_⟩;have:(uW l).map (·.1)=(l.map (·.1)).map S:=by simp[uW]
 rw[this];exact nd.map _ λa b uF e=>uF (EK e)
def UB:List (List Nat×Nat×Value):=(eW.zip IE).map λp=>(p.1.1,p.2.1,.str (S p.1.2) p.2.2)
def UC:List (List Nat×Nat×Value):=(pairs.zip UA).map λp=>(p.1.1,p.2.1,.ref p.2.2)
theorem yc {P:Params}{h:Heap}:∀(l:List (List Nat×List Nat)) (ts:List (Nat×Nat)),l.length=ts.length->jN P h (l.map λp=>(p.1,V.str p.2)) (uW ((l.zip ts).map λp=>(p.1.1,p.2.1,.str (S p.1.2) p.2.2)))
 |[],_,_=>.nil
 |_::_,[],e=>by simp at e
 |p::l,t::ts,e=>.cons (λno _=>.str _ _) (yc l ts (by simpa using e))
theorem LK (P:Params):(K P).lookup 87=some (dictOf (wK P UB) 31):=by kernel_rfl
theorem BX (P:Params):(K P).lookup 89=some (dictOf (wK P UC) 7):=by kernel_rfl
theorem AY (P:Params)(w:World)(hw:w.params=P)(h:Heap)(X:(K P).In h):∃bI,h.DictOf (SK w) 87 bI∧jN P h (eW.map λp=>(p.1,V.str p.2)) bI:=by
 subst hw;exact⟨_,Dl (X _ _ (LK _)) (by decide +kernel),yc eW IE (by kernel_rfl)⟩
theorem LL (P:Params)(w:World)(hw:w.params=P)(h:Heap)(X:(K P).In h):∃bI,h.DictOf (SK w) 89 bI∧jN P h pairs bI:=by
 subst hw;refine⟨_,Dl (X _ _ (BX _)) (by decide +kernel),?_⟩;show jN _ h [_,_,_,_,_,_,_] [_,_,_,_,_,_,_]
 exact .cons (λno cS=>la (a:=91) (its:=#[.ref 90]) X cS (by kernel_rfl) (.cons (lM (a:=90) (ti:=394) (tj:=395) (i:=1) (j:=2) X cS (by kernel_rfl)) .nil))
  (.cons (λno cS=>la (a:=93) (its:=#[.ref 92]) X cS (by kernel_rfl) (.cons (lM (a:=92) (ti:=397) (tj:=398) (i:=1) (j:=2) X cS (by kernel_rfl)) .nil))
  (.cons (λno cS=>la (a:=95) (its:=#[.ref 94]) X cS (by kernel_rfl) (.cons (lM (a:=94) (ti:=400) (tj:=401) (i:=1) (j:=2) X cS (by kernel_rfl)) .nil))
  (.cons (λno cS=>la (a:=98) (its:=#[.ref 96,.ref 97]) X cS (by kernel_rfl) (.cons (lM (a:=96) (ti:=403) (tj:=404) (i:=2) (j:=3) X cS (by kernel_rfl)) (.cons (lM (a:=97) (ti:=405) (tj:=406) (i:=2) (j:=4) X cS (by kernel_rfl)) .nil)))
  (.cons (λno cS=>la (a:=101) (its:=#[.ref 99,.ref 100]) X cS (by kernel_rfl) (.cons (lM (a:=99) (ti:=408) (tj:=409) (i:=1) (j:=2) X cS (by kernel_rfl)) (.cons (lM (a:=100) (ti:=410) (tj:=411) (i:=1) (j:=3) X cS (by kernel_rfl)) .nil)))
  (.cons (λno cS=>la (a:=103) (its:=#[.ref 102]) X cS (by kernel_rfl) (.cons (lM (a:=102) (ti:=413) (tj:=414) (i:=1) (j:=2) X cS (by kernel_rfl)) .nil))
  (.cons (λno cS=>la (a:=105) (its:=#[.ref 104]) X cS (by kernel_rfl) (.cons (lM (a:=104) (ti:=416) (tj:=417) (i:=1) (j:=2) X cS (by kernel_rfl)) .nil))
  (.nil)))))))
theorem LM (P:Params):ro P:=λw hw A E s x t Q X=>by
 refine aj (AY P w hw s.heap X) λbI h1 h2=>?_;have g:=h2.get x;rw[qr]at g
 have e:(valueAt bI (S x)).isSome=(eW.lookup x).isSome:=by
  cases hf:eW.lookup x with
  |none=>rw[hf]at g;simp only[Option.map_none]at g;rw[g];rfl
  |some y=>rw[hf]at g;simp only[Option.map_some]at g;obtain⟨a,g1,_⟩:=g;rw[g1];rfl
 exact⟨λq=>wpAny_in_of (strKind_is pw w (S x) t) rfl h1.mapOf (by rw[e];exact q),λq=>wpAny_notIn_of (strKind_is pw w (S x) t) rfl h1.mapOf (by rw[e];exact q)⟩
theorem LN (P:Params):∀x v,iR.lookup x=some v->gy P x v:=by
 show ∀x v,([_,_,_,_,_,_,_,_,_,_,_,_,_,_,_,_,_,_,_,_,_,_,_,_,_,_,_,_,_,_,_,_,_,_,_,_,_,_,_,_,_,_,_,_]:List (Str×V)).lookup x=some v->gy P x v
 exact bt (lA (by decide +kernel) (by kernel_rfl) (by kernel_rfl))
  (bt (lA (by decide +kernel) (by kernel_rfl) (by kernel_rfl))
  (bt (lA (by decide +kernel) (by kernel_rfl) (by kernel_rfl))
  (bt (lA (by decide +kernel) (by kernel_rfl) (by kernel_rfl))
  (bt (lA (by decide +kernel) (by kernel_rfl) (by kernel_rfl))
  (bt (lA (by decide +kernel) (by kernel_rfl) (by kernel_rfl))
  (bt (lA (by decide +kernel) (by kernel_rfl) (by kernel_rfl))
  (bt (lA (by decide +kernel) (by kernel_rfl) (by kernel_rfl))
  (bt (lA (by decide +kernel) (by kernel_rfl) (by kernel_rfl))
  (bt (dC (by decide +kernel) (by kernel_rfl))
  (bt (dC (by decide +kernel) (by kernel_rfl))
  (bt (dC (by decide +kernel) (by kernel_rfl))
  (bt (dC (by decide +kernel) (by kernel_rfl))
  (bt (dC (by decide +kernel) (by kernel_rfl))
  (bt (dC (by decide +kernel) (by kernel_rfl))
  (bt (dC (by decide +kernel) (by kernel_rfl))
  (bt (dC (by decide +kernel) (by kernel_rfl))
  (bt (dC (by decide +kernel) (by kernel_rfl))
  (bt (dC (by decide +kernel) (by kernel_rfl))
  (bt (dC (by decide +kernel) (by kernel_rfl))
  (bt (dC (by decide +kernel) (by kernel_rfl))
  (bt (dC (by decide +kernel) (by kernel_rfl))
  (bt (dC (by decide +kernel) (by kernel_rfl))
  (bt (AW (a:=84) (ts:=[280,281,282]) (by decide +kernel) rfl (by kernel_rfl) (by kernel_rfl))
  (bt (AW (a:=85) (ts:=[284,285,286]) (by decide +kernel) rfl (by kernel_rfl) (by kernel_rfl))
  (bt (AW (a:=86) (ts:=[288,289]) (by decide +kernel) rfl (by kernel_rfl) (by kernel_rfl))
  (bt (FO (t:=291) (by decide +kernel) (by kernel_rfl))
  (bt (FO (t:=293) (by decide +kernel) (by kernel_rfl))
  (bt (FO (t:=295) (by decide +kernel) (by kernel_rfl))
  (bt (XE (t:=297) (by decide +kernel) (by kernel_rfl))
  (bt (dC (by decide +kernel) (by kernel_rfl))
  (bt (dC (by decide +kernel) (by kernel_rfl))
  (bt (dC (by decide +kernel) (by kernel_rfl))
  (bt (dC (by decide +kernel) (by kernel_rfl))
  (bt (dC (by decide +kernel) (by kernel_rfl))
  (bt (dC (by decide +kernel) (by kernel_rfl))
  (bt (dC (by decide +kernel) (by kernel_rfl))
  (bt (dC (by decide +kernel) (by kernel_rfl))
  (bt (dC (by decide +kernel) (by kernel_rfl))
  (bt (dC (by decide +kernel) (by kernel_rfl))
  (bt (lA (by decide +kernel) (by kernel_rfl) (by kernel_rfl))
  (bt (lA (by decide +kernel) (by kernel_rfl) (by kernel_rfl))
  (bt (lA (by decide +kernel) (by kernel_rfl) (by kernel_rfl))
  (bt (dC (by decide +kernel) (by kernel_rfl))
  (Uz))))))))))))))))))))))))))))))))))))))))))))
structure FP where
 a:Addr
 st:Stmt
 name:Str
 qual:Str
 cl:List (Str×Addr)
 law:Bool
 code:Addr
 ct:Value
def FP.pm (q:FP):Value:=if q.law then .str (Str.ofString "law_pq0375_01") 849 else .str (Str.ofString "fdsolve.flat") 278
def nT:List FP:=[⟨119,aK 14 0,"__init__","Flat.__init__",[],false,118,.none⟩,⟨126,aK 14 1,"new_var","Flat.new_var",[],false,125,.none⟩,⟨133,aK 14 2,"post","Flat.post",[],false,132,.none⟩,⟨140,aK 14 3,"size","Flat.size",[],false,139,.none⟩,⟨147,aK 14 4,"domain_of","Flat.domain_of",[],false,146,.none⟩,⟨161,bg 15,"is_number","is_number",[],false,160,.none⟩,⟨166,bg 16,"is_row_of_numbers","is_row_of_numbers",[],false,165,.none⟩,⟨173,bg 17,"is_var","is_var",[],false,172,.none⟩,⟨178,bg 18,"fits","fits",[],false,177,.none⟩,⟨188,bg 20,"told_fault","told_fault",[],false,187,.none⟩,⟨195,bg 21,"truths_of","truths_of",[],false,194,.none⟩,⟨200,bg 22,"is_truth","is_truth",[],false,199,.none⟩,⟨207,bg 23,"piece_fault","piece_fault",[],false,206,.none⟩,⟨214,bg 24,"shown_fault","shown_fault",[],false,213,.none⟩,⟨228,aK 25 0,"__init__","FlatScanner.__init__",[],false,227,.none⟩,⟨235,aK 25 1,"sign","FlatScanner.sign",[],false,234,.none⟩,⟨242,aK 25 2,"skip","FlatScanner.skip",[],false,241,.none⟩,⟨249,aK 25 3,"run_of","FlatScanner.run_of",[],false,248,.none⟩,⟨256,aK 25 4,"quotation","FlatScanner.quotation",[],false,255,.none⟩,⟨263,aK 25 5,"number","FlatScanner.number",[],false,262,.none⟩,⟨270,aK 25 6,"token","FlatScanner.token",[],false,269,.none⟩,⟨291,aK 26 0,"__init__","DataReader.__init__",[],false,290,.none⟩,⟨298,aK 26 1,"take","DataReader.take",[],false,297,.none⟩,⟨305,aK 26 2,"is_sign","DataReader.is_sign",[],false,304,.none⟩,⟨312,aK 26 3,"want","DataReader.want",[],false,311,.none⟩,⟨319,aK 26 4,"number","DataReader.number",[],false,318,.none⟩,⟨326,aK 26 5,"word_value","DataReader.word_value",[],false,325,.none⟩,⟨333,aK 26 6,"opened","DataReader.opened",[],false,332,.none⟩,⟨340,aK 26 7,"closed","DataReader.closed",[],false,339,.none⟩,⟨347,aK 26 8,"data","DataReader.data",[],false,346,.none⟩,⟨370,aK 27 0,"__init__","FlatReader.__init__",[("__class__",358)],false,369,(.ref 363)⟩,⟨377,aK 27 1,"stretch","FlatReader.stretch",[],false,376,.none⟩,⟨384,aK 27 2,"domain","FlatReader.domain",[],false,383,.none⟩,⟨391,aK 27 3,"variable","FlatReader.variable",[],false,390,.none⟩,⟨398,aK 27 4,"constraint","FlatReader.constraint",[],false,397,.none⟩,⟨405,aK 27 5,"goal","FlatReader.goal",[],false,404,.none⟩,⟨412,aK 27 6,"output","FlatReader.output",[],false,411,.none⟩,⟨419,aK 27 7,"item","FlatReader.item",[],false,418,.none⟩,⟨426,aK 27 8,"look","FlatReader.look",[],false,425,.none⟩,⟨431,aK 27 9,"model","FlatReader.model",[],false,430,.none⟩,⟨443,bg 29,"_law_dip","_law_dip",[],true,442,.none⟩,⟨450,bg 30,"_law_put","_law_put",[],true,449,.none⟩,⟨457,bg 31,"_law_broken","_law_broken",[],true,456,.none⟩,⟨464,bg 32,"_law_variable","_law_variable",[],true,463,.none⟩,⟨471,bg 33,"_law_var","_law_var",[],true,470,.none⟩,⟨478,bg 34,"_law_constraint","_law_constraint",[],true,477,.none⟩,⟨485,bg 35,"_law_goal","_law_goal",[],true,484,.none⟩,⟨492,bg 36,"_law_output","_law_output",[],true,491,.none⟩,⟨499,bg 37,"_law_unread","_law_unread",[],true,498,.none⟩,⟨504,bg 38,"_law_is_right","_law_is_right",[],true,503,.none⟩]
def ua (P:Params)(c:Addr):Bool:=match (K P).lookup c with
 |some o=>(match o.data with
  |.cell _=>true
  |_=>false)
 |none=>false
theorem CB {c:Addr}(h:ua P c=true):∃co v,(K P).lookup c=some co∧co.data=.cell v:=by
 unfold ua at h;cases e:(K P).lookup c with
 |none=>rw[e]at h;exact absurd h nofun
 |some o =>
  rw[e]at h;obtain⟨c1,d1,dt,sl⟩:=o;cases dt<;>first|exact⟨_,_,rfl,rfl⟩|exact absurd h nofun
theorem yd {α β:Type}[BEq α][LawfulBEq α]{x:α}{y:β}:∀{l:List (α×β)},l.lookup x=some y->(x,y)∈l:=by
 intro l
 induction l with
 |nil=>exact λe=>absurd e nofun
 |cons q l ih =>
  intro e;obtain⟨u,v⟩:=q;rw[List.lookup_cons]at e;cases h:x==u with
  |true=>rw[h]at e;cases oi e;rw[beq_iff_eq.mp h];exact .head _
  |false=>rw[h]at e;exact .tail _ (ih e)
theorem FQ:table=nT.map λq=>(q.a,q.st):=rfl
theorem Pq:(nT.map λq=>(K P).lookup q.a)=nT.map λq=>some ⟨.type "function",none,.func (qe q.name q.qual q.st q.cl q.pm (.ref q.code) q.ct),#[]⟩:=by kernel_rfl
theorem IG:(nT.all λq=>codeIn (K P) (.ref q.code) q.qual)=true:=by kernel_rfl
theorem Pr:(nT.all λq=>t4 q.st q.cl)=true:=by kernel_rfl
theorem Pu:(nT.all λq=>q.cl.all λc=>ua P c.2)=true:=by kernel_rfl
theorem UD (P:Params)(a:Addr)(st:Stmt)(h:table.lookup a=some st):LA P a st:=by
 have hm:=yd h;rw[FQ]at hm;refine aj (List.mem_map.mp hm) λq hq e=>?_;cases e
 exact⟨_,_,_,_,_,_,_,_,_,List.map_inj_left.mp Pq q hq,List.all_eq_true.mp IG q hq,List.all_eq_true.mp Pr q hq,λx c e=>CB (List.all_eq_true.mp (List.all_eq_true.mp Pu q hq) _ (yd e))⟩
theorem FR {β:Type}{k:Key}{y:β}:∀{l:List (Key×β)},ff l k=some y->(k,y)∈l:=by
 intro l
 induction l with
 |nil=>exact λe=>absurd e nofun
 |cons q l ih =>
  intro e;obtain⟨u,v⟩:=q;unfold ff at e;by_cases h:u=k
  ·rw[if_pos h]at e;cases oi e;rw[h];exact .head _
  ·rw[if_neg h]at e;exact .tail _ (ih e)
theorem Pw (k:Key):k∈Key.all:=List.mem_of_getElem? (Key.ix k)
theorem AZ {C:Addr}(ga:findIn (K P) (.ref C) "__getattribute__"=some (some (.builtin "object.__getattribute__")))(gt:findIn (K P) (.ref C) "__getattr__"=some none)(sa:findIn (K P) (.ref C) "__setattr__"=some (some (.builtin "object.__setattr__")))(over:plainOver (K P) C=true)(dict:hasDictIn (K P) C=true)
  (ha:((Key.all.filter (attrOk C)).map λk=>(findIn (K P) (.ref C) k.str,takerIn (K P) C k.str))=(Key.all.filter (attrOk C)).map λ_=>(some none,some none))
  (hm:((d0 C).map λq=>(findIn (K P) (.ref C) q.1.str,typeIn (K P) (.ref q.2)))=(d0 C).map λq=>(some (some (.ref q.2)),some (.type "function"))):iT P C where
 ga:=ga
 gt:=gt
 sa:=sa
 over:=over
 dict:=dict
 attr:=λk hk=>Prod.ext_iff.mp (List.map_inj_left.mp ha k (List.mem_filter.mpr ⟨Pw k,hk⟩))
 bA:=λk f hk=>Prod.ext_iff.mp (List.map_inj_left.mp hm (k,f) (FR hk))
theorem Px (P:Params):iT P 150:=AZ (by kernel_rfl) (by kernel_rfl) (by kernel_rfl) (by kernel_rfl) (by kernel_rfl) (by kernel_rfl) (by kernel_rfl)
theorem Py (P:Params):iT P 273:=AZ (by kernel_rfl) (by kernel_rfl) (by kernel_rfl) (by kernel_rfl) (by kernel_rfl) (by kernel_rfl) (by kernel_rfl)
theorem Pz (P:Params):iT P 434:=AZ (by kernel_rfl) (by kernel_rfl) (by kernel_rfl) (by kernel_rfl) (by kernel_rfl) (by kernel_rfl) (by kernel_rfl)
theorem UE (P:Params)(C:Addr)(h:isClass C=true):iT P C:=by
 unfold isClass at h;simp only[Bool.or_eq_true,beq_iff_eq]at h;rcases h with(rfl|rfl)|rfl
 ·exact Px P
 ·exact Py P
 ·exact Pz P
end
end
theorem ub {K:Frag}{D:Addr}(h:(clsIn K D).isSome=true):∃cd,clsIn K D=some cd:=Option.isSome_iff_exists.mp h
theorem UG (P:Params):lK P 30 (aK 1 0) 40 81 18 29 where
 fn:=⟨.type "function",none,#[],Str.ofString "__init__",Str.ofString "FdError.__init__",.str (Str.ofString "fdsolve.errors") 187,(.ref 23),by kernel_rfl,by kernel_rfl⟩
 ok:=by kernel_rfl
 arg:=⟨((bf (aK 1 0)).args.head?).getD default,by kernel_rfl,by kernel_rfl⟩
 qI:=by kernel_rfl
 nR:=by kernel_rfl
 lL:=by kernel_rfl
 code:=⟨.type "code",none,#[(.str (Str.ofString "__init__") 201),(.str (Str.ofString "FdError.__init__") 202),(.str (Str.ofString "/claim/cut.py") 203),(.int (4) 0),(.int (2) 0),(.int (0) 0),(.int (0) 0),(.int (3) 0),(.ref 24),(.bool true),(.int (181) 0),(.ref 25),.none,(.ref 26),(.ref 27),(.ref 28),(.int (207) 0),(.int (4) 0),(.str (Str.ofString "/claim/cut.py") 208)],#[],Str.ofString "/claim/cut.py",203,by kernel_rfl,by kernel_rfl,by kernel_rfl⟩
 cell:=⟨.type "cell",none,#[],by kernel_rfl⟩
 cls:=ub (by kernel_rfl)
 sub:=by kernel_rfl
 glob:=by kernel_rfl
theorem UH (P:Params):lK P 59 (aK 2 0) 69 81 47 58 where
 fn:=⟨.type "function",none,#[],Str.ofString "__init__",Str.ofString "SpotFault.__init__",.str (Str.ofString "fdsolve.errors") 187,(.ref 52),by kernel_rfl,by kernel_rfl⟩
 ok:=by kernel_rfl
 arg:=⟨((bf (aK 2 0)).args.head?).getD default,by kernel_rfl,by kernel_rfl⟩
 qI:=by kernel_rfl
 nR:=by kernel_rfl
 lL:=by kernel_rfl
 code:=⟨.type "code",none,#[(.str (Str.ofString "__init__") 239),(.str (Str.ofString "SpotFault.__init__") 240),(.str (Str.ofString "/claim/cut.py") 241),(.int (12) 0),(.int (3) 0),(.int (0) 0),(.int (0) 0),(.int (3) 0),(.ref 53),(.bool true),(.int (181) 0),(.ref 54),.none,(.ref 55),(.ref 56),(.ref 57),(.int (246) 0),(.int (12) 0),(.str (Str.ofString "/claim/cut.py") 247)],#[],Str.ofString "/claim/cut.py",241,by kernel_rfl,by kernel_rfl,by kernel_rfl⟩
 cell:=⟨.type "cell",none,#[],by kernel_rfl⟩
 cls:=ub (by kernel_rfl)
 sub:=by kernel_rfl
 glob:=by kernel_rfl
theorem PA (P:Params):lK P 370 (aK 27 0) 434 434 358 369 where
 fn:=⟨.type "function",none,#[],Str.ofString "__init__",Str.ofString "FlatReader.__init__",.str (Str.ofString "fdsolve.flat") 278,(.ref 363),by kernel_rfl,by kernel_rfl⟩
 ok:=by kernel_rfl
 arg:=⟨((bf (aK 27 0)).args.head?).getD default,by kernel_rfl,by kernel_rfl⟩
 qI:=by kernel_rfl
 nR:=by kernel_rfl
 lL:=by kernel_rfl
 code:=⟨.type "code",none,#[(.str (Str.ofString "__init__") 757),(.str (Str.ofString "FlatReader.__init__") 758),(.str (Str.ofString "/claim/cut.py") 759),(.int (267) 0),(.int (2) 0),(.int (0) 0),(.int (0) 0),(.int (3) 0),(.ref 364),(.bool true),(.int (181) 0),(.ref 365),.none,(.ref 366),(.ref 367),(.ref 368),(.int (763) 0),(.int (267) 0),(.str (Str.ofString "/claim/cut.py") 764)],#[],Str.ofString "/claim/cut.py",759,by kernel_rfl,by kernel_rfl,by kernel_rfl⟩
 cell:=⟨.type "cell",none,#[],by kernel_rfl⟩
 cls:=ub (by kernel_rfl)
 sub:=by kernel_rfl
 glob:=by kernel_rfl
theorem UI (P:Params):jT P where
 cls:=⟨_,(by kernel_rfl:clsIn (K P) 81=some {name:=(Str.ofString "TextFault"),bases:=[(.ref 69)],mro:=[.ref 81,.ref 69,.ref 40,.type "Exception",.type "BaseException",.type "object"],ns:=80,qualname:=(Str.ofString "TextFault"),hasDict:=true,slotNames:=[],subclasses:=[],abstract:=false,collection:=none,hasDel:=false}),rfl,rfl⟩
 sa:=by kernel_rfl
 init:=by kernel_rfl
 t1:=by kernel_rfl
 t2:=by kernel_rfl
 sup:=by kernel_rfl
 Ue:=by kernel_rfl
 Dd:=by kernel_rfl
 call:=by kernel_rfl
 typ:=by kernel_rfl
 ND:=⟨(Str.ofString "TextFault"),(Str.ofString "TextFault"),80,[(.ref 69)],true,[],[],false,none,none,(some (.ref 72)),none,(some (.str (Str.ofString "TextFault") 262)),(some (.str (Str.ofString "TextFault") 270)),(some (.bool true)),by kernel_rfl⟩
 Ug:=by kernel_rfl
 NF:=by kernel_rfl
 Uh:=by kernel_rfl
theorem PB (P:Params):nS P where
 exc:=UI P
 Iz:=by kernel_rfl
 Zg:=UG P
 Zh:=UH P
 Uj:=⟨_,_,_,_,_,_,_,_,_,_,rfl,rfl⟩
 Uk:=⟨_,_,_,_,_,_,_,_,_,_,rfl,rfl⟩
 Ul:=by kernel_rfl
 Um:=by kernel_rfl
 NG:=by kernel_rfl
 Un:=by kernel_rfl
 Uo:=by kernel_rfl
theorem LO (P:Params):yT P 370 434 291 (aK 27 0) where
 is:=⟨358,369,PA P⟩
 shape:=⟨_,_,_,_,_,_,_,rfl,rfl,rfl⟩
 NI:=by kernel_rfl
 init:=by kernel_rfl
 Dd:=by kernel_rfl
 Zl:=by kernel_rfl
 Uw:=by kernel_rfl
theorem IH {p:Addr->Prop}(h:∀q∈table,p q.1){a:Addr}(e:(table.lookup a).isSome=true):p a:=by
 refine aQ (Option.isSome_iff_exists.mp e) λst hs=>?_
 have:∀(l:List (Addr×Stmt)),l.lookup a=some st->(a,st)∈l:=by
  intro l
  induction l with
  |nil=>intro h;simp at h
  |cons q l ih =>
   intro h;obtain⟨b,c⟩:=q;rw[List.lookup_cons]at h;split at h
   ·rename_i hh;cases h;rw[beq_iff_eq.mp hh];exact .head _
   ·exact .tail _ (ih h)
 exact h _ (this _ hs)
theorem LP (P:Params):(table.all λq=>keepIn (K P) (.ref q.1))=true:=by kernel_rfl
theorem IJ (P:Params):k9 P where
 two:=⟨⟨LN P,LM P⟩,UE P,AY P,LL P⟩
 fns:=UD P
 made:=λCC h=>by
  unfold isClass at h;simp only[Bool.or_eq_true,beq_iff_eq]at h;rcases h with(rfl|rfl)|rfl<;>kernel_rfl
 keep:=λa h=>by
  rcases h with h|h
  ·unfold isClass at h;simp only[Bool.or_eq_true,beq_iff_eq]at h;rcases h with(rfl|rfl)|rfl<;>kernel_rfl
  ·exact IH (p:=λa=>keepIn (K P) (.ref a)=true) (λq hq=>List.all_eq_true.mp (LP P) q hq) h
 get:=λpl Q E s X hq=>by
  have e:=X _ _ (BX P);exact getMethod_builtin (T:="dict") ⟨_,e,rfl⟩ PySem.F.plainAttrs_dict PySem.F.slot_dict_get PySem.F.type_dict_get (λa q=>by cases q;exact⟨_,e,rfl⟩) hq
theorem nU:AU:=⟨IJ,PB,LO⟩
section
structure rE (P:Params):Prop where
 ga:findIn (K P) (.ref 81) "__getattribute__"=some (some (.builtin "BaseException.__getattribute__"))
 gt:findIn (K P) (.ref 81) "__getattr__"=some none
 dict:hasDictIn (K P) 81=true
 bG:findIn (K P) (.ref 81) "spot"=some none
 glob:nsIn (K P) mainGlobals "TextFault"=some (some (.ref 81))
section
variable {w:World}{A:Around}{E:Value->Shared->Prop}{x:Addr}{ox:Obj}{od:Option Obj}
theorem PC {v:Value}{ob:Obj}{expr:Bool}{Q:Value->Shared->Prop}(F:jT w.params)(G:rE w.params)(X:(K w.params).In s.heap)(I:InstAt s.heap x ox 81 (some ob))(hl:lookIn "spot" ob=some (some v))(hh:handedIn v=true)
  (h:Q v {s with toks:=s.toks+1}):wpAny (model pw w) A (getAttr (.ref x) "spot" expr) Q E s:=by
 have sub:=De F X I (base:=.type "BaseException") (by decide +kernel);have hf:=looks_find (M:=model pw w) X I (findObj_own G.dict G.bG rfl hl);have L1:=looks_findIn (M:=model pw w) X G.ga;have L2:=looks_findIn (M:=model pw w) X G.gt;have L0:=I.type (M:=model pw w);obtain⟨hp,g,d,t,os⟩:=s;have f3:=PySem.F.attr_Exception.ga.bind (.ref x);have hx0:(expr&&onTheHeap (Value.builtin "BaseException.__getattribute__"))=false:=by cases expr<;>rfl
 have x8:(Value.builtin "BaseException.__getattribute__"==Value.builtin "object.__getattribute__")=false:=by decide +kernel
 have YS:(onTheHeap (Value.ref 81)&&Value.builtin "BaseException.__getattribute__"==Value.builtin "object.__getattribute__")=false:=by rw[x8];rfl
 unfold getAttr getAttrBy;refine wpAny_bind (wpAny_mkText (wpAny_holding (wpAny_bind (Looks.at L0 (wpAny_bind (Looks.at L1 ?_))))));show wpAny _ _ (getAttrByItsOwn (.ref x) (.str "spot" t) (.ref 81) (.builtin "BaseException.__getattribute__") true expr) _ _ _;unfold getAttrByItsOwn hookBefore callGetattribute boundAndCalled
 repeat (first|(with_reducible refine Looks.at L2 ?_)|wp_step)
 refine codeAny_call_builtin PySem.F.attr_Exception.ga.plain PySem.F.entry_bexc_ga (@check_slot (model pw w) _ _ ⟨hp,g,d,t+1,os⟩ "BaseException.__getattribute__" "BaseException" "__getattribute__" (.ref x) [.str "spot" t] [] _ (by decide +kernel) (by decide +kernel) sub (PySem.F.args_bexc_ga _ _) ?_)
 repeat (first|(with_reducible refine Looks.at L0 ?_)|(with_reducible refine Looks.at hf ?_)|wp_step)
 show wpAny _ _ (handedOut v) _ _ _;rw[handedOut_of hh];exact wpAny_pure h
end
end
section
noncomputable def UJ (C:Cx) (b:Bool):Flow->Shared->Prop:=λf s'=>f=.ret (.bool b)∧(∀b o,C.hb.get? b=some o->s'.heap.get? b=some o)∧s'.gens=#[]∧s'.os=C.os
theorem A0 {L:Addr}{m:Str->Option Value}(hm:h.Ns L m)(k:∀o,h.get? L=some o->(∀vs,o.data≠.fields vs)->∃o',h'.get? L=some o'∧o'.data=o.data∧o'.cls=o.cls∧o'.dict=o.dict):h'.Ns L m:=by
 refine m6 hm λo es ep e hd r=>?_;obtain⟨o',e',q1,_,_⟩:=k o e (λvs q=>by rw[hd]at q;cases q)
 exact⟨o',es,ep,e',q1.trans hd,r⟩
section
variable {n:Nat}{outer:List Env}(O:C.Ok n)(eR:C.d8=C.env::outer)(FE:jT C.w.params)(G:rE C.w.params)
include O eR FE G
theorem LQ {k due:Int}{e:Value}{td:Tok}{m:Str->Option Value}(hm:s'.heap.Ns C.L m)(aaI:m "due"=some (.int due td))(fl:ml C k e s')(Zn:C.hb.get? C.L=none)(UK:C.env.frame=some C.L)
  (kT:C.env.kindOf "TextFault"=some .globalImplicit) (kf:C.env.kindOf "fault"=some .local) (kd:C.env.kindOf "due"=some .local) {p1 p2 p3 p4 p5 p6 p7:Pos} {E:Value->Shared->Prop} :
  wpAny C.M C.A (noteFrame e C.env) (λ_ aO=>wpAny C.M C.A (setFlight e none) (λ_ eQ=>wpAny C.M C.A (handleBy e C.env [.ExceptHandler (some (.Name "TextFault" p1)) (some "fault") [.Return (some (.Compare (.Attribute (.Name "fault" p2) "spot" p3) [.Eq] [.Name "due" p4] p5)) p6] p7]) (UJ C (k==due)) E eQ) E aO) E s':=by
 refine tW O eR fl λdQ aaJ XF held=>oH O aaJ held none (.inl rfl) λib wL XG tr=>?_;refine wg (O.top) λp loose mg mb TR=>?_;have hp:(C.env.scope.kind==.class||(C.env.scope.kind==.module&&C.env.locals != C.env.globals))=false:=by rw[O.kind];rfl
 obtain⟨ea,d,oe,od,t,e0,he,hc,hed,hean,_,hd,hdc,UL,hdf,IB,hap⟩:=wL.obj;subst e0;obtain⟨xM,vs,T,oT,ts,a1,a2,a3,a4,a5,a6,a7,a8,a9,Y6⟩:=tr ea rfl;have H9:ib.get? ea=some xM:=a1;have uX:ib.get? ea=some oe:=he;rw[uX]at H9;cases H9
 have XH:ib.Ns C.L m:=by
  refine A0 (h:=dQ) (A0 (h:=s'.heap) hm λo e hn=>?_) λo e hn=>?_
  ·refine zP (XF _ o e) λo' q1 q2 q3 q4 _=>?_;exact⟨o',q1,q4 hn,q2,q3⟩
  ·refine zP (XG _ o e) λo' q1 q2 q3 q4 _=>?_;exact⟨o',q1,q4 hn,q2,q3⟩
 have aaK:(K C.w.params).In ib:=λb o q=>wL.base b o (O.dI b o q);obtain⟨nm,qn,N,bs,hdct,sn,sub,ab,col,dd,k0,k1,k2,k3,k5,hK⟩:=FE.ND;refine wpAny_handleBy_cons (codeAny_handlers_test ?_) (by intro q;cases q)
 refine Calls.Name_function_global O.kind kT ?_ rfl;refine Calls.loadGlobal_global (mg:=mg) (by rw[O.globals];exact TR.g.keeps wL.base) (mg_of O.dI TR.g G.glob) ?_;refine wpAny_excMatches_sub_self (aaK _ _ hK) uX hc (by decide +kernel) ?_;refine codeAny_handlers_suite_as ?_;refine wpAny_setFlight_none uX a2 a4 a7 a8 a9 ?_
 have ja:∀{b o},ib.get? b=some o->(∀vs,o.data≠.fields vs)->b≠T:=λ{b o} e hn q=>by
  rw[q]at e;have a7':ib.get? T=some oT:=a7;rw[a7']at e;cases e;exact hn _ a8
 have cK:∀b o,b≠T->ib.get? b=some o->(ib.update T (Obj.mapFields (·.setIfInBounds 3 .none))).get? b=some o:=λb o hb e=>(Heap.get?_update_ne _ _ _ _ hb).trans e
 refine m6 (id XH) λoL es ep qF mP T7=>?_;have hLT:C.L≠T:=ja qF (by rw[mP];simp);have XI:(ib.update T (Obj.mapFields (·.setIfInBounds 3 .none))).Ns C.L m:=⟨oL,es,ep,cK _ _ hLT qF,mP,T7⟩
 refine wpAny_storeName_local kf XI (λqC FT FU=>?_) hp;have hLe:ea≠C.L:=λq=>by rw[q]at uX;rw[qF]at uX;cases uX;rw[mP]at a2;cases a2
 have hdT:d≠T:=ja hd hdf;have hea:qC.get? ea=some oe:=(FU.2 _ hLe).trans (cK _ _ (Ne.symm a6) uX);have uN:∀b o,C.hb.get? b=some o->qC.get? b=some o:=λb o e=>(FU.2 b (λq=>by rw[q,Zn]at e;cases e)).trans (cK _ _ (λq=>by rw[q,a5]at e;cases e) (wL.base b o e))
 have aaL:(K C.w.params).In qC:=λb o q=>uN b o (O.dI b o q)
 have mP:d≠C.L:=λq=>by
  refine hap C.env (by rw[eR];exact .head _) ?_;rw[q];exact UK
 have XJ:qC.get? d=some od:=(FU.2 _ mP).trans (cK _ _ hdT hd);have aaM:InstAt qC ea oe 81 (some od):=⟨hea,hc,by unfold notCls;rw[a2],by rw[hed];exact XJ⟩;refine wpAny_execs_cons (wpAny_Return_some (wpAny_Compare1 (Attribute_any_ (wpAny_Name (wpAny_loadName_local O.kind kf FT (if_pos rfl) ?_) rfl) ?_) rfl))
 ·refine PC (s:=⟨qC,_,_,_,_⟩) FE G aaL aaM IB rfl ?_;refine wpAny_Name (wpAny_loadName_local O.kind kd FT ((if_neg (by decide +kernel)).trans aaI) ?_) rfl;refine PyProof.Rows.eq_int ?_;refine wpAny_nameGoes kf FT hp λTP m' hn₅ XK=>?_;exact⟨rfl,λb o e=>(XK.2 b (λq=>by rw[q,Zn]at e;cases e)).trans (uN b o e),wL.gens,wL.os⟩
 ·show(do
   let ov <- attributeBase (.Name "fault" p2) "spot" C.env (eval (.Name "fault" p2) C.env)
   standAt p3.atName
   let r <- holding [ov] (getAttr ov "spot" true)
   letTemporaryGo (.Name "fault" p2) ov r
   pure r)=_
  rw[lI rfl]
end
end
section
structure NJ (P:Params):Prop where
 fn:∃oc od nQ name qual pm code ct,(K P).lookup 509=some ⟨oc,od,.func (qe name qual (bg 39) [] pm code ct),nQ⟩∧codeIn (K P) code qual=true
 ok:t4 (bg 39) []=true
 args:(bf (bg 39)).args.map (·.arg)=[("script":Str)]
 loc:(aw (bg 39)).names.lookup ("script":Str)=some .local
theorem UM (P:Params):NJ P where
 fn:=⟨.type "function",none,#[],Str.ofString "law",Str.ofString "law",.str (Str.ofString "law_pq0375_01") 849,.ref 508,.none,by kernel_rfl,by kernel_rfl⟩
 ok:=by kernel_rfl
 args:=by kernel_rfl
 loc:=by kernel_rfl
abbrev cy:Sc:=(aw (bg 39)).names
abbrev FV (w:World)(hb:Heap)(os:OsState)(env:Env)(oc:List Addr):Cx:={w:=w,A:=callerA.deeper env,hb:=hb,os:=os,env:=env,d8:=[env],oc:=oc,sc:=cy,no:=[]}
theorem PD {M:Model}{A:Around}{E:Value->Shared->Prop}{scope:Scope}{n qual:Str}{v:Value}{func:Option Addr}{code:Value}{Q:Env->Shared->Prop}(hk:scope.kind=.function)(hl:scope.names.lookup n=some .local)
  (hQ:∀env,env=newEnv scope s.heap.objs.size mainGlobals (cellsFrom (s.heap.objs.size+1) scope.names []) qual func code none builtinsNs ->
   ∀s',InCallC s env.locals (bindL env.kindOf [(n,v)] λ_=>none) env.cells (bindC env.kindOf [(n,v)] λ_=>none) s'->s.toks<s'.toks->Q env s') :
  wpAny M A (newFunctionEnv scope mainGlobals [] [(n,v)] qual func code none builtinsNs) Q E s:=by
 simp only[newFunctionEnv,Option.isSome_none,Bool.false_eq_true,if_false];refine wpAny_bind (wpAny_alloc ?_);refine wpAny_bind (wpAny_layCells _ (λname kind cells=>by cases Ta:kind==NameKind.cell<;>simp[Ta]) _ _ _ _ ?_);have ok:=cellsFrom_ok scope.names (s.heap.push {cls:=.type "frame",data:=.dict #[]}) (s.heap.objs.size+1) [] ⟨λ_ _ hm=>(nomatch hm),List.Pairwise.nil⟩ (by rw[Heap.size_push];exact Nat.le_refl _)
 rw[Heap.size_push]at ok;rw[show({s with heap:=s.heap.push {cls:=.type "frame",data:=.dict #[]}}:Shared).heap.objs.size=s.heap.objs.size+1 from Heap.size_push ..]
 have x:InCallC s (newEnv scope s.heap.objs.size mainGlobals (cellsFrom (s.heap.objs.size+1) scope.names []) qual func code none builtinsNs).locals (λ_=>none) (cellsFrom (s.heap.objs.size+1) scope.names []) (λ_=>none)
   {s with heap:=pushCells (s.heap.push {cls:=.type "frame",data:=.dict #[]}) scope.names} :=
  ⟨⟨⟨_,_,rfl⟩,(Heap.Ns.new s.heap (.type "frame")).keeps (pushCells_keeps _ _),λb o e=>pushCells_keeps _ _ b o (Heap.get?_push_of_some _ e),Nat.le_refl _⟩,
   λn c hc=>(ok.empty n c (mem_of_lookup_some hc)).1,ok.apart,λn c hm=>(ok.empty n c hm).2⟩
 rw[List.forIn_cons];refine wpAny_bind (wpAny_bind (wpAny_bind (wpAny_storeName_local (m:=λ_=>none) hl x.toInCall.ns (λh' TM tn=>wpAny_pure ?_) (by show(scope.kind==.class||(scope.kind==.module&&_))=false;rw[hk];rfl))));show wpAny _ _ (forIn [] PUnit.unit _) _ _ _;rw[List.forIn_nil];refine wpAny_pure (wpAny_pure (hQ _ rfl _ ?_ (Nat.lt_succ_self _)));have xE:(newEnv scope s.heap.objs.size mainGlobals (cellsFrom (s.heap.objs.size+1) scope.names []) qual func code none builtinsNs).kindOf n=some .local:=hl;unfold bindL bindC;rw[if_pos xE,if_pos xE];refine⟨⟨?_,TM,λb o e=>?_,x.toInCall.fresh⟩,λk c hc=>?_,x.apart,x.above⟩
 ·exact⟨h',_,rfl⟩
 ·exact tn.extBut b o (Nat.ne_of_lt (Nat.lt_of_lt_of_le (Heap.lt_size e) x.toInCall.fresh)) (x.toInCall.keep b o e)
 ·exact(x.cell k c hc).sameBut tn (Nat.ne_of_gt (x.above k c (mem_of_lookup_some hc)))
section
variable {w:World}{R:Result->Shared->Prop}{p:Program}{loose:List Str}{mg mb:Str->Option Value}{a0:Addr}
theorem IK (L:NJ w.params)(KX:(K w.params).In s.heap)(TR:TopRead p loose mg mb s.heap)(hg:s.gens=#[])
  (h:∀env oc ah,Cx.Ok (FV w s.heap s.os env oc) 20->Rep (FV w s.heap s.os env oc) [] (cB (bV cy) [("script":Str)] [.fix (.ref a0)]) [] ah->env.frame=some env.locals->(∀x,env.kindOf x=cy.lookup x) ->
   codeAny (model pw w) callerA (.func (di (bg 39)) env) R ah):codeAny (model pw w) callerA (.call (.ref 509) ⟨[.ref a0],[]⟩) R s:=by
 obtain⟨AF,od,nQ,name,qual,pm,code,ct,gM,my⟩:=L.fn;have ok:=gK L.ok;refine codeAny_call_function (fd:=qe name qual (bg 39) [] pm code ct) (body:=di (bg 39)) (by decide +kernel) (KX _ _ gM) rfl ok.co ok.gen rfl (codeRec_of KX my) ?_;rw[oQ ok.plain (by rw[L.args];rfl),L.args];refine wpAny_pure (PD (n:="script") (v:=.ref a0) ok.kind L.loc λenv he ah x ht=>⟨TR.nolimit.keeps x.toInCall.keep,?_⟩);have T:=tp (f:=509) ok (bs:=[("script",.ref a0)]) (by simp) he x (Nat.le_of_lt ht);generalize hoc:((aw (bg 39)).names.filterMap λp=>if p.2==.cell then env.cells.lookup p.1 else none)=oc at T
 have ek:∀x,env.kindOf x=cy.lookup x:=λx=>by show env.scope.names.lookup x=_;rw[T.sc]
 have uL:s.heap.get? env.locals=none:=by
  cases z:s.heap.get? env.locals with
  |none=>rfl
  |some o=>exact absurd (Heap.lt_size z) (Nat.not_lt.mpr T.above)
 refine jI (T.same) λh' t Fz=>?_;refine aj (T.ns) λm hm pZ=>?_;refine m6 (id hm) λoL es ep qF mP T7=>?_
 refine h env oc ah ⟨rfl,by show 1+300+1+200≤900;decide,by show 4+3+800≤1000;decide,rfl,KX,⟨_,_,_,_,TR⟩,?_,T.globals,T.builtins,λx k e=>⟨?_,ok.Y5 _ (bP e)⟩,ok.nd,T.inj,λb hb=>?_,T.above,λb hb=>by simp at hb,⟨env.locals,[],env,T.frame,rfl,T.frame⟩,?_⟩
  ⟨⟨m,hm,λk v e=>?_⟩,rfl,λn o e=>by simp at e,.nil,λa ha=>by simp at ha,λb hb=>?_,T.keep,⟨?_,⟨env.locals,oL,T.frame,uL,qF,by rw[mP];simp⟩,trivial⟩,by rw[Fz];exact hg,by rw[Fz],Nat.lt_of_le_of_lt (Nat.zero_le _) ht,by simp[cB],λb hb=>by simp at hb⟩ T.frame ek
 ·show env.scope.kind=_;rw[T.sc];exact ok.kind
 ·cases k with
  | «local»=>exact(ek x).trans e
  |cell =>
   refine dP (T.cell x e) λc hc ho _=>?_;exact⟨(ek x).trans e,c,hc,.tail _ ho,(T.oc c ho).2.1⟩
  |free =>
   obtain⟨⟨c,hc⟩,_⟩:=ok.free x (bP e);simp at hc
  |globalImplicit=>exact(ek x).trans e
  |globalExplicit=>trivial
 ·rcases List.mem_cons.mp hb with q|q
  ·rw[q];exact uL
  ·exact(T.oc b q).1
 ·show env.scope.isGenerator=false∧env.scope.isCoroutine=false;rw[T.sc];exact⟨ok.gen,ok.co⟩
 ·unfold cB at e;rw[List.getElem?_map]at e;refine aj (Option.map_eq_some_iff.mp e) λx hx e=>?_;refine aj (qh hx) λkd fh ij=>?_;have gM:=fR ok.nd fh;refine⟨x,kd,hx,gM,?_⟩
  have zv:∀u,v=some u->∃a,([(("script":Str),Value.ref a0)]:List (Str×Value)).lookup x=some a∧Val [] [] ah.heap u a:=λu hu=>by
   subst hu;refine aj (rC (no:=[]) (i:=[]) (h:=ah.heap) (vs:=[.fix (.ref a0)]) (as:=[.ref a0]) (.cons (.fix _) .nil) e) λa ha uP=>?_;exact⟨a,ha,uP⟩
  cases kd with
  | «local» =>
   intro u hu;refine aj (zv u hu) λa ha uP=>?_;exact⟨a,(pZ x gM).trans ha,uP⟩
  |cell =>
   refine dP (T.cell x gM) λc hc _ hi=>?_;refine⟨c,_,hc,hi,λu hu=>?_⟩;refine aj (zv u hu) λa ha uP=>?_;exact⟨a,ha,uP⟩
  |free =>
   obtain⟨⟨c,hc⟩,_⟩:=ok.free x fh;simp at hc
  |globalImplicit=>cases ij
  |globalExplicit=>cases ij
 ·rcases List.mem_cons.mp hb with q|q
  ·rw[q];exact⟨by simp,oL,qF,by rw[mP];simp,by rw[mP];simp⟩
  ·obtain⟨h1,_,v,o,ho,hd⟩:=T.oc b q;exact⟨by simp,o,ho,by rw[hd];simp,by rw[hd];simp⟩
 ·rw[T.sc,ok.kind];simp
end
end
section
set_option backward.match.sparseCases true
section
variable {n:Nat}(O:C.Ok n)(F:bT C.w.params){a0:Addr}{nh:Array Value}{l:List V}
def LR (e:Expr):Prop:=iz e=none∨∃pf p0 q p1 p2 ps pos,e=.Call (.Name "list" pf) [.Subscript (.Name "script" p0) (.Slice none (some (.Constant (.int 63) q p1)) none p2) ps] [] pos
def A8 (sc:Sc)(a0:Addr)(l:List V):Ex:=λloc hp=>match gP sc "script" loc hp with
 |.ok (.fix (.ref a)) hp=>if a=a0 then .ok (.ref hp.length) (hp++[.list (cut l none (some 63))])else .bad
 |_=>.bad
def nV (sc:Sc)(a0:Addr)(l:List V):Ex:=λloc hp=>az (A8 sc a0 l loc hp) λv hp=>zV [v] hp
include O F
theorem UN (ae:Rep C i loc hp s)(A9:∀s:Shared,(∀b o,C.hb.get? b=some o->s.heap.get? b=some o)->s.heap.IsList a0 nh∧Vals C.no [] s.heap l nh.toList)(hlen:l.length≤63){q:Nat}{p0 p1 p2 pos:Pos} :
  SV C [] i loc s (A8 C.sc a0 l loc hp) (eval (.Subscript (.Name "script" p0) (.Slice none (some (.Constant (.int 63) q p1)) none p2) pos) C.env):=by
 intro hb;unfold A8 at hb ⊢;have ja:gP C.sc "script" loc hp≠.bad:=λe=>by rw[e]at hb;exact hb rfl
 refine Subscript_ (wpAny_mono (hG (own:=[]) (x:="script") (pos:=p0) O ae (λv hv=>F.base.iR _ v hv) ja) (λa ah z=>?_) λe ah z=>?_)
 ·refine fj z λv au aB ez ak k₁ hv=>?_;rw[ez]at hb ⊢;split at hb
  ·rename_i a' hp' e1;cases e1
   cases hv
   split at hb
   ·rename_i ha;subst ha;rw[if_pos rfl]
    show wpAny _ _ (do
     let l <- valueOrNone (evalOpt none C.env)
     let u <- holding [l] (valueOrNone (evalOpt (some (.Constant (.int 63) q p1)) C.env))
     let s <- holding [l,u] (valueOrNone none)
     newFields "slice" [l,u,s]) _ _ _
    refine wpAny_bind (wpAny_pure (wpAny_bind (wpAny_holding ?_)));have hc:zW (.int 63) loc au=.ok (.int 63) au:=rfl;refine wpAny_mono (sZ (own:=[]) O F.base ak (.int 63) q p1 (by rw[hc];simp)) (λc aO z=>?_) λe aO z=>?_
    ·refine fj z λv bJ ck IL aV k₂ hv=>?_;rw[hc]at IL;cases IL
     cases hv with
     |int _ t =>
     refine wpAny_bind (wpAny_holding (wpAny_pure ?_));unfold newFields;refine wpAny_newObj_type ?_ (by show _≤_;simp[sizeLine]);have kp:∀b' o,aO.heap.get? b'=some o->(aO.heap.push {cls:=.type "slice",data:=.fields #[.none,.int 63 t,.none]}).get? b'=some o:=λ_ _ e=>Heap.get?_push_of_some _ e;refine bp (aV.more (own:=[]) (t:=aO.toks) (d:=aO.drawn) kp) λcg cK=>?_;refine bp (A9 {aO with heap:=aO.heap.push {cls:=.type "slice",data:=.fields #[.none,.int 63 t,.none]}} cg.base) λHQ xK=>?_;obtain⟨b1,pl,YE,Nj⟩:=sU (Val.none (no:=C.no) (i:=ck) (h:=aO.heap)) (show hW .none=some none from rfl);obtain⟨b2,pu,YF,Nk⟩:=sU (Val.int (no:=C.no) (i:=ck) (h:=aO.heap) 63 t) (show hW (.int 63)=some (some 63)from rfl);have hs:=Heap.IsSliceOf.new aO.heap .none (.int 63 t) .none;have hl:l.length=nh.size:=by have:=xK.length;simpa using this
     refine tail_any (s:=_) (Heap.IsList.typeIs (s:={aO with heap:=aO.heap.push {cls:=.type "slice",data:=.fields #[.none,.int 63 t,.none]}}) HQ) slot_list_getitem.lookup (wpAny_getItem_list_slice HQ hs b1 b2 .none (by simp) ?_ (by rw[<- hl,sizeLine_eq];(apply aI<;>trivial))) rfl;rw[pW];have aaN:Vals C.no ck (aO.heap.push {cls:=.type "slice",data:=.fields #[.none,.int 63 t,.none]}) l nh.toList:=xK.keep ⟨ck,by simp⟩ (bq.refl _ _);refine fi (uz (own:=[]) cg (aaN.cut none (some 63)) (t:=aO.toks) (d:=aO.drawn)) λs' e fG iE w=>?_;have:=Yy (lc:=λ_=>loc) (T:=(Val C.no)) fG ((k₁.trans k₂).trans cK) iE w;rw[e]at this;exact this
    ·refine aj z λk IL _=>?_;rw[hc]at IL;cases IL
   ·exact absurd rfl hb
  ·exact absurd rfl hb
 ·refine aj z λk ez _=>?_;rw[ez]at hb;exact absurd rfl hb
end
section
variable {n N:Nat}{d:cx}{c:Ca}(O:C.Ok n)(F:bT C.w.params)(D:cZ n d){a0:Addr}{nh:Array Value}{l:List V}
def IM (d:cx)(sc:Sc)(a0:Addr)(l:List V):Expr->Ex:=λe=>match iz e with
 |some _=>nV sc a0 l
 |none=>d.ex sc e
include O F D
theorem IP (A9:∀s:Shared,(∀b o,C.hb.get? b=some o->s.heap.get? b=some o)->s.heap.IsList a0 nh∧Vals C.no [] s.heap l nh.toList)(hlen:l.length≤63)(E2:gP C.sc "list"=xC (.fix (.type "list")))(ae:Rep C i loc hp s)(e:Expr)(he:LR e) :
  SV C [] i loc s (IM d C.sc a0 l e loc hp) (eval e C.env):=by
 rcases he with h|⟨pf,p0,q,p1,p2,ps,pos,rfl⟩
 ·unfold IM;rw[h];exact D.ex O F.base ae e
 ·show SV C [] i loc s (nV C.sc a0 l loc hp) _;intro hb;have en:gP C.sc "list" loc hp=.ok (.fix (.type "list")) hp:=by rw[E2];rfl
  show wpAny _ _ (do callWith pos (<- eval (.Name "list" pf) C.env) [] (backTo pos (starEach [.Subscript (.Name "script" p0) (.Slice none (some (.Constant (.int 63) q p1)) none p2) ps] C.env)) []) _ _ _
  refine wpAny_bind (wpAny_mono (hG (own:=[]) (x:="list") (pos:=pf) O ae (λv hv=>F.base.iR _ v hv) (by rw[en];simp)) (λfa ah z=>?_) λe ah z=>?_)
  ·refine fj z λv au aB ez ak k₁ hv=>?_;rw[en]at ez;cases ez
   cases hv
   refine callWith_of (P:=λh=>(K C.w.params).In h) rfl (λh X=>kZ (P:=C.w.params) (f:=.type "list") rfl h X) ?_;show wpAny _ _ (evalArgs (.type "list") true ((false,eval (.Subscript (.Name "script" p0) (.Slice none (some (.Constant (.int 63) q p1)) none p2) ps) C.env)::[]) []) _ _ _;refine evalArgs_plain (Calls.spliced_cons ?_);unfold nV at hb ⊢;refine ux (UN O F ak A9 hlen) hb (λa v bJ ck aO q1 aV k₂ cW XM=>?_) λ_ _ z=>z.up k₁;refine Calls.spliced_nil ⟨aV.dI O,?_⟩;rw[q1];exact(CU O F aV (.cons cW .nil)).up (k₁.trans k₂) XM
  ·refine aj z λk ez _=>?_;rw[en]at ez;cases ez
theorem XN (eR:∃outer,C.d8=C.env::outer){rest:List Stmt}{Q:Flow->Shared->Prop}{E:Value->Shared->Prop}{jc:Loc}{ay:HP}:∀(ss:List Stmt) {i loc hp s},Rep C i loc hp s->aF (ss.map (d.st C.sc)) loc hp=.ok (.next,jc) ay ->
  (∀aB ah,Rep C aB jc ay ah->wpAny C.M C.A (execs rest C.env) Q E ah)->wpAny C.M C.A (execs (ss++rest) C.env) Q E s:=by
 intro ss
 induction ss with
 |nil =>
  intro i loc hp s ae hr k;cases hr
  exact k i s ae
 |cons st ss ih =>
  intro i loc hp s ae hr k;simp only[List.map_cons,aF]at hr;have hb:d.st C.sc st loc hp≠.bad:=λq=>by rw[q]at hr;cases hr
  refine wpAny_execs_cons (wpAny_mono (D.st O F.base eR ae st hb) (λf ah z=>?_) λe ah z=>?_)
  ·obtain⟨⟨fl,loc'⟩,hp',i',e,R',K',IQ⟩:=z;rw[e]at hr;cases fl with
   |next =>
    cases f with
    |next=>exact ih R' hr k
    |_=>exact IQ.elim
   |ret v=>cases hr
  ·refine aj z λk e _=>?_;rw[e]at hr;cases hr
end
end
section
theorem yf {n:Nat}{x:Ex}{fl:Fl}{loc loc':Loc}{hp hp':HP}(h:aR n x loc hp=.ok (fl,loc') hp'):fl=.next:=by
 unfold aR at h;cases hq:x loc hp with
 |ok v hpx=>rw[hq]at h;cases h;rfl
 |gH k=>rw[hq]at h;cases h
 |bad=>rw[hq]at h;cases h
def uc:List Stmt:=di (bg 39)
def uY:List Stmt:=(uc.take 8).drop 1
noncomputable def UO:Stmt->List (Option Expr)
 |.Assign _ (.Dict ks _ _) _=>ks
 |_=>[]
noncomputable def UP:Stmt->List Expr
 |.Assign _ (.Dict _ vs _) _=>vs
 |_=>[]
noncomputable def UQ:Stmt->Expr
 |.Try (.Assign _ e _::_) _ _ _ _=>e
 |.Return (some e) _=>e
 |_=>default
def uZ:List (Option Expr):=UO ((uc[0]?).getD (.Pass default))
def lN:List Expr:=UP ((uc[0]?).getD (.Pass default))
def fI:Expr:=UQ ((uc[8]?).getD (.Pass default))
def qK:Expr:=UQ ((uc[9]?).getD (.Pass default))
theorem IS:∃p1 p2 p3 p4 p5 p6 p7 p8 p9 Zo q1 q2 q3 pr,uc=.Assign [.Name "feed" q1] (.Dict uZ lN q2) q3::(uY++[.Try [.Assign [.Name "flat" p8] fI p9] [.ExceptHandler (some (.Name "TextFault" p1)) (some "fault") [.Return (some (.Compare (.Attribute (.Name "fault" p2) "spot" p3) [.Eq] [.Name "due" p4] p5)) p6] p7] [] [] Zo,.Return (some qK) pr]) :=
 ⟨_,_,_,_,_,_,_,_,_,_,_,_,_,_,rfl⟩
theorem UR:∀e∈lN,LR e:=by
 obtain⟨pf,p0,q,p1,p2,ps,pos,t,e,h⟩:∃pf p0 q p1 p2 ps pos t,lN=.Call (.Name "list" pf) [.Subscript (.Name "script" p0) (.Slice none (some (.Constant (.int 63) q p1)) none p2) ps] [] pos::t∧t.all (λe=>(iz e).isNone)=true:=⟨_,_,_,_,_,_,_,_,rfl,by kernel_rfl⟩;rw[e];exact List.forall_mem_cons.mpr ⟨.inr ⟨_,_,_,_,_,_,_,rfl⟩,λe he=>.inl (l7 (List.all_eq_true.mp h e he))⟩
noncomputable def u0:List Key:=[.cells,.place,.text,.iy,.vars,.bY,.goal,.shown]
structure FW:Prop where
 ks:oq uZ=some u0
 len:u0.length=lN.length
 feed:slot cy "feed"=some 1
 NK:cy.lookup ("feed":Str)=some .local
 flat:slot cy "flat"=some 10
 NL:cy.lookup ("flat":Str)=some .local
 due:(bV cy)[5]?=some ("due":Str)
 LS:cy.lookup ("due":Str)=some .local
 IT:cy.lookup ("fault":Str)=some .local
 tf:cy.lookup ("TextFault":Str)=some .globalImplicit
 list:gP cy "list"=xC (.fix (.type "list"))
 comp:fC fI=false
theorem IU:FW where
 ks:=by kernel_rfl
 len:=by kernel_rfl
 feed:=by kernel_rfl
 NK:=by kernel_rfl
 flat:=by kernel_rfl
 NL:=by kernel_rfl
 due:=by kernel_rfl
 LS:=by kernel_rfl
 IT:=by kernel_rfl
 tf:=by kernel_rfl
 list:=by kernel_rfl
 comp:=by kernel_rfl
theorem LU (P:Params):rE P where
 ga:=by kernel_rfl
 gt:=by kernel_rfl
 dict:=by kernel_rfl
 bG:=by kernel_rfl
 glob:=by kernel_rfl
def wM (d:cx)(a0:Addr)(l:List V):Sx:=aR 1 (lH (u0.zip (lN.map (IM d cy a0 l))))
def oV (d:cx)(a0:Addr)(l:List V)(loc:Loc)(hp:HP):R (Fl×Loc):=az (wM d a0 l loc hp) λp hp=>aF (uY.map (d.st cy)) p.2 hp
def oW (d:cx)(loc:Loc)(hp:HP):R V :=
 match aR 10 (d.ex cy fI) loc hp with
 |.ok p hp=>d.ex cy qK p.2 hp
 |.gH k=>(match loc[5]? with
  |some (some (V.int q))=>.ok (.bool (k==q)) hp
  |_=>.bad)
 |.bad=>.bad
def nW (a0:Addr):Loc:=cB (bV cy) [("script":Str)] [.fix (.ref a0)]
section
variable {n N:Nat}{d:cx}{w:World}{oc:List Addr}{env:Env}{hb:Heap}{os:OsState}{a0:Addr}{nh:Array Value}{l:List V}{jc:Loc}{ay aN:HP}
theorem LV (O:C.Ok n)(F:bT C.w.params)(D:cZ n d)(L:FW)(jE:C.sc=cy)(ae:Rep C i loc hp s)(p8 p9:Pos)(hb:aR 10 (d.ex cy fI) loc hp≠.bad) :
  wpAny C.M C.A (exec (.Assign [.Name "flat" p8] fI p9) C.env) (PN C C.own i s (·.2) (tM C.no) (aR 10 (d.ex cy fI) loc hp)) (PX C [] i s (aR 10 (d.ex cy fI) loc hp)) s:=by
 refine aj (uJ fI "flat" p8 p9.line C.env) λb nL Ub=>?_;rw[Ub L.comp]at nL;unfold aR at hb ⊢;rw[gz,nL];refine wpAny_bind (wpAny_standAt ?_);show wpAny _ _ (do let v <- eval fI C.env;assignStores C.env v (<- swappedStores [.Name "flat" p8] fI C.env) ((assignEach [.Name "flat" p8] C.env).map (·.2))) _ _ _
 have h0:swappedStores [.Name "flat" p8] fI C.env=pure none:=by cases fI<;>rfl
 rw[h0,<- jE];rw[<- jE]at hb;refine wpAny_bind (ux (D.ex O F.base ae fI) hb (λa v au aB ah q1 ak k₁ aP rA=>?_) λ_ _ z=>z);rw[q1];refine wpAny_bind (wpAny_pure ?_);show wpAny _ _ (assign (.Name "flat" p8) C.env a>>=λ_=>pure Flow.next) _ _ _;exact wpAny_bind (ji O ak (by rw[jE];exact L.NL) (.inl rfl) (by rw[jE];exact L.flat) aP λaO aV k₂=>wpAny_pure (dT (lc:=λp:Fl×Loc=>p.2) aV ((k₁.weaken (by simp)).trans k₂) trivial))
theorem LW (A9:∀s:Shared,(∀b o,C.hb.get? b=some o->s.heap.get? b=some o)->s.heap.IsList a0 nh∧Vals C.no [] s.heap l nh.toList)(hlen:l.length≤63)(O:C.Ok n)(F:bT C.w.params)(D:cZ n d)(FE:jT C.w.params)(G:rE C.w.params)(L:FW)
  (jE:C.sc=cy) (eR:C.d8=[C.env]) (UK:C.env.frame=some C.L) (ek:∀x,C.env.kindOf x=cy.lookup x) (ae:Rep C i loc hp s)
  (h1:oV d a0 l loc hp=.ok (.next,jc) ay) (h2:oW d jc ay=.ok (.bool true) aN):wpAny C.M C.A (execs uc C.env) (UJ C true) (λ_ _=>False) s:=by
 refine bC λnG=>?_;obtain⟨p1,p2,p3,p4,p5,p6,p7,p8,p9,Zo,q1,q2,q3,pr,e0⟩:=IS;refine nG ?_;rw[e0];unfold oV at h1;have Uy:wM d a0 l loc hp≠.bad:=λq=>by rw[q]at h1;cases h1
 have Dg:∀{i loc hp s},Rep C i loc hp s->∀e,LR e->SV C [] i loc s (IM d C.sc a0 l e loc hp) (eval e C.env):=λR e=>IP O F D A9 hlen (by rw[jE];exact L.list) R e
 have hx:SV C [] i loc s (lH (u0.zip (lN.map (IM d C.sc a0 l))) loc hp) (eval (.Dict uZ lN q2) C.env):=CR Dg ae uZ u0 lN q2 L.ks L.len (by
  intro q;have:=L.len;rw[q]at this;cases this) (by rw[<- L.len];decide) UR
 rw[jE]at hx;refine wpAny_execs_cons (wpAny_mono (tU O F D ae (.Dict uZ lN q2) hx q3 (x:="feed") (p:=q1) (m:=1) (by rw[jE];exact L.NK) (.inl rfl) (by rw[jE];exact L.feed) rfl Uy) (λf ah z=>?_) λe ah z=>?_)
 ·refine bC λnG=>?_;obtain⟨⟨fl,loc'⟩,hp',i',e,R',K',IQ⟩:=z;have e':wM d a0 l loc hp=.ok (fl,loc') hp':=e;rw[e']at h1;obtain rfl:=yf e';cases f with
  |next =>
   refine nG ?_;simp only[az]at h1;rw[<- jE]at h1;refine XN O F D ⟨[],eR⟩ uY R' h1 λaB aO ak=>?_;unfold oW at h2;have hbt:aR 10 (d.ex cy fI) jc ay≠.bad:=λq=>by rw[q]at h2;cases h2
   refine wpAny_execs_cons (wpAny_Try_except (wpAny_execs_cons (wpAny_mono (LV O F D L jE ak p8 p9 hbt) (λf eQ z=>?_) λe eQ z=>?_)))
   ·refine bC λnG=>?_;obtain⟨⟨fl,aaO⟩,bL,ck,e3,aV,gR,IQ⟩:=z;rw[e3]at h2;obtain rfl:=yf e3;cases f with
    |next =>
     refine nG ?_;refine wpAny_execs_nil (wpAny_execs_nil (wpAny_execs_cons (wpAny_Return_some ?_)));have qb:d.ex C.sc qK aaO bL=.ok (.bool true) aN:=by rw[jE];exact h2
     refine wpAny_mono (D.ex O F.base aV qK (by rw[qb];simp)) (λa fF z=>?_) λe fF z=>?_
     ·refine fj z λv lg KQ e4 cg LB hv=>?_;rw[qb]at e4;cases e4
      cases hv
      exact⟨rfl,cg.base,cg.gens,cg.os⟩
     ·refine aj z λk e4 _=>?_;rw[qb]at e4;cases e4
    |_=>exact IQ.elim
   ·refine dP z λk e3 fl kx=>?_;rw[e3]at h2;simp only at h2;split at h2
    ·rename_i q hq
     have hkq:(k==q)=true:=by
      injection h2 with h2 _;injection h2
     refine aj (ak.ns) λm hm kr=>?_;refine cb (kr 5 _ hq) λx kd y1 y2 y3=>?_
     have uU:x="due":=by
      have:(bV cy)[5]?=some x:=by rw[<- jE];exact y1
      rw[L.due]at this;exact(oi this).symm
     subst uU;rw[jE,L.LS]at y2;cases y2
     refine aj (y3 _ rfl) λa ya yv=>?_;cases yv with
     |int _ td =>
     have uL:C.hb.get? C.L=none:=O.nD _ (.head _)
     have nM:eQ.heap.Ns C.L m:=A0 hm λo eo hn=>by
      refine aQ (kx _ o eo hn (by simp) (ak.own _ (.head _)).1) λsl e'=>?_;exact⟨_,e',rfl,rfl,rfl⟩
     have:=LQ (k:=k) (due:=q) O eR FE G nM ya fl uL UK ((ek _).trans L.tf) ((ek _).trans L.IT) ((ek _).trans L.LS) (p1:=p1) (p2:=p2) (p3:=p3) (p4:=p4) (p5:=p5) (p6:=p6) (p7:=p7) (E:=λ_ _=>False);rw[hkq]at this;exact wpAny_mono this (λ_ fF z=>wpAny_mono z (λ_ dE z=>wpAny_mono z (λf s₆ z=>by obtain⟨rfl,z⟩:=z;exact⟨rfl,z⟩) λ_ _ z=>z) λ_ _ z=>z) λ_ _ z=>z
    ·cases h2
  |_=>exact IQ.elim
 ·refine aj z λk e _=>?_;have e':wM d a0 l loc hp=.gH k:=e;rw[e']at h1;cases h1
end
end
theorem IV {h:Heap}{vs:List Value}{zs:List Int}(x:IntsAre vs zs):Vals [] [] h (zs.map V.int) vs:=by
 induction x with
 |nil=>exact .nil
 |cons n t _ ih=>exact .cons (.int n t) ih
theorem PE (as bs:List WData):PySem.Challenge.rw_pq0375_01.row.claim.post as (.bool true) bs=true:=by kernel_rfl
theorem LX (LY:∀(zs:List Int) (a0:Addr),zs.length≤63->∃N jc ay aN,oV (gu (ag N 20) N deep) a0 (zs.map V.int) (nW a0) []=.ok (.next,jc) ay∧oW (gu (ag N 20) N deep) jc ay=.ok (.bool true) aN) :
  WalkO Q0 kR (λ_ _=>True) HK.says PySem.Challenge.rw_pq0375_01.row.toRowW M0.1 M0.2 λf vs=>PySem.call f vs:=by
 intro w m8 ah mg mb G Y fa o pm cd doc dV kV ho hd my hD hmg hg args vals as aaP aaQ hrd uM HT;have KX:=kIn_of Y;have T:=G.T
 have SA:fa=509:=by
  have:=mg_of KX (topRead_of T).g (show nsIn (K w.params) mainGlobals "law"=some (some (.ref 509))by kernel_rfl);have e:mg "law"=some (.ref fa):=hmg;rw[e]at this;cases this;rfl
 subst SA
 wrow_args aaP aaQ hrd uM HT
 rename_i zs _ _ _ _ _ _ _ a0 vals _ hL _ _ _ hI _ hlen _;refine enter_call ?_;obtain⟨N,jc,ay,aN,h1,h2⟩:=LY zs a0 (by omega);obtain⟨ol,hol,nP,nl,hdl⟩:=hL;refine IK (w:=w) (UM _) KX (topRead_of T) hg λenv oc aO O R eR ek=>?_;have A9:∀s:Shared,(∀b o,ah.heap.get? b=some o->s.heap.get? b=some o)->s.heap.IsList a0 vals.toArray∧Vals [] [] s.heap (zs.map V.int) vals.toArray.toList:=λs k=>⟨⟨ol,k _ _ hol,nP,nl,hdl⟩,by simpa using IV hI⟩;obtain⟨cF,cO,kO⟩:=x9 nU N 20;have D:=uQ (N:=N) nU.fa cO kO (AS nU.fa nU.ii) deep;refine codeAny_func (wpAny_mono (LW (C:=FV w ah.heap ah.os env oc) A9 (by simp;omega) O (nU.fa _).two D (nU.ii _).exc (LU _) IU rfl rfl eR ek R h1 h2) (λf s' z=>?_) λ_ _ z=>z.elim);obtain⟨rfl,hk,IW,HL⟩:=z;exact⟨.inl ⟨.bool true,.bool true,[],rfl,λ_=>rfl,.bool true,PE _ _,λ_=>⟨.nil,by simp⟩⟩,.of_keep hk,HL,.of_eq IW⟩
theorem Zp (LY:∀(zs:List Int) (a0:Addr),zs.length≤63->∃N jc ay aN,oV (gu (ag N 20) N deep) a0 (zs.map V.int) (nW a0) []=.ok (.next,jc) ay∧oW (gu (ag N 20) N deep) jc ay=.ok (.bool true) aN):PySem.Challenge.rw_pq0375_01.Holds :=
 yu (LX LY)
end
abbrev xS (s:String):Ex:=xC (.str (af s))
abbrev xF (c:Ca)(a:Addr)(l:List Ex):Ex:=aD c (xC (.fix (.ref a))) l
def US (c:Ca)(N:Nat):List Sx:=[(cH (aa 0) .vars (cm [])),
 (cH (aa 0) .bY (cm [])),
 (cH (aa 0) .goal (ao [(xS "satisfy"),(xC .none)])),
 (cH (aa 0) .shown (ao []))]
theorem PF (N k:Nat)(aG:V)(hp:HP):ag N (k+1) (.fix (.ref 119)) [aG] hp=bj (aF (US (ag N k) N)) [some aG] hp:=by kernel_rfl
def UT (c:Ca)(N:Nat):List Sx:=[(bo (ax c (aH (aa 0) .vars) .append [(ao [(aa 1),(aa 2)])])),
 (aW (bw .Sub (aD c (xC (bi "len")) [(aH (aa 0) .vars)]) (xC (.int 1))))]
theorem PG (N k:Nat)(aG IX mA:V)(hp:HP):ag N (k+1) (.fix (.ref 126)) [aG,IX,mA] hp=bj (aF (UT (ag N k) N)) [some aG,some IX,some mA] hp:=by kernel_rfl
def UU (c:Ca)(N:Nat):List Sx:=[(bo (ax c (aH (aa 0) .bY) .append [(aa 1)]))]
theorem PH (N k:Nat)(aG iG:V)(hp:HP):ag N (k+1) (.fix (.ref 133)) [aG,iG] hp=bj (aF (UU (ag N k) N)) [some aG,some iG] hp:=by kernel_rfl
def UW (c:Ca)(N:Nat):List Sx:=[(aW (aD c (xC (bi "len")) [(aH (aa 0) .vars)]))]
theorem PI (N k:Nat)(aG:V)(hp:HP):ag N (k+1) (.fix (.ref 140)) [aG] hp=bj (aF (UW (ag N k) N)) [some aG] hp:=by kernel_rfl
def UX (c:Ca)(N:Nat):List Sx:=[(aW (aq (aq (aH (aa 0) .vars) (aa 1)) (xC (.int 1))))]
theorem PJ (N k:Nat)(aG Zq:V)(hp:HP):ag N (k+1) (.fix (.ref 147)) [aG,Zq] hp=bj (aF (UX (ag N k) N)) [some aG,some Zq] hp:=by kernel_rfl
def UY (c:Ca)(N:Nat):List Sx:=[(aW (gj true [(aD c (xC (bi "isinstance")) [(aa 0),(xC (.fix (.type "int")))]),(xB (cV (tX (aD c (xC (bi "isinstance")) [(aa 0),(xC (.fix (.type "bool")))]))))]))]
theorem PK (N k:Nat)(gC:V)(hp:HP):ag N (k+1) (.fix (.ref 161)) [gC] hp=bj (aF (UY (ag N k) N)) [some gC] hp:=by kernel_rfl
def UZ (c:Ca)(N:Nat):List Sx:=[(aW (gj true [(aD c (xC (bi "isinstance")) [(aa 0),(xC (.fix (.type "tuple")))]),(aD c (xC (bi "all")) [(cp N (cw (aa 0)) [none,none] (.one 1) (aS true []) (xF c 161 [(aa 1)]))])]))]
theorem PL (N k:Nat)(gC:V)(hp:HP):ag N (k+1) (.fix (.ref 166)) [gC] hp=bj (aF (UZ (ag N k) N)) [some gC] hp:=by kernel_rfl
def U0 (c:Ca)(N:Nat):List Sx:=[(aW (gj true [(xF c 161 [(aa 0)]),(xB (ai (xC (.int 0)) [(.le,(aa 0)),(.lt,(aa 1))]))]))]
theorem PM (N k:Nat)(gC eV:V)(hp:HP):ag N (k+1) (.fix (.ref 173)) [gC,eV] hp=bj (aF (U0 (ag N k) N)) [some gC,some eV] hp:=by kernel_rfl
def wN (c:Ca)(N:Nat):List Sx:=[(bc (ai (aa 0) [(.eq,(xS "x"))]) [(aW (xF c 173 [(aa 1),(aa 2)]))] []),
 (bc (ai (aa 0) [(.eq,(xS "X"))]) [(aW (gj true [(aD c (xC (bi "isinstance")) [(aa 1),(xC (.fix (.type "tuple")))]),(aD c (xC (bi "all")) [(cp N (cw (aa 1)) [none,none,some 2] (.one 1) (aS true []) (xF c 173 [(aa 1),(aa 2)]))])]))] []),
 (bc (ai (aa 0) [(.eq,(xS "n"))]) [(aW (xF c 161 [(aa 1)]))] []),
 (bc (ai (aa 0) [(.eq,(xS "N"))]) [(aW (xF c 166 [(aa 1)]))] []),
 (bc (ai (aa 0) [(.eq,(xS "R"))]) [(aW (gj true [(aD c (xC (bi "isinstance")) [(aa 1),(xC (.fix (.type "tuple")))]),(aD c (xC (bi "all")) [(cp N (cw (aa 1)) [none,none] (.one 1) (aS true []) (xF c 166 [(aa 1)]))])]))] []),
 (bc (ai (aa 0) [(.eq,(xS "s"))]) [(aW (gj true [(aD c (xC (bi "isinstance")) [(aa 1),(xC (.fix (.type "str")))]),(xB (ai (aa 1) [(.jK,(xC (.tup [(.str (af "bounds")),(.str (af "values"))])))]))]))] []),
 (aW (gj true [(aD c (xC (bi "isinstance")) [(aa 1),(xC (.fix (.type "tuple")))]),(xB (ai (aD c (xC (bi "len")) [(aa 1)]) [(.gt,(xC (.int 0)))])),(xB (ai (aq (aa 1) (xC (.int 0))) [(.jK,(xC (.tup [(.str (af "linear_le")),(.str (af "linear_eq")),(.str (af "linear_ne"))])))])),(xB (ai (xF c 188 [(aa 1),(aa 2)]) [(.eq,(xS ""))]))]))]
theorem nX (N k:Nat)(IY gC eV:V)(hp:HP):ag N (k+1) (.fix (.ref 178)) [IY,gC,eV] hp=bj (aF (wN (ag N k) N)) [some IY,some gC,some eV] hp:=by kernel_rfl
def U1 (c:Ca)(N:Nat):List Sx:=[(bc (aS false [(cV (tX (aD c (xC (bi "isinstance")) [(aa 0),(xC (.fix (.type "tuple")))]))),(ai (aD c (xC (bi "len")) [(aa 0)]) [(.eq,(xC (.int 0)))]),(cV (tX (aD c (xC (bi "isinstance")) [(aq (aa 0) (xC (.int 0))),(xC (.fix (.type "str")))]))),(ai (aq (aa 0) (xC (.int 0))) [(.gh,(xC (.fix (.ref 87))))])]) [(aW (xS "no constraint is told so"))] []),
 (eH [2,3] (ao [(aq (aa 0) (xC (.int 0))),(aq (xC (.fix (.ref 87))) (aq (aa 0) (xC (.int 0))))])),
 (bc (ai (aD c (xC (bi "len")) [(aa 0)]) [(.ne,(bw .Add (aD c (xC (bi "len")) [(aa 3)]) (xC (.int 1))))]) [(aW (eO [(c5 (aa 2)),(xS " has "),(c5 (aD c (xC (bi "len")) [(aa 3)])),(xS " arguments, not "),(c5 (bw .Sub (aD c (xC (bi "len")) [(aa 0)]) (xC (.int 1))))]))] []),
 (hZ N (.many [4,5]) (rm (aa 3)) [(bc (cV (tX (xF c 178 [(aa 5),(aq (aa 0) (bw .Add (aa 4) (xC (.int 1)))),(aa 1)]))) [(aW (eO [(c5 (aa 2)),(xS ": argument "),(c5 (bw .Add (aa 4) (xC (.int 1)))),(xS " is of another kind")]))] [])]),
 (hZ N (.many [6,7]) (cw (ax c (xC (.fix (.ref 89))) .get [(aa 2),(ao [])])) [(bc (ai (aD c (xC (bi "len")) [(aq (aa 0) (aa 6))]) [(.ne,(aD c (xC (bi "len")) [(aq (aa 0) (aa 7))]))]) [(aW (eO [(c5 (aa 2)),(xS ": arguments "),(c5 (aa 6)),(xS " and "),(c5 (aa 7)),(xS " are of unlike lengths")]))] [])]),
 (bc (aS true [(ai (aa 2) [(.eq,(xS "cumulative"))]),(ai (aD c (xC (bi "min")) [(bw .Add (bw .Add (aq (aa 0) (xC (.int 2))) (aq (aa 0) (xC (.int 3)))) (cU (aa 0) (xC (.int 4)) (xC .none)))]) [(.lt,(xC (.int 0)))])]) [(aW (xS "cumulative: no task lasts, or needs, less than 0, and no limit is less"))] []),
 (bc (aS true [(ai (aa 2) [(.eq,(xS "disjunctive"))]),(ai (aD c (xC (bi "min")) [(bw .Add (aq (aa 0) (xC (.int 2))) (ao [(xC (.int 0))]))]) [(.lt,(xC (.int 0)))])]) [(aW (xS "disjunctive: no task lasts less than 0"))] []),
 (bc (aS true [(ai (aa 2) [(.jK,(ao [(xS "max"),(xS "min")]))]),(ai (aD c (xC (bi "len")) [(aq (aa 0) (xC (.int 1)))]) [(.eq,(xC (.int 0)))])]) [(aW (eO [(c5 (aa 2)),(xS ": there is one variable at least")]))] []),
 (bc (aS true [(ai (aa 2) [(.eq,(xS "table"))]),(cV (tX (aD c (xC (bi "all")) [(cp N (cw (aq (aa 0) (xC (.int 2)))) [none,none,some 0] (.one 1) (aS true []) (xB (ai (aD c (xC (bi "len")) [(aa 1)]) [(.eq,(aD c (xC (bi "len")) [(aq (aa 2) (xC (.int 1)))]))])))])))]) [(aW (xS "table: a row has a number for each variable"))] []),
 (aW (ig (ai (aa 2) [(.eq,(xS "regular"))]) (aD c tF [(aa 0)]) (xS "")))]
theorem PO (N k:Nat)(iG eV:V)(hp:HP):ag N (k+1) (.fix (.ref 188)) [iG,eV] hp=bj (aF (U1 (ag N k) N)) [some iG,some eV,none,none,none,none,none,none] hp:=by kernel_rfl
def FX (c:Ca)(N:Nat):List Sx:=[(aR 1 (aq (aa 0) (xC (.int 0)))),
 (bc (ai (aa 1) [(.eq,(xS "clause"))]) [(aW (bw .Add (aq (aa 0) (xC (.int 1))) (aq (aa 0) (xC (.int 2)))))] []),
 (bc (ai (aa 1) [(.jK,(ao [(xS "and"),(xS "or")]))]) [(aW (bw .Add (aq (aa 0) (xC (.int 1))) (ao [(aq (aa 0) (xC (.int 2)))])))] []),
 (bc (ai (aa 1) [(.eq,(xS "xor"))]) [(aW (cU (aa 0) (xC (.int 1)) (xC .none)))] []),
 (aW (ig (ai (aa 1) [(.jK,(ao [(xS "reif"),(xS "imp")]))]) (ao [(aq (aa 0) (xC (.int 1)))]) (ao [])))]
theorem wO (N k:Nat)(iG:V)(hp:HP):ag N (k+1) (.fix (.ref 195)) [iG] hp=bj (aF (FX (ag N k) N)) [some iG,none] hp:=by kernel_rfl
def U2 (c:Ca)(N:Nat):List Sx:=[(aW (aD c (xC (bi "all")) [(cp N (cw (aa 0)) [none,none,none] (.many [1,2]) (aS true []) (gj true [(xB (ai (aa 1) [(.ge,(xC (.int 0)))])),(xB (ai (aa 2) [(.le,(xC (.int 1)))]))]))]))]
theorem PQ (N k:Nat)(mA:V)(hp:HP):ag N (k+1) (.fix (.ref 200)) [mA] hp=bj (aF (U2 (ag N k) N)) [some mA] hp:=by kernel_rfl
def oX (c:Ca)(N:Nat):List Sx:=[(bc (aS false [(cV (tX (aD c (xC (bi "isinstance")) [(aa 0),(xC (.fix (.type "tuple")))]))),(ai (aD c (xC (bi "len")) [(aa 0)]) [(.lt,(xC (.int 2)))])]) [(aW (xS "a piece has a kind and what is shown"))] []),
 (bc (aS true [(ai (aq (aa 0) (xC (.int 0))) [(.eq,(xS "text"))]),(ai (aD c (xC (bi "len")) [(aa 0)]) [(.eq,(xC (.int 2)))]),(tX (aD c (xC (bi "isinstance")) [(aq (aa 0) (xC (.int 1))),(xC (.fix (.type "str")))]))]) [(aW (xS ""))] []),
 (bc (aS true [(ai (aq (aa 0) (xC (.int 0))) [(.jK,(ao [(xS "int"),(xS "bool")]))]),(ai (aD c (xC (bi "len")) [(aa 0)]) [(.eq,(xC (.int 2)))]),(tX (xF c 173 [(aq (aa 0) (xC (.int 1))),(aa 1)]))]) [(aW (xS ""))] []),
 (bc (aS true [(ai (aq (aa 0) (xC (.int 0))) [(.eq,(xS "list"))]),(ai (aD c (xC (bi "len")) [(aa 0)]) [(.eq,(xC (.int 2)))])]) [(bo (ax c (aa 2) .append [(aq (aa 0) (xC (.int 1)))])),
 (aW (xS ""))] []),
 (bc (aS true [(ai (aq (aa 0) (xC (.int 0))) [(.eq,(xS "if"))]),(ai (aD c (xC (bi "len")) [(aa 0)]) [(.eq,(xC (.int 4)))]),(tX (xF c 173 [(aq (aa 0) (xC (.int 1))),(aa 1)]))]) [(bo (ax c (aa 2) .extend [(cU (aa 0) (xC (.int 2)) (xC .none))])),
 (aW (xS ""))] []),
 (aW (xS "no piece is told so"))]
theorem rF (N k:Nat)(nY eV yg:V)(hp:HP):ag N (k+1) (.fix (.ref 207)) [nY,eV,yg] hp=bj (aF (oX (ag N k) N)) [some nY,some eV,some yg] hp:=by kernel_rfl
def U3 (c:Ca)(N:Nat):List Sx:=[(aR 2 (cm [(aa 0)])),
 (fB N (ai (aD c (xC (bi "len")) [(aa 2)]) [(.gt,(xC (.int 0)))]) [(aR 3 (ax c (aa 2) .pop [])),
 (bc (cV (tX (aD c (xC (bi "isinstance")) [(aa 3),(xC (.fix (.type "tuple")))]))) [(aW (xS "pieces stand in a list"))] []),
 (hZ N (.one 4) (cw (aa 3)) [(aR 5 (xF c 207 [(aa 4),(aa 1),(aa 2)])),
 (bc (ai (aa 5) [(.ne,(xS ""))]) [(aW (aa 5))] [])])]),
 (aW (xS ""))]
theorem PR (N k:Nat)(Dm eV:V)(hp:HP):ag N (k+1) (.fix (.ref 214)) [Dm,eV] hp=bj (aF (U3 (ag N k) N)) [some Dm,some eV,none,none,none,none] hp:=by kernel_rfl
def U4 (c:Ca)(N:Nat):List Sx:=[(cH (aa 0) .text (aa 1)),
 (cH (aa 0) .bG (xC (.int 0)))]
theorem PT (N k:Nat)(aG v_text:V)(hp:HP):ag N (k+1) (.fix (.ref 228)) [aG,v_text] hp=bj (aF (U4 (ag N k) N)) [some aG,some v_text] hp:=by kernel_rfl
def U5 (c:Ca)(N:Nat):List Sx:=[(aW (cU (aH (aa 0) .text) (aH (aa 0) .bG) (bw .Add (aH (aa 0) .bG) (xC (.int 1)))))]
theorem PU (N k:Nat)(aG:V)(hp:HP):ag N (k+1) (.fix (.ref 235)) [aG] hp=bj (aF (U5 (ag N k) N)) [some aG] hp:=by kernel_rfl
def U6 (c:Ca)(N:Nat):List Sx:=[(bo (ax c (aa 0) .jJ [(xS " \t\x0d\n")])),
 (fB N (ai (ax c (aa 0) .sign []) [(.eq,(xS "%"))]) [(aR 1 (ax c (aH (aa 0) .text) .find [(xS "\n"),(aH (aa 0) .bG)])),
 (cH (aa 0) .bG (ig (ai (aa 1) [(.ge,(xC (.int 0)))]) (aa 1) (aD c (xC (bi "len")) [(aH (aa 0) .text)]))),
 (bo (ax c (aa 0) .jJ [(xS " \t\x0d\n")]))])]
theorem PV (N k:Nat)(aG:V)(hp:HP):ag N (k+1) (.fix (.ref 242)) [aG] hp=bj (aF (U6 (ag N k) N)) [some aG,none] hp:=by kernel_rfl
def U7 (c:Ca)(N:Nat):List Sx:=[(eH [2,3] (ao [(aH (aa 0) .bG),(aH (aa 0) .bG)])),
 (fB N (aS true [(ai (aa 3) [(.lt,(aD c (xC (bi "len")) [(aH (aa 0) .text)]))]),(ai (aq (aH (aa 0) .text) (aa 3)) [(.jK,(aa 1))])]) [(aR 3 (bw .Add (aa 3) (xC (.int 1))))]),
 (cH (aa 0) .bG (aa 3)),
 (aW (cU (aH (aa 0) .text) (aa 2) (aa 3)))]
theorem PW (N k:Nat)(aG Dp:V)(hp:HP):ag N (k+1) (.fix (.ref 249)) [aG,Dp] hp=bj (aF (U7 (ag N k) N)) [some aG,some Dp,none,none] hp:=by kernel_rfl
def U8 (c:Ca)(N:Nat):List Sx:=[(eH [1,2] (ao [(aH (aa 0) .bG),(cm [])])),
 (cH (aa 0) .bG (bw .Add (aH (aa 0) .bG) (xC (.int 1)))),
 (fB N (ai (ax c (aa 0) .sign []) [(.gh,(ao [(xS ""),(xS "\n"),(xS "\"")]))]) [(aR 3 (ax c (aa 0) .sign [])),
 (bc (ai (aa 3) [(.eq,(xS "\\"))]) [(cH (aa 0) .bG (bw .Add (aH (aa 0) .bG) (xC (.int 1)))),
 (bc (ai (ax c (aa 0) .sign []) [(.gh,(ao [(xS "n"),(xS "\""),(xS "\\")]))]) [(c7 (xS "a backslash stands ahead of n, a quote or a backslash") (bw .Sub (aH (aa 0) .bG) (xC (.int 1))))] []),
 (aR 3 (ig (ai (ax c (aa 0) .sign []) [(.eq,(xS "n"))]) (xS "\n") (ax c (aa 0) .sign [])))] []),
 (bo (ax c (aa 2) .append [(aa 3)])),
 (cH (aa 0) .bG (bw .Add (aH (aa 0) .bG) (xC (.int 1))))]),
 (bc (ai (ax c (aa 0) .sign []) [(.ne,(xS "\""))]) [(c7 (xS "a text is not closed") (aa 1))] []),
 (cH (aa 0) .bG (bw .Add (aH (aa 0) .bG) (xC (.int 1)))),
 (aW (ax c (xS "") .join [(aa 2)]))]
theorem PY (N k:Nat)(aG:V)(hp:HP):ag N (k+1) (.fix (.ref 256)) [aG] hp=bj (aF (U8 (ag N k) N)) [some aG,none,none,none] hp:=by kernel_rfl
def LZ (c:Ca)(N:Nat):List Sx:=[(eH [1,2] (ao [(aH (aa 0) .bG),(xB (ai (ax c (aa 0) .sign []) [(.eq,(xS "-"))]))])),
 (bc (tX (aa 2)) [(cH (aa 0) .bG (bw .Add (aH (aa 0) .bG) (xC (.int 1))))] []),
 (aR 3 (ax c (aa 0) .jJ [(xS "0123456789")])),
 (bc (aS false [(ai (aa 3) [(.eq,(xS ""))]),(ai (aD c (xC (bi "len")) [(aa 3)]) [(.gt,(xC (.int 1000)))])]) [(c7 (eO [(xS "a number has from one to "),(c5 (xC (.int 1000))),(xS " digits")]) (aa 1))] []),
 (aW (ig (tX (aa 2)) (gN (aD c (xC (.fix (.type "int"))) [(aa 3)])) (aD c (xC (.fix (.type "int"))) [(aa 3)])))]
theorem Dr (N k:Nat)(aG:V)(hp:HP):ag N (k+1) (.fix (.ref 263)) [aG] hp=bj (aF (LZ (ag N k) N)) [some aG,none,none,none] hp:=by kernel_rfl
def U9 (c:Ca)(N:Nat):List Sx:=[(bo (ax c (aa 0) .skip [])),
 (eH [1,2] (ao [(aH (aa 0) .bG),(ax c (aa 0) .sign [])])),
 (bc (ai (aa 2) [(.eq,(xS ""))]) [(aW (ao [(xS "end"),(xS ""),(aa 1)]))] []),
 (bc (ai (aa 2) [(.eq,(xS "\""))]) [(aW (ao [(xS "text"),(ax c (aa 0) .kS []),(aa 1)]))] []),
 (bc (aS false [(ai (aa 2) [(.eq,(xS "-"))]),(ai (aa 2) [(.jK,(xS "0123456789"))])]) [(aW (ao [(xS "number"),(ax c (aa 0) .number []),(aa 1)]))] []),
 (bc (ai (aa 2) [(.jK,(xS "abcdefghijklmnopqrstuvwxyzABCDEFGHIJKLMNOPQRSTUVWXYZ_"))]) [(aW (ao [(xS "word"),(ax c (aa 0) .jJ [(bw .Add (xS "abcdefghijklmnopqrstuvwxyzABCDEFGHIJKLMNOPQRSTUVWXYZ_") (xS "0123456789"))]),(aa 1)]))] []),
 (bc (ai (cU (aH (aa 0) .text) (aa 1) (bw .Add (aa 1) (xC (.int 2)))) [(.eq,(xS ".."))]) [(cH (aa 0) .bG (bw .Add (aa 1) (xC (.int 2)))),
 (aW (ao [(xS "sign"),(xS ".."),(aa 1)]))] []),
 (bc (ai (aa 2) [(.gh,(xS "()[]{},;:"))]) [(c7 (eO [(xS "a sign stands for nothing: "),(c5 (aa 2))]) (aa 1))] []),
 (cH (aa 0) .bG (bw .Add (aa 1) (xC (.int 1)))),
 (aW (ao [(xS "sign"),(aa 2),(aa 1)]))]
theorem PZ (N k:Nat)(aG:V)(hp:HP):ag N (k+1) (.fix (.ref 270)) [aG] hp=bj (aF (U9 (ag N k) N)) [some aG,none,none] hp:=by kernel_rfl
def Va (c:Ca)(N:Nat):List Sx:=[(cH (aa 0) .bM (xF c 273 [(aa 1)])),
 (cH (aa 0) .ahead (ax c (aH (aa 0) .bM) .token []))]
theorem P0 (N k:Nat)(aG v_text:V)(hp:HP):ag N (k+1) (.fix (.ref 291)) [aG,v_text] hp=bj (aF (Va (ag N k) N)) [some aG,some v_text] hp:=by kernel_rfl
def Vb (c:Ca)(N:Nat):List Sx:=[(aR 1 (aH (aa 0) .ahead)),
 (cH (aa 0) .ahead (ax c (aH (aa 0) .bM) .token [])),
 (aW (aa 1))]
theorem Qa (N k:Nat)(aG:V)(hp:HP):ag N (k+1) (.fix (.ref 298)) [aG] hp=bj (aF (Vb (ag N k) N)) [some aG,none] hp:=by kernel_rfl
def wQ (c:Ca)(N:Nat):List Sx:=[(aW (xB (ai (cU (aH (aa 0) .ahead) (xC .none) (xC (.int 2))) [(.eq,(ao [(xS "sign"),(aa 1)]))])))]
theorem Qb (N k:Nat)(aG qL:V)(hp:HP):ag N (k+1) (.fix (.ref 305)) [aG,qL] hp=bj (aF (wQ (ag N k) N)) [some aG,some qL] hp:=by kernel_rfl
def L7 (c:Ca)(N:Nat):List Sx:=[(bc (cV (tX (ax c (aa 0) .cM [(aa 1)]))) [(c7 (eO [(c5 (aa 1)),(xS " is wanted")]) (aq (aH (aa 0) .ahead) (xC (.int 2))))] []),
 (bo (ax c (aa 0) .take []))]
theorem Ds (N k:Nat)(aG qL:V)(hp:HP):ag N (k+1) (.fix (.ref 312)) [aG,qL] hp=bj (aF (L7 (ag N k) N)) [some aG,some qL] hp:=by kernel_rfl
def L8 (c:Ca)(N:Nat):List Sx:=[(bc (ai (aq (aH (aa 0) .ahead) (xC (.int 0))) [(.ne,(xS "number"))]) [(c7 (xS "a whole number is wanted") (aq (aH (aa 0) .ahead) (xC (.int 2))))] []),
 (aW (aq (ax c (aa 0) .take []) (xC (.int 1))))]
theorem Dt (N k:Nat)(aG:V)(hp:HP):ag N (k+1) (.fix (.ref 319)) [aG] hp=bj (aF (L8 (ag N k) N)) [some aG] hp:=by kernel_rfl
def Bb (c:Ca)(N:Nat):List Sx:=[(bc (aS false [(ai (aq (aa 1) (xC (.int 0))) [(.eq,(xS "number"))]),(ai (aq (aa 1) (xC (.int 0))) [(.eq,(xS "text"))])]) [(aW (aq (aa 1) (xC (.int 1))))] []),
 (bc (aS true [(ai (aq (aa 1) (xC (.int 0))) [(.eq,(xS "word"))]),(ai (aq (aa 1) (xC (.int 1))) [(.jK,(ao [(xS "none"),(xS "true"),(xS "false")]))])]) [(aW (ig (ai (aq (aa 1) (xC (.int 1))) [(.eq,(xS "none"))]) (xC .none) (xB (ai (aq (aa 1) (xC (.int 1))) [(.eq,(xS "true"))]))))] []),
 (c7 (xS "a number, a text, a list or a call is wanted") (aq (aa 1) (xC (.int 2))))]
theorem rG (N k:Nat)(aG Du:V)(hp:HP):ag N (k+1) (.fix (.ref 326)) [aG,Du] hp=bj (aF (Bb (ag N k) N)) [some aG,some Du] hp:=by kernel_rfl
def Vc (c:Ca)(N:Nat):List Sx:=[(aR 2 (ax c (aa 0) .take [])),
 (bc (aS true [(ai (aq (aa 2) (xC (.int 0))) [(.eq,(xS "word"))]),(tX (ax c (aa 0) .cM [(xS "(")]))]) [(bo (ax c (aa 0) .take [])),
 (bo (ax c (aa 1) .append [(ao [(cm [(aq (aa 2) (xC (.int 1)))]),(xS ")")])]))] [(bc (ai (cU (aa 2) (xC .none) (xC (.int 2))) [(.eq,(ao [(xS "sign"),(xS "[")]))]) [(bo (ax c (aa 1) .append [(ao [(cm []),(xS "]")])]))] [(aW (ao [(xC (.bool true)),(ax c (aa 0) .fk [(aa 2)])]))])]),
 (bc (tX (ax c (aa 0) .cM [(aq (aq (aa 1) (gN (xC (.int 1)))) (xC (.int 1)))])) [(aW (ax c (aa 0) .closed [(aa 1)]))] []),
 (aW (ao [(xC (.bool false)),(xC .none)]))]
theorem Qc (N k:Nat)(aG nZ:V)(hp:HP):ag N (k+1) (.fix (.ref 333)) [aG,nZ] hp=bj (aF (Vc (ag N k) N)) [some aG,some nZ,none] hp:=by kernel_rfl
def L9 (c:Ca)(N:Nat):List Sx:=[(bc (tX (ax c (aa 0) .cM [(xS ",")])) [(bo (ax c (aa 0) .take [])),
 (aW (ao [(xC (.bool false)),(xC .none)]))] []),
 (eH [2,3] (aq (aa 1) (gN (xC (.int 1))))),
 (bo (ax c (aa 0) .want [(aa 3)])),
 (bo (ax c (aa 1) .pop [])),
 (aW (ao [(xC (.bool true)),(aD c (xC (.fix (.type "tuple"))) [(aa 2)])]))]
theorem Qd (N k:Nat)(aG nZ:V)(hp:HP):ag N (k+1) (.fix (.ref 340)) [aG,nZ] hp=bj (aF (L9 (ag N k) N)) [some aG,some nZ,none,none] hp:=by kernel_rfl
def Vd (c:Ca)(N:Nat):List Sx:=[(aR 1 (cm [])),
 (fB N (tX (xC (.bool true))) [(eH [2,3] (ax c (aa 0) .opened [(aa 1)])),
 (fB N (tX (aa 2)) [(bc (ai (aD c (xC (bi "len")) [(aa 1)]) [(.eq,(xC (.int 0)))]) [(aW (aa 3))] []),
 (bo (ax c (aq (aq (aa 1) (gN (xC (.int 1)))) (xC (.int 0))) .append [(aa 3)])),
 (eH [2,3] (ax c (aa 0) .closed [(aa 1)]))])])]
theorem Qe (N k:Nat)(aG:V)(hp:HP):ag N (k+1) (.fix (.ref 347)) [aG] hp=bj (aF (Vd (ag N k) N)) [some aG,none,none,none] hp:=by kernel_rfl
def Ve (c:Ca)(N:Nat):List Sx:=[(bo (jg c [(aa 1)])),
 (cH (aa 0) .flat (xF c 150 [])),
 (cH (aa 0) .eM (cm [])),
 (cH (aa 0) .b9 (gN (xC (.int 1)))),
 (cH (aa 0) .bZ (gN (xC (.int 1))))]
theorem Qf (N k:Nat)(aG v_text:V)(hp:HP):ag N (k+1) (.fix (.ref 370)) [aG,v_text] hp=bj (aF (Ve (ag N k) N)) [some aG,some v_text,none] hp:=by kernel_rfl
def Vf (c:Ca)(N:Nat):List Sx:=[(eH [2,3] (ao [(aq (aH (aa 0) .ahead) (xC (.int 2))),(ax c (aa 0) .number [])])),
 (bo (ax c (aa 0) .want [(xS "..")])),
 (aR 4 (ax c (aa 0) .number [])),
 (bc (aS false [(ai (aa 3) [(.gt,(aa 4))]),(aS true [(ai (aa 1) [(.gO,(xC .none))]),(ai (aa 3) [(.le,(bw .Add (aa 1) (xC (.int 1))))])])]) [(c7 (xS "ranges ascend, and do not touch") (aa 2))] []),
 (aW (ao [(aa 3),(aa 4)]))]
theorem Qg (N k:Nat)(aG IZ:V)(hp:HP):ag N (k+1) (.fix (.ref 377)) [aG,IZ] hp=bj (aF (Vf (ag N k) N)) [some aG,some IZ,none,none,none] hp:=by kernel_rfl
def Ma (c:Ca)(N:Nat):List Sx:=[(bc (cV (tX (ax c (aa 0) .cM [(xS "{")]))) [(aW (ao [(ax c (aa 0) .iP [(xC .none)])]))] []),
 (bo (ax c (aa 0) .take [])),
 (aR 1 (cm [])),
 (fB N (cV (tX (ax c (aa 0) .cM [(xS "}")]))) [(bc (ai (aD c (xC (bi "len")) [(aa 1)]) [(.gt,(xC (.int 0)))]) [(bo (ax c (aa 0) .want [(xS ",")]))] []),
 (bo (ax c (aa 1) .append [(ax c (aa 0) .iP [(ig (ai (aD c (xC (bi "len")) [(aa 1)]) [(.gt,(xC (.int 0)))]) (aq (aq (aa 1) (gN (xC (.int 1)))) (xC (.int 1))) (xC .none))])]))]),
 (bo (ax c (aa 0) .take [])),
 (aW (aD c (xC (.fix (.type "tuple"))) [(aa 1)]))]
theorem Qh (N k:Nat)(aG:V)(hp:HP):ag N (k+1) (.fix (.ref 384)) [aG] hp=bj (aF (Ma (ag N k) N)) [some aG,none] hp:=by kernel_rfl
def Vg (c:Ca)(N:Nat):List Sx:=[(aR 1 (ax c (aa 0) .domain [])),
 (bo (ax c (aa 0) .want [(xS ":")])),
 (bc (ai (aq (aH (aa 0) .ahead) (xC (.int 0))) [(.gh,(ao [(xS "word"),(xS "text")]))]) [(c7 (xS "a name is wanted") (aq (aH (aa 0) .ahead) (xC (.int 2))))] []),
 (bo (ax c (aH (aa 0) .flat) .ke [(aq (ax c (aa 0) .take []) (xC (.int 1))),(aa 1)]))]
theorem Qi (N k:Nat)(aG:V)(hp:HP):ag N (k+1) (.fix (.ref 391)) [aG] hp=bj (aF (Vg (ag N k) N)) [some aG,none] hp:=by kernel_rfl
def Vh (c:Ca)(N:Nat):List Sx:=[(bo (ax c (aH (aa 0) .eM) .append [(aq (aH (aa 0) .ahead) (xC (.int 2)))])),
 (bo (ax c (aH (aa 0) .flat) .post [(ax c (aa 0) .data [])]))]
theorem Qj (N k:Nat)(aG:V)(hp:HP):ag N (k+1) (.fix (.ref 398)) [aG] hp=bj (aF (Vh (ag N k) N)) [some aG] hp:=by kernel_rfl
def Mb (c:Ca)(N:Nat):List Sx:=[(bc (ai (aH (aa 0) .b9) [(.ge,(xC (.int 0)))]) [(c7 (xS "a model has one goal") (aa 1))] []),
 (cH (aa 0) .b9 (aq (aH (aa 0) .ahead) (xC (.int 2)))),
 (aR 2 (ax c (aa 0) .take [])),
 (bc (aS false [(ai (aq (aa 2) (xC (.int 0))) [(.ne,(xS "word"))]),(ai (aq (aa 2) (xC (.int 1))) [(.gh,(xC (.tup [(.str (af "satisfy")),(.str (af "minimize")),(.str (af "maximize"))])))])]) [(c7 (xS "satisfy, minimize or maximize is wanted") (aq (aa 2) (xC (.int 2))))] []),
 (cH (aH (aa 0) .flat) .goal (ao [(aq (aa 2) (xC (.int 1))),(ig (ai (aq (aa 2) (xC (.int 1))) [(.eq,(xS "satisfy"))]) (xC .none) (ax c (aa 0) .number []))]))]
theorem Qk (N k:Nat)(aG iH:V)(hp:HP):ag N (k+1) (.fix (.ref 405)) [aG,iH] hp=bj (aF (Mb (ag N k) N)) [some aG,some iH,none] hp:=by kernel_rfl
def Mc (c:Ca)(N:Nat):List Sx:=[(bc (ai (aH (aa 0) .bZ) [(.ge,(xC (.int 0)))]) [(c7 (xS "a model is shown in one way") (aa 1))] []),
 (cH (aa 0) .bZ (aq (aH (aa 0) .ahead) (xC (.int 2)))),
 (cH (aH (aa 0) .flat) .shown (ax c (aa 0) .data []))]
theorem Ql (N k:Nat)(aG iH:V)(hp:HP):ag N (k+1) (.fix (.ref 412)) [aG,iH] hp=bj (aF (Mc (ag N k) N)) [some aG,some iH] hp:=by kernel_rfl
def Vi (c:Ca)(N:Nat):List Sx:=[(aR 1 (ax c (aa 0) .take [])),
 (bc (ai (cU (aa 1) (xC .none) (xC (.int 2))) [(.eq,(ao [(xS "word"),(xS "var")]))]) [(bo (ax c (aa 0) .jz []))] [(bc (ai (cU (aa 1) (xC .none) (xC (.int 2))) [(.eq,(ao [(xS "word"),(xS "constraint")]))]) [(bo (ax c (aa 0) .constraint []))] [(bc (ai (cU (aa 1) (xC .none) (xC (.int 2))) [(.eq,(ao [(xS "word"),(xS "solve")]))]) [(bo (ax c (aa 0) .goal [(aq (aa 1) (xC (.int 2)))]))] [(bc (ai (cU (aa 1) (xC .none) (xC (.int 2))) [(.eq,(ao [(xS "word"),(xS "output")]))]) [(bo (ax c (aa 0) .output [(aq (aa 1) (xC (.int 2)))]))] [(c7 (xS "var, constraint, solve or output is wanted") (aq (aa 1) (xC (.int 2))))])])])]),
 (bo (ax c (aa 0) .want [(xS ";")]))]
theorem Qm (N k:Nat)(aG:V)(hp:HP):ag N (k+1) (.fix (.ref 419)) [aG] hp=bj (aF (Vi (ag N k) N)) [some aG,none] hp:=by kernel_rfl
def Vj (c:Ca)(N:Nat):List Sx:=[(bc (ai (aa 1) [(.ne,(xS ""))]) [(c7 (aa 1) (aa 2))] [])]
theorem Qn (N k:Nat)(aG Dv iH:V)(hp:HP):ag N (k+1) (.fix (.ref 426)) [aG,Dv,iH] hp=bj (aF (Vj (ag N k) N)) [some aG,some Dv,some iH] hp:=by kernel_rfl
def Vk (c:Ca)(N:Nat):List Sx:=[(fB N (ai (aq (aH (aa 0) .ahead) (xC (.int 0))) [(.ne,(xS "end"))]) [(bo (ax c (aa 0) .item []))]),
 (aR 1 (ax c (aH (aa 0) .flat) .size [])),
 (hZ N (.many [2,3]) (wj (aH (aH (aa 0) .flat) .bY) (aH (aa 0) .eM)) [(bo (ax c (aa 0) .look [(xF c 188 [(aa 2),(aa 1)]),(aa 3)])),
 (bc (cV (tX (aD c (xC (bi "all")) [(cp N (cw (xF c 195 [(aa 2)])) [none,none,some 0] (.one 1) (aS true []) (xF c 200 [(ax c (aH (aa 2) .flat) .d7 [(aa 1)])]))]))) [(c7 (eO [(c5 (aq (aa 2) (xC (.int 0)))),(xS ": a truth has the values 0 and 1 alone")]) (aa 3))] [])]),
 (aR 4 (aq (aH (aH (aa 0) .flat) .goal) (xC (.int 1)))),
 (bo (ax c (aa 0) .look [(ig (aS false [(ai (aa 4) [(.sX,(xC .none))]),(tX (xF c 173 [(aa 4),(aa 1)]))]) (xS "") (xS "the goal is no variable")),(aH (aa 0) .b9)])),
 (bo (ax c (aa 0) .look [(xF c 214 [(aH (aH (aa 0) .flat) .shown),(aa 1)]),(aH (aa 0) .bZ)])),
 (aW (aH (aa 0) .flat))]
theorem Qo (N k:Nat)(aG:V)(hp:HP):ag N (k+1) (.fix (.ref 431)) [aG] hp=bj (aF (Vk (ag N k) N)) [some aG,none,none,none,none] hp:=by kernel_rfl
def Md (c:Ca)(N:Nat):List Sx:=[(eH [2,3] (ao [(bO (aa 0) .cells),(bO (aa 0) .place)])),
 (iQ (aa 0) .place (bw .Add (aa 3) (xC (.int 1)))),
 (bc (ai (aa 3) [(.lt,(aD c (xC (bi "len")) [(aa 2)]))]) [(aW (bw .Mod (aq (aa 2) (aa 3)) (aa 1)))] []),
 (aW (bw .Mod (bw .Mod (bw .Add (bw .Add (bw .Add (bw .Mult (bw .Mult (xC (.int 5)) (aa 3)) (aa 3)) (bw .Mult (xC (.int 11)) (aa 3))) (bw .Mult (xC (.int 3)) (aD c (xC (bi "len")) [(aa 2)]))) (xC (.int 4))) (xC (.int 89))) (aa 1)))]
theorem Qp (N k:Nat)(cL eV:V)(hp:HP):ag N (k+1) (.fix (.ref 443)) [cL,eV] hp=bj (aF (Md (ag N k) N)) [some cL,some eV,none,none] hp:=by kernel_rfl
def Vl (c:Ca)(N:Nat):List Sx:=[(iQ (aa 0) .text (bw .Add (bO (aa 0) .text) (aq (ao [(xS " "),(xS "\n"),(xS " % var;\n"),(xS "\t")]) (xF c 443 [(aa 0),(xC (.int 4))])))),
 (aR 2 (aD c (xC (bi "len")) [(bO (aa 0) .text)])),
 (iQ (aa 0) .text (bw .Add (bO (aa 0) .text) (aa 1))),
 (aW (aa 2))]
theorem Qq (N k:Nat)(cL nY:V)(hp:HP):ag N (k+1) (.fix (.ref 450)) [cL,nY] hp=bj (aF (Vl (ag N k) N)) [some cL,some nY,none] hp:=by kernel_rfl
def Me (c:Ca)(N:Nat):List Sx:=[(bc (ai (bO (aa 0) .iy) [(.lt,(xC (.int 0)))]) [(iQ (aa 0) .iy (aa 1))] [])]
theorem Dx (N k:Nat)(cL iH:V)(hp:HP):ag N (k+1) (.fix (.ref 457)) [cL,iH] hp=bj (aF (Me (ag N k) N)) [some cL,some iH] hp:=by kernel_rfl
def Vm (c:Ca)(N:Nat):List Sx:=[(bo (xF c 450 [(aa 0),(xS "var")])),
 (aR 1 (bw .Sub (xF c 443 [(aa 0),(xC (.int 3))]) (xC (.int 1)))),
 (aR 2 (cm [(ao [(aa 1),(bw .Add (aa 1) (aq (ao [(xC (.int 0)),(xC (.int 1)),(xC (.int 1)),(xC (.int 2)),(xC (.int 0)),(xC (.int 1)),(xC (.int 1)),(xC (.int 3)),(gN (xC (.int 1)))]) (xF c 443 [(aa 0),(xC (.int 9))])))])])),
 (bc (ai (xF c 443 [(aa 0),(xC (.int 3))]) [(.eq,(xC (.int 2)))]) [(aR 1 (bw .Add (aq (aq (aa 2) (xC (.int 0))) (xC (.int 1))) (aq (ao [(xC (.int 2)),(xC (.int 3)),(xC (.int 2)),(xC (.int 4)),(xC (.int 2)),(xC (.int 3)),(xC (.int 2)),(xC (.int 1)),(xC (.int 0))]) (xF c 443 [(aa 0),(xC (.int 9))])))),
 (bo (ax c (aa 2) .append [(ao [(aa 1),(bw .Add (aa 1) (xC (.int 1)))])]))] []),
 (bc (ai (aD c (xC (bi "len")) [(aa 2)]) [(.eq,(xC (.int 2)))]) [(bo (xF c 450 [(aa 0),(xS "{")]))] []),
 (hZ N (.one 3) (me (aD c (xC (bi "len")) [(aa 2)])) [(bc (ai (aa 3) [(.eq,(xC (.int 1)))]) [(bo (xF c 450 [(aa 0),(xS ",")]))] []),
 (aR 4 (xF c 450 [(aa 0),(aD c (xC (.fix (.type "str"))) [(aq (aq (aa 2) (aa 3)) (xC (.int 0)))])])),
 (iQ (aa 0) .text (bw .Add (bw .Add (bO (aa 0) .text) (xS "..")) (aD c (xC (.fix (.type "str"))) [(aq (aq (aa 2) (aa 3)) (xC (.int 1)))]))),
 (bc (aS false [(ai (aq (aq (aa 2) (aa 3)) (xC (.int 1))) [(.lt,(aq (aq (aa 2) (aa 3)) (xC (.int 0))))]),(aS true [(ai (aa 3) [(.eq,(xC (.int 1)))]),(ai (aq (aq (aa 2) (xC (.int 1))) (xC (.int 0))) [(.lt,(bw .Add (aq (aq (aa 2) (xC (.int 0))) (xC (.int 1))) (xC (.int 2))))])])]) [(bo (xF c 457 [(aa 0),(aa 4)]))] [])]),
 (bc (ai (aD c (xC (bi "len")) [(aa 2)]) [(.eq,(xC (.int 2)))]) [(bo (xF c 450 [(aa 0),(xS "}")]))] []),
 (bo (xF c 450 [(aa 0),(xS ":")])),
 (eH [5,6] (aq (ao [(ao [(xS "x"),(xS "x")]),(ao [(xS "B_1"),(xS "B_1")]),(ao [(xS "a b"),(xS "\"a b\"")]),(ao [(xS ""),(xS "\"\"")]),(ao [(xS "var"),(xS "var")])]) (xF c 443 [(aa 0),(xC (.int 5))]))),
 (bo (xF c 450 [(aa 0),(aa 6)])),
 (bo (ax c (bO (aa 0) .vars) .append [(ao [(aa 5),(aD c (xC (.fix (.type "tuple"))) [(aa 2)])])]))]
theorem Dy (N k:Nat)(cL:V)(hp:HP):ag N (k+1) (.fix (.ref 464)) [cL] hp=bj (aF (Vm (ag N k) N)) [some cL,none,none,none,none,none,none] hp:=by kernel_rfl
def Vn (c:Ca)(N:Nat):List Sx:=[(aW (aq (ao [(xC (.int 0)),(xC (.int 1)),(xC (.int 0)),(xC (.int 2)),(xC (.int 0)),(xC (.int 1)),(xC (.int 0)),(xC (.int 0)),(xC (.int 1)),(xC (.int 0)),(xC (.int 3)),(gN (xC (.int 1)))]) (xF c 443 [(aa 0),(xC (.int 12))])))]
theorem Qr (N k:Nat)(cL:V)(hp:HP):ag N (k+1) (.fix (.ref 471)) [cL] hp=bj (aF (Vn (ag N k) N)) [some cL] hp:=by kernel_rfl
def Vo (c:Ca)(N:Nat):List Sx:=[(bo (xF c 450 [(aa 0),(xS "constraint")])),
 (aR 1 (aq (ao [(xC (.int 0)),(xC (.int 1)),(xC (.int 2)),(xC (.int 3)),(xC (.int 4)),(xC (.int 0)),(xC (.int 1)),(xC (.int 2)),(xC (.int 3)),(xC (.int 4)),(xC (.int 5)),(xC (.int 6))]) (xF c 443 [(aa 0),(xC (.int 12))]))),
 (eH [2,3] (ao [(xF c 471 [(aa 0)]),(xF c 471 [(aa 0)])])),
 (aR 4 (aq (ao [(ao [(xS "linear_le"),(ao [(xC (.int 1)),(gN (xC (.int 2)))]),(ao [(aa 2),(aa 3)]),(xC (.int 3))]),(ao [(xS "all_different"),(ao [(aa 2),(aa 3)]),(xS "bounds")]),(ao [(xS "clause"),(ao [(aa 2)]),(ao [(aa 3)])]),(ao [(xS "xor"),(aa 2),(aa 3),(aa 2)]),(ao [(xS "disjunctive"),(ao [(aa 2),(aa 3)]),(ao [(xC (.int 2)),(xC (.int 0))])]),(ao [(xS "linear_ne"),(ao [(xC (.int 4))]),(ao [(aa 2),(aa 3)]),(xC (.int 0))]),(ao [(xS "max"),(ao []),(aa 2)])]) (aa 1))),
 (aR 5 (aq (ao [(xS "linear_le([1, -2], [X, Y], 3)"),(xS "all_different([X, Y], \"bounds\")"),(xS "clause([X], [Y])"),(xS "xor(X, Y, X)"),(xS "disjunctive([X, Y], [2, 0])"),(xS "linear_ne([4], [X, Y], 0)"),(xS "max([], X)")]) (aa 1))),
 (bo (ax c (bO (aa 0) .bY) .append [(ao [(aa 4),(xF c 450 [(aa 0),(jL 89 (jL 88 (aa 5) (aa 2)) (aa 3))])])]))]
theorem Qs (N k:Nat)(cL:V)(hp:HP):ag N (k+1) (.fix (.ref 478)) [cL] hp=bj (aF (Vo (ag N k) N)) [some cL,none,none,none,none,none] hp:=by kernel_rfl
def Vp (c:Ca)(N:Nat):List Sx:=[(aR 1 (xF c 450 [(aa 0),(xS "solve")])),
 (bc (ai (bO (aa 0) .goal) [(.gO,(xC .none))]) [(bo (xF c 457 [(aa 0),(aa 1)]))] []),
 (aR 2 (xF c 443 [(aa 0),(xC (.int 3))])),
 (eH [1,3] (ao [(xF c 450 [(aa 0),(aq (ao [(xS "satisfy"),(xS "minimize"),(xS "maximize")]) (aa 2))]),(xC .none)])),
 (bc (ai (aa 2) [(.gt,(xC (.int 0)))]) [(aR 3 (xF c 471 [(aa 0)])),
 (bo (xF c 450 [(aa 0),(aD c (xC (.fix (.type "str"))) [(aa 3)])]))] []),
 (iQ (aa 0) .goal (ao [(aq (ao [(xS "satisfy"),(xS "minimize"),(xS "maximize")]) (aa 2)),(aa 3),(aa 1)]))]
theorem Dz (N k:Nat)(cL:V)(hp:HP):ag N (k+1) (.fix (.ref 485)) [cL] hp=bj (aF (Vp (ag N k) N)) [some cL,none,none,none] hp:=by kernel_rfl
def Vq (c:Ca)(N:Nat):List Sx:=[(aR 1 (xF c 450 [(aa 0),(xS "output")])),
 (bc (ai (bO (aa 0) .shown) [(.gO,(xC .none))]) [(bo (xF c 457 [(aa 0),(aa 1)]))] []),
 (eH [2,3] (ao [(xF c 471 [(aa 0)]),(xF c 471 [(aa 0)])])),
 (aR 4 (xF c 443 [(aa 0),(xC (.int 3))])),
 (aR 5 (aq (ao [(ao [(ao [(xS "int"),(aa 2)]),(ao [(xS "text"),(xS ", ")]),(ao [(xS "bool"),(aa 3)])]),(ao [(ao [(xS "list"),(ao [(ao [(xS "int"),(aa 2)]),(ao [(xS "int"),(aa 3)])])])]),(ao [(ao [(xS "if"),(aa 2),(ao []),(ao [(ao [(xS "int"),(aa 3)])])])])]) (aa 4))),
 (aR 6 (aq (ao [(xS "[int(X), text(\", \"), bool(Y)]"),(xS "[list([int(X), int(Y)])]"),(xS "[if(X, [], [int(Y)])]")]) (aa 4))),
 (aR 6 (jL 89 (jL 88 (aa 6) (aa 2)) (aa 3))),
 (iQ (aa 0) .shown (ao [(aa 5),(cm [(aa 2),(aa 3)]),(xF c 450 [(aa 0),(aa 6)])]))]
theorem DA (N k:Nat)(cL:V)(hp:HP):ag N (k+1) (.fix (.ref 492)) [cL] hp=bj (aF (Vq (ag N k) N)) [some cL,none,none,none,none,none,none] hp:=by kernel_rfl
def Vr (c:Ca)(N:Nat):List Sx:=[(eH [1,2] (aq (ao [(ao [(xS ""),(xS "find")]),(ao [(xS "var 0..1"),(xS "x")]),(ao [(xS "var 0..1 : x"),(xS "y")]),(ao [(xS "solve"),(xS "least")]),(ao [(xS "constraint max ( [ 0 ] , 0"),(xS "]")]),(ao [(xS "constraint"),(xS ":")]),(ao [(xS "var 0 .."),(xS ":")]),(ao [(xS "var 0..1 :"),(xS "7")])]) (xF c 443 [(aa 0),(xC (.int 8))]))),
 (bc (ai (aa 1) [(.ne,(xS ""))]) [(aR 3 (xF c 450 [(aa 0),(aa 1)])),
 (bc (aS true [(ai (aa 1) [(.eq,(xS "solve"))]),(ai (bO (aa 0) .goal) [(.gO,(xC .none))])]) [(bo (xF c 457 [(aa 0),(aa 3)]))] [])] []),
 (bo (xF c 457 [(aa 0),(xF c 450 [(aa 0),(aa 2)])]))]
theorem wR (N k:Nat)(cL:V)(hp:HP):ag N (k+1) (.fix (.ref 499)) [cL] hp=bj (aF (Vr (ag N k) N)) [some cL,none,none,none] hp:=by kernel_rfl
def Vs (c:Ca)(N:Nat):List Sx:=[(aR 2 (aq (aa 0) (xC (.int 0)))),
 (bc (aS false [(ai (aa 2) [(.eq,(xS "max"))]),(ai (aa 2) [(.eq,(xS "linear_ne"))])]) [(aW (xC (.bool false)))] []),
 (aR 3 (ig (ai (aa 2) [(.eq,(xS "linear_le"))]) (aq (aa 0) (xC (.int 2))) (ig (ai (aa 2) [(.jK,(ao [(xS "all_different"),(xS "disjunctive")]))]) (aq (aa 0) (xC (.int 1))) (cU (aa 0) (xC (.int 1)) (xC .none))))),
 (bc (ai (aa 2) [(.eq,(xS "clause"))]) [(aR 3 (bw .Add (aq (aa 0) (xC (.int 1))) (aq (aa 0) (xC (.int 2)))))] []),
 (bc (ai (cp N (cw (aa 3)) [none,none,some 1] (.one 1) (aS true [(cV (ai (xC (.int 0)) [(.le,(aa 1)),(.lt,(aD c (xC (bi "len")) [(aa 2)]))]))]) (aa 1)) [(.ne,(cm []))]) [(aW (xC (.bool false)))] []),
 (bc (ai (aa 2) [(.gh,(ao [(xS "clause"),(xS "xor")]))]) [(aW (xC (.bool true)))] []),
 (aW (xB (ai (cp N (cw (aa 3)) [none,none,some 1] (.one 1) (aS true [(ai (cp N (cw (aq (aa 2) (aa 1))) [none,none] (.one 1) (aS true [(aS false [(ai (aq (aa 1) (xC (.int 0))) [(.lt,(xC (.int 0)))]),(ai (aq (aa 1) (xC (.int 1))) [(.gt,(xC (.int 1)))])])]) (aa 1)) [(.ne,(cm []))])]) (aa 1)) [(.eq,(cm []))])))]
theorem lW (N k:Nat)(iG I0:V)(hp:HP):ag N (k+1) (.fix (.ref 504)) [iG,I0] hp=bj (aF (Vs (ag N k) N)) [some iG,some I0,none,none] hp:=by kernel_rfl
local macro_rules | `(tactic| open_k with [$ts,*]) => do
 let xs:=("NN yU u1 FZ F8 F9 Ga yV u2 u3 rH yW u4 u5 yX u6 oY oZ o9 pb pd pg Gb rJ ph NO Ge NP Gf rK rL rM rN rP rQ rR u7 u9 vb vc vd ve yY vf Gg yZ y0 y7 vg vh rS pj pk pq pB vi rT vj rU rV vm rW rX rY y8 vn vo vp pC pD pE rZ qM y9 vq vr vt r7 r8 r9 Gh za zb vw qN n3 qO qP Gi zc zd sd se pF pG ze zf jV jW fM vy vz Gj jd sg n5 NR NS Gk Gl Gm Gn Gp si zm zo Gr sj vE zp zq Gs zr zt List.getElem?_cons_zero List.getElem?_cons_succ List.set_cons_zero List.set_cons_succ if_true if_false ite_true ite_false Bool.false_eq_true Bool.not_true Bool.not_false beq_self_eq_true reduceCtorEq Option.map_some Option.map_none Bool.true_beq Bool.false_beq Bool.true_eq_false lh lP zg zh zi zj zk ik vx n4 sf gS vA kz pH zl vB Gq nj".splitOn " ").toArray.map λs=>Lean.mkIdent s.toName
 `(tactic| simp only[$[$xs:ident],*,$[$ts:term],*])
section
theorem Vt {a b:List Nat}(e:S a=S b):a=b:=by
 have:=congrArg Str.cps e
 simpa [S]using this
section
variable {α β γ:Type}
def Zr (f:α->HP->R β)(g:β->HP->R γ)(a:α)(hp:HP):R γ:=az (f a hp) g
def Zs (r:List Ex)(loc:Loc)(v:V)(hp:HP):R (List V):=az (xs r loc hp) (yA v)
noncomputable def kOk (a:α) (hp:HP):R α:=.ok a hp
def FY (v:V)(p:dS×Ex)(r:List (dS×Ex))(loc:Loc)(b:Bool)(hp:HP):R Bool:=cond b (iu v (p::r) loc hp) (.ok false hp)
def Vu (op:dS)(u:V)(p:dS×Ex)(r:List (dS×Ex))(loc:Loc)(v:V)(hp:HP):R Bool:=az (bQ (dA op u v hp) hp) (FY v p r loc)
def Zt (out:List Nat)(r:List Ex)(loc:Loc)(v:V)(hp:HP):R V:=rB (vStr v) λl=>rI (fq out.length l.length) (mJ (out++l) r loc hp)
def Mf (r:List Sx)(p:Fl×Loc)(hp:HP):R (Fl×Loc):=match p.1 with
  |.next=>aF r p.2 hp
  |.ret _=>.ok p hp
def wU (t:Tx)(b:Sx)(n:Nat)(p:Fl×Loc)(hp:HP):R (Fl×Loc):=match p.1 with|.next=>dH t b n p.2 hp|.ret _=>.ok p hp
def Vv (t:Tx)(b:Sx)(n:Nat)(loc:Loc)(c:Bool)(hp:HP):R (Fl×Loc):=if c then az (b loc hp) (wU t b n)else .ok (.next,loc) hp
noncomputable def Mg (p:Fl×Loc) (hp:HP):R V:=match p.1 with
 |.ret v=>.ok v hp
 |.next=>.ok .none hp
def Bc (tg:Tg)(b:Sx)(M:Nat)(it:It)(p:Fl×Loc)(hp:HP):R (Fl×Loc):=match p.1 with|.next=>cI tg b M it p.2 hp|.ret _=>.ok p hp
def NM (tg:Tg)(b:Sx)(M:Nat)(it:It)(o:Option Loc)(hp:HP):R (Fl×Loc):=match o with
  |none=>.bad
  |some loc=>az (b loc hp) (Bc tg b M it)
def Vw (tg:Tg)(b:Sx)(M:Nat)(loc:Loc)(o:Option (Option (V×It)))(hp:HP):R (Fl×Loc):=match o with
  |none=>.bad
  |some none=>.ok (.next,loc) hp
  |some (some (v,it))=>NM tg b M it (tg.put v loc) hp
section
variable (loc:Loc)(hp:HP)(e f o:Ex)(r:List Ex)(u v w:V)(vs:List V)(q:Operator)(op:dS)(cs:List (dS×Ex))(p:dS×Ex)(j:Int)(k:Key)(l m is:List Nat)(n:Nat)(b:Bool)(t:Tx)(ts:List Tx)(s:Sx)(ss sr:List Sx)(c:Ca)(x y:Option Nat)(tg:Tg)(i:Ix)(it:It)(g h d:Nat)
theorem NN:xC v loc hp=.ok v hp:=rfl
theorem yU:aa n loc hp=J7 loc[n]? hp:=rfl
theorem u1:J7 (some (some v)) hp=.ok v hp:=rfl
theorem FZ:xs [] loc hp=.ok [] hp:=rfl
theorem F8:xs (e::r) loc hp=az (e loc hp) (Zs r loc):=rfl
theorem F9:Zs r loc v hp=az (xs r loc hp) (yA v):=rfl
theorem Ga:yA v vs hp=.ok (v::vs) hp:=rfl
theorem yV:ao r loc hp=az (xs r loc hp) J8:=rfl
theorem u2:J8 vs hp=.ok (.tup vs) hp:=rfl
theorem u3:cm r loc hp=az (xs r loc hp) ou:=rfl
theorem rH:ou vs hp=.ok (.ref hp.length) (hp++[.list vs]):=rfl
theorem yW:bw q e f loc hp=az (e loc hp) (J9 q f loc):=rfl
theorem u4:J9 q f loc u hp=az (f loc hp) (Eg q u):=rfl
theorem u5:Eg q u v hp=jw q u v hp:=rfl
theorem yX:gN e loc hp=az (e loc hp) Ka:=rfl
theorem u6:Ka (.int j) hp=.ok (.int (-j)) hp:=rfl
theorem oY:iu u [(op,e)] loc hp=az (e loc hp) (cE op u):=rfl
theorem oZ:cE op u v hp=bQ (dA op u v hp) hp:=rfl
theorem o9:iu u ((op,e)::p::cs) loc hp=az (e loc hp) (Vu op u p cs loc):=rfl
theorem pb:Vu op u p cs loc v hp=az (bQ (dA op u v hp) hp) (FY v p cs loc):=rfl
theorem pd:FY v p cs loc true hp=iu v (p::cs) loc hp:=rfl
theorem pg:FY v p cs loc false hp=.ok false hp:=rfl
theorem Gb:kOk b hp=.ok b hp:=rfl
theorem rJ:ai e cs loc hp=az (e loc hp) (RU cs loc):=rfl
theorem ph:RU cs loc u hp=iu u cs loc hp:=rfl
theorem NO:xB t loc hp=az (t loc hp) sY:=rfl
theorem Ge:sY b hp=.ok (.bool b) hp:=rfl
theorem NP:tX e loc hp=az (e loc hp) kX:=rfl
theorem Gf:kX v hp=bQ (kg v) hp:=rfl
theorem rK:gj b [e] loc hp=e loc hp:=rfl
theorem rL:gj b (e::f::r) loc hp=az (e loc hp) (Kc b (gj b (f::r)) loc):=rfl
theorem rM:Kc b e loc v hp=az (bQ (kg v) hp) (ri b e loc v):=rfl
theorem rN:ri true e loc v true hp=e loc hp:=rfl
theorem rP:ri false e loc v false hp=e loc hp:=rfl
theorem rQ:ri true e loc v false hp=.ok v hp:=rfl
theorem rR:ri false e loc v true hp=.ok v hp:=rfl
theorem u7:aS b [] loc hp=.ok b hp:=rfl
theorem u9:aS b (t::ts) loc hp=az (t loc hp) (wi b (aS b ts) loc):=rfl
theorem vb:wi true t loc true hp=t loc hp:=rfl
theorem vc:wi false t loc false hp=t loc hp:=rfl
theorem vd:wi true t loc false hp=.ok false hp:=rfl
theorem ve:wi false t loc true hp=.ok true hp:=rfl
theorem yY:cV t loc hp=az (t loc hp) Eh:=rfl
theorem vf:Eh b hp=.ok (!b) hp:=rfl
theorem Gg:ig t e f loc hp=az (t loc hp) (M1 e f loc):=rfl
theorem yZ:M1 e f loc true hp=e loc hp:=rfl
theorem y0:M1 e f loc false hp=f loc hp:=rfl
theorem y7:aq e f loc hp=az (e loc hp) (Ke f loc):=rfl
theorem vg:Ke e loc u hp=az (e loc hp) (Ei u):=rfl
theorem vh:Ei u v hp=bQ (bh hp u v) hp:=rfl
theorem aX:bO e k loc hp=az (e loc hp) (Ej k):=rfl
theorem rS:cU o e f loc hp=az (o loc hp) (RV e f loc):=rfl
theorem pj:RV e f loc u hp=az (e loc hp) (Ki f loc u):=rfl
theorem pk:Ki f loc u v hp=az (f loc hp) (Kh u v):=rfl
theorem pq:Kh u v w hp=Kg u (hW v) (hW w) hp:=rfl
theorem pB:Kg u (some x) (some y) hp=gX hp u x y:=rfl
theorem vi:aH e k loc hp=az (e loc hp) (Ek k):=rfl
theorem rT:Ek k u hp=bQ (ew hp u k) hp:=rfl
theorem vj:aD c f r loc hp=az (f loc hp) (RW c r loc):=rfl
theorem rU:RW c r loc u hp=az (xs r loc hp) (Kj c u):=rfl
theorem rV:Kj c u vs hp=c u vs hp:=rfl
theorem vm:ax c o k r loc hp=az (o loc hp) (RX c k r loc):=rfl
theorem rW:RX c k r loc u hp=az (bQ (dM hp u k) hp) (En c r loc u):=rfl
theorem rX:En c r loc u v hp=az (xs r loc hp) (Em c u v):=rfl
theorem rY:Em c u v vs hp=c v (u::vs) hp:=rfl
theorem y8:c5 e loc hp=az (e loc hp) Kk:=rfl
theorem vn:Kk v hp=az (bQ (lu v) hp) Eo:=rfl
theorem vo:Eo l hp=.ok (.str l) hp:=rfl
theorem vp:eO r loc hp=mJ [] r loc hp:=rfl
theorem pC:mJ l [] loc hp=.ok (.str l) hp:=rfl
theorem pD:mJ l (e::r) loc hp=az (e loc hp) (Zt l r loc):=rfl
theorem pE:Zt l r loc (.str m) hp=rI (fq l.length m.length) (mJ (l++m) r loc hp):=rfl
theorem rZ:aR n e loc hp=az (e loc hp) (Kl n loc):=rfl
theorem qM:Kl n loc v hp=.ok (.next,loc.set n (some v)) hp:=rfl
theorem y9:eH is e loc hp=az (e loc hp) (Et is loc):=rfl
theorem vq:Et is loc (.tup vs) hp=Km (dW is vs loc) hp:=rfl
theorem vr:Km (some loc) hp=.ok (.next,loc) hp:=rfl
theorem vt:cH o k e loc hp=az (e loc hp) (RZ o k loc):=rfl
theorem r7:RZ o k loc v hp=az (o loc hp) (Kn k loc v):=rfl
theorem r8:Kn k loc v u hp=Hq loc (dj hp u k v):=rfl
theorem r9:Hq loc (some hp)=.ok (.next,loc) hp:=rfl
theorem aY:iQ o k e loc hp=az (e loc hp) (R0 o k loc):=rfl
theorem aL:R0 o k loc v hp=az (o loc hp) (Ko k loc v):=rfl
theorem aM:Ko k loc v u hp=Hq loc (sR hp u k v):=rfl
theorem Gh:bo e loc hp=az (e loc hp) (kEx loc):=rfl
theorem za:kEx loc v hp=.ok (.next,loc) hp:=rfl
theorem zb:aW e loc hp=az (e loc hp) (Kp loc):=rfl
theorem vw:Kp loc v hp=.ok (.ret v,loc) hp:=rfl
theorem qN:aF [] loc hp=.ok (.next,loc) hp:=rfl
theorem n3:aF (s::ss) loc hp=az (s loc hp) (Mf ss):=rfl
theorem qO:Mf ss (.next,loc) hp=aF ss loc hp:=rfl
theorem qP:Mf ss (.ret v,loc) hp=.ok (.ret v,loc) hp:=rfl
theorem Gi:bc t ss sr loc hp=az (t loc hp) (Eu ss sr loc):=rfl
theorem zc:Eu ss sr loc true hp=aF ss loc hp:=rfl
theorem zd:Eu ss sr loc false hp=aF sr loc hp:=rfl
theorem sd:fB n t ss loc hp=dH t (aF ss) n loc hp:=rfl
theorem ik:hZ n tg i ss loc hp=az (i loc hp) (Hb n tg ss loc):=rfl
theorem vx:Hb n tg ss loc it hp=cI tg (aF ss) n it loc hp:=rfl
theorem se:c7 e f loc hp=az (e loc hp) (R4 f loc):=rfl
theorem pF:R4 e loc v hp=az (e loc hp) Kq:=rfl
theorem pG:Kq (.int j) hp=.gH j:=rfl
theorem jU:dH t s (n+1) loc hp=az (t loc hp) (Vv t s n loc):=rfl
theorem ze:Vv t s n loc true hp=az (s loc hp) (wU t s n):=rfl
theorem zf:Vv t s n loc false hp=.ok (.next,loc) hp:=rfl
theorem jV:wU t s n (.next,loc) hp=dH t s n loc hp:=rfl
theorem jW:wU t s n (.ret v,loc) hp=.ok (.ret v,loc) hp:=rfl
theorem fM:bj s loc hp=az (s loc hp) Mg:=rfl
theorem vy:Mg (.ret v,loc) hp=.ok v hp:=rfl
theorem vz:Mg (.next,loc) hp=.ok .none hp:=rfl
theorem jv:cI tg s (n+1) (.vals []) loc hp=.ok (.next,loc) hp:=rfl
theorem lO:cI tg s (n+1) (.vals (v::vs)) loc hp=NM tg s n (.vals vs) (tg.put v loc) hp:=rfl
theorem NQ:cI tg s (n+1) (.zip g h d) loc hp=Vw tg s n loc (It.next (.zip g h d) hp) hp:=rfl
theorem zg:Vw tg s n loc (some none) hp=.ok (.next,loc) hp:=rfl
theorem zh:Vw tg s n loc (some (some (v,it))) hp=NM tg s n it (tg.put v loc) hp:=rfl
theorem zi:NM tg s n it (some loc) hp=az (s loc hp) (Bc tg s n it):=rfl
theorem zj:Bc tg s n it (.next,loc) hp=cI tg s n it loc hp:=rfl
theorem zk:Bc tg s n it (.ret v,loc) hp=.ok (.ret v,loc) hp:=rfl
theorem lh:Tg.put (.many is) (.tup vs) loc=dW is vs loc:=rfl
theorem lP:Tg.put (.one n) v loc=some (loc.set n (some v)):=rfl
theorem n4:rm e loc hp=az (e loc hp) M7:=rfl
theorem sf:M7 (.str l) hp=.ok (.vals (eZ 0 l)) hp:=rfl
theorem gS:cw e loc hp=az (e loc hp) M5:=rfl
theorem vA:M5 v hp=bQ (Ep hp v) hp:=rfl
theorem kz:me e loc hp=az (e loc hp) M6:=rfl
theorem pH:M6 (.int j) hp=rI (decide (j≤1000)&&dy j) (.ok (.vals ((List.range j.toNat).map λ(k:Nat)=>V.int k)) hp):=rfl
theorem zl:wj e f loc hp=az (e loc hp) (RY f loc):=rfl
theorem vB:RY f loc u hp=az (f loc hp) (Er u):=rfl
end
theorem Gj (f:α->HP->R β)(g:β->HP->R γ)(a:α)(hp:HP):Zr f g a hp=az (f a hp) g:=rfl
theorem nj (r:R α)(f:α->HP->R β)(g:β->HP->R γ):az (az r f) g=az r (Zr f g):=by cases r<;>rfl
end
section
variable {α β:Type}
theorem jd (a:α)(hp:HP)(f:α->HP->R β):az (.ok a hp) f=f a hp:=rfl
theorem sg (k:Int)(f:α->HP->R β):az (.gH k) f=.gH k:=rfl
theorem n5 (a:α)(hp:HP):bQ (some a) hp=.ok a hp:=rfl
theorem NR (loc:Loc):dW [] [] loc=some loc:=rfl
theorem NS (i:Nat)(is:List Nat)(v:V)(vs:List V)(loc:Loc):dW (i::is) (v::vs) loc=dW is vs (loc.set i (some v)):=rfl
theorem Gk (i j:Int)(hp:HP):dA .lt (.int i) (.int j) hp=some (decide (i<j)):=rfl
theorem Gl (i j:Int)(hp:HP):dA .le (.int i) (.int j) hp=some (decide (i≤j)):=rfl
theorem Gm (i j:Int)(hp:HP):dA .gt (.int i) (.int j) hp=some (decide (j<i)):=rfl
theorem Gn (i j:Int)(hp:HP):dA .ge (.int i) (.int j) hp=some (decide (j≤i)):=rfl
theorem Gp (a b:V)(hp:HP):dA .jK a b hp=qf hp a b:=rfl
theorem si (a b:V)(hp:HP):dA .gh a b hp=(qf hp a b).map (!·):=rfl
theorem zm (i j:Int)(hp:HP):dA .eq (.int i) (.int j) hp=some (i==j):=rfl
theorem zo (i j:Int)(hp:HP):dA .ne (.int i) (.int j) hp=some (!(i==j)):=rfl
theorem vC (a b:List Nat):(S a==S b)=(a==b):=by
 rw[Bool.eq_iff_iff];simp only[beq_iff_eq];exact⟨λe=>Vt e,λe=>by rw[e]⟩
theorem n6 (a b:Str):PyData.eqv (.str a) (.str b)=(a==b):=by
 unfold PyData.eqv;rfl
noncomputable def aT (l:List Nat):Bool:=l.all (·<1114112)
theorem kq (s:String)(h:aT (af s)=true:=by decide):aT (af s)=true:=h
theorem nb (a b:String)(h:(af a==af b)=false:=by decide):(af a==af b)=false:=h
theorem yb (a b:String)(h:(af a==af b)=true:=by decide):(af a==af b)=true:=h
theorem wV {l m:List Nat}(h:aT l=true)(hs:∀x∈m,x∈l):aT m=true:=List.all_eq_true.mpr λx hx=>List.all_eq_true.mp h x (hs x hx)
theorem lQ {l:List Nat}(h:aT l=true):shaped (.str (S l))=true:=by
 have:PyData.strOk (S l)=true:=by unfold PyData.strOk aT at *;simpa [S]using h
 simp[shaped,PyData.canLay0,PyData.depth,this]
theorem DB {hp:HP}{x y:V}{a b:PyData}{c:Bool}(e1:wd hp x=some a)(e2:wd hp y=some b)(h1:shaped a=true)(h2:shaped b=true)(e:PyData.eqv a b=c):tE hp x y=some c:=by
 unfold tE;rw[e1,e2];show(match shaped a&&shaped b with|true=>some (PyData.eqv a b)|false=>none)=_
 rw[h1,h2,e];rfl
theorem NT {hp:HP}(l:List Nat):wd hp (.str l)=some (.str (S l)):=by show g0 _=_;unfold g0;rfl
theorem NU {hp:HP}{a b:List Nat}(ha:aT a=true)(hb:aT b=true):tE hp (.str a) (.str b)=some (a==b):=DB (NT a) (NT b) (lQ ha) (lQ hb) ((n6 _ _).trans (vC a b))
theorem aE {a b:List Nat}(ha:aT a=true)(hb:aT b=true)(hp:HP):dA .eq (.str a) (.str b) hp=some (a==b):=NU ha hb
theorem lR {a b:List Nat}(ha:aT a=true)(hb:aT b=true)(hp:HP):dA .ne (.str a) (.str b) hp=some (!(a==b)):=congrArg (Option.map (!·)) (NU ha hb)
theorem gk {α β:Type}{o:Option α}{a:α}{f:α->R β}(h:o=some a):rB o f=f a:=by rw[h];rfl
theorem cz {α β:Type}{o:Option α}{a:α}{f:α->Option β}(h:o=some a):oB o f=f a:=by rw[h];rfl
theorem Gq {β:Type}{r:R β}:rI true r=r:=rfl
theorem eA {β:Type}{b:Bool}{r:R β}(h:b=true):rI b r=r:=by rw[h];rfl
theorem c9 {hp:HP}{i:Nat}{l:List V}(h:hp[i]?=some (.list l)):eN hp i=some l:=by unfold eN;rw[h];rfl
theorem qQ {hp:HP}{i:Nat}{l:List (Key×V)}(h:hp[i]?=some (.dict l)):kI hp i=some l:=by unfold kI;rw[h];rfl
theorem Bd {hp:HP}{i d:Nat}{C:Addr}(h:hp[i]?=some (.inst C d)):lG hp i=some (C,d):=by unfold lG;rw[h];rfl
structure Obj (hp:HP)(s d:Nat)(C:Addr)(es:List (Key×V)):Prop where
 hs:hp[s]?=some (.inst C d)
 hd:hp[d]?=some (.dict es)
theorem Obj.attr {hp:HP}{s d:Nat}{C:Addr}{es:List (Key×V)}{k:Key}{v:V}(o:Obj hp s d C es)(e:cond (attrOk C k) (yB (ej es k)) none=some v):ew hp (.ref s) k=some v:=by
 unfold ew;show oB (lG hp s) _=_;rw[Bd o.hs];show oB (kI hp d) _=_;rw[qQ o.hd];rw[<- e];show(match attrOk C k with|true=>yB (ej es k)|false=>none)=_
 cases attrOk C k<;>rfl
theorem Obj.put {hp:HP}{s d:Nat}{C:Addr}{es:List (Key×V)}{k:Key}{v:V}{fs:List (Key×V)}(o:Obj hp s d C es)(e:(attrOk C k&&decide (es.length≤100))=true)(f:dput es k v=fs):dj hp (.ref s) k v=some (hp.set d (.dict fs)):=by
 unfold dj;show oB (lG hp s) _=_;rw[Bd o.hs];show oB (kI hp d) _=_;rw[qQ o.hd,<- f];show cond (attrOk C k&&decide (es.length≤100)) _ _=_;rw[e];rfl
theorem Obj.bA {hp:HP}{s d:Nat}{C:Addr}{es:List (Key×V)}{k:Key}{f:Addr}(o:Obj hp s d C es)(e:ff (d0 C) k=some f)(g:(ej es k).isNone=true):dM hp (.ref s) k=some (.fix (.ref f)):=by
 unfold dM;show oB hp[s]? _=_;rw[o.hs];show yC hp k (C,d)=_;unfold yC;rw[qQ o.hd];show(match (ej es k).isNone with|true=>(ff (d0 C) k).map λf=>V.fix (.ref f)|false=>none)=_
 rw[g,e];rfl
theorem Gr (v:V)(hp:HP):dA .sX v .none hp=ki v:=rfl
theorem sj (v:V)(hp:HP):dA .gO v .none hp=(ki v).map (!·):=rfl
theorem vE:ki .none=some true:=rfl
theorem zp (i:Int):ki (.int i)=some false:=rfl
theorem zq (vs:List V):ki (.tup vs)=some false:=rfl
theorem Gs (b:Bool):kg (.bool b)=some b:=rfl
theorem zr (i j:Int)(hp:HP):jw .Add (.int i) (.int j) hp=.ok (.int (i+j)) hp:=rfl
theorem zt (i j:Int)(hp:HP):jw .Sub (.int i) (.int j) hp=.ok (.int (i - j)) hp:=rfl
end
variable {N k:Nat}{hp:HP}{s d p q:Nat}{T:List Nat}
noncomputable abbrev SD (T:List Nat) (p:Nat):O:=.dict [(.text,.str T),(.bG,.int p)]
structure dw (hp:HP)(s d:Nat)(T:List Nat)(p:Nat):Prop where
 hs:hp[s]?=some (.inst 273 d)
 hd:hp[d]?=some (SD T p)
 hT:T.length≤1000000
 hC:aT T=true
theorem dw.ne (S:dw hp s d T p):s≠d:=λe=>by have:=S.hs;rw[e,S.hd]at this;cases this
theorem dw.lt (S:dw hp s d T p):d<hp.length:=(List.getElem?_eq_some_iff.mp S.hd).1
theorem dw.obj (S:dw hp s d T p):Obj hp s d 273 [(.text,.str T),(.bG,.int p)]:=⟨S.hs,S.hd⟩
theorem dw.text (S:dw hp s d T p):ew hp (.ref s) .text=some (.str T):=S.obj.attr rfl
theorem dw.bG (S:dw hp s d T p):ew hp (.ref s) .bG=some (.int p):=S.obj.attr rfl
theorem dw.put (S:dw hp s d T p)(q:Nat):dj hp (.ref s) .bG (.int q)=some (hp.set d (SD T q)):=S.obj.put rfl rfl
theorem dw.set (S:dw hp s d T p)(q:Nat):dw (hp.set d (SD T q)) s d T q :=
 ⟨by rw[List.getElem?_set_ne (Ne.symm S.ne)];exact S.hs,by rw[List.getElem?_set_self S.lt],S.hT,S.hC⟩
theorem su (p:Nat):hW (.int p)=some (some p):=by simp[hW]
theorem bW:hW .none=some none:=rfl
theorem Qt {α:Type}(l:List α)(a:Nat):cut l (some a) (some (a+1))=(l.drop a).take 1:=by
 simp[cut,List.drop_take]
theorem nk (p:Nat):(p:Int)+1=((p+1:Nat):Int):=by apply J3<;>first|assumption|exact rfl
theorem Vx (p:Nat):(p:Int)+2=((p+2:Nat):Int):=by apply J3<;>first|assumption|exact rfl
theorem jm {n:Nat}(h:n≤1000000):okN n=true:=decide_eq_true (Nat.le_trans h (by rw[sizeLine_eq];decide))
theorem gG {m n:Nat}(h:m+n≤1000000):fq m n=true:=decide_eq_true (Nat.le_trans h (by rw[sizeLine_eq];decide))
theorem sx (l:List Nat)(a b:Option Nat)(h:l.length≤1000000):gX hp (.str l) a b=.ok (.str (cut l a b)) hp:=by
 show rI (okN l.length) _=_;rw[jm h];rfl
theorem lj (S:dw hp s d T p):ag N (k+1) (.fix (.ref 235)) [.ref s] hp=.ok (.str ((T.drop p).take 1)) hp:=by
 rw[PU];open_k with[U5,S.text,S.bG,su,nk,sx _ _ _ S.hT,Qt]
noncomputable def runN (g:List Nat):List Nat->Nat
 |[]=>0
 |c::r=>if g.contains c then runN g r+1 else 0
theorem hO (g:List Nat):∀l,runN g l≤l.length
 |[]=>Nat.le_refl _
 |c::r=>by
  have:=hO g r;unfold runN;split
  ·simp;assumption
  ·simp
theorem I4 {l:List Nat}{j c:Nat}(e:l[j]?=some c):l.drop j=c::l.drop (j+1):=by
 refine aQ (List.getElem?_eq_some_iff.mp e) λh aC=>?_;subst aC;exact List.drop_eq_getElem_cons h
theorem I6 {l:List Nat}{j:Nat}(e:l[j]?=none):l.drop j=[]:=List.drop_eq_nil_of_le (List.getElem?_eq_none_iff.mp e)
theorem yh {j:Nat}(h:j≤2000000):dy (j:Int)=true:=by unfold dy big;simp;(apply dh<;>first|assumption|exact rfl)
theorem n7 {j n:Nat}(h:j<n)(hn:j≤2000000):tA (j:Int) n=some j:=by
 unfold tA;rw[yh hn];show PySem.seqIndex? (j:Int) n=_;have h0:¬(j:Int)<0:=by apply zR<;>first|assumption|exact rfl
 unfold PySem.seqIndex?;rw[if_neg h0];exact(if_pos (Bool.and_eq_true_iff.mpr ⟨decide_eq_true (by apply Int.natCast_nonneg<;>first|assumption|exact rfl),decide_eq_true (by apply J2<;>first|assumption|exact rfl)⟩)).trans (congrArg some (Int.toNat_natCast j))
theorem fA (b:String){g:Fn}(e:builtins.lookup b=some g)(vs:List V)(hp:HP):ag N (k+1) (.fix (.builtin b)) vs hp=g vs hp:=by
 show(match builtins.lookup b with|some g=>g vs hp|none=>.bad)=_
 rw[e]
theorem wW (b:String){g:Fn}(e:types.lookup b=some g)(vs:List V)(hp:HP):ag N (k+1) (.fix (.type b)) vs hp=g vs hp:=by
 show(match types.lookup b with|some g=>g vs hp|none=>.bad)=_
 rw[e]
theorem len_str (l:List Nat)(hl:l.length≤1000000):ag N (k+1) (bi "len") [.str l] hp=.ok (.int l.length) hp:=by
 rw[show bi "len"=.fix (.builtin "len")from rfl,fA (g:=uo) "len" rfl];exact eA (jm hl)
theorem in_str (c:Nat)(g:List Nat):qf hp (.str [c]) (.str g)=some (g.contains c):=rfl
theorem DC (l:List Nat){j c:Nat}(e:l[j]?=some c)(hl:l.length≤1000000):bh hp (.str l) (.int j)=some (.str [c]):=by
 have h:=(List.getElem?_eq_some_iff.mp e).1;show oB (tA j l.length) _=_;rw[n7 h (by omega)];show Option.map _ l[j]?=_;rw[e];rfl
abbrev Be (c:Ca):Tx:=(aS true [(ai (aa 3) [(.lt,(aD c (xC (bi "len")) [(aH (aa 0) .text)]))]),(ai (aq (aH (aa 0) .text) (aa 3)) [(.jK,(aa 1))])])
theorem Mh (S:dw hp s d T p)(g:List Nat)(b:V):∀(M j:Nat),runN g (T.drop j)<M->j≤T.length ->
  dH (Be (ag N (k+1))) (aF [(aR 3 (bw .Add (aa 3) (xC (.int 1))))]) M [some (.ref s),some (.str g),some b,some (.int j)] hp=.ok (.next,[some (.ref s),some (.str g),some b,some (.int (j+runN g (T.drop j):Nat))]) hp:=by
 intro M
 induction M with
 |zero=>exact λj h=>absurd h (Nat.not_lt_zero _)
 |succ M ih =>
  intro j h hj;have hT:=S.hT;rw[jU];cases e:T[j]? with
  |none =>
   have hl:T.length≤j:=List.getElem?_eq_none_iff.mp e;have e1:decide ((j:Int)<(T.length:Int))=false:=decide_eq_false (Int.not_lt.mpr (Int.ofNat_le.mpr hl));rw[I6 e];open_k with[Be,S.text,len_str T hT,e1,runN,Nat.add_zero]
  |some c =>
   have hl:j<T.length:=(List.getElem?_eq_some_iff.mp e).1;have e1:decide ((j:Int)<(T.length:Int))=true:=decide_eq_true (Int.ofNat_lt.mpr hl);have ed:=I4 e;rw[ed];rw[ed]at h;unfold runN at h ⊢;by_cases hc:g.contains c=true
   ·rw[if_pos hc]at h;have ih:=ih (j+1) (Nat.lt_of_succ_lt_succ h) hl;open_k with[Be,S.text,len_str T hT,e1,DC T e hT,in_str,hc,nk];rw[ih];have e3:j+1+runN g (List.drop (j+1) T)=j+(runN g (List.drop (j+1) T)+1):=Nat.add_right_comm j 1 _;rw[e3]
   ·have pY:g.contains c=false:=by simpa using hc
    open_k with[Be,S.text,len_str T hT,e1,DC T e hT,in_str,pY,Nat.add_zero]
theorem vF (S:dw hp s d T p)(g:List Nat)(hp':p≤T.length)(hN:T.length<N):ag N (k+2) (.fix (.ref 249)) [.ref s,.str g] hp =
  .ok (.str ((T.drop p).take (runN g (T.drop p)))) (hp.set d (SD T (p+runN g (T.drop p)))):=by
 have hr:=hO g (T.drop p);rw[List.length_drop]at hr;have lp:=Mh (N:=N) (k:=k) S g (.int p) N p (by apply WX<;>first|assumption|exact rfl) hp';rw[PW];have S':=S.set (p+runN g (T.drop p));open_k with[U7,S.bG];simp only[Be]at lp;rw[lp];open_k with[S.put,S'.text,su,sx _ _ _ S.hT]
 have:cut T (some p) (some (p+runN g (T.drop p)))=(T.drop p).take (runN g (T.drop p)):=by
  simp only[cut,Option.getD_some];rw[List.drop_take];congr 1
  (apply yy<;>first|assumption|exact rfl)
 rw[this]
abbrev BL:List Nat:=af " \t\x0d\n"
inductive jX:Nat->List Nat->Nat->Prop
 |stop (l:List Nat) (h:(l.drop (runN BL l)).head?≠some 37):jX 0 l (runN BL l)
 |rem {m:Nat} (l u v:List Nat) (n:Nat) (e:l.drop (runN BL l)=37::(u++10::v)) (hu:10∉u) (h:jX m (10::v) n):jX (m+1) l (runN BL l+(u.length+1)+n)
theorem DE (c:Nat):∀(x y:List Nat) (k:Nat),c∉x->findAt c (x++c::y) k=some (k+x.length)
 |[],y,k,_=>by simp[findAt]
 |a::x,y,k,h=>by
  have h1:¬a=c:=λq=>h (by simp[q]);have h2:c∉x:=λq=>h (by simp[q]);simp only[List.cons_append,findAt,if_neg h1,DE c x y (k+1) h2,List.length_cons];congr 1;(apply Nat.add_right_comm<;>first|assumption|exact rfl)
theorem sy:af "\n"=[10]:=by decide
theorem Gu:af "%"=[37]:=by decide
theorem kA {T:List Nat}(h:aT T=true)(a b:Nat):aT ((T.drop a).take b)=true:=wV h λx hx=>List.mem_of_mem_drop (List.mem_of_mem_take hx)
theorem WN (T:List Nat):dM hp (.str T) .find=some (bi "str.find"):=rfl
theorem Vy (T:List Nat)(p e:Nat)(h:findAt 10 (T.drop p) p=some e):ag N (k+1) (bi "str.find") [.str T,.str [10],.int p] hp=.ok (.int e) hp:=by
 rw[show bi "str.find"=.fix (.builtin "str.find")from rfl,fA (g:=zT) "str.find" rfl];have h0:(0:Int)≤(p:Int):=by apply Int.natCast_nonneg<;>first|assumption|exact rfl
 refine(eA (decide_eq_true h0)).trans ?_
 have:uq 10 T p=(e:Int):=by
  unfold uq;rw[Int.toNat_natCast,h]
 exact congrArg (λi=>R.ok (V.int i) hp) this
abbrev I9 (c:Ca):Tx:=(ai (ax c (aa 0) .sign []) [(.eq,(xS "%"))])
abbrev NV (c:Ca):List Sx:=[(aR 1 (ax c (aH (aa 0) .text) .find [(xS "\n"),(aH (aa 0) .bG)])),
 (cH (aa 0) .bG (ig (ai (aa 1) [(.ge,(xC (.int 0)))]) (aa 1) (aD c (xC (bi "len")) [(aH (aa 0) .text)]))),
 (bo (ax c (aa 0) .jJ [(xS " \t\x0d\n")]))]
theorem dw.ms (S:dw hp s d T p):dM hp (.ref s) .sign=some (.fix (.ref 235)):=S.obj.bA rfl rfl
theorem dw.mr (S:dw hp s d T p):dM hp (.ref s) .jJ=some (.fix (.ref 249)):=S.obj.bA rfl rfl
theorem JZ {l:List Nat}:l.take 1=match l.head? with|some c=>[c]|none=>[]:=by cases l<;>rfl
theorem dp {P:Nat->Prop}{n:Nat}(h:∀i,i<n->P i)(hn:P n)(i:Nat)(hi:i<n+1):P i:=(Nat.lt_succ_iff_lt_or_eq.mp hi).elim (h i) λe=>e▸hn
theorem vG {P:Nat->Prop}(i:Nat)(hi:i<0):P i:=absurd hi (Nat.not_lt_zero i)
theorem Gv {P:Nat->Prop}(h0:P 0)(h1:P 1)(h2:P 2)(i:Nat)(hi:i<3):P i:=dp (dp (dp (vG) h0) h1) h2 i hi
theorem aaR {P:Nat->Prop}(h0:P 0)(h1:P 1)(h2:P 2)(h3:P 3)(i:Nat)(hi:i<4):P i:=dp (dp (dp (dp (vG) h0) h1) h2) h3 i hi
theorem aaS {P:Nat->Prop}(h0:P 0)(h1:P 1)(h2:P 2)(h3:P 3)(h4:P 4)(i:Nat)(hi:i<5):P i:=dp (dp (dp (dp (dp (vG) h0) h1) h2) h3) h4 i hi
theorem Mi {P:Nat->Prop}(h0:P 0)(h1:P 1)(h2:P 2)(h3:P 3)(h4:P 4)(h5:P 5)(h6:P 6)(i:Nat)(hi:i<7):P i:=dp (dp (dp (dp (dp (dp (dp (vG) h0) h1) h2) h3) h4) h5) h6 i hi
theorem Vz {P:Nat->Prop}(h0:P 0)(h1:P 1)(h2:P 2)(h3:P 3)(h4:P 4)(h5:P 5)(h6:P 6)(h7:P 7)(i:Nat)(hi:i<8):P i:=dp (dp (dp (dp (dp (dp (dp (dp (vG) h0) h1) h2) h3) h4) h5) h6) h7 i hi
theorem n8 {m M:Nat}(h:m<M):∃k,M=k+1:=⟨M - 1,(Nat.sub_add_cancel (Nat.lt_of_le_of_lt (Nat.zero_le _) h)).symm⟩
theorem Mj (a b c d:Nat):a+b+c+d=a+(b+c+d):=by rw[Nat.add_assoc a b,Nat.add_assoc a]
theorem Qu {T:List Nat}{q:Nat}{g r:List Nat}{c:Nat}(e:T.drop q=c::r):q+runN g (c::r)≤T.length:=by
 have h:=congrArg List.length e;rw[List.length_drop]at h;have:=hO g (c::r);rw[List.length_cons]at h this;omega
theorem Ja (hN:T.length<N):∀{m:Nat} {l:List Nat} {n:Nat},jX m l n->∀{hp:HP} {p M:Nat} {x:Option V},dw hp s d T p->p+runN BL l≤T.length->T.drop p=l->m<M ->
  ∃y,dH (I9 (ag N (k+2))) (aF (NV (ag N (k+2)))) M [some (.ref s),x] (hp.set d (SD T (p+runN BL l)))=.ok (.next,[some (.ref s),y]) (hp.set d (SD T (p+n))):=by
 intro m l n h
 induction h with
 |stop l h =>
  intro hp p M x S hl e hM;refine aQ (n8 hM) λM rz=>?_;subst rz;have S':=S.set (p+runN BL l)
  have hs:(T.drop (p+runN BL l)).take 1=match (l.drop (runN BL l)).head? with|some c=>[c]|none=>[]:=by
   rw[<- e,List.drop_drop,JZ]
  have hq:((T.drop (p+runN BL l)).take 1==[37])=false:=by
   rw[hs];cases hh:(l.drop (runN BL l)).head? with
   |none=>rfl
   |some c=>rw[hh]at h;simpa using h
  refine⟨x,?_⟩;rw[jU];open_k with[I9,S'.ms,lj S',Gu,aE (kA S.hC _ _) (show aT [37]=true from rfl),hq]
 |rem l u v n e1 hu h Jb =>
  intro hp p M x S hl e hM;refine aQ (n8 hM) λM rz=>?_;subst rz;have S':=S.set (p+runN BL l);have e2:T.drop (p+runN BL l)=37::(u++10::v):=by rw[<- List.drop_drop,e,e1]
  have hq:((T.drop (p+runN BL l)).take 1==[37])=true:=by rw[e2];rfl
  have hf:findAt 10 (T.drop (p+runN BL l)) (p+runN BL l)=some (p+runN BL l+(u.length+1)):=by
   rw[e2];have:=DE 10 (37::u) v (p+runN BL l) (by simp[hu])
   simpa using this
  have hg:decide ((0:Int)≤((p+runN BL l+(u.length+1):Nat):Int))=true:=decide_eq_true (Int.natCast_nonneg _);have S2:=S'.set (p+runN BL l+(u.length+1));rw[List.set_set]at S2
  have e3:T.drop (p+runN BL l+(u.length+1))=10::v:=by
   rw[<- List.drop_drop,e2];simp
  have l4:=Qu (g:=BL) e3;have l3:=Nat.le_trans (Nat.le_add_right _ _) l4;have rc:=vF (k:=k) (N:=N) S2 BL l3 hN;rw[e3]at rc;refine aQ (Jb (M:=M) (x:=some (.int (p+runN BL l+(u.length+1):Nat))) S2 l4 e3 (Nat.lt_of_succ_lt_succ hM)) λy ih=>?_;refine⟨y,?_⟩;rw[jU];simp only[List.set_set]at rc ih;open_k with[I9,NV,S'.ms,lj S',Gu,aE (kA S.hC _ _) (show aT [37]=true from rfl),hq,S'.text,S'.bG,WN,sy,Vy _ _ _ hf,hg,S'.put,List.set_set,S2.mr,rc];simp only[I9,NV,Gu,sy]at ih;rw[ih];rw[Mj]
theorem VA (S:dw hp s d T p){m n:Nat}(h:jX m (T.drop p) n)(hp':p≤T.length)(hN:T.length<N)(hm:m<N):ag N (k+3) (.fix (.ref 242)) [.ref s] hp=.ok .none (hp.set d (SD T (p+n))):=by
 have hr:=hO BL (T.drop p);rw[List.length_drop]at hr;have rc:=vF (k:=k) (N:=N) S BL hp' hN;refine aQ (Ja (k:=k) hN h (x:=none) (M:=N) S (by apply MY<;>first|assumption|exact rfl) rfl hm) λy lp=>?_;rw[PV];open_k with[U6,S.mr,rc];simp only[I9,NV]at lp;rw[lp];open_k with[nj]
abbrev DG:List Nat:=af "0123456789"
abbrev LT:List Nat:=af "abcdefghijklmnopqrstuvwxyzABCDEFGHIJKLMNOPQRSTUVWXYZ_"
abbrev SG:List Nat:=af "()[]{},;:"
inductive Tok where
 |fin
 |text (l:List Nat)
 |number (i:Int)
 |word (l:List Nat)
 |sign (l:List Nat)
def Tok.v (t:Tok)(p:Nat):V:=match t with
 |.fin=>.tup [.str (af "end"),.str (af ""),.int p]
 |.text l=>.tup [.str (af "text"),.str l,.int p]
 |.number i=>.tup [.str (af "number"),.int i,.int p]
 |.word l=>.tup [.str (af "word"),.str l,.int p]
 |.sign l=>.tup [.str (af "sign"),.str l,.int p]
inductive je:List Nat->Tok->Nat->Prop
 |fin:je [] .fin 0
 |word (c:Nat) (r:List Nat) (h:LT.contains c=true) (n:Nat) (e:n=runN (LT++DG) (c::r)):je (c::r) (.word ((c::r).take n)) n
 |num (c:Nat) (r:List Nat) (h:DG.contains c=true) (n:Nat) (e:n=runN DG (c::r)) (hn:n≤640) (i:Int) (hi:PySem.intText? (S ((c::r).take n))=some i):je (c::r) (.number i) n
 |neg (r:List Nat) (n:Nat) (e:n=runN DG r) (h0:0<n) (hn:n≤640) (i:Int) (hi:PySem.intText? (S (r.take n))=some i):je (45::r) (.number (-i)) (n+1)
 |text (w r:List Nat) (h:∀c∈w,c≠34∧c≠10∧c≠92):je (34::(w++34::r)) (.text w) (w.length+2)
 |Gw (r:List Nat):je (46::46::r) (.sign [46,46]) 2
 |sign (c:Nat) (r:List Nat) (h:SG.contains c=true):je (c::r) (.sign [c]) 1
theorem Bf:∀c,DG.contains c=true->(c==34)=false∧(c==45)=false:=by
 have:(DG.all λc=>!(c==34)&&!(c==45))=true:=by decide
 intro c h;have:=List.all_eq_true.mp this c (by simpa using h)
 simpa using this
theorem Mk:∀c,LT.contains c=true->(c==34)=false∧(c==45)=false∧DG.contains c=false:=by
 have:(LT.all λc=>!(c==34)&&!(c==45)&&!DG.contains c)=true:=by decide
 intro c h;have:=List.all_eq_true.mp this c (by simpa using h);simp only[Bool.and_eq_true,Bool.not_eq_true']at this;exact⟨this.1.1,this.1.2,this.2⟩
theorem Ml:∀c,SG.contains c=true->(c==34)=false∧(c==45)=false∧DG.contains c=false∧LT.contains c=false∧(c==46)=false:=by
 have:(SG.all λc=>!(c==34)&&!(c==45)&&!DG.contains c&&!LT.contains c&&!(c==46))=true:=by decide
 intro c h;have:=List.all_eq_true.mp this c (by simpa using h);simp only[Bool.and_eq_true,Bool.not_eq_true']at this;exact⟨this.1.1.1.1,this.1.1.1.2,this.1.1.2,this.1.2,this.2⟩
theorem dw.mn (S:dw hp s d T p):dM hp (.ref s) .number=some (.fix (.ref 263)):=S.obj.bA rfl rfl
theorem dw.mq (S:dw hp s d T p):dM hp (.ref s) .kS=some (.fix (.ref 256)):=S.obj.bA rfl rfl
theorem dw.msk (S:dw hp s d T p):dM hp (.ref s) .skip=some (.fix (.ref 242)):=S.obj.bA rfl rfl
theorem dw.mt (S:dw hp s d T p):dM hp (.ref s) .token=some (.fix (.ref 270)):=S.obj.bA rfl rfl
theorem mB (a b:Nat):(([a]:List Nat)==[b])=(a==b):=by simp
theorem nq:af "\""=[34]:=by decide
theorem qR:af "-"=[45]:=by decide
theorem fu:af ""=[]:=by decide
theorem NW:af "\\"=[92]:=by decide
theorem NX:af ".."=[46,46]:=by decide
theorem NY (l:List Nat)(h:l.length≤640)(i:Int)(e:PySem.intText? (S l)=some i):ag N (k+1) (.fix (.type "int")) [.str l] hp=.ok (.int i) hp:=by
 rw[wW (g:=EE) "int" rfl];refine(eA (decide_eq_true h)).trans ?_;rw[e];rfl
theorem VB {c:Nat}{r:List Nat}(h:aT (c::r)=true):aT [c]=true:=wV h (by simp)
theorem Qv {g:List Nat}{c:Nat}{r:List Nat}(h:g.contains c=true):runN g (c::r)=runN g r+1:=by
 show(if g.contains c=true then runN g r+1 else 0)=_
 rw[if_pos h]
theorem DF {c:Nat}{r:List Nat}{n:Nat}:((c::r).take (n+1)==([]:List Nat))=false:=rfl
theorem Bg {l:List Nat}{n:Nat}(h:n≤l.length):(l.take n).length=n:=by simp;(apply Z1<;>first|assumption|exact rfl)
theorem wX {c:Nat}{r:List Nat}(e:T.drop p=c::r):p<T.length:=by
 have:=congrArg List.length e;simp at this;(apply Hk<;>first|assumption|exact rfl)
theorem yi {c:Nat}{r:List Nat}(e:T.drop p=c::r):T.drop (p+1)=r:=by rw[<- List.drop_drop,e];rfl
theorem Mm (S:dw hp s d T p){c:Nat}{r:List Nat}(e:T.drop p=c::r)(h:DG.contains c=true){n:Nat}(hn:n=runN DG (c::r))(h64:n≤640){i:Int}(hi:PySem.intText? (Internal.S ((c::r).take n))=some i)(hN:T.length<N) :
  ag N (k+3) (.fix (.ref 263)) [.ref s] hp=.ok (.int i) (hp.set d (SD T (p+n))):=by
 have hl:=wX e;have rc:=vF (k:=k) (N:=N) S DG (by apply Nat.le_of_lt<;>first|with_reducible assumption|exact rfl) hN;have hc:=(Bf c h).2;have hle:=hO DG (c::r);rw[e,<- hn]at rc;obtain⟨n',rfl⟩:∃n',n=n'+1:=⟨runN DG r,by rw[hn,Qv h]⟩;have hlen:((c::r).take (n'+1)).length=n'+1:=Bg (by rw[hn];exact hle);have VC:aT ((c::r).take (n'+1))=true:=by rw[<- e];exact kA S.hC _ _
 have hd:decide ((1000:Int)<((n'+1:Nat):Int))=false:=decide_eq_false (by omega);have hs:(T.drop p).take 1=[c]:=by rw[e];rfl
 rw[Dr];open_k with[LZ,S.bG,S.ms,lj S,hs,qR,aE (VB (by rw[Eq.symm e];exact kA S.hC p T.length|>λh=>by rw[List.take_of_length_le (by simp)]at h;exact h)) (show aT [45]=true from rfl),mB,hc,S.mr,rc,fu,aE VC (show aT []=true from rfl),DF,len_str _ (show((c::r).take (n'+1)).length≤1000000 by apply l8<;>first|with_reducible assumption|exact rfl),hlen,hd,NY _ (show((c::r).take (n'+1)).length≤640 by apply l8<;>first|with_reducible assumption|exact rfl) _ hi]
theorem Mn (S:dw hp s d T p){r:List Nat}(e:T.drop p=45::r){n:Nat}(hn:n=runN DG r)(h0:0<n)(h64:n≤640){i:Int}(hi:PySem.intText? (Internal.S (r.take n))=some i)(hN:T.length<N) :
  ag N (k+3) (.fix (.ref 263)) [.ref s] hp=.ok (.int (-i)) (hp.set d (SD T (p+(n+1)))):=by
 have hl:=wX e;have S1:=S.set (p+1);have rc:=vF (k:=k) (N:=N) S1 DG hl hN;have e1:=yi e;have hle:=hO DG r;rw[e1,<- hn,List.set_set]at rc;obtain⟨n',rfl⟩:∃n',n=n'+1:=⟨n - 1,(Nat.sub_add_cancel h0).symm⟩;cases r with
 |nil=>simp[runN]at hn
 |cons c r =>
 have hlen:((c::r).take (n'+1)).length=n'+1:=Bg (by rw[hn];exact hle);have VC:aT ((c::r).take (n'+1))=true:=by rw[<- e1];exact kA S.hC _ _
 have hd:decide ((1000:Int)<((n'+1:Nat):Int))=false:=decide_eq_false (by omega);have hs:(T.drop p).take 1=[45]:=by rw[e];rfl
 have ay:p+1+(n'+1)=p+(n'+1+1):=by apply Nat.add_right_comm<;>first|with_reducible assumption|exact rfl
 rw[ay]at rc;rw[Dr];open_k with[LZ,S.bG,S.ms,lj S,hs,qR,aE (show aT [45]=true from rfl) (show aT [45]=true from rfl),mB,S.mr,S1.mr,nk,S.put,rc,fu,aE VC (show aT []=true from rfl),DF,len_str _ (show((c::r).take (n'+1)).length≤1000000 by apply l8<;>first|with_reducible assumption|exact rfl),hlen,hd,NY _ (show((c::r).take (n'+1)).length≤640 by apply l8<;>first|with_reducible assumption|exact rfl) _ hi]
theorem vH:∀l:List (List Nat),PyData.depthAll (l.map λx=>PyData.str (S x))=0
 |[]=>rfl
 |x::l=>by simp[PyData.depthAll,PyData.depth,vH l]
theorem Bh:∀l:List (List Nat),l.all aT=true->PyData.canLayAll0 (l.map λx=>PyData.str (S x))=true
 |[],_=>rfl
 |x::l,h=>by
  simp only[List.all_cons,Bool.and_eq_true]at h
  have h1:(PyData.str (S x)).canLay0=true:=by
   have:=lQ h.1;unfold SeqAt.shaped at this;exact(Bool.and_eq_true_iff.mp this).1
  simp[PyData.canLayAll0,h1,Bh l h.2]
theorem yj:∀l:List (List Nat),fP (l.map V.str)=some (l.map λx=>PyData.str (S x))
 |[]=>by simp[fP]
 |x::l=>by simp[fP,g0,yj l]
theorem jn {l:List (List Nat)}(h:l.all aT=true):SeqAt.shaped (.tuple (l.map λx=>PyData.str (S x)))=true:=by
 simp[SeqAt.shaped,PyData.canLay0,Bh l h,PyData.depth,vH]
theorem wY {l:List (List Nat)}{x:List Nat}(hl:l.all aT=true)(hx:aT x=true):qf hp (.str x) (.tup (l.map V.str))=some (l.any λy=>y==x):=by
 have h1:(List.any (l.map λx=>PyData.str (S x)) λy=>PyData.eqv y (PyData.str (S x)))=l.any λy=>y==x:=by
  rw[List.any_map];congr 1;funext y;simp only[Function.comp,n6,vC]
 refine(cz (yj l)).trans ((cz (by unfold g0;rfl)).trans ?_);unfold Hp;rw[jn hl,lQ hx,h1];rfl
theorem jY {a b x:List Nat}(ha:aT a=true)(hb:aT b=true)(hx:aT x=true):qf hp (.str x) (.tup [.str a,.str b])=some (a==x||b==x):=by
 have:=wY (hp:=hp) (l:=[a,b]) (x:=x) (by simp[ha,hb]) hx
 simpa using this
theorem VE {a b c x:List Nat}(ha:aT a=true)(hb:aT b=true)(hc:aT c=true)(hx:aT x=true):qf hp (.str x) (.tup [.str a,.str b,.str c])=some (a==x||(b==x||c==x)):=by
 have:=wY (hp:=hp) (l:=[a,b,c]) (x:=x) (by simp[ha,hb,hc]) hx
 simpa using this
noncomputable def il (w:List Nat):List V:=w.map λc=>.str [c]
noncomputable abbrev QH (hp:HP) (d:Nat) (T:List Nat) (x:List V) (q:Nat):HP:=(hp++[O.list x]).set d (SD T q)
theorem vI (S:dw hp s d T p)(x:List V)(q:Nat):dw (QH hp d T x q) s d T q:=by
 have hs:s<hp.length:=(List.getElem?_eq_some_iff.mp S.hs).1;refine⟨?_,?_,S.hT,S.hC⟩
 ·rw[List.getElem?_set_ne (Ne.symm S.ne),List.getElem?_append_left hs];exact S.hs
 ·rw[List.getElem?_set_self (by simp;exact Nat.lt_succ_of_lt S.lt)]
theorem Gx (S:dw hp s d T p)(x:List V)(q:Nat):(QH hp d T x q)[hp.length]?=some (.list x):=by
 rw[List.getElem?_set_ne (Nat.ne_of_lt S.lt)];simp
theorem XO (S:dw hp s d T p)(x y:List V)(q:Nat):(QH hp d T x q).set hp.length (.list y)=QH hp d T y q:=by
 rw[List.set_comm _ _ (Nat.ne_of_lt S.lt)];simp
theorem iY {m:Nat}{x:List V}(h:hp[m]?=some (.list x))(hx:x.length≤1000000)(v:V):ag N (k+1) (bi "list.append") [.ref m,v] hp=.ok .none (hp.set m (.list (x++[v]))):=by
 rw[show bi "list.append"=.fix (.builtin "list.append")from rfl,fA (g:=tG) "list.append" rfl];exact(gk (c9 h)).trans (eA (jm hx))
theorem iZ {m:Nat}{x:List V}(h:hp[m]?=some (.list x)):dM hp (.ref m) .append=some (bi "list.append"):=cz h
theorem Bi:∀w:List Nat,um (il w)=some w
 |[]=>rfl
 |c::w=>by
  have:=Bi w;exact(cz this)
theorem VF {m:Nat}{w:List Nat}(h:hp[m]?=some (.list (il w)))(hw:w.length≤1000000):ag N (k+1) (bi "str.join") [.str [],.ref m] hp=.ok (.str w) hp:=by
 rw[show bi "str.join"=.fix (.builtin "str.join")from rfl,fA (g:=zU) "str.join" rfl];exact(gk (c9 h)).trans ((gk (Bi w)).trans (eA (jm hw)))
theorem VG (l:List Nat):dM hp (.str l) .join=some (bi "str.join"):=rfl
abbrev Jc (c:Ca):Tx:=(ai (ax c (aa 0) .sign []) [(.gh,(ao [(xS ""),(xS "\n"),(xS "\"")]))])
abbrev NZ (c:Ca):List Sx:=[(aR 3 (ax c (aa 0) .sign [])),
 (bc (ai (aa 3) [(.eq,(xS "\\"))]) [(cH (aa 0) .bG (bw .Add (aH (aa 0) .bG) (xC (.int 1)))),
 (bc (ai (ax c (aa 0) .sign []) [(.gh,(ao [(xS "n"),(xS "\""),(xS "\\")]))]) [(c7 (xS "a backslash stands ahead of n, a quote or a backslash") (bw .Sub (aH (aa 0) .bG) (xC (.int 1))))] []),
 (aR 3 (ig (ai (ax c (aa 0) .sign []) [(.eq,(xS "n"))]) (xS "\n") (ax c (aa 0) .sign [])))] []),
 (bo (ax c (aa 2) .append [(aa 3)])),
 (cH (aa 0) .bG (bw .Add (aH (aa 0) .bG) (xC (.int 1))))]
theorem Mo {u:List Nat}{c q:Nat}(h:u.length≤q):(u++[c]).length≤q+1:=by rw[List.length_append];exact Nat.succ_le_succ h
theorem Qw {T:List Nat}{q c:Nat}{r:List Nat}(e:T.drop q=c::r):q<T.length:=Nat.lt_of_not_le λh=>List.cons_ne_nil _ _ (e.symm.trans (List.drop_of_length_le h))
theorem Jd (S:dw hp s d T p)(b:V)(r:List Nat):∀(w u:List Nat) (q M:Nat) (x:Option V),(∀c∈w,c≠34∧c≠10∧c≠92)->T.drop q=w++34::r->u.length≤q->w.length<M ->
  ∃y,dH (Jc (ag N (k+1))) (aF (NZ (ag N (k+1)))) M [some (.ref s),some b,some (.ref hp.length),x] (QH hp d T (il u) q)=.ok (.next,[some (.ref s),some b,some (.ref hp.length),y]) (QH hp d T (il (u++w)) (q+w.length)):=by
 intro w
 induction w with
 |nil =>
  intro u q M x hw e hu hM;refine aQ (n8 hM) λM rz=>?_;subst rz;have S1:=vI S (il u) q;have hs:(T.drop q).take 1=[34]:=by rw[e];rfl
  refine⟨x,?_⟩;rw[jU];open_k with[Jc,S1.ms,lj S1,hs,fu,sy,nq,VE (show aT []=true from rfl) (show aT [10]=true from rfl) (show aT [34]=true from rfl) (show aT [34]=true from rfl),List.append_nil,List.length_nil,Nat.add_zero,Bool.or_true]
 |cons c w Jb =>
  intro u q M x hw e hu hM;refine aQ (n8 hM) λM rz=>?_;subst rz;have S1:=vI S (il u) q;have S2:=vI S (il (u++[c])) q;have hs:(T.drop q).take 1=[c]:=by rw[e];rfl
  refine bC λnG=>?_;refine j9 (hw c (.head _)) λh1 h2 h3=>?_
  have i9:aT [c]=true:=by
   have:=kA S.hC q 1;rw[hs]at this;exact this
  have i1:(([]:List Nat)==[c])=false:=rfl;have i2:(([10]:List Nat)==[c])=false:=by simp[Ne.symm h2]
  have i3:(([34]:List Nat)==[c])=false:=by simp[Ne.symm h1]
  have i4:(([c]:List Nat)==[92])=false:=by simp[h3]
  have e2:T.drop (q+1)=w++34::r:=by rw[<- List.drop_drop,e];rfl
  have hlu:(il u).length≤1000000:=Nat.le_trans (Nat.le_of_eq (List.length_map _)) (Nat.le_trans hu (Nat.le_trans (Nat.le_of_lt (Qw e)) S.hT));have hcu:il u++[.str [c]]=il (u++[c]):=(List.map_append (l₂:=[c])).symm;refine aQ (Jb (u++[c]) (q+1) M (some (.str [c])) (λc' h=>hw c' (.tail _ h)) e2 (Mo hu) (Nat.lt_of_succ_lt_succ hM)) λy ih=>?_;refine nG ?_;refine⟨y,?_⟩;rw[jU];simp only[Jc,NZ,fu,sy,nq,NW]at ih;have gQ:∀q',(QH hp d T (il (u++[c])) q).set d (SD T q')=QH hp d T (il (u++[c])) q':=λq'=>List.set_set _;open_k with[Jc,NZ,S1.ms,lj S1,hs,fu,sy,nq,NW,VE (show aT []=true from rfl) (show aT [10]=true from rfl) (show aT [34]=true from rfl) i9,i1,i2,i3,Bool.or_self,aE i9 (show aT [92]=true from rfl),i4,iZ (Gx S (il u) q),iY (Gx S (il u) q) hlu,XO S,hcu,S2.bG,S2.put,nk,gQ];rw[ih];have e3:q+1+w.length=q+(c::w).length:=Nat.add_right_comm q 1 _;have e4:u++[c]++w=u++c::w:=List.append_assoc _ _ _;rw[e3,e4]
theorem VH (S:dw hp s d T p){w r:List Nat}(e:T.drop p=34::(w++34::r))(hw:∀c∈w,c≠34∧c≠10∧c≠92)(hN:T.length<N) :
  ag N (k+2) (.fix (.ref 256)) [.ref s] hp=.ok (.str w) (QH hp d T (il w) (p+(w.length+2))):=by
 have hl:=wX e;have hlen:=congrArg List.length e;simp at hlen;have e1:=yi e;have hT:=S.hT;refine aQ (Jd (k:=k) (N:=N) S (.int p) r w [] (p+1) N none hw e1 (by simp) (by omega)) λy lp=>?_;have S0:dw (hp++[O.list []]) s d T p:=⟨by rw[List.getElem?_append_left (List.getElem?_eq_some_iff.mp S.hs).1];exact S.hs,by rw[List.getElem?_append_left S.lt];exact S.hd,S.hT,S.hC⟩;have S1:=vI S (il w) (p+1+w.length);have S2:=vI S (il w) (p+(w.length+2));have e2:T.drop (p+1+w.length)=34::r:=by rw[<- List.drop_drop,e1];simp
 have hs:(T.drop (p+1+w.length)).take 1=[34]:=by rw[e2];rfl
 have gQ:∀q',(QH hp d T (il w) (p+1+w.length)).set d (SD T q')=QH hp d T (il w) q':=λq'=>List.set_set _;have e3:p+1+w.length+1=p+(w.length+2):=by apply Z4<;>first|assumption|exact rfl
 have hz:(([34]:List Nat)==[34])=true:=rfl;rw[PY];open_k with[U8,S.bG,S0.put,S0.bG,nk];simp only[Jc,NZ,List.nil_append]at lp;rw[show((hp++[O.list []]).set d (SD T (p+1)))=QH hp d T (il []) (p+1)from rfl,lp];open_k with[S1.ms,lj S1,hs,nq,lR (show aT [34]=true from rfl) (show aT [34]=true from rfl),hz,S1.bG,nk,S1.put,gQ,e3,fu,VG,VF (Gx S (il w) (p+(w.length+2))) (by omega)]
noncomputable def Tok.g:Tok->List O
 |.text w=>[.list (il w)]
 |_=>[]
theorem sC (hp:HP)(a b:List Nat)(h:a.length+b.length≤1000000):jw .Add (.str a) (.str b) hp=.ok (.str (a++b)) hp:=by
 exact eA (gG h)
theorem Je:(([]:List Nat)==[])=true:=rfl
theorem DH (S:dw hp s d T p){m n:Nat}(sk:jX m (T.drop p) n)(hl:p+n≤T.length)(hN:T.length<N)(hm:m<N){t:Tok}{q:Nat}{l:List Nat}(el:T.drop (p+n)=l)(lx:je l t q) :
  ag N (k+4) (.fix (.ref 270)) [.ref s] hp=.ok (t.v (p+n)) ((hp++t.g).set d (SD T (p+n+q))):=by
 have S2:=S.set (p+n);have skc:=VA (k:=k) S sk (by apply l9<;>first|assumption|exact rfl) hN hm;have gQ:∀q',(hp.set d (SD T (p+n))).set d (SD T q')=hp.set d (SD T q'):=λq'=>List.set_set _
 have wZ:∀{c r},T.drop (p+n)=c::r->aT [c]=true∧(T.drop (p+n)).take 1=[c]:=λ{c r} e=>by
  have:=kA S.hC (p+n) 1;rw[e]at this ⊢;exact⟨this,rfl⟩
 rw[PZ];open_k with[U9,S.msk,skc,S2.bG,S2.ms,lj S2];cases lx with
 |fin =>
  have hs:(T.drop (p+n)).take 1=[]:=by rw[el];rfl
  open_k with[hs,fu,aE (show aT []=true from rfl) (show aT []=true from rfl),Je,Tok.v,Tok.g,List.append_nil,Nat.add_zero]
 |word c r h _ e =>
  refine bC λnG=>?_;refine bp (wZ el) λho hs=>?_;refine j9 (Mk c h) λf1 f2 f3=>?_;refine nG ?_;have rc:=vF (k:=k+1) (N:=N) S2 (LT++DG) hl hN;rw[gQ,el,<- e]at rc;open_k with[hs,fu,nq,qR,aE ho (show aT []=true from rfl),aE ho (show aT [34]=true from rfl),aE ho (show aT [45]=true from rfl),mB,f1,f2,f3,in_str,h,show([c]==([]:List Nat))=false from rfl,S2.mr,sC _ LT DG (by decide),rc,Tok.v,Tok.g,List.append_nil]
 |num c r h _ e hn i hi =>
  refine bC λnG=>?_;refine bp (wZ el) λho hs=>?_;refine bp (Bf c h) λf1 f2=>?_;refine nG ?_;have nc:=Mm (k:=k) (N:=N) S2 el h e hn hi hN;rw[gQ]at nc;open_k with[hs,fu,nq,qR,aE ho (show aT []=true from rfl),aE ho (show aT [34]=true from rfl),aE ho (show aT [45]=true from rfl),mB,f1,f2,in_str,h,show([c]==([]:List Nat))=false from rfl,S2.mn,nc,Tok.v,Tok.g,List.append_nil]
 |neg r n' e h0 hn i hi =>
  refine bp (wZ el) λho hs=>?_;have nc:=Mn (k:=k) (N:=N) S2 el e h0 hn hi hN;rw[gQ]at nc;open_k with[hs,fu,nq,qR,aE ho (show aT []=true from rfl),aE ho (show aT [34]=true from rfl),aE ho (show aT [45]=true from rfl),show([45]==([]:List Nat))=false from rfl,show([45]==([34]:List Nat))=false from rfl,show([45]==([45]:List Nat))=true from rfl,S2.mn,nc,Tok.v,Tok.g,List.append_nil]
 |text w r h =>
  refine bp (wZ el) λho hs=>?_;have qc:=VH (k:=k+1) (N:=N) S2 el h hN
  have hq:QH (hp.set d (SD T (p+n))) d T (il w) (p+n+(w.length+2))=(hp++[O.list (il w)]).set d (SD T (p+n+(w.length+2))):=by
   unfold QH;rw[List.set_append_left _ _ (by simpa using S.lt),gQ,<- List.set_append_left _ _ S.lt]
  rw[hq]at qc;open_k with[hs,fu,nq,qR,aE ho (show aT []=true from rfl),aE ho (show aT [34]=true from rfl),show([34]==([]:List Nat))=false from rfl,show([34]==([34]:List Nat))=true from rfl,S2.mq,qc,Tok.v,Tok.g]
 |Gw r =>
  refine bp (wZ el) λho hs=>?_
  have uR:cut T (some (p+n)) (some (p+n+2))=[46,46]:=by
   simp only[cut,Option.getD_some];rw[List.drop_take,el];have:p+n+2 - (p+n)=2:=by apply yy<;>first|assumption|exact rfl
   rw[this];rfl
  open_k with[hs,fu,nq,qR,NX,aE ho (show aT []=true from rfl),aE ho (show aT [34]=true from rfl),aE ho (show aT [45]=true from rfl),show([46]==([]:List Nat))=false from rfl,show([46]==([34]:List Nat))=false from rfl,show([46]==([45]:List Nat))=false from rfl,in_str,show DG.contains 46=false from by decide,show LT.contains 46=false from by decide,S2.text,su,Vx,sx _ _ _ S.hT,uR,aE (show aT [46,46]=true from rfl) (show aT [46,46]=true from rfl),show([46,46]==([46,46]:List Nat))=true from rfl,S2.put,gQ,Tok.v,Tok.g,List.append_nil]
 |sign c r h =>
  refine bC λnG=>?_;refine bp (wZ el) λho hs=>?_;refine ZQ (Ml c h) λf1 f2 f3 f4 f5=>?_
  have uR:∃y,cut T (some (p+n)) (some (p+n+2))=y∧aT y=true∧(y==[46,46])=false:=by
   refine⟨_,rfl,?_,?_⟩
   ·simp only[cut,Option.getD_some];exact wV S.hC λx hx=>List.mem_of_mem_take (List.mem_of_mem_drop hx)
   ·simp only[cut,Option.getD_some];rw[List.drop_take,el];have:p+n+2 - (p+n)=2:=by apply yy<;>first|assumption|exact rfl
    rw[this];have:c≠46:=by simpa using f5
    cases r<;>simp[this]
  refine dP uR λy hy hyo hyd=>?_;refine nG ?_;open_k with[hs,fu,nq,qR,NX,aE ho (show aT []=true from rfl),aE ho (show aT [34]=true from rfl),aE ho (show aT [45]=true from rfl),mB,f1,f2,f3,f4,show([c]==([]:List Nat))=false from rfl,in_str,h,S2.text,su,nk,Vx,sx _ _ _ S.hT,hy,aE hyo (show aT [46,46]=true from rfl),hyd,S2.put,gQ,Tok.v,Tok.g,List.append_nil]
end
section
structure RS where
 T:List Nat
 p:Nat
 a:List V
 vs:List V
 ts:List V
 goal:List V
 shown:List V
 qs:List V
 gs:Int
 ss:Int
noncomputable abbrev DI (n:Nat) (x:RS):O:=.dict [(.bM,.ref (n+2)),(.ahead,.tup x.a),(.flat,.ref (n+4)),(.eM,.ref (n+8)),(.b9,.int x.gs),(.bZ,.int x.ss)]
noncomputable abbrev Jf (n:Nat) (x:RS):O:=.dict [(.vars,.ref (n+6)),(.bY,.ref (n+7)),(.goal,.tup x.goal),(.shown,.tup x.shown)]
def cells (n:Nat)(x:RS):List O:=[.inst 434 (n+1),DI n x,.inst 273 (n+3),SD x.T x.p,.inst 150 (n+5),Jf n x,.list x.vs,.list x.ts,.list x.qs]
structure Rd (hp:HP)(n:Nat)(x:RS):Prop where
 is:∀j o,(cells n x)[j]?=some o->hp[n+j]?=some o
 hT:x.T.length≤1000000
 hC:aT x.T=true
section
variable {hp:HP}{n:Nat}{x:RS}
theorem Rd.o0 (R:Rd hp n x):hp[n]?=some (.inst 434 (n+1)):=R.is 0 _ rfl
theorem Rd.o1 (R:Rd hp n x):hp[n+1]?=some (DI n x):=R.is 1 _ rfl
theorem Rd.o2 (R:Rd hp n x):hp[n+2]?=some (.inst 273 (n+3)):=R.is 2 _ rfl
theorem Rd.o3 (R:Rd hp n x):hp[n+3]?=some (SD x.T x.p):=R.is 3 _ rfl
theorem Rd.o4 (R:Rd hp n x):hp[n+4]?=some (.inst 150 (n+5)):=R.is 4 _ rfl
theorem Rd.o5 (R:Rd hp n x):hp[n+5]?=some (Jf n x):=R.is 5 _ rfl
theorem Rd.o6 (R:Rd hp n x):hp[n+6]?=some (.list x.vs):=R.is 6 _ rfl
theorem Rd.o7 (R:Rd hp n x):hp[n+7]?=some (.list x.ts):=R.is 7 _ rfl
theorem Rd.o8 (R:Rd hp n x):hp[n+8]?=some (.list x.qs):=R.is 8 _ rfl
theorem Rd.frame {hp':HP}(R:Rd hp n x)(g:∀j,j<9->hp'[n+j]?=hp[n+j]?):Rd hp' n x :=
 ⟨λj o e=>(g j (List.getElem?_eq_some_iff.mp e).1).trans (R.is j o e),R.hT,R.hC⟩
theorem Rd.put {x':RS}(R:Rd hp n x)(j:Nat)(o:O)(h:j<9)(e:cells n x'=(cells n x).set j o)(eT:x'.T=x.T):Rd (hp.set (n+j) o) n x' :=
 ⟨λi p q=>by
  rw[e]at q;by_cases hi:j=i
  ·cases hi
   rw[List.getElem?_set_self h]at q;rw[List.getElem?_set_self (List.getElem?_eq_some_iff.mp (R.is j _ (List.getElem?_eq_getElem h))).1,q]
  ·rw[List.getElem?_set_ne hi]at q;rw[List.getElem?_set_ne (λe=>hi (Nat.add_left_cancel e))];exact R.is i p q,eT▸R.hT,eT▸R.hC⟩
theorem Rd.cons {a0 a1 a2 a3 a4 a5 a6 a7 a8:O}{T:List Nat}{p:Nat}{l:List O}(h:[a0,a1,a2,a3,a4,a5,a6,a7,a8]=cells n x)(g:∀j,j<9->hp[n+j]?=[a0,a1,a2,a3,a4,a5,a6,a7,a8][j]?)(hT:x.T.length≤1000000)(hC:aT x.T=true):Rd hp n x :=
 ⟨λj o e=>by
  have:=g j (List.getElem?_eq_some_iff.mp e).1;rw[h]at this;exact this.trans e,hT,hC⟩
end
structure Fr (n:Nat)(hp hp':HP):Prop where
 len:hp.length≤hp'.length
 same:∀j,(j<n∨n+9≤j)->j<hp.length->hp'[j]?=hp[j]?
variable {N k n:Nat}{hp hp':HP}{x:RS}
theorem Fr.refl (n:Nat)(hp:HP):Fr n hp hp:=⟨Nat.le_refl _,λ_ _ _=>rfl⟩
theorem Fr.trans {au bJ:HP}(a:Fr n hp au)(b:Fr n au bJ):Fr n hp bJ:=⟨Nat.le_trans a.len b.len,λj h1 h2=>(b.same j h1 (Nat.lt_of_lt_of_le h2 a.len)).trans (a.same j h1 h2)⟩
theorem Fr.set {j:Nat}(o:O)(h1:n≤j)(h2:j<n+9):Fr n hp (hp.set j o):=⟨by simp,λi h _=>List.getElem?_set_ne (by lia)⟩
theorem Fr.app (l:List O):Fr n hp (hp++l):=⟨by simp,λi _ h=>List.getElem?_append_left h⟩
theorem Rd.lt (R:Rd hp n x):n+8<hp.length:=(List.getElem?_eq_some_iff.mp R.o8).1
theorem Rd.Zu (R:Rd hp n x):dw hp (n+2) (n+3) x.T x.p:=⟨R.o2,R.o3,R.hT,R.hC⟩
theorem Rd.app (R:Rd hp n x)(l:List O):Rd (hp++l) n x:=R.frame λj h=>List.getElem?_append_left (Nat.lt_of_le_of_lt (Nat.add_le_add_left (Nat.le_of_lt_succ h) n) R.lt)
theorem Rd.qS (R:Rd hp n x){j:Nat}(hj:n+9≤j)(o:O):Rd (hp.set j o) n x:=R.frame λi h=>List.getElem?_set_ne (Nat.ne_of_gt (Nat.lt_of_lt_of_le (Nat.add_lt_add_left h n) hj))
theorem Rd.s1 (R:Rd hp n x)(a:List V)(g s:Int):Rd (hp.set (n+1) (DI n {x with a:=a,gs:=g,ss:=s})) n {x with a:=a,gs:=g,ss:=s}:=R.put 1 _ (by decide) rfl rfl
theorem Rd.s3 (R:Rd hp n x)(p:Nat):Rd (hp.set (n+3) (SD x.T p)) n {x with p:=p}:=R.put 3 _ (by decide) rfl rfl
theorem Rd.s5 (R:Rd hp n x)(g s:List V):Rd (hp.set (n+5) (Jf n {x with goal:=g,shown:=s})) n {x with goal:=g,shown:=s}:=R.put 5 _ (by decide) rfl rfl
theorem Rd.s6 (R:Rd hp n x)(v:List V):Rd (hp.set (n+6) (.list v)) n {x with vs:=v}:=R.put 6 _ (by decide) rfl rfl
theorem Rd.s7 (R:Rd hp n x)(v:List V):Rd (hp.set (n+7) (.list v)) n {x with ts:=v}:=R.put 7 _ (by decide) rfl rfl
theorem Rd.s8 (R:Rd hp n x)(v:List V):Rd (hp.set (n+8) (.list v)) n {x with qs:=v}:=R.put 8 _ (by decide) rfl rfl
theorem Rd.obj (R:Rd hp n x):Obj hp n (n+1) 434 [(.bM,.ref (n+2)),(.ahead,.tup x.a),(.flat,.ref (n+4)),(.eM,.ref (n+8)),(.b9,.int x.gs),(.bZ,.int x.ss)]:=⟨R.o0,R.o1⟩
theorem Rd.ud (R:Rd hp n x):Obj hp (n+4) (n+5) 150 [(.vars,.ref (n+6)),(.bY,.ref (n+7)),(.goal,.tup x.goal),(.shown,.tup x.shown)]:=⟨R.o4,R.o5⟩
theorem Rd.ahead (R:Rd hp n x):ew hp (.ref n) .ahead=some (.tup x.a):=R.obj.attr rfl
theorem Rd.bM (R:Rd hp n x):ew hp (.ref n) .bM=some (.ref (n+2)):=R.obj.attr rfl
theorem Rd.flat (R:Rd hp n x):ew hp (.ref n) .flat=some (.ref (n+4)):=R.obj.attr rfl
theorem Rd.eM (R:Rd hp n x):ew hp (.ref n) .eM=some (.ref (n+8)):=R.obj.attr rfl
theorem Rd.vJ (R:Rd hp n x):ew hp (.ref n) .b9=some (.int x.gs):=R.obj.attr rfl
theorem Rd.zu (R:Rd hp n x):ew hp (.ref n) .bZ=some (.int x.ss):=R.obj.attr rfl
theorem Rd.fvars (R:Rd hp n x):ew hp (.ref (n+4)) .vars=some (.ref (n+6)):=R.ud.attr rfl
theorem Rd.Bj (R:Rd hp n x):ew hp (.ref (n+4)) .bY=some (.ref (n+7)):=R.ud.attr rfl
theorem Rd.zw (R:Rd hp n x):ew hp (.ref (n+4)) .goal=some (.tup x.goal):=R.ud.attr rfl
theorem Rd.Bk (R:Rd hp n x):ew hp (.ref (n+4)) .shown=some (.tup x.shown):=R.ud.attr rfl
theorem Rd.Jg (R:Rd hp n x)(v:List V):dj hp (.ref n) .ahead (.tup v)=some (hp.set (n+1) (DI n {x with a:=v})):=R.obj.put rfl rfl
theorem Rd.Bm (R:Rd hp n x)(v:Int):dj hp (.ref n) .b9 (.int v)=some (hp.set (n+1) (DI n {x with gs:=v})):=R.obj.put rfl rfl
theorem Rd.Bn (R:Rd hp n x)(v:Int):dj hp (.ref n) .bZ (.int v)=some (hp.set (n+1) (DI n {x with ss:=v})):=R.obj.put rfl rfl
theorem Rd.pI (R:Rd hp n x)(v:List V):dj hp (.ref (n+4)) .goal (.tup v)=some (hp.set (n+5) (Jf n {x with goal:=v})):=R.ud.put rfl rfl
theorem Rd.qT (R:Rd hp n x)(v:List V):dj hp (.ref (n+4)) .shown (.tup v)=some (hp.set (n+5) (Jf n {x with shown:=v})):=R.ud.put rfl rfl
theorem yk:∀(us vs:List V) (_:us.length=vs.length) (ks:List Key) (k:Key),(ej (ks.zip us) k).isNone=(ej (ks.zip vs) k).isNone:=by
 intro us
 induction us with
 |nil =>
  intro vs h ks k;cases vs with
  |nil=>rfl
  |cons=>cases h
 |cons u us ih =>
  intro vs h ks k;cases vs with
  |nil=>cases h
  |cons v vs =>
   cases ks with
   |nil=>rfl
   |cons c ks =>
    show(ej ((c,u)::ks.zip us) k).isNone=(ej ((c,v)::ks.zip vs) k).isNone;unfold ej;by_cases e:c=k
    ·rw[if_pos e,if_pos e];rfl
    ·rw[if_neg e,if_neg e];exact ih vs (Nat.succ.inj h) ks k
theorem Rd.bA (R:Rd hp n x){k:Key}{f:Addr}(hk:ff (d0 434) k=some f)(h0:(ej [(.bM,V.none),(.ahead,V.none),(.flat,V.none),(.eM,V.none),(.b9,V.none),(.bZ,V.none)] k).isNone=true):dM hp (.ref n) k=some (.fix (.ref f)) :=
 R.obj.bA hk ((yk [.ref (n+2),.tup x.a,.ref (n+4),.ref (n+8),.int x.gs,.int x.ss] [.none,.none,.none,.none,.none,.none] rfl [.bM,.ahead,.flat,.eM,.b9,.bZ] k).trans h0)
theorem Rd.sD (R:Rd hp n x){k:Key}{f:Addr}(hk:ff (d0 150) k=some f)(h0:(ej [(.vars,V.none),(.bY,V.none),(.goal,V.none),(.shown,V.none)] k).isNone=true):dM hp (.ref (n+4)) k=some (.fix (.ref f)) :=
 R.ud.bA hk ((yk [.ref (n+6),.ref (n+7),.tup x.goal,.tup x.shown] [.none,.none,.none,.none] rfl [.vars,.bY,.goal,.shown] k).trans h0)
def Tok.l (t:Tok)(p:Nat):List V:=match t with
 |.fin=>[.str (af "end"),.str (af ""),.int p]
 |.text l=>[.str (af "text"),.str l,.int p]
 |.number i=>[.str (af "number"),.int i,.int p]
 |.word l=>[.str (af "word"),.str l,.int p]
 |.sign l=>[.str (af "sign"),.str l,.int p]
theorem N0 (t:Tok)(p:Nat):t.v p=.tup (t.l p):=by cases t<;>rfl
structure Bo (N:Nat)(T:List Nat)(p:Nat)(t:Tok)(b q:Nat):Prop where
 is:∃m n len,jX m (T.drop p) n∧p+n≤T.length∧m<N∧b=p+n∧q=b+len∧je (T.drop b) t len
noncomputable def jZ (t:Tok) (g:List Nat):Bool:=match t with
 |.sign l=>l==g
 |_=>false
theorem lX (l:List V)(a b:Option Nat)(h:l.length≤1000)(hc:(cut l a b).length<l.length):gX hp (.tup l) a b=.ok (.tup (cut l a b)) hp:=by
 exact eA (Bool.and_eq_true_iff.mpr ⟨jm (Nat.le_trans h (by decide)),decide_eq_true hc⟩)
theorem mC (a b:PyData)(as bs:List PyData):PyData.eqv (.tuple (a::as)) (.tuple (b::bs))=(PyData.eqv a b&&PyData.eqv (.tuple as) (.tuple bs)):=by
 simp[PyData.eqv,PyData.eqvAll]
theorem Gy {u v:V}{a b:PyData}(h1:ma hp u=some a)(h2:ma hp v=some b):wd hp (.tup [u,v])=some (.tuple [a,b]):=by
 show oB (mc hp [u,v]) _=_;unfold mc;rw[h1,cz rfl];unfold mc;rw[h2];rfl
theorem Gz (l:List Nat):ma hp (.str l)=some (.str (S l)):=by show g0 _=_;unfold g0;rfl
theorem vK (a b:List Nat):wd hp (.tup [.str a,.str b])=some (.tuple [.str (S a),.str (S b)]):=Gy (Gz a) (Gz b)
theorem mS {a b c d:List Nat}(ha:aT a=true)(hb:aT b=true)(hc:aT c=true)(hd:aT d=true):dA .eq (.tup [.str a,.str b]) (.tup [.str c,.str d]) hp=some (a==c&&b==d):=by
 have h1:=jn (l:=[a,b]) (by simp[ha,hb]);have h2:=jn (l:=[c,d]) (by simp[hc,hd]);simp only[List.map_cons,List.map_nil]at h1 h2
 have h3:PyData.eqv (.tuple [.str (S a),.str (S b)]) (.tuple [.str (S c),.str (S d)])=(a==c&&b==d):=by
  rw[mC,mC,n6,n6,vC,vC];simp[PyData.eqv,PyData.eqvAll]
 exact DB (vK a b) (vK c d) h1 h2 h3
noncomputable def j0:Tok->Bool
 |.text l=>aT l
 |.word l=>aT l
 |.sign l=>aT l
 |_=>true
theorem Bp (u v w:V):cut [u,v,w] none (some 2)=[u,v]:=rfl
theorem gT:hW (.int 2)=some (some 2):=rfl
theorem aaT (i:Int)(g:List Nat)(hg:aT g=true):dA .eq (.tup [.str (af "number"),.int i]) (.tup [.str (af "sign"),.str g]) hp=some false:=by
 have h1:SeqAt.shaped (.tuple [.str (S (af "number")),.int i])=true:=by
  have:PyData.strOk (S (af "number"))=true:=by decide +kernel
  simp[SeqAt.shaped,PyData.canLay0,PyData.canLayAll0,this,PyData.depth,PyData.depthAll]
 have h2:=jn (l:=[af "sign",g]) (by simp[hg];decide);simp only[List.map_cons,List.map_nil]at h2
 have h3:PyData.eqv (.tuple [.str (S (af "number")),.int i]) (.tuple [.str (S (af "sign")),.str (S g)])=false:=by
  rw[mC,n6,vC,show(af "number"==af "sign")=false from by decide];rfl
 exact DB (Gy (by unfold ma g0;rfl) (by unfold ma g0;rfl)) (vK _ _) h1 h2 h3
theorem n9 (u v w:V):gX hp (.tup [u,v,w]) none (some 2)=.ok (.tup [u,v]) hp:=lX [u,v,w] none (some 2) (by show 3≤1000;decide) (by show 2<3;decide)
theorem iI (R:Rd hp n x){t:Tok}{b:Nat}(ha:x.a=t.l b)(ok:j0 t=true){g:List Nat}(hg:aT g=true):ag N (k+1) (.fix (.ref 305)) [.ref n,.str g] hp=.ok (.bool (jZ t g)) hp:=by
 rw[Qb];cases t with
 |number i=>open_k with[wQ,R.ahead,ha,Tok.l,bW,gT,n9,Bp,aaT i g hg,jZ]
 |fin=>open_k with[wQ,R.ahead,ha,Tok.l,bW,gT,n9,Bp,mS (kq "end") (kq "") (kq "sign") hg,show(af "end"==af "sign")=false from by decide,Bool.false_and,jZ]
 |text l=>open_k with[wQ,R.ahead,ha,Tok.l,bW,gT,n9,Bp,mS (kq "text") (show aT l=true from ok) (kq "sign") hg,show(af "text"==af "sign")=false from by decide,Bool.false_and,jZ]
 |word l=>open_k with[wQ,R.ahead,ha,Tok.l,bW,gT,n9,Bp,mS (kq "word") (show aT l=true from ok) (kq "sign") hg,show(af "word"==af "sign")=false from by decide,Bool.false_and,jZ]
 |sign l=>open_k with[wQ,R.ahead,ha,Tok.l,bW,gT,n9,Bp,mS (kq "sign") (show aT l=true from ok) (kq "sign") hg,show(af "sign"==af "sign")=true from by decide,Bool.true_and,jZ]
theorem ip (t:Tok)(b:Nat):bh hp (.tup (t.l b)) (.int 2)=some (.int b):=by cases t<;>rfl
def Tok.kind:Tok->List Nat
 |.fin=>af "end"
 |.text _=>af "text"
 |.number _=>af "number"
 |.word _=>af "word"
 |.sign _=>af "sign"
def Tok.val:Tok->V
 |.fin=>.str (af "")
 |.text l=>.str l
 |.number i=>.int i
 |.word l=>.str l
 |.sign l=>.str l
theorem eY (t:Tok)(b:Nat):bh hp (.tup (t.l b)) (.int 0)=some (.str t.kind):=by cases t<;>rfl
theorem mT (t:Tok)(b:Nat):bh hp (.tup (t.l b)) (.int 1)=some t.val:=by cases t<;>rfl
theorem i0 (t:Tok):aT t.kind=true:=by cases t<;>kernel_rfl
theorem vL (g:List Nat)(h:g.length≤1000):lu (.str g)=some g:=by
 have:g.length≤sizeLine:=Nat.le_trans h (by rw[sizeLine_eq];decide);simp only[lu,if_pos this]
theorem hR {a b:List Nat}{N:Nat}(h:a.length+b.length≤100000):fq a.length b.length=true:=gG (Nat.le_trans h (by decide))
theorem Qx (R:Rd hp n x){t:Tok}{b:Nat}(ha:x.a=t.l b)(ok:j0 t=true){g:List Nat}(hg:aT g=true)(hl:g.length≤1000)(hs:jZ t g=false) :
  ag N (k+6) (.fix (.ref 312)) [.ref n,.str g] hp=.gH b:=by
 have h1:([]:List Nat).length+g.length≤100000:=by simp;(apply aI<;>trivial)
 have h2:([]++g).length+(af " is wanted").length≤100000:=by
  have:(af " is wanted").length=10:=by decide
  simp;(apply nv<;>trivial)
 rw[Ds];open_k with[L7,R.bA (k:=.cM) rfl rfl,iI R ha ok hg,hs,vL g hl,hR (N:=0) h1,hR (N:=0) h2,R.ahead,ha,ip]
theorem vM (R:Rd hp n x){t:Tok}{b:Nat}(ha:x.a=t.l b)(hk:(t.kind==af "number")=false):ag N (k+6) (.fix (.ref 319)) [.ref n] hp=.gH b:=by
 rw[Dt];open_k with[L8,R.ahead,ha,eY,lR (i0 t) (kq "number"),hk,ip]
end
section
section
variable {α β γ δ:Type}
noncomputable abbrev Res (β:Type):=Option (Except Int β)
noncomputable def ob (m:Res β) (f:β->Res γ):Res γ:=match m with
 |none=>none
 |some (.error k)=>some (.error k)
 |some (.ok b)=>f b
def Wq (r:R α)(res:Res β)(Q:α->HP->β->Prop):Prop:=match res with
 |none=>True
 |some (.error k)=>r=.gH k
 |some (.ok b)=>∃a hp',r=.ok a hp'∧Q a hp' b
theorem Wq.bind {r:R α}{res:Res β}{Q:α->HP->β->Prop}{f:α->HP->R γ}{g:β->Res δ}{Q':γ->HP->δ->Prop}(c:Wq r res Q)(h:∀a hp' b,Q a hp' b->Wq (f a hp') (g b) Q'):Wq (az r f) (ob res g) Q' :=
 match res,c with
 |none,_=>trivial
 |some (.error _),c=>congrArg (λr=>az r f) c
 |some (.ok b),⟨a,hp',e,q⟩=>Eq.symm (congrArg (λr=>az r f) e)▸h a hp' b q
theorem Wq.ok {a:α}{hp:HP}{b:β}{Q:α->HP->β->Prop}(q:Q a hp b):Wq (.ok a hp) (some (.ok b)) Q:=⟨a,hp,rfl,q⟩
theorem Wq.mono {r:R α}{res:Res β}{Q Q':α->HP->β->Prop}(c:Wq r res Q)(h:∀a hp' b,Q a hp' b->Q' a hp' b):Wq r res Q' :=
 match res,c with
 |none,_=>trivial
 |some (.error _),c=>c
 |some (.ok b),⟨a,hp',e,q⟩=>⟨a,hp',e,h a hp' b q⟩
end
noncomputable abbrev TS:=List (Tok×Nat)
abbrev Pt (α:Type):=Res (α×TS)
structure FD where
 vs:List V
 ts:List V
 goal:List V
 shown:List V
 qs:List V
 gs:Int
 ss:Int
noncomputable def nz {α:Type} (a:α) (ts:TS):Pt α:=match ts with
 |[]=>none
 |_::_=>some (.ok (a,ts))
def gp (g:List Nat)(ts:TS):Pt Unit:=match ts with
 |[]=>none
 |(t,b)::r=>if jZ t g then nz () r else some (.error b)
def B7 (ts:TS):Pt Int:=match ts with
 |[]=>none
 |(t,b)::r=>match t with
  |.number i=>nz i r
  |_=>some (.error b)
def zx (ts:TS):Pt (Tok×Nat):=match ts with
 |[]=>none
 |h::r=>nz h r
noncomputable def DJ (ts:TS):Int:=match ts with
 |[]=>0
 |(_,b)::_=>b
noncomputable def aZ (lo hi:Int):Option Int->Bool
 |none=>decide (hi<lo)
 |some l=>decide (hi<lo)||decide (lo≤l+1)
def iJ (last:Option Int)(ts:TS):Pt (Int×Int) :=
 ob (B7 ts) λx=>ob (gp (af "..") x.2) λy=>ob (B7 y.2) λz=>if aZ x.1 z.1 last then some (.error (DJ ts))else some (.ok ((x.1,z.1),z.2))
def BY (N:Nat)(T:List Nat):Nat->TS->Prop
 |_,[]=>True
 |p,(t,b)::r=>j0 t=true∧∃q,Bo N T p t b q∧BY N T q r
abbrev qU (T:List Nat)(p:Nat)(t:Tok)(b:Nat)(F:FD):RS:=⟨T,p,t.l b,F.vs,F.ts,F.goal,F.shown,F.qs,F.gs,F.ss⟩
def RT (N:Nat)(hp:HP)(n:Nat)(T:List Nat)(ts:TS)(F:FD):Prop:=∃t b r p,ts=(t,b)::r∧j0 t=true∧Rd hp n (qU T p t b F)∧BY N T p r∧T.length<N
structure FL (n L:Nat)(hp hp':HP):Prop where
 len:hp.length≤hp'.length
 same:∀j,(j<n∨n+9≤j)->j<L->hp'[j]?=hp[j]?
def vN {α:Type}(N:Nat)(hp:HP)(n:Nat)(T:List Nat)(F:FD)(v:α->V)(r:R V)(res:Pt α):Prop :=
 Wq r res λa hp' b=>a=v b.1∧RT N hp' n T b.2 F∧Fr n hp hp'
variable {N k n L m:Nat}{hp hp':HP}{T:List Nat}{ts:TS}{F:FD}
theorem vN.bind {α γ δ:Type}{v:α->V}{r:R V}{res:Pt α}{f:V->HP->R γ}{g:α×TS->Res δ}{Q':γ->HP->δ->Prop}(c:vN N hp n T F v r res)(h:∀hp' x iq,RT N hp' n T iq F->Fr n hp hp'->Wq (f (v x) hp') (g (x,iq)) Q'):Wq (az r f) (ob res g) Q' :=
 Wq.bind c λ_ hp' b q=>q.1▸h hp' b.1 b.2 q.2.1 q.2.2
theorem Fr.fl (f:Fr n hp hp')(h:L≤hp.length):FL n L hp hp':=⟨f.len,λj h1 h2=>f.same j h1 (Nat.lt_of_lt_of_le h2 h)⟩
theorem FL.fr (f:FL n hp.length hp hp'):Fr n hp hp':=⟨f.len,f.same⟩
theorem FL.trans {au bJ:HP}(a:FL n L hp au)(b:FL n L au bJ):FL n L hp bJ:=⟨Nat.le_trans a.len b.len,λj h1 h2=>(b.same j h1 h2).trans (a.same j h1 h2)⟩
theorem FL.set (h:L≤m)(o:O):FL n L hp (hp.set m o):=⟨Nat.le_of_eq List.length_set.symm,λ_ _ h2=>List.getElem?_set_ne (Nat.ne_of_gt (Nat.lt_of_lt_of_le h2 h))⟩
theorem FL.refl:FL n L hp hp:=⟨Nat.le_refl _,λ_ _ _=>rfl⟩
theorem Fr.at {o:O}(f:Fr n hp hp')(hm:n+9≤m)(h:hp[m]?=some o):hp'[m]?=some o:=(f.same m (.inr hm) (List.getElem?_eq_some_iff.mp h).1).trans h
theorem RT.take (h:RT N hp n T ts F):∃t b r,ts=(t,b)::r∧(∀t' b' r',r=(t',b')::r'->∃hp',(∀k,ag N (k+5) (.fix (.ref 298)) [.ref n] hp=.ok (.tup (t.l b)) hp')∧RT N hp' n T r F∧Fr n hp hp'):=by
 refine bC λnG=>?_;refine ZU h λt b r p gY ok R tk hN=>?_;subst gY;refine nG ?_;refine⟨t,b,r,rfl,λt' b' r' e=>?_⟩;subst e;refine bC λnG=>?_;obtain⟨N1,q,nx,xG⟩:=tk;obtain⟨m,nn,len,sk,hl,hm,rfl,rfl,lx⟩:=id nx;refine nG ?_;have R1:=(R.app t'.g).s3 (p+nn+len);have R2:=R1.s1 (t'.l (p+nn)) F.gs F.ss;refine⟨_,λk=>?_,⟨t',p+nn,r',_,rfl,N1,R2,xG,hN⟩,(((Fr.app t'.g).trans (Fr.set _ (by apply Nat.le_add_right<;>trivial) (by apply dz<;>trivial))).trans (Fr.set _ (by apply Nat.le_add_right<;>trivial) (by apply dz<;>trivial)))⟩;have tc:=DH (k:=k) (N:=N) R.Zu sk hl hN hm rfl lx;rw[Qa];open_k with[Vb,R.ahead,R.bM,R.Zu.mt,tc,N0,R1.Jg]
inductive Zv (hp:HP)(n:Nat)(T:List Nat)(F:FD):TS->Prop
 |mk (t:Tok) (b:Nat) (r:TS) (p:Nat) (ok:j0 t=true) (R:Rd hp n (qU T p t b F)):Zv hp n T F ((t,b)::r)
theorem RT.rd (h:RT N hp n T ts F):Zv hp n T F ts:=by
 refine bC λnG=>?_;refine ka h λt b r p gY ok R _=>?_;subst gY;exact nG ⟨t,b,r,p,ok,R⟩
theorem RT.bA (h:RT N hp n T ts F){k:Key}{f:Addr}(hk:ff (d0 434) k=some f)(h0:(ej [(.bM,V.none),(.ahead,V.none),(.flat,V.none),(.eM,V.none),(.b9,V.none),(.bZ,V.none)] k).isNone=true):dM hp (.ref n) k=some (.fix (.ref f)):=by
 obtain⟨_,_,_,_,_,R⟩:=h.rd;exact R.bA hk h0
theorem RT.sD (h:RT N hp n T ts F){k:Key}{f:Addr}(hk:ff (d0 150) k=some f)(h0:(ej [(.vars,V.none),(.bY,V.none),(.goal,V.none),(.shown,V.none)] k).isNone=true):dM hp (.ref (n+4)) k=some (.fix (.ref f)):=by
 obtain⟨_,_,_,_,_,R⟩:=h.rd;exact R.sD hk h0
theorem RT.flat (h:RT N hp n T ts F):ew hp (.ref n) .flat=some (.ref (n+4)):=by
 obtain⟨_,_,_,_,_,R⟩:=h.rd;exact R.flat
theorem Jh (h:RT N hp n T ts F):vN N hp n T F (λx=>.tup (x.1.l x.2)) (ag N (k+5) (.fix (.ref 298)) [.ref n] hp) (zx ts):=by
 refine lq (h.take) λt b r e tk=>?_;subst e;cases r with
 |nil=>trivial
 |cons q r' =>
  refine bC λnG=>?_;refine dP (tk _ _ _ rfl) λhp' e R' Bq=>?_;refine nG ?_;exact⟨_,hp',e k,rfl,R',Bq⟩
theorem qV (h:RT N hp n T ts F){g:List Nat}(hg:aT g=true)(hl:g.length≤1000):vN N hp n T F (λ_=>.none) (ag N (k+6) (.fix (.ref 312)) [.ref n,.str g] hp) (gp g ts):=by
 refine lq (h.take) λt b r e tk=>?_;refine ka h λt b r p gY ok R _=>?_;subst gY;cases e
 change Wq _ (if jZ t g=true then nz () r else some (.error b)) _
 cases hs:jZ t g with
 |true =>
  cases r with
  |nil=>trivial
  |cons q r' =>
   refine dP (tk _ _ _ rfl) λhp' e R' Bq=>?_;refine⟨_,hp',?_,rfl,R',Bq⟩;rw[Ds];open_k with[L7,R.bA (k:=.cM) rfl rfl,iI R rfl ok hg,hs,R.bA (k:=.take) rfl rfl,e]
 |false=>exact Qx R rfl ok hg hl hs
theorem GA (h:RT N hp n T ts F):vN N hp n T F V.int (ag N (k+6) (.fix (.ref 319)) [.ref n] hp) (B7 ts):=by
 refine lq (h.take) λt b r e tk=>?_;refine ka h λt b r p gY ok R _=>?_;subst gY;cases e
 cases t with
 |number i =>
  cases r with
  |nil=>trivial
  |cons q r' =>
   refine dP (tk _ _ _ rfl) λhp' e R' Bq=>?_;refine⟨_,hp',?_,rfl,R',Bq⟩;rw[Dt];open_k with[L8,R.ahead,eY,Tok.kind,lR (kq "number") (kq "number"),R.bA (k:=.take) rfl rfl,e,mT,Tok.val]
 |fin=>exact vM (t:=.fin) R rfl (by decide)
 |text l=>exact vM (t:=.text l) R rfl (nb "text" "number")
 |word l=>exact vM (t:=.word l) R rfl (nb "word" "number")
 |sign l=>exact vM (t:=.sign l) R rfl (nb "sign" "number")
noncomputable def zy:Option Int->V
 |none=>.none
 |some l=>.int l
noncomputable abbrev pv (p:Int×Int):V:=.tup [.int p.1,.int p.2]
theorem qW (h:RT N hp n T ts F)(last:Option Int):vN N hp n T F pv (ag N (k+7) (.fix (.ref 377)) [.ref n,zy last] hp) (iJ last ts):=by
 obtain⟨t,b,r,p,ok,R⟩:=h.rd;have hb:DJ ((t,b)::r)=b:=rfl;rw[Qg];open_k with[Vf,R.ahead,ip,R.bA (k:=.number) rfl rfl];refine(GA (k:=k) h).bind λay lo mU h1 f1=>?_;open_k with[h1.bA (k:=.want) rfl rfl];refine(qV (k:=k) h1 (by decide) (by decide)).bind λaN _ qX h2 f2=>?_;open_k with[h2.bA (k:=.number) rfl rfl];refine(GA (k:=k) h2).bind λbL hi N2 h3 f3=>?_;have fin:Wq (.ok (.tup [.int lo,.int hi]) bL) (some (.ok ((lo,hi),N2))) λa hp' b=>a=pv b.1∧RT N hp' n T b.2 F∧Fr n hp hp':=.ok ⟨rfl,h3,(f1.trans f2).trans f3⟩;cases DK:decide (hi<lo)with
 |true =>
  have:aZ lo hi last=true:=by cases last<;>simp[aZ,DK]
  open_k with[DK,this,hb];rfl
 |false =>
  cases last with
  |none =>
   open_k with[aZ,DK,zy];exact fin
  |some l =>
   refine bC λnG=>?_;cases hd2:decide (lo≤l+1)with
   |true =>
    refine nG ?_;open_k with[aZ,DK,hd2,zy,Bool.or_true,hb];rfl
   |false =>
    refine nG ?_;open_k with[aZ,DK,hd2,zy,Bool.or_self];exact fin
def gU:Nat->List (Int×Int)->TS->Pt (List (Int×Int))
 |0,_,_=>none
 |j+1,found,ts=>match ts with
  |[]=>none
  |(t,_)::_=>if jZ t (af "}")then some (.ok (found,ts))else
   match found.getLast? with
   |none=>ob (iJ none ts) λx=>gU j [x.1] x.2
   |some q=>ob (gp (af ",") ts) λy=>ob (iJ (some q.2) y.2) λx=>gU j (found++[x.1]) x.2
def jG (ts:TS):Pt (List (Int×Int)):=match ts with
 |[]=>none
 |(t,_)::_=>if jZ t (af "{")then ob (zx ts) λx=>ob (gU 9 [] x.2) λy=>ob (zx y.2) λz=>some (.ok (y.1,z.2))
  else ob (iJ none ts) λx=>some (.ok ([x.1],x.2))
theorem len_list {l:List V}(h:hp[m]?=some (.list l))(hl:l.length≤1000000):ag N (k+1) (bi "len") [.ref m] hp=.ok (.int l.length) hp:=by
 rw[show bi "len"=.fix (.builtin "len")from rfl,fA (g:=uo) "len" rfl];exact(gk (show R5 hp (.ref m)=some l.length from cz (c9 h))).trans (eA (jm hl))
theorem Qy (n:Nat):(-1:Int)+((n+1:Nat):Int)=(n:Int):=(Int.add_comm _ _).trans (Int.add_neg_cancel_right n 1)
theorem Mp {l:List V}{v:V}(h:l.getLast?=some v)(hl:l.length≤1000000):rk l (-1)=some v:=by
 have h0:l≠[]:=λe=>by rw[e]at h;cases h
 have h1:0<l.length:=List.length_pos_iff.mpr h0
 have:tA (-1) l.length=some (l.length - 1):=by
  show PySem.seqIndex? (-1) l.length=_;refine aQ (n8 h1) λn e=>?_;rw[e];unfold PySem.seqIndex?;rw[show(if(-1:Int)<0 then(-1:Int)+((n+1:Nat):Int)else -1)=(n:Int)from(if_pos (by decide)).trans (Qy n)]
  exact if_pos (Bool.and_eq_true_iff.mpr ⟨decide_eq_true (Int.natCast_nonneg n),decide_eq_true (Int.ofNat_lt.mpr (Nat.lt_succ_self n))⟩)
 rw[List.getLast?_eq_getElem?]at h;exact(cz this).trans h
theorem Br {l:List V}{v:V}(hm:hp[m]?=some (.list l))(h:l.getLast?=some v)(hl:l.length≤1000000):bh hp (.ref m) (.int (-1))=some v:=(cz (c9 hm)).trans (Mp h hl)
theorem RT.qS (h:RT N hp n T ts F){m:Nat}(hm:n+9≤m)(o:O):RT N (hp.set m o) n T ts F:=by
 refine bC λnG=>?_;refine ka h λt b r p e ok R rest=>?_;refine nG ?_;exact⟨t,b,r,p,e,ok,R.qS hm o,rest⟩
theorem RT.app (h:RT N hp n T ts F)(l:List O):RT N (hp++l) n T ts F:=by
 refine ka h λt b r p e ok R rest=>?_;exact⟨t,b,r,p,e,ok,R.app l,rest⟩
theorem RT.lt (h:RT N hp n T ts F):n+8<hp.length:=by
 obtain⟨_,_,_,_,_,R⟩:=h.rd;exact R.lt
abbrev GB (c:Ca):Tx:=(cV (tX (ax c (aa 0) .cM [(xS "}")])))
abbrev Mq (c:Ca):List Sx:=[(bc (ai (aD c (xC (bi "len")) [(aa 1)]) [(.gt,(xC (.int 0)))]) [(bo (ax c (aa 0) .want [(xS ",")]))] []),
 (bo (ax c (aa 1) .append [(ax c (aa 0) .iP [(ig (ai (aD c (xC (bi "len")) [(aa 1)]) [(.gt,(xC (.int 0)))]) (aq (aq (aa 1) (gN (xC (.int 1)))) (xC (.int 1))) (xC .none))])]))]
theorem bK (hp:HP)(o:O):(hp++[o])[hp.length]?=some o:=by simp
theorem kC {o o':O}(h:hp[m]?=some o):(hp.set m o')[m]?=some o':=List.getElem?_set_self (List.getElem?_eq_some_iff.mp h).1
inductive GC (N n:Nat)(T:List Nat)(F:FD)(m L:Nat)(hp:HP)(a:Fl×Loc)(hp':HP)(b:List (Int×Int)×TS):Prop
 |mk (e:a=(.next,[some (.ref n),some (.ref m)])) (h:RT N hp' n T b.2 F) (hf:hp'[m]?=some (.list (b.1.map pv))) (hl:b.1.length≤100000) (f:FL n L hp hp')
theorem GC.fl {iK:HP}{a:Fl×Loc}{b:List (Int×Int)×TS}(q:GC N n T F m L iK a hp' b)(f:FL n L hp iK):GC N n T F m L hp a hp' b:=by
 cases q with
 |mk e h hf hl f'=>exact⟨e,h,hf,hl,f.trans f'⟩
theorem Mr (hm:n+9≤m)(hL:L≤m)(j:Nat):∀(M:Nat) (found:List (Int×Int)) {hp:HP} {ts:TS},RT N hp n T ts F->hp[m]?=some (.list (found.map pv))->found.length+j≤100000->j≤M ->
  Wq (dH (GB (ag N (k+7))) (aF (Mq (ag N (k+7)))) M [some (.ref n),some (.ref m)] hp) (gU j found ts) (GC N n T F m L hp):=by
 induction j with
 |zero=>intros;trivial
 |succ j ih =>
  intro M found hp ts h hf hl hj;cases M with
  |zero=>exact absurd hj (Nat.not_succ_le_zero _)
  |succ M =>
  have xE:found.length+1+j≤100000:=by apply MW<;>trivial
  have pX:(found.map pv).length≤1000000:=by rw[List.length_map];omega
  have qd:L≤hp.length:=Nat.le_trans hL (Nat.le_of_lt (List.getElem?_eq_some_iff.mp hf).1)
  have Zw:=λ(x:Int×Int) {hp':HP} {iq} (h':RT N hp' n T iq F) (hf':hp'[m]?=some (.list (found.map pv))) (fl:FL n L hp hp') =>
   Wq.mono (ih M (found++[x]) (h'.qS hm (.list (found.map pv++[pv x]))) (by rw[kC hf',List.map_append];rfl) (by rw[List.length_append];exact xE) (Nat.le_of_succ_le_succ hj)) λ_ _ _ q=>q.fl (fl.trans (FL.set hL _))
  have mi:=h.bA (k:=.cM) rfl rfl;have ms:=h.bA (k:=.iP) rfl rfl;have mw:=h.bA (k:=.want) rfl rfl;have ll:=len_list (N:=N) (k:=k+6) hf pX;cases h.rd with
  |mk t b r p ok R =>
  have is:=iI (N:=N) (k:=k+6) R rfl ok (kq "}");unfold gU;rw[jU];cases hs:jZ t (af "}")with
  |true =>
   open_k with[GB,mi,is,hs];exact .ok ⟨rfl,h,hf,Nat.le_trans (Nat.le_add_right _ _) hl,FL.refl⟩
  |false =>
   cases hg:found.getLast? with
   |none =>
    obtain rfl:=List.getLast?_eq_none_iff.mp hg;have N3:decide ((0:Int)<(([]:List (Int×Int)).map pv).length)=false:=rfl;open_k with[GB,Mq,mi,is,hs,ll,N3,iZ hf,ms];refine(qW (k:=k) h none).bind λay x mU h1 f1=>?_;open_k with[iY (f1.at hm hf) pX];exact Zw x h1 (f1.at hm hf) (f1.fl qd)
   |some q =>
    have N3:decide ((0:Int)<((found.map pv).length:Int))=true:=by
     cases found with
     |nil=>cases hg
     |cons=>simp
    have hq:(found.map pv).getLast?=some (pv q):=by rw[List.getLast?_map,hg];rfl
    open_k with[GB,Mq,mi,is,hs,ll,N3,mw];refine(qV (k:=k+1) h (by decide) (by decide)).bind λay _ mU h1 f1=>?_;have C8:=f1.at hm hf;open_k with[iZ C8,h1.bA (k:=.iP) rfl rfl,len_list (N:=N) (k:=k+6) C8 pX,N3,Br C8 hq pX,show bh ay (pv q) (.int 1)=some (.int q.2)from rfl];refine(qW (k:=k) h1 (some q.2)).bind λaN x qX h2 f2=>?_;have C9:=f2.at hm C8;open_k with[iY C9 pX];exact Zw x h2 C9 ((f1.trans f2).fl qd)
theorem DM {l:List V}(h:hp[m]?=some (.list l)):tD hp (.ref m)=some l:=c9 h
theorem w7 {l:List V}(h:hp[m]?=some (.list l))(hl:l.length≤1000000):ag N (k+1) (.fix (.type "tuple")) [.ref m] hp=.ok (.tup l) hp:=by
 rw[wW (g:=wk) "tuple" rfl];exact(gk (DM h)).trans (eA (jm hl))
theorem Ms (h:RT N hp n T ts F)(hN:9≤N):vN N hp n T F (λl=>.tup (l.map pv)) (ag N (k+8) (.fix (.ref 384)) [.ref n] hp) (jG ts):=by
 obtain⟨t,b,r,p,ok,R⟩:=h.rd;have is:=iI (N:=N) (k:=k+6) R rfl ok (kq "{");rw[Qh];unfold jG;refine bC λnG=>?_;cases hs:jZ t (af "{")with
 |false =>
  refine nG ?_;open_k with[Ma,R.bA (k:=.cM) rfl rfl,is,hs,R.bA (k:=.iP) rfl rfl];refine(qW (k:=k) h none).bind λay x mU h1 f1=>?_;open_k with[nj];exact .ok ⟨rfl,h1,f1⟩
 |true =>
  refine nG ?_;open_k with[Ma,R.bA (k:=.cM) rfl rfl,is,hs,R.bA (k:=.take) rfl rfl];refine(Jh (k:=k+2) h).bind λay x mU h1 f1=>?_;open_k with[nj];have hln:=h1.lt;refine(Mr (k:=k) (L:=ay.length) (by assumption) (Nat.le_refl _) 9 N [] (h1.app [.list []]) (bK _ _) (by decide) hN).bind ?_;rintro _ aN ⟨y,qX⟩ ⟨rfl,h2,hf,hy,f2⟩;open_k with[h2.bA (k:=.take) rfl rfl];refine(Jh (k:=k+2) h2).bind λbL z N2 h3 f3=>?_;have f2':Fr n ay aN:=⟨Nat.le_trans (by simp) f2.len,λj a b=>(f2.same j a b).trans (List.getElem?_append_left b)⟩;open_k with[w7 (f3.at (by assumption) hf) (show(y.map pv).length≤1000000 by simp at hy ⊢;omega)];exact .ok ⟨rfl,h3,(f1.trans f2').trans f3⟩
end
section
variable {N k n L m:Nat}{hp hp':HP}{T:List Nat}{ts:TS}{F:FD}
theorem lY {t:Tok}{b:Nat}{r:TS}(h:RT N hp n T ((t,b)::r) F):vN N hp n T F (λ_=>.tup (t.l b)) (ag N (k+5) (.fix (.ref 298)) [.ref n] hp) (nz () r):=by
 refine bC λnG=>?_;refine lq (h.take) λt' b' r' e tk=>?_;cases e
 cases r with
 |nil=>refine nG ?_;trivial
 |cons q r' =>
  refine nG ?_;refine bC λnG=>?_;refine dP (tk _ _ _ rfl) λhp' e R' Bq=>?_;refine nG ?_;exact⟨_,hp',e k,rfl,R',Bq⟩
theorem FL.at {j:Nat}{o:O}(f:FL n L hp hp')(hj:n+9≤j)(hl:j<L)(h:hp[j]?=some o):hp'[j]?=some o:=(f.same j (.inr hj) hl).trans h
noncomputable abbrev E:=Nat×List V×List Nat
noncomputable abbrev E.v (e:E):V:=.tup [.ref e.1,.str e.2.2]
noncomputable abbrev PS:=List (List V×List Nat)
structure jo (hp:HP)(m:Nat)(sr:List E):Prop where
 top:hp[m]?=some (.list (sr.map E.v).reverse)
 each:∀e∈sr,m<e.1∧hp[e.1]?=some (.list e.2.1)
 ord:sr.Pairwise λa b=>b.1<a.1
theorem jo.fr {sr:List E}(s:jo hp m sr)(f:Fr n hp hp')(hm:n+9≤m):jo hp' m sr :=
 ⟨f.at hm s.top,λe he=>⟨(s.each e he).1,f.at (Nat.le_trans hm (Nat.le_of_lt (s.each e he).1)) (s.each e he).2⟩,s.ord⟩
theorem jo.tl {e:E}{sr:List E}(s:jo hp m (e::sr)):jo (hp.set m (.list (sr.map E.v).reverse)) m sr :=
 ⟨kC s.top,λe' he=>by
  have:=s.each e' (List.mem_cons_of_mem _ he);exact⟨this.1,by rw[List.getElem?_set_ne (Nat.ne_of_lt this.1)];exact this.2⟩,(List.pairwise_cons.mp s.ord).2⟩
theorem jo.up {e:E}{sr:List E}(s:jo hp m (e::sr))(l:List V):jo (List.set hp e.1 (O.list l)) m ((e.1,l,e.2.2)::sr):=by
 have h0:=s.each e List.mem_cons_self;have ho:=List.pairwise_cons.mp s.ord;refine⟨by rw[List.getElem?_set_ne (Nat.ne_of_gt h0.1)];exact s.top,λe' he=>?_,List.pairwise_cons.mpr ho⟩;rcases List.mem_cons.mp he with rfl|he
 ·exact⟨h0.1,kC h0.2⟩
 ·have h1:=s.each e' (List.mem_cons_of_mem _ he);exact⟨h1.1,by rw[List.getElem?_set_ne (Nat.ne_of_gt (ho.1 e' he))];exact h1.2⟩
theorem jo.push {sr:List E}(s:jo hp m sr)(l:List V)(g:List Nat):jo (List.set (hp++[O.list l]) m (O.list ((sr.map E.v).reverse++[E.v (hp.length,l,g)]))) m ((hp.length,l,g)::sr):=by
 have hm:=(List.getElem?_eq_some_iff.mp s.top).1;have hl:∀e∈sr,e.1<hp.length:=λe he=>(List.getElem?_eq_some_iff.mp (s.each e he).2).1;refine⟨?_,λe' he=>?_,List.pairwise_cons.mpr ⟨λe he=>hl e he,s.ord⟩⟩
 ·rw[List.map_cons,List.reverse_cons];exact List.getElem?_set_self (by rw[List.length_append];exact Nat.lt_add_right _ hm)
 ·rcases List.mem_cons.mp he with rfl|he
  ·exact⟨hm,by rw[List.getElem?_set_ne (Nat.ne_of_lt hm)];exact bK _ _⟩
  ·have h1:=s.each e' he;exact⟨h1.1,by rw[List.getElem?_set_ne (Nat.ne_of_lt h1.1),List.getElem?_append_left (hl e' he)];exact h1.2⟩
noncomputable def vO (ts:TS) (g:List Nat):Bool:=match ts with
 |[]=>false
 |(t,_)::_=>jZ t g
abbrev Pd:=Pt (Option V×PS)
def oa (ps:PS)(ts:TS):Pd:=match ts with
 |[]=>none
 |(t,_)::r=>if jZ t (af ",")then ob (nz () r) λy=>some (.ok ((none,ps),y.2))else match ps with
  |[]=>none
  |e::N4=>if aT e.2&&decide (e.2.length≤1000)&&decide (e.1.length≤1000)&&decide (N4.length≤1000)then ob (gp e.2 ts) λy=>some (.ok ((some (.tup e.1),N4),y.2))else none
def sE (ps:PS)(ts:TS):Pd:=match ps with
 |[]=>none
 |e::N4=>if aT e.2&&decide (N4.length≤1000)then(if vO ts e.2 then oa ps ts else some (.ok ((none,ps),ts)))else none
def w8 (ps:PS)(ts:TS):Pd:=match ts with
 |[]=>none
 |(t,b)::r=>ob (nz () r) λx=>match t with
  |.word w=>if vO x.2 (af "(")&&decide (ps.length≤900)then(match x.2 with
   |[]=>none
   |_::r'=>ob (nz () r') λy=>sE (([.str w],af ")")::ps) y.2)else none
  |.sign s=>if s==af "[" then(if decide (ps.length≤900)then sE (([],af "]")::ps) x.2 else none)else some (.error b)
  |.number i=>some (.ok ((some (.int i),ps),x.2))
  |.text l=>some (.ok ((some (.str l),ps),x.2))
  |.fin=>some (.error b)
def sG:Nat->Option V->PS->TS->Pt V
 |0,_,_,_=>none
 |j+1,ov,ps,ts=>match ov with
  |none=>ob (w8 ps ts) λx=>sG j x.1.1 x.1.2 x.2
  |some v=>match ps with
   |[]=>some (.ok (v,ts))
   |e::r=>if decide (e.1.length≤900)&&decide (r.length≤900)then ob (oa ((e.1++[v],e.2)::r) ts) λx=>sG j x.1.1 x.1.2 x.2 else none
noncomputable def N5:Option V->V
 |none=>.tup [.bool false,.none]
 |some v=>.tup [.bool true,v]
inductive Dq (N n:Nat)(T:List Nat)(F:FD)(m L:Nat)(hp:HP)(a:V)(hp':HP)(b:(Option V×PS)×TS):Prop
 |mk (sr:List E) (e:a=N5 b.1.1) (h:RT N hp' n T b.2 F) (es:sr.map (·.2)=b.1.2) (s:jo hp' m sr) (f:FL n L hp hp')
theorem Dq.fl {iK:HP}{a:V}{b:(Option V×PS)×TS}(q:Dq N n T F m L iK a hp' b)(f:FL n L hp iK):Dq N n T F m L hp a hp' b:=by
 cases q with
 |mk sr e h es s f'=>exact⟨sr,e,h,es,s,f.trans f'⟩
theorem w9 {γ δ:Type}{r:R V}{res:Pd}{f:V->HP->R γ}{g:(Option V×PS)×TS->Res δ}{Q':γ->HP->δ->Prop}(c:Wq r res (Dq N n T F m L hp))(h:∀hp' ov sr iq,RT N hp' n T iq F->jo hp' m sr->FL n L hp hp'->Wq (f (N5 ov) hp') (g ((ov,sr.map (·.2)),iq)) Q'):Wq (az r f) (ob res g) Q' :=
 Wq.bind c λa hp' b q=>by
  cases b with
  |mk b iq =>
  cases b with
  |mk ov ps =>
  cases q with
  |mk sr e ht es s fl =>
   cases e
   cases es
   exact h hp' ov sr iq ht s fl
theorem sH {e:E}{sr:List E}(s:jo hp m (e::sr))(hl:sr.length≤1000):bh hp (.ref m) (.int (-1))=some (E.v e) :=
 Br s.top (by rw[List.getLast?_reverse];rfl) (by simp;(apply aI<;>trivial))
theorem XQ {e:E}{sr:List E}(s:jo hp m (e::sr))(hl:sr.length≤1000):ag N (k+1) (bi "list.pop") [.ref m] hp=.ok (E.v e) (hp.set m (.list (sr.map E.v).reverse)):=by
 rw[show bi "list.pop"=.fix (.builtin "list.pop")from rfl,fA (g:=yE) "list.pop" rfl];have h1:((List.map E.v (e::sr)).reverse).getLast?=some (E.v e):=by rw[List.getLast?_reverse];rfl
 have h2:((List.map E.v (e::sr)).reverse).dropLast=(sr.map E.v).reverse:=by simp
 refine(gk (c9 s.top)).trans ((gk h1).trans ((eA (jm ?_)).trans ?_))
 ·simp;(apply aI<;>trivial)
 ·rw[h2]
theorem N6 {x:List V}(h:hp[m]?=some (.list x)):dM hp (.ref m) .pop=some (bi "list.pop"):=cz h
theorem Bs (h:RT N hp n T ts F){sr:List E}(s:jo hp m sr)(hm:n+9≤m)(hL:L≤m) :
  Wq (ag N (k+7) (.fix (.ref 340)) [.ref n,.ref m] hp) (oa (sr.map (·.2)) ts) (Dq N n T F m L hp):=by
 obtain⟨t,b,r,p,ok,R⟩:=h.rd;have is:=iI (N:=N) (k:=k+5) R rfl ok (kq ",");have qd:L≤hp.length:=Nat.le_trans hL (Nat.le_of_lt (List.getElem?_eq_some_iff.mp s.top).1);rw[Qd];cases hs:jZ t (af ",")with
 |true =>
  open_k with[oa,L9,R.bA (k:=.cM) rfl rfl,is,hs,R.bA (k:=.take) rfl rfl];refine(lY (k:=k+1) h).bind λay y mU h1 f1=>?_;open_k with[nj];exact .ok ⟨sr,rfl,h1,rfl,s.fr f1 hm,f1.fl qd⟩
 |false =>
  simp only[oa,hs,Bool.false_eq_true,if_false];cases sr with
  |nil=>trivial
  |cons e sr =>
   simp only[List.map_cons];split
   ·rename_i hc;simp only[Bool.and_eq_true,decide_eq_true_eq,List.length_map]at hc;refine bC λnG=>?_;obtain⟨⟨⟨c1,c2⟩,c3⟩,c4⟩:=hc;refine nG ?_;open_k with[L9,R.bA (k:=.cM) rfl rfl,is,hs,sH s c4,R.bA (k:=.want) rfl rfl];refine(qV (k:=k) h c1 c2).bind λay y mU h1 f1=>?_;have s1:=s.fr f1 hm;have h2:=(s1.each e List.mem_cons_self).2;have h3:(ay.set m (.list (sr.map E.v).reverse))[e.1]?=some (.list e.2.1):=by rw[List.getElem?_set_ne (Nat.ne_of_lt (s1.each e List.mem_cons_self).1)];exact h2
    open_k with[N6 s1.top,XQ s1 c4,w7 h3 (Nat.le_trans c3 (by decide))];exact .ok ⟨sr,rfl,h1.qS hm _,rfl,s1.tl,(f1.fl qd).trans (FL.set hL _)⟩
   ·trivial
end
section
variable {N k n L m:Nat}{hp hp':HP}{T:List Nat}{ts:TS}{F:FD}
theorem nr (t:Tok)(b:Nat):gX hp (.tup (t.l b)) none (some 2)=.ok (.tup [.str t.kind,t.val]) hp:=by cases t<;>exact n9 _ _ _
noncomputable def Tok.sI (t:Tok) (g:List Nat):Bool:=match t with
 |.number _=>false
 |.fin=>[]==g
 |.text l=>l==g
 |.word l=>l==g
 |.sign l=>l==g
theorem aaU {A K g:List Nat}(i:Int)(hA:aT A=true)(hK:aT K=true)(hg:aT g=true):dA .eq (.tup [.str A,.int i]) (.tup [.str K,.str g]) hp=some false:=by
 have h1:SeqAt.shaped (.tuple [.str (S A),.int i])=true:=by
  have:PyData.strOk (S A)=true:=by unfold PyData.strOk aT at *;simpa [S]using hA
  simp[SeqAt.shaped,PyData.canLay0,PyData.canLayAll0,this,PyData.depth,PyData.depthAll]
 have h2:=jn (l:=[K,g]) (by simp[hg,hK]);simp only[List.map_cons,List.map_nil]at h2
 have h3:PyData.eqv (.tuple [.str (S A),.int i]) (.tuple [.str (S K),.str (S g)])=false:=by
  rw[mC,mC,show PyData.eqv (.int i) (.str (S g))=false from rfl,Bool.false_and,Bool.and_false]
 exact DB (Gy (Gz A) (by unfold ma g0;rfl)) (vK _ _) h1 h2 h3
theorem vP {t:Tok}(ok:j0 t=true){K g:List Nat}(hK:aT K=true)(hg:aT g=true):dA .eq (.tup [.str t.kind,t.val]) (.tup [.str K,.str g]) hp=some (t.kind==K&&t.sI g):=by
 cases t with
 |number i=>rw[show Tok.sI (.number i) g=false from rfl,Bool.and_false];exact aaU i (i0 _) hK hg
 |fin=>exact mS (i0 .fin) rfl hK hg
 |text l=>exact mS (i0 (.text l)) ok hK hg
 |word l=>exact mS (i0 (.word l)) ok hK hg
 |sign l=>exact mS (i0 (.sign l)) ok hK hg
noncomputable def aaV (t:Tok) (b:Nat):Option (Except Int V):=match t with
 |.number i=>some (.ok (.int i))
 |.text l=>some (.ok (.str l))
 |.word _=>none
 |_=>some (.error b)
theorem vQ (t:Tok)(b:Nat):Wq (ag N (k+1) (.fix (.ref 326)) [.ref n,.tup (t.l b)] hp) (aaV t b) λa hp' v=>a=v∧hp'=hp:=by
 cases t with
 |word l=>trivial
 |number i =>
  rw[rG];open_k with[Bb,eY,mT,Tok.kind,Tok.val,aE (kq "number") (kq "number"),yb "number" "number"];exact .ok ⟨rfl,rfl⟩
 |text l =>
  rw[rG];open_k with[Bb,eY,mT,Tok.kind,Tok.val,aE (kq "text") (kq "number"),aE (kq "text") (kq "text"),nb "text" "number",yb "text" "text"];exact .ok ⟨rfl,rfl⟩
 |fin =>
  rw[rG];open_k with[Bb,eY,ip,Tok.kind,aE (kq "end") (kq "number"),aE (kq "end") (kq "text"),aE (kq "end") (kq "word"),nb "end" "number",nb "end" "text",nb "end" "word"];rfl
 |sign l =>
  rw[rG];open_k with[Bb,eY,ip,Tok.kind,aE (kq "sign") (kq "number"),aE (kq "sign") (kq "text"),aE (kq "sign") (kq "word"),nb "sign" "number",nb "sign" "text",nb "sign" "word"];rfl
def zA (c:Ca):List Sx:=[(bc (tX (ax c (aa 0) .cM [(aq (aq (aa 1) (gN (xC (.int 1)))) (xC (.int 1)))])) [(aW (ax c (aa 0) .closed [(aa 1)]))] []),(aW (ao [(xC (.bool false)),(xC .none)]))]
theorem Qz (c:Ca)(N:Nat):Vc c N=(aR 2 (ax c (aa 0) .take []))::(bc (aS true [(ai (aq (aa 2) (xC (.int 0))) [(.eq,(xS "word"))]),(tX (ax c (aa 0) .cM [(xS "(")]))]) [(bo (ax c (aa 0) .take [])),(bo (ax c (aa 1) .append [(ao [(cm [(aq (aa 2) (xC (.int 1)))]),(xS ")")])]))] [(bc (ai (cU (aa 2) (xC .none) (xC (.int 2))) [(.eq,(ao [(xS "sign"),(xS "[")]))]) [(bo (ax c (aa 1) .append [(ao [(cm []),(xS "]")])]))] [(aW (ao [(xC (.bool true)),(ax c (aa 0) .fk [(aa 2)])]))])])::zA c:=rfl
theorem Bt (h:RT N hp n T ts F){e:E}{sr:List E}(s:jo hp m (e::sr))(hm:n+9≤m)(hL:L≤m)(x:Option V) :
  Wq (bj (aF (zA (ag N (k+7)))) [some (.ref n),some (.ref m),x] hp) (sE (e.2::sr.map (·.2)) ts) (Dq N n T F m L hp):=by
 refine bC λnG=>?_;obtain⟨t,b,r,p,ok,R⟩:=h.rd;refine nG ?_;simp only[sE];split
 ·rename_i hc;simp only[Bool.and_eq_true,decide_eq_true_eq,List.length_map]at hc;refine bp hc λc1 c2=>?_;have is:=iI (N:=N) (k:=k+6) R rfl ok c1;cases hs:jZ t e.2.2 with
  |true =>
   open_k with[zA,vO,R.bA (k:=.cM) rfl rfl,sH s c2,show bh hp (E.v e) (.int 1)=some (.str e.2.2)from rfl,is,hs,R.bA (k:=.closed) rfl rfl];have:=Bs (k:=k) h s hm hL;generalize ag N (k+7) (.fix (.ref 340)) [.ref n,.ref m] hp=rr at this ⊢;cases rr<;>exact this
  |false =>
   open_k with[zA,vO,R.bA (k:=.cM) rfl rfl,sH s c2,show bh hp (E.v e) (.int 1)=some (.str e.2.2)from rfl,is,hs];exact .ok ⟨e::sr,rfl,h,rfl,s,FL.refl⟩
 ·trivial
theorem Bu (h:RT N hp n T ts F){sr:List E}(s:jo hp m sr)(hm:n+9≤m)(hL:L≤m) :
  Wq (ag N (k+8) (.fix (.ref 333)) [.ref n,.ref m] hp) (w8 (sr.map (·.2)) ts) (Dq N n T F m L hp):=by
 obtain⟨t,b,r,p,ok,R⟩:=h.rd;have qd:L≤hp.length:=Nat.le_trans hL (Nat.le_of_lt (List.getElem?_eq_some_iff.mp s.top).1);rw[Qc];open_k with[w8,Qz,R.bA (k:=.take) rfl rfl];refine(lY (k:=k+2) h).bind λay _ mU h1 f1=>?_;have s1:=s.fr f1 hm;obtain⟨t1,b1,r1,p1,VB,R1⟩:=h1.rd;have ct:=vP (hp:=ay) ok (kq "sign") (kq "[");cases t with
 |number i =>
  simp only[Tok.kind]at ct;open_k with[eY,Tok.kind,aE (kq "number") (kq "word"),nb "number" "word",bW,gT,nr,ct,nb "number" "sign",Bool.false_and,R1.bA (k:=.fk) rfl rfl];refine bC λnG=>?_;refine cb (vQ (N:=N) (k:=k+6) (n:=n) (hp:=ay) (.number i) b) λa aN e eP gY=>?_;subst eP;subst gY;refine nG ?_;open_k with[e];exact .ok ⟨sr,rfl,h1,rfl,s1,f1.fl qd⟩
 |text l =>
  simp only[Tok.kind]at ct;open_k with[eY,Tok.kind,aE (kq "text") (kq "word"),nb "text" "word",bW,gT,nr,ct,nb "text" "sign",Bool.false_and,R1.bA (k:=.fk) rfl rfl];refine bC λnG=>?_;refine cb (vQ (N:=N) (k:=k+6) (n:=n) (hp:=ay) (.text l) b) λa aN e eP gY=>?_;subst eP;subst gY;refine nG ?_;open_k with[e];exact .ok ⟨sr,rfl,h1,rfl,s1,f1.fl qd⟩
 |fin =>
  simp only[Tok.kind]at ct;have e:=vQ (N:=N) (k:=k+6) (n:=n) (hp:=ay) .fin b;open_k with[eY,Tok.kind,aE (kq "end") (kq "word"),nb "end" "word",bW,gT,nr,ct,nb "end" "sign",Bool.false_and,R1.bA (k:=.fk) rfl rfl];exact congrArg (λr=>az r _) e
 |sign g =>
  simp only[Tok.kind]at ct;cases hg:(g==af "[")with
  |false =>
   have e:=vQ (N:=N) (k:=k+6) (n:=n) (hp:=ay) (.sign g) b;open_k with[eY,Tok.kind,aE (kq "sign") (kq "word"),nb "sign" "word",bW,gT,nr,ct,Tok.sI,hg,Bool.and_false,R1.bA (k:=.fk) rfl rfl];exact congrArg (λr=>az r _) e
  |true =>
   by_cases hc:sr.length≤900
   ·simp only[hg,if_true,List.length_map,hc,decide_true];have hlen:((sr.map E.v).reverse).length≤1000000:=by simp;(apply aI<;>trivial)
    have f3:FL n L ay (List.set (ay++[O.list []]) m (.list ((sr.map E.v).reverse++[E.v (ay.length,[],af "]")]))):=(Fr.fl (Fr.app _) (Nat.le_trans qd f1.len)).trans (FL.set hL _);have ht:=Bt (k:=k) ((h1.app [.list []]).qS hm _) (s1.push [] (af "]")) hm hL (some (.tup (Tok.l (.sign g) b)));have AG:(ay++[O.list []])[m]?=some (.list (sr.map E.v).reverse):=by rw[List.getElem?_append_left (List.getElem?_eq_some_iff.mp s1.top).1];exact s1.top
    open_k with[eY,Tok.kind,aE (kq "sign") (kq "word"),nb "sign" "word",bW,gT,nr,ct,Tok.sI,hg,yb "sign" "sign",Bool.and_self,iZ s1.top,iY AG hlen];exact ht.mono λ_ _ _ q=>q.fl ((f1.fl qd).trans f3)
   ·simp only[hg,if_true,List.length_map,hc,decide_false,Bool.false_eq_true,if_false];trivial
 |word w =>
  simp only[vO];by_cases hs:jZ t1 (af "(")=true
  ·by_cases hc:sr.length≤900
   ·simp only[hs,Bool.true_and,List.length_map,hc,decide_true,if_true];have is:=iI (N:=N) (k:=k+6) R1 rfl VB (kq "(");open_k with[eY,Tok.kind,aE (kq "word") (kq "word"),yb "word" "word",R1.bA (k:=.cM) rfl rfl,is,hs,R1.bA (k:=.take) rfl rfl];refine(lY (k:=k+2) h1).bind λaN _ qX h2 f2=>?_;have s2:=s1.fr f2 hm;have hlen:((sr.map E.v).reverse).length≤1000000:=by simp;(apply aI<;>trivial)
    have f3:FL n L aN (List.set (aN++[O.list [.str w]]) m (.list ((sr.map E.v).reverse++[E.v (aN.length,[.str w],af ")")]))):=(Fr.fl (Fr.app _) (Nat.le_trans qd (f1.trans f2).len)).trans (FL.set hL _);have ht:=Bt (k:=k) ((h2.app [.list [.str w]]).qS hm _) (s2.push [.str w] (af ")")) hm hL (some (.tup (Tok.l (.word w) b)));have AG:(aN++[O.list [.str w]])[m]?=some (.list (sr.map E.v).reverse):=by rw[List.getElem?_append_left (List.getElem?_eq_some_iff.mp s2.top).1];exact s2.top
    open_k with[iZ s2.top,mT,Tok.val,iY AG hlen];exact ht.mono λ_ _ _ q=>q.fl (((f1.trans f2).fl qd).trans f3)
   ·simp only[hs,Bool.true_and,List.length_map,hc,decide_false,Bool.false_eq_true,if_false];trivial
  ·simp only[hs,Bool.false_and,Bool.false_eq_true,if_false];trivial
end
section
variable {N k n L m:Nat}{hp hp':HP}{T:List Nat}{ts:TS}{F:FD}
def N7 (c:Ca):List Sx:=[(bc (ai (aD c (xC (bi "len")) [(aa 1)]) [(.eq,(xC (.int 0)))]) [(aW (aa 3))] []),
 (bo (ax c (aq (aq (aa 1) (gN (xC (.int 1)))) (xC (.int 0))) .append [(aa 3)])),
 (eH [2,3] (ax c (aa 0) .closed [(aa 1)]))]
def xa (c:Ca)(N:Nat):List Sx:=[(fB N (tX (aa 2)) (N7 c))]
def Ji (c:Ca)(N:Nat):List Sx:=(eH [2,3] (ax c (aa 0) .opened [(aa 1)]))::xa c N
theorem QA (c:Ca)(N:Nat):Vd c N=[(aR 1 (cm [])),(fB N (tX (xC (.bool true))) (Ji c N))]:=rfl
def j8 (c:Ca)(N M M2:Nat)(loc:Loc)(hp:HP):R (Fl×Loc):=az (aF (xa c M2) loc hp) (wU (tX (xC (.bool true))) (aF (Ji c N)) M)
inductive DL (N n:Nat)(T:List Nat)(F:FD)(L:Nat)(hp:HP)(a:Fl×Loc)(hp':HP)(b:V×TS):Prop
 |mk (loc:Loc) (e:a=(.ret b.1,loc)) (h:RT N hp' n T b.2 F) (f:FL n L hp hp')
theorem DL.fl {iK:HP}{a:Fl×Loc}{b:V×TS}(q:DL N n T F L iK a hp' b)(f:FL n L hp iK):DL N n T F L hp a hp' b:=by
 cases q with
 |mk loc e h f'=>exact⟨loc,e,h,f.trans f'⟩
noncomputable abbrev VI (n m:Nat):Option V->Loc
 |none=>[some (.ref n),some (.ref m),some (.bool false),some .none]
 |some v=>[some (.ref n),some (.ref m),some (.bool true),some v]
theorem aaW (c:Ca)(M M2:Nat)(loc:Loc):j8 c N M (M2+1) [some (.ref n),some (.ref m),some (.bool false),some .none] hp=dH (tX (xC (.bool true))) (aF (Ji c N)) M [some (.ref n),some (.ref m),some (.bool false),some .none] hp:=by
 open_k with[j8,xa,jU]
theorem Jj (v x y:Option V):Et [2,3] [some (.ref n),some (.ref m),x,y] (N5 v) hp=.ok (.next,VI n m v) hp:=by cases v<;>rfl
theorem Jk (hm:n+9≤m)(hL:L≤m)(j:Nat):∀(M M2:Nat) (ov:Option V) (sr:List E) {hp:HP} {ts:TS},RT N hp n T ts F->jo hp m sr->j≤M->j≤M2->j≤N ->
  Wq (j8 (ag N (k+8)) N M M2 (VI n m ov) hp) (sG j ov (sr.map (·.2)) ts) (DL N n T F L hp):=by
 induction j with
 |zero=>intros;trivial
 |succ j ih =>
  intro M M2 ov sr hp ts h s hM Zx hN;cases M2 with
  |zero=>exact absurd Zx (Nat.not_succ_le_zero _)
  |succ M2 =>
  cases ov with
  |none =>
   cases M with
   |zero=>exact absurd hM (Nat.not_succ_le_zero _)
   |succ M =>
   rw[aaW _ _ _ [],jU];open_k with[Ji,h.bA (k:=.opened) rfl rfl];refine w9 (Bu (k:=k) h s hm hL) λay ov Jl mU h1 s1 f1=>?_;open_k with[Jj];exact(ih M N ov Jl h1 s1 (Nat.le_of_succ_le_succ hM) (Nat.le_of_succ_le hN) (Nat.le_of_succ_le hN)).mono λ_ _ _ q=>q.fl f1
  |some v =>
   cases sr with
   |nil =>
    open_k with[sG,List.map_nil,j8,xa,N7,jU,len_list (N:=N) (k:=k+7) s.top (show([].map E.v).reverse.length≤1000000 by decide),show((([].map E.v).reverse.length:Int)==0)=true from rfl];exact .ok ⟨_,rfl,h,FL.refl⟩
   |cons e sr =>
    simp only[sG,List.map_cons];cases Dc:decide (e.2.1.length≤900)with
    |false =>
     simp only[List.length_map,Dc,Bool.false_and,Bool.false_eq_true,if_false];trivial
    |true =>
    cases uR:decide (sr.length≤900)with
    |false =>
     simp only[List.length_map,Dc,uR,Bool.and_false,Bool.false_eq_true,if_false];trivial
    |true =>
     have d1:=of_decide_eq_true Dc;have d2:=of_decide_eq_true uR;have hlen:((e::sr).map E.v).reverse.length≤1000000:=by simp;(apply aI<;>first|assumption|exact rfl)
     have h0:((((e::sr).map E.v).reverse.length:Int)==0)=false:=by simp;(apply RK<;>first|assumption|exact rfl)
     have he:=s.each e List.mem_cons_self;have ap:=iY (N:=N) (k:=k+7) he.2 (Nat.le_trans d1 (by decide)) v;have s1:=s.up (e.2.1++[v]);have h1:=h.qS (m:=e.1) (by apply RN<;>first|assumption|exact rfl) (.list (e.2.1++[v]));open_k with[List.length_map,Dc,uR,Bool.and_self,if_true,j8,xa,N7,jU,len_list (N:=N) (k:=k+7) s.top hlen,h0,sH s (Nat.le_trans d2 (by decide)),show bh hp (E.v e) (.int 0)=some (.ref e.1)from rfl,iZ he.2,ap,h1.bA (k:=.closed) rfl rfl];refine w9 (Bs (k:=k+1) h1 s1 hm hL) λay ov Jl mU h2 s2 f1=>?_;have q:=(ih M M2 ov Jl h2 s2 (Nat.le_of_succ_le hM) (Nat.le_of_succ_le_succ Zx) (Nat.le_of_succ_le hN)).mono λ_ _ _ q=>q.fl ((FL.set (hp:=hp) (show L≤e.1 by apply RN<;>first|assumption|exact rfl) (.list (e.2.1++[v]))).trans f1);cases ov<;>(simp only[N5,VI,j8,xa,N7,NN,yU,u1,FZ,F8,F9,Ga,yV,u2,u3,rH,yW,u4,u5,yX,u6,oY,oZ,o9,pb,pd,pg,Gb,rJ,ph,NO,Ge,NP,Gf,rK,rL,rM,rN,rP,rQ,rR,u7,u9,vb,vc,vd,ve,yY,vf,Gg,yZ,y0,y7,vg,vh,rS,pj,pk,pq,pB,vi,rT,vj,rU,rV,vm,rW,rX,rY,y8,vn,vo,vp,pC,pD,pE,rZ,qM,y9,vq,vr,vt,r7,r8,r9,Gh,za,zb,vw,qN,n3,qO,qP,Gi,zc,zd,sd,se,pF,pG,ze,zf,jV,jW,fM,vy,vz,Gj,jd,sg,n5,NR,NS,Gk,Gl,Gm,Gn,Gp,si,zm,zo,Gr,sj,vE,zp,zq,Gs,zr,zt,List.getElem?_cons_zero,List.getElem?_cons_succ,List.set_cons_zero,List.set_cons_succ,if_true,if_false,ite_true,ite_false,Bool.false_eq_true,Bool.not_true,Bool.not_false,beq_self_eq_true,reduceCtorEq,Option.map_some,Option.map_none,Bool.true_beq,Bool.false_beq,Bool.true_eq_false,lh,lP,zg,zh,zi,zj,zk,ik,vx,n4,sf,gS,vA,kz,pH,zl,vB,Gq,nj]at q ⊢;exact q)
def sS (ts:TS):Pt V:=sG 60 none [] ts
theorem Wq.then {α β γ:Type}{r:R α}{res:Res β}{Q:α->HP->β->Prop}{f:α->HP->R γ}{Q':γ->HP->β->Prop}(c:Wq r res Q)(h:∀a hp' b,Q a hp' b->∃a',f a hp'=.ok a' hp'∧Q' a' hp' b):Wq (az r f) res Q' :=
 match res,c with
 |none,_=>trivial
 |some (.error _),c=>congrArg (λr=>az r f) c
 |some (.ok b),⟨a,hp',e,q⟩=>let⟨a',e',q'⟩:=h a hp' b q;⟨a',hp',(congrArg (λr=>az r f) e).trans e',q'⟩
theorem Jm (h:RT N hp n T ts F)(hN:60≤N):vN N hp n T F (λv=>v) (ag N (k+9) (.fix (.ref 347)) [.ref n] hp) (sS ts):=by
 have hln:=h.lt;have h1:=h.app [.list []];have s1:jo (hp++[O.list []]) hp.length []:=⟨bK _ _,(λ_ h=>by cases h),List.Pairwise.nil⟩;refine bC λnG=>?_;obtain⟨M,rfl⟩:∃M,N=M+1:=⟨N - 1,by apply Hj<;>first|assumption|exact rfl⟩;obtain⟨t,b,r,p,ok,R⟩:=h1.rd;refine nG ?_;rw[Qe];open_k with[QA];rw[jU];open_k with[Ji,R.bA (k:=.opened) rfl rfl];refine w9 (Bu (k:=k) h1 s1 (L:=hp.length) (by assumption) (Nat.le_refl _)) λay ov Jl mU h2 s2 f1=>?_;open_k with[Jj];rw[<- nj];refine(Jk (k:=k) (L:=hp.length) (by assumption) (Nat.le_refl _) 59 M (M+1) ov Jl h2 s2 (by apply Ed<;>first|assumption|exact rfl) (by apply bR<;>first|assumption|exact rfl) (by apply bR<;>first|assumption|exact rfl)).then ?_;rintro _ aN b' ⟨loc,rfl,h3,f2⟩;refine⟨_,rfl,rfl,h3,FL.fr ?_⟩;exact(FL.trans ⟨by simp,λj _ h=>List.getElem?_append_left h⟩ (f1.trans f2))
end
section
variable {N k n L m:Nat}{hp hp':HP}{T:List Nat}{ts:TS}{F:FD}
inductive GD (N n:Nat)(T:List Nat)(ts:TS)(o:Option HP)(F:FD)(hp:HP):Prop
 |mk (hp':HP) (e:o=some hp') (h:RT N hp' n T ts F) (f:Fr n hp hp')
inductive Zy (N n:Nat)(T:List Nat)(ts:TS)(r:R V)(F:FD)(hp:HP):Prop
 |mk (hp':HP) (e:r=.ok .none hp') (h:RT N hp' n T ts F) (f:Fr n hp hp')
inductive aaX (N n:Nat)(T:List Nat)(ts:TS)(r:R V)(F:FD)(hp:HP):Prop
 |mk (x:V) (hp':HP) (e:r=.ok x hp') (h:RT N hp' n T ts F) (f:Fr n hp hp')
theorem RT.Bm (h:RT N hp n T ts F)(v:Int):GD N n T ts (dj hp (.ref n) .b9 (.int v)) {F with gs:=v} hp:=by
 refine ka h λt b r p gY ok R rest=>?_;subst gY;exact⟨_,R.Bm v,⟨t,b,r,p,rfl,ok,R.s1 (t.l b) v F.ss,rest⟩,Fr.set _ (by apply Nat.le_add_right<;>trivial) (by apply dz<;>trivial)⟩
theorem RT.Bn (h:RT N hp n T ts F)(v:Int):GD N n T ts (dj hp (.ref n) .bZ (.int v)) {F with ss:=v} hp:=by
 refine ka h λt b r p gY ok R rest=>?_;subst gY;exact⟨_,R.Bn v,⟨t,b,r,p,rfl,ok,R.s1 (t.l b) F.gs v,rest⟩,Fr.set _ (by apply Nat.le_add_right<;>trivial) (by apply dz<;>trivial)⟩
theorem RT.pI (h:RT N hp n T ts F)(v:List V):GD N n T ts (dj hp (.ref (n+4)) .goal (.tup v)) {F with goal:=v} hp:=by
 refine ka h λt b r p gY ok R rest=>?_;subst gY;exact⟨_,R.pI v,⟨t,b,r,p,rfl,ok,R.s5 v F.shown,rest⟩,Fr.set _ (by apply Nat.le_add_right<;>trivial) (by apply dz<;>trivial)⟩
theorem RT.qT (h:RT N hp n T ts F)(v:List V):GD N n T ts (dj hp (.ref (n+4)) .shown (.tup v)) {F with shown:=v} hp:=by
 refine ka h λt b r p gY ok R rest=>?_;subst gY;exact⟨_,R.qT v,⟨t,b,r,p,rfl,ok,R.s5 F.goal v,rest⟩,Fr.set _ (by apply Nat.le_add_right<;>trivial) (by apply dz<;>trivial)⟩
theorem RT.bG (h:RT N hp n T ts F)(v:V)(hl:F.qs.length≤1000):Zy N n T ts (ag N (k+1) (bi "list.append") [.ref (n+8),v] hp) {F with qs:=F.qs++[v]} hp:=by
 refine ka h λt b r p gY ok R rest=>?_;subst gY;exact⟨_,iY R.o8 (Nat.le_trans hl (by decide)) v,⟨t,b,r,p,rfl,ok,R.s8 (F.qs++[v]),rest⟩,Fr.set _ (by apply Nat.le_add_right<;>trivial) (by apply dz<;>trivial)⟩
theorem RT.post (h:RT N hp n T ts F)(v:V)(hl:F.ts.length≤1000):Zy N n T ts (ag N (k+2) (.fix (.ref 133)) [.ref (n+4),v] hp) {F with ts:=F.ts++[v]} hp:=by
 refine ka h λt b r p gY ok R rest=>?_;subst gY;refine⟨_,?_,⟨t,b,r,p,rfl,ok,R.s7 (F.ts++[v]),rest⟩,Fr.set _ (by apply Nat.le_add_right<;>trivial) (by apply dz<;>trivial)⟩;rw[PH];open_k with[UU,R.Bj,iZ R.o7,iY (N:=N) (k:=k) R.o7 (Nat.le_trans hl (by decide)) v]
theorem RT.ke (h:RT N hp n T ts F)(u v:V)(hl:F.vs.length≤1000):aaX N n T ts (ag N (k+2) (.fix (.ref 126)) [.ref (n+4),u,v] hp) {F with vs:=F.vs++[.tup [u,v]]} hp:=by
 refine bC λnG=>?_;refine ka h λt b r p gY ok R rest=>?_;subst gY;refine nG ?_;have R':=R.s6 (F.vs++[.tup [u,v]]);refine⟨.int (((F.vs++[V.tup [u,v]]).length:Int) - 1),_,?_,⟨t,b,r,p,rfl,ok,R',rest⟩,Fr.set _ (by apply Nat.le_add_right<;>trivial) (by apply dz<;>trivial)⟩;rw[PG];open_k with[UT,R.fvars,iZ R.o6,iY (N:=N) (k:=k) R.o6 (Nat.le_trans hl (by decide)) (.tup [u,v]),R'.fvars,len_list (N:=N) (k:=k) R'.o6 (show(F.vs++[V.tup [u,v]]).length≤1000000 by simp;(apply aI<;>trivial))]
abbrev Pf:=Res (TS×FD)
def Bv (N:Nat)(hp:HP)(n:Nat)(T:List Nat)(r:R V)(res:Pf):Prop:=Wq r res λ_ hp' b=>RT N hp' n T b.1 b.2∧Fr n hp hp'
noncomputable def Tok.name:Tok->Option (List Nat)
 |.word l=>some l
 |.text l=>some l
 |_=>none
def fT (ts:TS)(F:FD):Pf:=ob (jG ts) λd=>ob (gp (af ":") d.2) λy=>match y.2 with
 |[]=>none
 |(t,b)::r=>match t.name with
  |none=>some (.error b)
  |some w=>ob (nz () r) λz=>if F.vs.length≤1000 then some (.ok (z.2,{F with vs:=F.vs++[.tup [.str w,.tup (d.1.map pv)]]}))else none
theorem Jn (t:Tok):(af "word"==t.kind||af "text"==t.kind)=t.name.isSome:=by cases t<;>kernel_rfl
theorem MT {t:Tok}{w:List Nat}(h:t.name=some w):t.val=.str w:=by cases t<;>cases h<;>rfl
theorem GF (h:RT N hp n T ts F)(hN:60≤N):Bv N hp n T (ag N (k+9) (.fix (.ref 391)) [.ref n] hp) (fT ts F):=by
 refine bC λnG=>?_;obtain⟨t,b,r,p,ok,R⟩:=h.rd;refine nG ?_;rw[Qi];open_k with[Vg,R.bA (k:=.domain) rfl rfl];refine(Ms (k:=k) h (by apply bR<;>trivial)).bind λay d mU h1 f1=>?_;open_k with[h1.bA (k:=.want) rfl rfl];refine(qV (k:=k+2) h1 (by decide) (by decide)).bind λaN _ qX h2 f2=>?_;refine bC λnG=>?_;obtain⟨t2,b2,r2,p2,Zz,R2⟩:=h2.rd;refine nG ?_;have kn:=Jn t2;have i2:=jY (hp:=aN) (a:=af "word") (b:=af "text") (x:=t2.kind) (by decide) (by decide) (i0 t2);rw[kn]at i2;cases e:t2.name with
 |none =>
  rw[e]at i2;open_k with[R2.ahead,eY,ip,i2,Option.isSome_none,e];rfl
 |some w =>
  rw[e]at i2;open_k with[R2.ahead,eY,i2,Option.isSome_some,e,R2.flat,R2.sD (k:=.ke) rfl rfl,R2.bA (k:=.take) rfl rfl];refine(lY (k:=k+3) h2).bind λbL _ N2 h3 f3=>?_;by_cases hl:F.vs.length≤1000
  ·refine bC λnG=>?_;obtain⟨x,lg,e4,h4,f4⟩:=h3.ke (k:=k+6) (.str w) (.tup (d.map pv)) hl;refine nG ?_;open_k with[mT,MT e,e4,hl];exact .ok ⟨h4,((f1.trans f2).trans f3).trans f4⟩
  ·simp only[hl,if_false];trivial
def fZ (ts:TS)(F:FD):Pf:=match ts with
 |[]=>none
 |(_,b)::_=>if F.qs.length≤1000∧F.ts.length≤1000 then ob (sS ts) λd=>some (.ok (d.2,{F with qs:=F.qs++[.int b],ts:=F.ts++[d.1]}))else none
theorem Bw (h:RT N hp n T ts F)(hN:60≤N):Bv N hp n T (ag N (k+10) (.fix (.ref 398)) [.ref n] hp) (fZ ts F):=by
 refine bC λnG=>?_;obtain⟨t,b,r,p,ok,R⟩:=h.rd;refine nG ?_;rw[Qj];simp only[fZ];by_cases hl:F.qs.length≤1000∧F.ts.length≤1000
 ·refine bC λnG=>?_;obtain⟨ay,e1,h1,f1⟩:=h.bG (k:=k+8) (.int b) hl.1;refine nG ?_;open_k with[Vh,hl,and_self,R.ahead,ip,R.eM,iZ R.o8,e1,h1.flat,h1.sD (k:=.post) rfl rfl,h1.bA (k:=.data) rfl rfl];refine(Jm (k:=k) h1 hN).bind λaN v qX h2 f2=>?_;refine bC λnG=>?_;obtain⟨bL,e3,h3,f3⟩:=h2.post (k:=k+7) v hl.2;refine nG ?_;open_k with[e3];exact .ok ⟨h3,(f1.trans f2).trans f3⟩
 ·simp only[hl,if_false];trivial
def mV (bG:Nat)(ts:TS)(F:FD):Pf:=if decide (0≤F.gs)then some (.error bG)else match ts with
 |[]=>none
 |(t,b)::r=>ob (nz () r) λz=>match t with
  |.word w=>if[af "satisfy",af "minimize",af "maximize"].any (·==w)then(if w==af "satisfy" then some (.ok (z.2,{F with gs:=b,goal:=[.str w,.none]}))else ob (B7 z.2) λy=>some (.ok (y.2,{F with gs:=b,goal:=[.str w,.int y.1]})))else some (.error b)
  |_=>some (.error b)
theorem Jo (t:Tok):(t.kind==af "word")=(match t with|.word _=>true|_=>false):=by cases t<;>kernel_rfl
theorem VJ (h:RT N hp n T ts F)(bG:Nat):Bv N hp n T (ag N (k+7) (.fix (.ref 405)) [.ref n,.int bG] hp) (mV bG ts F):=by
 obtain⟨t,b,r,p,ok,R⟩:=h.rd;rw[Qk];simp only[mV];cases hg:decide (0≤F.gs)with
 |true =>
  open_k with[Mb,R.vJ,hg];rfl
 |false =>
  refine bC λnG=>?_;obtain⟨ay,e1,h1,f1⟩:=h.Bm b;refine nG ?_;open_k with[Mb,R.vJ,hg,R.ahead,ip,e1,h1.bA (k:=.take) rfl rfl];refine(lY (k:=k+1) h1).bind λaN _ qX h2 f2=>?_;have kw:=Jo t;have cn:=lR (i0 t) (kq "word") aN;rw[kw]at cn;cases t with
  |word w =>
   have iw:=wY (hp:=aN) (l:=[af "satisfy",af "minimize",af "maximize"]) (x:=w) (by decide) ok;simp only[List.map_cons,List.map_nil]at iw;have cs:=aE (show aT w=true from ok) (kq "satisfy") aN;cases hi:[af "satisfy",af "minimize",af "maximize"].any (·==w)with
   |false =>
    rw[hi]at iw;open_k with[eY,cn,mT,Tok.val,iw,ip,hi];rfl
   |true =>
    rw[hi]at iw;refine bC λnG=>?_;cases hw:(w==af "satisfy")with
    |true =>
     refine nG ?_;rw[hw]at cs;refine bC λnG=>?_;obtain⟨bL,e3,h3,f3⟩:=h2.pI [.str w,.none];refine nG ?_;open_k with[eY,cn,mT,Tok.val,iw,cs,h2.flat,e3,hi,hw];exact .ok ⟨h3,(f1.trans f2).trans f3⟩
    |false =>
     refine nG ?_;rw[hw]at cs;open_k with[eY,cn,mT,Tok.val,iw,cs,hi,hw,h2.bA (k:=.number) rfl rfl];refine(GA (k:=k) h2).bind λbL i N2 h3 f3=>?_;refine bC λnG=>?_;obtain⟨lg,e4,h4,f4⟩:=h3.pI [.str w,.int i];refine nG ?_;open_k with[h3.flat,e4];exact .ok ⟨h4,((f1.trans f2).trans f3).trans f4⟩
  |_ =>
   open_k with[eY,cn,ip];rfl
end
section
variable {N k n L m:Nat}{hp hp':HP}{T:List Nat}{ts:TS}{F:FD}
def lZ (bG:Nat)(ts:TS)(F:FD):Pf:=if decide (0≤F.ss)then some (.error bG)else match ts with
 |[]=>none
 |(_,b)::_=>ob (sS ts) λd=>match d.1 with
  |.tup l=>some (.ok (d.2,{F with ss:=b,shown:=l}))
  |_=>none
theorem Mt (h:RT N hp n T ts F)(hN:60≤N)(bG:Nat):Bv N hp n T (ag N (k+10) (.fix (.ref 412)) [.ref n,.int bG] hp) (lZ bG ts F):=by
 refine bC λnG=>?_;obtain⟨t,b,r,p,ok,R⟩:=h.rd;refine nG ?_;rw[Ql];simp only[lZ];cases hg:decide (0≤F.ss)with
 |true =>
  open_k with[Mc,R.zu,hg];rfl
 |false =>
  refine bC λnG=>?_;obtain⟨ay,e1,h1,f1⟩:=h.Bn b;refine nG ?_;open_k with[Mc,R.zu,hg,R.ahead,ip,e1,h1.bA (k:=.data) rfl rfl];refine(Jm (k:=k) h1 hN).bind λaN v qX h2 f2=>?_;cases v with
  |tup l =>
   refine bC λnG=>?_;obtain⟨bL,e3,h3,f3⟩:=h2.qT l;refine nG ?_;open_k with[h2.flat,e3];exact .ok ⟨h3,(f1.trans f2).trans f3⟩
  |_=>trivial
def Tok.vR (t:Tok)(g:List Nat):Bool:=t.kind==af "word"&&t.sI g
def mW (t:Tok)(b:Nat)(ts:TS)(F:FD):Pf:=if t.vR (af "var")then fT ts F else if t.vR (af "constraint")then fZ ts F
 else if t.vR (af "solve")then mV b ts F else if t.vR (af "output")then lZ b ts F else some (.error b)
def cQ (ts:TS)(F:FD):Pf:=match ts with
 |[]=>none
 |(t,b)::r=>ob (nz () r) λh=>ob (mW t b h.2 F) λx=>ob (gp (af ";") x.1) λy=>some (.ok (y.2,x.2))
def zB (c:Ca):List Sx:=[(bo (ax c (aa 0) .want [(xS ";")]))]
theorem QB (c:Ca)(N:Nat):Vi c N=(aR 1 (ax c (aa 0) .take []))::(bc (ai (cU (aa 1) (xC .none) (xC (.int 2))) [(.eq,(ao [(xS "word"),(xS "var")]))]) [(bo (ax c (aa 0) .jz []))] [(bc (ai (cU (aa 1) (xC .none) (xC (.int 2))) [(.eq,(ao [(xS "word"),(xS "constraint")]))]) [(bo (ax c (aa 0) .constraint []))] [(bc (ai (cU (aa 1) (xC .none) (xC (.int 2))) [(.eq,(ao [(xS "word"),(xS "solve")]))]) [(bo (ax c (aa 0) .goal [(aq (aa 1) (xC (.int 2)))]))] [(bc (ai (cU (aa 1) (xC .none) (xC (.int 2))) [(.eq,(ao [(xS "word"),(xS "output")]))]) [(bo (ax c (aa 0) .output [(aq (aa 1) (xC (.int 2)))]))] [(c7 (xS "var, constraint, solve or output is wanted") (aq (aa 1) (xC (.int 2))))])])])])::zB c:=rfl
theorem Jp (h:RT N hp n T ts F)(x:Option V):Wq (bj (aF (zB (ag N (k+6)))) [some (.ref n),x] hp) (ob (gp (af ";") ts) λy=>some (.ok (y.2,F))) λ_ hp' b=>RT N hp' n T b.1 b.2∧Fr n hp hp':=by
 open_k with[zB,h.bA (k:=.want) rfl rfl];refine(qV (k:=k) h (by decide) (by decide)).bind λay _ mU h1 f1=>?_;open_k with[nj];exact .ok ⟨h1,f1⟩
theorem VK (h:RT N hp n T ts F)(hN:60≤N):Bv N hp n T (ag N (k+11) (.fix (.ref 419)) [.ref n] hp) (cQ ts F):=by
 refine bC λnG=>?_;obtain⟨t,b,r,p,ok,R⟩:=h.rd;refine nG ?_;rw[Qm];open_k with[cQ,QB,R.bA (k:=.take) rfl rfl];refine(lY (k:=k+5) h).bind λay _ mU h1 f1=>?_;have tl:∀(a:V) aN (b':TS×FD),(RT N aN n T b'.1 b'.2∧Fr n ay aN)->Wq (bj (aF (zB (ag N (k+10)))) [some (.ref n),some (.tup (t.l b))] aN) (ob (gp (af ";") b'.1) λy=>some (.ok (y.2,b'.2))) λ_ hp' b=>RT N hp' n T b.1 b.2∧Fr n hp hp':=λa aN b' q=>(Jp (k:=k+4) q.1 _).mono λ_ _ _ q'=>⟨q'.1,(f1.trans q.2).trans q'.2⟩;have c1:=vP (hp:=ay) ok (kq "word") (kq "var");have c2:=vP (hp:=ay) ok (kq "word") (kq "constraint");have c3:=vP (hp:=ay) ok (kq "word") (kq "solve");have c4:=vP (hp:=ay) ok (kq "word") (kq "output");have w:∀g,(t.kind==af "word"&&t.sI g)=t.vR g:=λ_=>rfl;rw[w]at c1 c2 c3 c4;simp only[mW];cases DN:t.vR (af "var")with
 |true =>
  rw[DN]at c1;open_k with[bW,gT,nr,c1,h1.bA (k:=.jz) rfl rfl];refine(GF (k:=k+1) h1 hN).bind ?_;intro a aN b' q;exact tl a aN b' q
 |false =>
  rw[DN]at c1;cases qb:t.vR (af "constraint")with
  |true =>
   rw[qb]at c2;open_k with[bW,gT,nr,c1,c2,h1.bA (k:=.constraint) rfl rfl];refine(Bw (k:=k) h1 hN).bind ?_;intro a aN b' q;exact tl a aN b' q
  |false =>
   rw[qb]at c2;cases ZA:t.vR (af "solve")with
   |true =>
    rw[ZA]at c3;open_k with[bW,gT,nr,ip,c1,c2,c3,h1.bA (k:=.goal) rfl rfl];refine(VJ (k:=k+3) h1 b).bind ?_;intro a aN b' q;exact tl a aN b' q
   |false =>
    rw[ZA]at c3;cases ZC:t.vR (af "output")with
    |true =>
     rw[ZC]at c4;open_k with[bW,gT,nr,ip,c1,c2,c3,c4,h1.bA (k:=.output) rfl rfl];refine(Mt (k:=k) h1 hN b).bind ?_;intro a aN b' q;exact tl a aN b' q
    |false =>
     rw[ZC]at c4;open_k with[bW,gT,nr,ip,c1,c2,c3,c4];rfl
def kE:Nat->TS->FD->Pf
 |0,_,_=>none
 |j+1,ts,F=>match ts with
  |[]=>none
  |(t,_)::_=>if t.kind==af "end" then some (.ok (ts,F))else ob (cQ ts F) λx=>kE j x.1 x.2
def sJ:Tx:=(ai (aq (aH (aa 0) .ahead) (xC (.int 0))) [(.ne,(xS "end"))])
inductive aaY (N n:Nat)(T:List Nat)(loc:Loc)(hp:HP)(a:Fl×Loc)(hp':HP)(b:TS×FD):Prop
 |mk (e:a=(.next,some (.ref n)::loc)) (h:RT N hp' n T b.1 b.2) (f:Fr n hp hp')
theorem Jq (hN:60≤N)(loc:Loc)(j:Nat):∀(M:Nat) {hp:HP} {ts:TS} {F:FD},RT N hp n T ts F->j≤M ->
  Wq (dH sJ (aF [(bo (ax (ag N (k+11)) (aa 0) .item []))]) M (some (.ref n)::loc) hp) (kE j ts F) (aaY N n T loc hp):=by
 induction j with
 |zero=>intros;trivial
 |succ j ih =>
  intro M hp ts F h hj;cases M with
  |zero=>exact absurd hj (Nat.not_succ_le_zero _)
  |succ M =>
  have mi:=h.bA (k:=.item) rfl rfl;cases h.rd with
  |mk t b r p ok R =>
  have cn:=lR (i0 t) (kq "end") hp;rw[jU];simp only[kE];cases e:t.kind==af "end" with
  |true =>
   rw[e]at cn;open_k with[sJ,R.ahead,eY,cn];exact .ok ⟨rfl,h,Fr.refl _ _⟩
  |false =>
   rw[e]at cn;open_k with[sJ,R.ahead,eY,cn,mi];refine(VK (k:=k) h hN).bind λa ay b' q=>?_
   exact(ih M q.1 (Nat.le_of_succ_le_succ hj)).mono λ_ _ _ q'=>by
    cases q' with
    |mk e h f=>exact⟨e,h,q.2.trans f⟩
end
section
variable {N k n L m:Nat}{hp hp':HP}
def Ext (hp hp':HP):Prop:=∃l,hp'=hp++l
theorem Ext.refl:Ext hp hp:=⟨[],(List.append_nil _).symm⟩
theorem Ext.trans {au bJ:HP}(a:Ext hp au)(b:Ext au bJ):Ext hp bJ:=by
 refine aQ a λl aC=>?_;subst aC;refine aQ b λl' aC=>?_;subst aC;exact⟨l++l',List.append_assoc _ _ _⟩
theorem Ext.new (o:O):Ext hp (hp++[o]):=⟨[o],rfl⟩
theorem Ext.at (e:Ext hp hp'){j:Nat}{o:O}(h:hp[j]?=some o):hp'[j]?=some o:=by
 refine aQ e λl aC=>?_;subst aC;rw[List.getElem?_append_left (List.getElem?_eq_some_iff.mp h).1];exact h
theorem Ext.fr (e:Ext hp hp'):Fr n hp hp':=by
 refine aQ e λl aC=>?_;subst aC;exact Fr.app l
inductive jf (hp:HP):It->List V->Prop
 |vals (l:List V):jf hp (.vals l) l
 |lst (i k:Nat) (full:List V) (h:hp[i]?=some (.list full)):jf hp (.lst i k) (full.drop k)
theorem Mu {i k:Nat}{full:List V}(h:hp[i]?=some (.list full))(e:full[k]?=none):(It.lst i k).next hp=some none:=by
 refine(cz (c9 h)).trans ?_;rw[e]
theorem Mv {i k:Nat}{full:List V}{v:V}(h:hp[i]?=some (.list full))(e:full[k]?=some v):(It.lst i k).next hp=some (some (v,.lst i (k+1))):=by
 refine(cz (c9 h)).trans ?_;rw[e]
theorem jf.aaZ {it:It}{l:List V}(h:jf hp it l)(e:l=[]):it.next hp=some none:=by
 cases h with
 |vals=>rw[e];rfl
 |lst i k full h=>exact Mu h (List.getElem?_eq_none_iff.mpr (List.drop_eq_nil_iff.mp e))
theorem jf.nil {it:It}(h:jf hp it []):it.next hp=some none:=h.aaZ rfl
inductive N8 (it:It)(hp:HP)(v:V)(l:List V):Prop
 |mk (f9:It) (e:it.next hp=some (some (v,f9))) (h:∀hp',Ext hp hp'->jf hp' f9 l)
theorem jf.XR {it:It}{v:V}{l m:List V}(h:jf hp it m)(e:m=v::l):N8 it hp v l:=by
 cases h with
 |vals=>rw[e];exact⟨_,rfl,λ_ _=>.vals l⟩
 |lst i k full h =>
  have hk:full[k]?=some v:=by
   have:=congrArg List.head? e
   rwa [List.head?_drop]at this
  have hd:full.drop (k+1)=l:=by
   have:=congrArg List.tail e
   rwa [List.tail_drop]at this
  exact⟨_,Mv h hk,λhp' x=>hd▸.lst i (k+1) full (x.at h)⟩
theorem jf.cons {it:It}{v:V}{l:List V}(h:jf hp it (v::l)):N8 it hp v l:=h.XR rfl
inductive mD {α:Type}(r:HP->R α)(a:α)(hp:HP):Prop
 |mk (hp':HP) (e:r hp=.ok a hp') (x:Ext hp hp')
inductive XS (tg:Tg)(ifs:Tx)(elt:Ex)(P:Loc->Prop)(b:Bool)(u v:V)(loc:Loc)(hp:HP):Prop
 |mk (loc':Loc) (bJ:HP) (e:tg.put v loc=some loc') (hP:P loc') (e':ifs loc' hp=.ok b bJ) (x:Ext hp bJ) (h:b=true->mD (elt loc') u bJ)
def sM {α:Type}(g:α->V)(tg:Tg)(ifs:Tx)(elt:Ex)(P:Loc->Prop)(p:α->Bool)(f:α->V)(l:List α)(hp:HP):Prop:=∀v∈l,∀loc au,P loc->Ext hp au->XS tg ifs elt P (p v) (f v) (g v) loc au
section
variable {α:Type}{g:α->V}{tg:Tg}{ifs:Tx}{elt:Ex}{P:Loc->Prop}{p:α->Bool}{f:α->V}{M:Nat}{it f9:It}{acc:List V}{l:List α}{w:α}{v x:V}{loc loc':Loc}{bJ rq:HP}{r:R (List V)}
theorem sM.tl (h:sM g tg ifs elt P p f (w::l) hp)(x:Ext hp hp'):sM g tg ifs elt P p f l hp':=λv hv loc au a b=>h v (List.mem_cons_of_mem _ hv) loc au a (x.trans b)
theorem VL (e:it.next hp=some none):cR tg ifs elt (M+1) it acc loc hp=.ok acc hp:=by
 unfold cR;rw[e]
theorem XT (e:it.next hp=some (some (v,f9)))(e2:tg.put v loc=some loc')(e3:ifs loc' hp=.ok false bJ)(e4:cR tg ifs elt M f9 acc loc' bJ=r):cR tg ifs elt (M+1) it acc loc hp=r:=by
 conv=>lhs;unfold cR
 rw[e];show(match tg.put v loc with|none=>R.bad|some loc=>az (ifs loc hp) _)=_
 rw[e2];show az (ifs loc' hp) _=_;rw[e3];exact e4
theorem VM (e:it.next hp=some (some (v,f9)))(e2:tg.put v loc=some loc')(e3:ifs loc' hp=.ok true bJ)(e5:elt loc' bJ=.ok x rq)(hl:acc.length≤1000)(e4:cR tg ifs elt M f9 (acc++[x]) loc' rq=r):cR tg ifs elt (M+1) it acc loc hp=r:=by
 conv=>lhs;unfold cR
 rw[e];show(match tg.put v loc with|none=>R.bad|some loc=>az (ifs loc hp) _)=_
 rw[e2];show az (ifs loc' hp) _=_;rw[e3];show az (elt loc' bJ) _=_;rw[e5];exact(if_pos hl).trans e4
theorem Mw (h:p w=true):acc++((w::l).filter p).map f=(acc++[f w])++(l.filter p).map f:=by
 rw[List.filter_cons_of_pos h,List.map_cons,List.append_assoc];rfl
theorem QC (h:p w=false):acc++((w::l).filter p).map f=acc++(l.filter p).map f:=by
 rw[List.filter_cons_of_neg (by rw[h];decide)]
theorem QD (l:List α):∀(M:Nat) (it:It) (acc:List V) (loc:Loc) {hp:HP},jf hp it (l.map g)->P loc->l.length<M->acc.length+l.length≤1000->sM g tg ifs elt P p f l hp->mD (cR tg ifs elt M it acc loc) (acc++(l.filter p).map f) hp:=by
 induction l with
 |nil =>
  intro M it acc loc hp hi hP hM hl h;cases M with
  |zero=>cases hM
  |succ M=>exact⟨hp,(VL hi.nil).trans (by rw[List.filter_nil,List.map_nil,List.append_nil]),Ext.refl⟩
 |cons v l ih =>
  intro M it acc loc hp hi hP hM hl h;cases M with
  |zero=>cases hM
  |succ M =>
   have hM:=Nat.lt_of_succ_lt_succ hM;have hl:acc.length+(l.length+1)≤1000:=hl;cases hi.cons with
   |mk f9 e1 lC =>
   cases h v List.mem_cons_self loc hp hP Ext.refl with
   |mk loc' aN e2 ZD e3 x2 e4 =>
   cases hp':p v with
   |false =>
    rw[hp']at e3;rw[QC hp'];cases ih M f9 acc loc' (lC _ x2) ZD hM (by apply lF<;>trivial) (h.tl x2)with
    |mk bL e5 x5=>exact⟨bL,XT e1 e2 e3 e5,x2.trans x5⟩
   |true =>
    rw[hp']at e3;rw[Mw hp'];cases e4 hp' with
    |mk lg e6 x6 =>
    cases ih M f9 (acc++[f v]) loc' (lC _ (x2.trans x6)) ZD hM (by rw[List.length_append];exact(by(apply MW<;>trivial):acc.length+1+l.length≤1000)) (h.tl (x2.trans x6))with
    |mk bL e5 x5=>exact⟨bL,VM e1 e2 e3 e6 (by apply l9<;>trivial) e5,(x2.trans x6).trans x5⟩
end
inductive pJ (r:HP->R V)(l:List V)(hp:HP):Prop
 |mk (hp':HP) (e:r hp=.ok (.ref hp'.length) (hp'++[.list l])) (x:Ext hp hp')
theorem vS {α:Type}{i:Ix}{mp:List (Option Nat)}{tg:Tg}{ifs:Tx}{elt:Ex}{loc:Loc}(g:α->V)(P:Loc->Prop)(p:α->Bool)(f:α->V){l:List α}{it:It}(ei:i loc hp=.ok it hp)(hi:jf hp it (l.map g))(hP:P (kJ mp loc))(hM:l.length<N)(hl:l.length≤1000)
  (h:sM g tg ifs elt P p f l hp):pJ (cp N i mp tg ifs elt loc) ((l.filter p).map f) hp:=by
 cases QD l N it [] (kJ mp loc) hi hP hM (by simpa using hl) h with
 |mk hp' e x =>
 refine⟨hp',?_,x⟩;show az (i loc hp) _=_;rw[ei];show az (yD (cR tg ifs elt N it [] (kJ mp loc) hp)) ou=_;rw[e];rfl
theorem mE {i:Ix}{mp:List (Option Nat)}{tg:Tg}{ifs:Tx}{elt:Ex}{loc:Loc}(P:Loc->Prop)(p:V->Bool)(f:V->V){l:List V}{it:It}(ei:i loc hp=.ok it hp)(hi:jf hp it l)(hP:P (kJ mp loc))(hM:l.length<N)(hl:l.length≤1000)
  (h:sM (λv=>v) tg ifs elt P p f l hp):pJ (cp N i mp tg ifs elt loc) ((l.filter p).map f) hp:=vS (λv=>v) P p f ei ((List.map_id' l).symm▸hi) hP hM hl h
theorem fU {T:String}{v:V}{b:Bool}(h1:Hr T=true)(h2:isType T v=some b):ag N (k+1) (bi "isinstance") [v,.fix (.type T)] hp=.ok (.bool b) hp:=by
 rw[show bi "isinstance"=.fix (.builtin "isinstance")from rfl,fA (g:=Ey) "isinstance" rfl];refine(eA h1).trans ?_;rw[h2];rfl
theorem vT {l:List Bool}(h:hp[m]?=some (.list (l.map .bool))):ag N (k+1) (bi "all") [.ref m] hp=.ok (.bool (l.all id)) hp:=by
 rw[show bi "all"=.fix (.builtin "all")from rfl,fA (g:=Ez) "all" rfl]
 have:∀l:List Bool,qg (l.map V.bool)=some l:=by
  intro l
  induction l with
  |nil=>rfl
  |cons b l ih=>exact cz ih
 refine(gk (c9 h)).trans ?_;show bQ (Option.map V.bool (Option.map _ (qg (l.map V.bool)))) hp=_;rw[this];rfl
theorem GG (i:Int):ag N (k+2) (.fix (.ref 161)) [.int i] hp=.ok (.bool true) hp:=by
 rw[PK];open_k with[UY,fU (N:=N) (k:=k) (hp:=hp) (T:="int") (v:=.int i) (b:=true) rfl rfl,fU (N:=N) (k:=k) (hp:=hp) (T:="bool") (v:=.int i) (b:=false) rfl rfl]
noncomputable def inR (m:Nat) (i:Int):Bool:=decide (0≤i)&&decide (i<m)
theorem lS (i:Int):ag N (k+3) (.fix (.ref 173)) [.int i,.int m] hp=.ok (.bool (inR m i)) hp:=by
 rw[PM];cases h:decide (0≤i)<;>open_k with[U0,GG,h,inR,Bool.true_and,Bool.false_and]
theorem XU (l:List Int)(h:l.length<N)(hl:l.length≤1000):mD (ag N (k+3) (.fix (.ref 166)) [.tup (l.map .int)]) (.bool true) hp:=by
 refine bC λnG=>?_
 obtain⟨ay,e,x⟩:=mE (N:=N) (hp:=hp) (i:=cw (aa 0)) (mp:=[none,none]) (tg:=.one 1) (ifs:=aS true []) (elt:=(aD (ag N (k+2)) (xC (.fix (.ref 161))) [(aa 1)])) (loc:=[some (.tup (l.map .int))]) (λloc=>∃x,loc=[none,x]) (λ_=>true) (λ_=>.bool true) (l:=l.map .int) (it:=.vals (l.map .int)) rfl (.vals _) ⟨none,rfl⟩ (by simpa using h) (by simpa using hl) (by
  rintro v hv loc ay ⟨x,rfl⟩ _;refine aj (List.mem_map.mp hv) λi _ bH=>?_;subst bH;exact⟨_,ay,rfl,⟨_,rfl⟩,rfl,Ext.refl,λ_=>⟨ay,by open_k with[GG],Ext.refl⟩⟩)
 refine nG ?_
 have hb:((l.map V.int).filter λ_=>true).map (λ_=>V.bool true)=(List.replicate l.length true).map V.bool:=by
  rw[List.filter_eq_self.mpr (λ_ _=>rfl),List.map_map,List.map_replicate];exact List.map_const' (b:=V.bool true) (l:=l)
 rw[hb]at e;refine⟨ay++[.list ((List.replicate l.length true).map .bool)],?_,x.trans (Ext.new _)⟩;rw[PL];open_k with[UZ,fU (N:=N) (k:=k+1) (T:="tuple") (v:=.tup (l.map .int)) (b:=true) rfl rfl,e,vT (bK _ _)];rw[show(List.replicate l.length true).all id=true by simp]
theorem VN (i:Int):ag N (k+4) (.fix (.ref 178)) [.str (af "x"),.int i,.int m] hp=.ok (.bool (inR m i)) hp:=by
 rw[nX];open_k with[wN,aE (kq "x") (kq "x"),yb "x" "x",lS]
theorem VO (i:Int):ag N (k+4) (.fix (.ref 178)) [.str (af "n"),.int i,.int m] hp=.ok (.bool true) hp:=by
 rw[nX];simp -implicitDefEqProofs only[wN,NN,yU,u1,FZ,F8,F9,Ga,yV,u2,u3,rH,yW,u4,u5,yX,u6,oY,oZ,o9,pb,pd,pg,Gb,rJ,ph,NO,Ge,NP,Gf,rK,rL,rM,rN,rP,rQ,rR,u7,u9,vb,vc,vd,ve,yY,vf,Gg,yZ,y0,y7,vg,vh,rS,pj,pk,pq,pB,vi,rT,vj,rU,rV,vm,rW,rX,rY,y8,vn,vo,vp,pC,pD,pE,rZ,qM,y9,vq,vr,vt,r7,r8,r9,Gh,za,zb,vw,qN,n3,qO,qP,Gi,zc,zd,sd,se,pF,pG,ze,zf,jV,jW,fM,vy,vz,Gj,jd,sg,n5,NR,NS,Gk,Gl,Gm,Gn,Gp,si,zm,zo,Gr,sj,vE,zp,zq,Gs,zr,zt,List.getElem?_cons_zero,List.getElem?_cons_succ,List.set_cons_zero,List.set_cons_succ,if_true,if_false,ite_true,ite_false,Bool.false_eq_true,Bool.not_true,Bool.not_false,beq_self_eq_true,reduceCtorEq,Option.map_some,Option.map_none,Bool.true_beq,Bool.false_beq,Bool.true_eq_false,lh,lP,zg,zh,zi,zj,zk,ik,vx,n4,sf,gS,vA,kz,pH,zl,vB,Gq,nj,aE (kq "n") (kq "x"),nb "n" "x",aE (kq "n") (kq "X"),nb "n" "X",aE (kq "n") (kq "n"),yb "n" "n",GG]
theorem VP (l:List Int)(h:l.length<N)(hl:l.length≤1000):mD (ag N (k+4) (.fix (.ref 178)) [.str (af "N"),.tup (l.map .int),.int m]) (.bool true) hp:=by
 obtain⟨hp',e,x⟩:=XU (N:=N) (k:=k) (hp:=hp) l h hl;refine⟨hp',?_,x⟩;rw[nX];simp -implicitDefEqProofs only[wN,NN,yU,u1,FZ,F8,F9,Ga,yV,u2,u3,rH,yW,u4,u5,yX,u6,oY,oZ,o9,pb,pd,pg,Gb,rJ,ph,NO,Ge,NP,Gf,rK,rL,rM,rN,rP,rQ,rR,u7,u9,vb,vc,vd,ve,yY,vf,Gg,yZ,y0,y7,vg,vh,rS,pj,pk,pq,pB,vi,rT,vj,rU,rV,vm,rW,rX,rY,y8,vn,vo,vp,pC,pD,pE,rZ,qM,y9,vq,vr,vt,r7,r8,r9,Gh,za,zb,vw,qN,n3,qO,qP,Gi,zc,zd,sd,se,pF,pG,ze,zf,jV,jW,fM,vy,vz,Gj,jd,sg,n5,NR,NS,Gk,Gl,Gm,Gn,Gp,si,zm,zo,Gr,sj,vE,zp,zq,Gs,zr,zt,List.getElem?_cons_zero,List.getElem?_cons_succ,List.set_cons_zero,List.set_cons_succ,if_true,if_false,ite_true,ite_false,Bool.false_eq_true,Bool.not_true,Bool.not_false,beq_self_eq_true,reduceCtorEq,Option.map_some,Option.map_none,Bool.true_beq,Bool.false_beq,Bool.true_eq_false,lh,lP,zg,zh,zi,zj,zk,ik,vx,n4,sf,gS,vA,kz,pH,zl,vB,Gq,nj,aE (kq "N") (kq "x"),nb "N" "x",aE (kq "N") (kq "X"),nb "N" "X",aE (kq "N") (kq "n"),nb "N" "n",aE (kq "N") (kq "N"),yb "N" "N",e]
theorem VQ:ag N (k+4) (.fix (.ref 178)) [.str (af "s"),.str (af "bounds"),.int m] hp=.ok (.bool true) hp:=by
 rw[nX];have i2:=jY (hp:=hp) (a:=af "bounds") (b:=af "values") (x:=af "bounds") (by decide) (by decide) (by decide);rw[show(af "bounds"==af "bounds"||af "values"==af "bounds")=true by decide]at i2;simp -implicitDefEqProofs only[wN,NN,yU,u1,FZ,F8,F9,Ga,yV,u2,u3,rH,yW,u4,u5,yX,u6,oY,oZ,o9,pb,pd,pg,Gb,rJ,ph,NO,Ge,NP,Gf,rK,rL,rM,rN,rP,rQ,rR,u7,u9,vb,vc,vd,ve,yY,vf,Gg,yZ,y0,y7,vg,vh,rS,pj,pk,pq,pB,vi,rT,vj,rU,rV,vm,rW,rX,rY,y8,vn,vo,vp,pC,pD,pE,rZ,qM,y9,vq,vr,vt,r7,r8,r9,Gh,za,zb,vw,qN,n3,qO,qP,Gi,zc,zd,sd,se,pF,pG,ze,zf,jV,jW,fM,vy,vz,Gj,jd,sg,n5,NR,NS,Gk,Gl,Gm,Gn,Gp,si,zm,zo,Gr,sj,vE,zp,zq,Gs,zr,zt,List.getElem?_cons_zero,List.getElem?_cons_succ,List.set_cons_zero,List.set_cons_succ,if_true,if_false,ite_true,ite_false,Bool.false_eq_true,Bool.not_true,Bool.not_false,beq_self_eq_true,reduceCtorEq,Option.map_some,Option.map_none,Bool.true_beq,Bool.false_beq,Bool.true_eq_false,lh,lP,zg,zh,zi,zj,zk,ik,vx,n4,sf,gS,vA,kz,pH,zl,vB,Gq,nj,aE (kq "s") (kq "x"),nb "s" "x",aE (kq "s") (kq "X"),nb "s" "X",aE (kq "s") (kq "n"),nb "s" "n",aE (kq "s") (kq "N"),nb "s" "N",aE (kq "s") (kq "R"),nb "s" "R",aE (kq "s") (kq "s"),yb "s" "s",fU (N:=N) (k:=k+2) (T:="str") (v:=.str (af "bounds")) (b:=true) rfl rfl,i2]
theorem VR (l:List Int)(h:l.length<N)(hl:l.length≤1000):mD (ag N (k+4) (.fix (.ref 178)) [.str (af "X"),.tup (l.map .int),.int m]) (.bool (l.all (inR m))) hp:=by
 let F:V->V:=λv=>match v with|.int i=>.bool (inR m i)|v=>v
 refine bC λnG=>?_
 obtain⟨ay,e,x⟩:=mE (N:=N) (hp:=hp) (i:=cw (aa 1)) (mp:=[none,none,some 2]) (tg:=.one 1) (ifs:=aS true []) (elt:=(aD (ag N (k+3)) (xC (.fix (.ref 173))) [(aa 1),(aa 2)])) (loc:=[some (.str (af "X")),some (.tup (l.map .int)),some (.int m)]) (λloc=>∃x,loc=[none,x,some (.int m)]) (λ_=>true) F (l:=l.map .int) (it:=.vals (l.map .int)) rfl (.vals _) ⟨none,rfl⟩ (by simpa using h) (by simpa using hl) (by
  rintro v hv loc ay ⟨x,rfl⟩ _;refine aj (List.mem_map.mp hv) λi _ bH=>?_;subst bH;exact⟨_,ay,rfl,⟨_,rfl⟩,rfl,Ext.refl,λ_=>⟨ay,by open_k with[lS];rfl,Ext.refl⟩⟩)
 refine nG ?_
 have hb:((l.map V.int).filter λ_=>true).map F=(l.map (inR m)).map V.bool:=by
  rw[List.filter_eq_self.mpr (λ_ _=>rfl),List.map_map,List.map_map];rfl
 rw[hb]at e;refine⟨ay++[.list ((l.map (inR m)).map .bool)],?_,x.trans (Ext.new _)⟩;rw[nX];open_k with[wN,aE (kq "X") (kq "x"),nb "X" "x",aE (kq "X") (kq "X"),yb "X" "X",fU (N:=N) (k:=k+2) (T:="tuple") (v:=.tup (l.map .int)) (b:=true) rfl rfl,e,vT (bK _ _)];rw[List.all_map];rfl
end
section
variable {N k n L m:Nat}{hp hp':HP}
theorem gD (l:List V)(hl:l.length≤1000000):ag N (k+1) (bi "len") [.tup l] hp=.ok (.int l.length) hp:=by
 rw[show bi "len"=.fix (.builtin "len")from rfl,fA (g:=uo) "len" rfl];exact eA (jm hl)
theorem GH {l:List V}{i:Nat}{v:V}(h:l[i]?=some v)(hi:i≤2000000):bh hp (.tup l) (.int i)=some v:=by
 exact(cz (n7 (List.getElem?_eq_some_iff.mp h).1 hi)).trans h
theorem bF {l:List V}{i:Nat}{v:V}(h:l[i]?=some v)(hi:i≤2000000:=by decide):bh hp (.tup l) (.int i)=some v:=GH h hi
def mX (c:Ca)(N:Nat):List Sx:=[(bc (aS true [(ai (aa 2) [(.eq,(xS "cumulative"))]),(ai (aD c (xC (bi "min")) [(bw .Add (bw .Add (aq (aa 0) (xC (.int 2))) (aq (aa 0) (xC (.int 3)))) (cU (aa 0) (xC (.int 4)) (xC .none)))]) [(.lt,(xC (.int 0)))])]) [(aW (xS "cumulative: no task lasts, or needs, less than 0, and no limit is less"))] []),(bc (aS true [(ai (aa 2) [(.eq,(xS "disjunctive"))]),(ai (aD c (xC (bi "min")) [(bw .Add (aq (aa 0) (xC (.int 2))) (ao [(xC (.int 0))]))]) [(.lt,(xC (.int 0)))])]) [(aW (xS "disjunctive: no task lasts less than 0"))] []),(bc (aS true [(ai (aa 2) [(.jK,(ao [(xS "max"),(xS "min")]))]),(ai (aD c (xC (bi "len")) [(aq (aa 0) (xC (.int 1)))]) [(.eq,(xC (.int 0)))])]) [(aW (eO [(c5 (aa 2)),(xS ": there is one variable at least")]))] []),(bc (aS true [(ai (aa 2) [(.eq,(xS "table"))]),(cV (tX (aD c (xC (bi "all")) [(cp N (cw (aq (aa 0) (xC (.int 2)))) [none,none,some 0] (.one 1) (aS true []) (xB (ai (aD c (xC (bi "len")) [(aa 1)]) [(.eq,(aD c (xC (bi "len")) [(aq (aa 2) (xC (.int 1)))]))])))])))]) [(aW (xS "table: a row has a number for each variable"))] []),(aW (ig (ai (aa 2) [(.eq,(xS "regular"))]) (aD c tF [(aa 0)]) (xS "")))]
def pK (c:Ca)(N:Nat):List Sx:=(hZ N (.many [6,7]) (cw (ax c (xC (.fix (.ref 89))) .get [(aa 2),(ao [])])) [(bc (ai (aD c (xC (bi "len")) [(aq (aa 0) (aa 6))]) [(.ne,(aD c (xC (bi "len")) [(aq (aa 0) (aa 7))]))]) [(aW (eO [(c5 (aa 2)),(xS ": arguments "),(c5 (aa 6)),(xS " and "),(c5 (aa 7)),(xS " are of unlike lengths")]))] [])])::mX c N
def vU (c:Ca)(N:Nat):List Sx:=(hZ N (.many [4,5]) (rm (aa 3)) [(bc (cV (tX (xF c 178 [(aa 5),(aq (aa 0) (bw .Add (aa 4) (xC (.int 1)))),(aa 1)]))) [(aW (eO [(c5 (aa 2)),(xS ": argument "),(c5 (bw .Add (aa 4) (xC (.int 1)))),(xS " is of another kind")]))] [])])::pK c N
theorem QE (c:Ca)(N:Nat):U1 c N=(bc (aS false [(cV (tX (aD c (xC (bi "isinstance")) [(aa 0),(xC (.fix (.type "tuple")))]))),(ai (aD c (xC (bi "len")) [(aa 0)]) [(.eq,(xC (.int 0)))]),(cV (tX (aD c (xC (bi "isinstance")) [(aq (aa 0) (xC (.int 0))),(xC (.fix (.type "str")))]))),(ai (aq (aa 0) (xC (.int 0))) [(.gh,(xC (.fix (.ref 87))))])]) [(aW (xS "no constraint is told so"))] [])::(eH [2,3] (ao [(aq (aa 0) (xC (.int 0))),(aq (xC (.fix (.ref 87))) (aq (aa 0) (xC (.int 0))))]))::(bc (ai (aD c (xC (bi "len")) [(aa 0)]) [(.ne,(bw .Add (aD c (xC (bi "len")) [(aa 3)]) (xC (.int 1))))]) [(aW (eO [(c5 (aa 2)),(xS " has "),(c5 (aD c (xC (bi "len")) [(aa 3)])),(xS " arguments, not "),(c5 (bw .Sub (aD c (xC (bi "len")) [(aa 0)]) (xC (.int 1))))]))] [])::vU c N:=rfl
theorem Mx (x:List Nat):qf hp (.str x) (.fix (.ref 87))=some (eW.lookup x).isSome:=rfl
theorem Jr {x f:List Nat}(h:eW.lookup x=some f):bh hp (.fix (.ref 87)) (.str x)=some (.str f):=congrArg (Option.map V.str) h
theorem QF {nm fm:List Nat}(vs:List V)(hf:eW.lookup nm=some fm)(hl:vs.length=fm.length)(uv:vs.length≤10) :
  ag N (k+2) (.fix (.ref 188)) [.tup (.str nm::vs),.int m] hp=bj (aF (vU (ag N (k+1)) N)) [some (.tup (.str nm::vs)),some (.int m),some (.str nm),some (.str fm),none,none,none,none] hp:=by
 have e1:=gD (N:=N) (k:=k) (hp:=hp) (.str nm::vs) (by simp;(apply aI<;>first|assumption|exact rfl));have e2:(((V.str nm::vs).length:Int)==0)=false:=by simp;(apply RK<;>first|assumption|exact rfl)
 have e3:bh hp (.tup (.str nm::vs)) (.int 0)=some (.str nm):=bF (i:=0) rfl;have e4:(((V.str nm::vs).length:Int)==(fm.length:Int)+1)=true:=by simp;(apply J3<;>first|assumption|exact rfl)
 rw[PO];open_k with[QE,fU (N:=N) (k:=k) (T:="tuple") (v:=.tup (.str nm::vs)) (b:=true) rfl rfl,e1,e2,e3,fU (N:=N) (k:=k) (T:="str") (v:=.str nm) (b:=true) rfl rfl,Mx,hf,Option.isSome_some,Jr hf,len_str (N:=N) (k:=k) (hp:=hp) fm (by apply OB<;>first|assumption|exact rfl),e4]
def kB (c:Ca):Sx:=aF [(bc (cV (tX (xF c 178 [(aa 5),(aq (aa 0) (bw .Add (aa 4) (xC (.int 1)))),(aa 1)]))) [(aW (eO [(c5 (aa 2)),(xS ": argument "),(c5 (bw .Add (aa 4) (xC (.int 1)))),(xS " is of another kind")]))] [])]
inductive F3 (c:Ca)(m:Nat):List Nat->List V->List Bool->Prop
 |nil:F3 c m [] [] []
 |cons {d:Nat} {ds:List Nat} {v:V} {vs:List V} {b:Bool} {bs:List Bool} (h:∀hp,mD (c (.fix (.ref 178)) [.str [d],v,.int m]) (.bool b) hp) (t:F3 c m ds vs bs):F3 c m (d::ds) (v::vs) (b::bs)
theorem qY:∀j<10,lu (.int ((j:Nat)+1:Int))=some (bS (j+1))∧aT (bS (j+1))=true∧(bS (j+1)).length≤20:=by decide +kernel
theorem l0 {a b:List Nat}(ha:aT a=true)(hb:aT b=true):aT (a++b)=true:=by unfold aT at *;rw[List.all_append,ha,hb];rfl
noncomputable abbrev kL (m:Nat) (nm:List Nat) (fm:Option V) (vs:List V) (a b:Option V):Loc:=[some (.tup vs),some (.int m),some (.str nm),fm,a,b,none,none]
inductive Kd (f:HP->R (Fl×Loc))(L:Option V->Option V->Loc)(hp:HP):Bool->Prop
 |yes (hp':HP) (a b:Option V) (x:Ext hp hp') (e:f hp=.ok (.next,L a b) hp'):Kd f L hp true
 |no (hp':HP) (s:List Nat) (loc:Loc) (x:Ext hp hp') (e:f hp=.ok (.ret (.str s),loc) hp') (ok:aT s=true) (ne:(s==[])=false):Kd f L hp false
theorem Kd.of {f:HP->R (Fl×Loc)}{L:Option V->Option V->Loc}{b:Bool}{g:HP->R (Fl×Loc)}(k:Kd g L hp' b)(e:f hp=g hp')(x:Ext hp hp'):Kd f L hp b:=by
 cases k with
 |yes aN a b x2 e2=>exact .yes aN a b (x.trans x2) (e.trans e2)
 |no aN s loc x2 e2 ok ne=>exact .no aN s loc (x.trans x2) (e.trans e2) ok ne
section
variable {c:Ca}{nm:List Nat}{fm a b:Option V}{M j d:Nat}{ds:List Nat}{v:V}{vs pre:List V}{bb:Bool}{f g:Option V}
theorem Bx (DO:pre.length=j+1)(hj:j≤100):bh hp (.tup (pre++v::vs)) (.int ((j:Int)+1))=some v:=by
 rw[nk];refine GH ?_ (by apply dh<;>first|assumption|exact rfl);rw[List.getElem?_append_right (by apply Nat.le_of_eq<;>first|assumption|exact rfl),DO,Nat.sub_self];rfl
theorem My (e:c (.fix (.ref 178)) [.str [d],v,.int m] hp=.ok (.bool true) hp')(hs:bh hp (.tup vs) (.int ((j:Int)+1))=some v) :
  cI (.many [4,5]) (kB c) (M+1) (.vals (eZ j (d::ds))) (kL m nm fm vs a b) hp=cI (.many [4,5]) (kB c) M (.vals (eZ (j+1) ds)) (kL m nm fm vs (some (.int j)) (some (.str [d]))) hp':=by
 open_k with[eZ,lO,lh,kB,hs,e]
theorem By {a b:List Nat}{n m:Nat}(ha:a.length≤n)(hb:b.length≤m)(h:n+m≤1000000):fq a.length b.length=true:=gG (by apply OE<;>first|assumption|exact rfl)
theorem QG (e:c (.fix (.ref 178)) [.str [d],v,.int m] hp=.ok (.bool false) hp')(hs:bh hp (.tup vs) (.int ((j:Int)+1))=some v)(hj:j<10)(Js:nm.length≤100) :
  cI (.many [4,5]) (kB c) (M+1) (.vals (eZ j (d::ds))) (kL m nm fm vs a b) hp=.ok (.ret (.str (nm++af ": argument "++bS (j+1)++af " is of another kind")),kL m nm fm vs (some (.int j)) (some (.str [d]))) hp':=by
 have l1:(af ": argument ").length=11:=by decide
 have l2:(af " is of another kind").length=19:=by decide
 have d1:=(qY j hj).1;have d3:=(qY j hj).2.2;have q1:fq ([]:List Nat).length nm.length=true:=gG (by show 0+_≤_;(apply J4<;>first|assumption|exact rfl));have q2:fq nm.length (af ": argument ").length=true:=gG (by apply nv<;>first|assumption|exact rfl);have q3:fq (nm++af ": argument ").length (bS (j+1)).length=true:=gG (by rw[List.length_append];omega);have q4:fq (nm++af ": argument "++bS (j+1)).length (af " is of another kind").length=true:=gG (by rw[List.length_append,List.length_append];omega);open_k with[eZ,lO,lh,kB,hs,e,vL nm (Nat.le_trans Js (by decide)),d1,q1,q2,q3,q4,List.nil_append]
theorem GI (c:Ca){nm:List Nat}(hn:aT nm=true)(Js:nm.length≤100)(fm:Option V){cs:List Nat}{vs:List V}{bs:List Bool}(h3:F3 c m cs vs bs):∀(j:Nat) (pre:List V) (a b:Option V) (M:Nat) (hp:HP),pre.length=j+1->j+cs.length≤9->cs.length<M ->
  Kd (cI (.many [4,5]) (kB c) M (.vals (eZ j cs)) (kL m nm fm (pre++vs) a b)) (kL m nm fm (pre++vs)) hp (bs.all id):=by
 induction h3 with
 |nil =>
  intro j pre a b M hp DO hj hM;cases M with
  |zero=>cases hM
  |succ M=>exact .yes hp a b Ext.refl rfl
 | @cons d ds v vs b' bs h t ih =>
  intro j pre a b M hp DO hj hM;cases M with
  |zero=>cases hM
  |succ M =>
  have hj:j+(ds.length+1)≤9:=hj;cases h hp with
  |mk ay e1 x1 =>
  cases b' with
  |true =>
   have:=ih (j+1) (pre++[v]) (some (.int j)) (some (.str [d])) M ay (by rw[List.length_append,DO];rfl) (by apply MW<;>first|assumption|exact rfl) (Nat.lt_of_succ_lt_succ hM);rw[List.append_assoc]at this;exact this.of (My e1 (Bx DO (by apply Hl<;>first|assumption|exact rfl))) x1
  |false =>
   refine .no ay _ _ x1 (QG e1 (Bx DO (by apply Hl<;>first|assumption|exact rfl)) (by apply uk<;>first|assumption|exact rfl) Js) (l0 (l0 (l0 hn (by decide)) (qY j (by apply uk<;>first|assumption|exact rfl)).2.1) (by decide)) ?_;rw[beq_eq_false_iff_ne];intro h;have:=congrArg List.length h;rw[List.length_append,show(af " is of another kind").length=19 by decide]at this;cases this
end
end
section
variable {N k n L m:Nat}{hp hp':HP}
def bl (w:Nat)(x y:Int):V:=match w with
 |0=>.tup [.str (af "linear_le"),.tup [.int 1,.int (-2)],.tup [.int x,.int y],.int 3]
 |1=>.tup [.str (af "all_different"),.tup [.int x,.int y],.str (af "bounds")]
 |2=>.tup [.str (af "clause"),.tup [.int x],.tup [.int y]]
 |3=>.tup [.str (af "xor"),.int x,.int y,.int x]
 |4=>.tup [.str (af "disjunctive"),.tup [.int x,.int y],.tup [.int 2,.int 0]]
 |5=>.tup [.str (af "linear_ne"),.tup [.int 4],.tup [.int x,.int y],.int 0]
 |_=>.tup [.str (af "max"),.tup [],.int x]
def dF (w:Nat)(x y:Int)(m:Nat):Bool:=decide (w<5)&&(inR m x&&inR m y)
theorem ue (c:Ca)(N:Nat):pK c N=(hZ N (.many [6,7]) (cw (ax c (xC (.fix (.ref 89))) .get [(aa 2),(ao [])])) [(bc (ai (aD c (xC (bi "len")) [(aq (aa 0) (aa 6))]) [(.ne,(aD c (xC (bi "len")) [(aq (aa 0) (aa 7))]))]) [(aW (eO [(c5 (aa 2)),(xS ": arguments "),(c5 (aa 6)),(xS " and "),(c5 (aa 7)),(xS " are of unlike lengths")]))] [])])::mX c N:=rfl
theorem DP (c:Ca)(N:Nat):vU c N=(hZ N (.many [4,5]) (rm (aa 3)) [(bc (cV (tX (xF c 178 [(aa 5),(aq (aa 0) (bw .Add (aa 4) (xC (.int 1)))),(aa 1)]))) [(aW (eO [(c5 (aa 2)),(xS ": argument "),(c5 (bw .Add (aa 4) (xC (.int 1)))),(xS " is of another kind")]))] [])])::pK c N:=rfl
inductive xb (r:HP->R V)(b:Bool)(hp:HP):Prop
 |mk (s:List Nat) (hp':HP) (e:r hp=.ok (.str s) hp') (x:Ext hp hp') (ok:aT s=true) (b:(s==[])=b)
def TF (N k m:Nat)(hp:HP)(told:V)(b:Bool):Prop:=xb (ag N k (.fix (.ref 188)) [told,.int m]) b hp
theorem xb.via {f g:HP->R V}{b:Bool}(s:xb f b hp')(x:Ext hp hp')(h:∀{r},f hp'=r->g hp=r):xb g b hp:=by
 cases s with
 |mk s aN e x2 ok q=>exact⟨s,aN,h e,x.trans x2,ok,q⟩
section
variable {nm fm:List Nat}{vs:List V}{a b:Option V}
theorem VS (h:cI (.many [4,5]) (kB (ag N (k+1))) N (.vals (eZ 0 fm)) (kL m nm (some (.str fm)) (.str nm::vs) none none) hp=.ok (.next,kL m nm (some (.str fm)) (.str nm::vs) a b) hp'){r:R V}
  (e:bj (aF (pK (ag N (k+1)) N)) (kL m nm (some (.str fm)) (.str nm::vs) a b) hp'=r):bj (aF (vU (ag N (k+1)) N)) (kL m nm (some (.str fm)) (.str nm::vs) none none) hp=r:=by
 rw[fM]at e;simp only[kB]at h;open_k with[DP,ik,n4,h,e]
theorem XW {s:List Nat}{loc:Loc}(h:cI (.many [4,5]) (kB (ag N (k+1))) N (.vals (eZ 0 fm)) (kL m nm (some (.str fm)) (.str nm::vs) none none) hp=.ok (.ret (.str s),loc) hp') :
  bj (aF (vU (ag N (k+1)) N)) (kL m nm (some (.str fm)) (.str nm::vs) none none) hp=.ok (.str s) hp':=by
 simp only[kB]at h;open_k with[DP,ik,n4,h]
end
theorem mF {nm fm:List Nat}{vs:List V}{bs:List Bool}{r:Bool}(hf:eW.lookup nm=some fm)(hl:vs.length=fm.length)(h5:vs.length≤5)(hn:aT nm=true)(Js:nm.length≤100)(hN:20≤N)(h3:F3 (ag N (k+4)) m fm vs bs)
  (tail:∀a b hp,xb (bj (aF (pK (ag N (k+4)) N)) (kL m nm (some (.str fm)) (.str nm::vs) a b)) r hp) :
  TF N (k+5) m hp (.tup (.str nm::vs)) (bs.all id&&r):=by
 have q:=GI (m:=m) (ag N (k+4)) hn Js (some (.str fm)) h3 0 [.str nm] none none N hp rfl (by apply WV<;>first|assumption|exact rfl) (by apply RB<;>first|assumption|exact rfl);have th:=λhp=>QF (N:=N) (k:=k+3) (m:=m) (hp:=hp) vs hf hl (by apply aI<;>first|assumption|exact rfl);cases hb:bs.all id with
 |true =>
  rw[hb]at q;cases q with
  |yes ay a b x1 e=>exact(tail a b ay).via x1 λe'=>(th hp).trans (VS e e')
 |false =>
  rw[hb]at q;cases q with
  |no ay s loc x1 e ok ne=>exact⟨s,ay,(th hp).trans (XW e),x1,ok,ne⟩
theorem qZ {x:List Nat}{v:V}(d:V)(h:(pairs.lookup x).getD d=v):ag N (k+1) (bi "dict.get") [.fix (.ref 89),.str x,d] hp=.ok v hp:=by
 rw[show bi "dict.get"=.fix (.builtin "dict.get")from rfl,fA (g:=EC) "dict.get" rfl,<- h];rfl
theorem GJ:dM hp (.fix (.ref 89)) .get=some (bi "dict.get"):=rfl
theorem mG (l:List V):Ep hp (.tup l)=some (.vals l):=rfl
theorem lT {nm:List Nat}(ok:aT nm=true)(h1:(nm==af "cumulative")=false)(h2:(nm==af "disjunctive")=false)(h3:(af "max"==nm||af "min"==nm)=false)(h4:(nm==af "table")=false)(h5:(nm==af "regular")=false)(c:Ca)(told x f a b d e:Option V) :
  bj (aF (mX c N)) [told,x,some (.str nm),f,a,b,d,e] hp=.ok (.str []) hp:=by
 have i2:=jY (hp:=hp) (a:=af "max") (b:=af "min") (x:=nm) (by decide) (by decide) ok;rw[h3]at i2;open_k with[mX,aE ok (kq "cumulative"),aE ok (kq "disjunctive"),aE ok (kq "table"),aE ok (kq "regular"),h1,h2,h4,h5,i2,fu]
theorem lU {nm:List Nat}(h:(pairs.lookup nm).getD (.tup [])=.tup [])(hN:20≤N)(told x f a b:Option V)(c:Ca)(hc:c=ag N (k+1)):bj (aF (pK c N)) [told,x,some (.str nm),f,a,b,none,none] hp=bj (aF (mX c N)) [told,x,some (.str nm),f,a,b,none,none] hp:=by
 obtain⟨M,rfl⟩:∃M,N=M+1:=⟨N - 1,by apply Hj<;>first|assumption|exact rfl⟩;subst hc;open_k with[ue,ik,gS,GJ,qZ (.tup []) h,mG,jv]
theorem yl {nm:List Nat}(h:(pairs.lookup nm).getD (.tup [])=.tup [pr 1 2])(hN:20≤N){t0:V}{l1 l2:List V}{rs:List V}(h1:l1.length≤1000)(h2:l2.length=l1.length)(x f a b:Option V)(c:Ca)(hc:c=ag N (k+1)) :
  bj (aF (pK c N)) [some (.tup (t0::.tup l1::.tup l2::rs)),x,some (.str nm),f,a,b,none,none] hp=bj (aF (mX c N)) [some (.tup (t0::.tup l1::.tup l2::rs)),x,some (.str nm),f,a,b,some (.int 1),some (.int 2)] hp:=by
 obtain⟨M,rfl⟩:∃M,N=M+1+1:=⟨N - 2,by apply uj<;>first|assumption|exact rfl⟩;subst hc;have e1:bh hp (.tup (t0::.tup l1::.tup l2::rs)) (.int 1)=some (.tup l1):=bF (i:=1) rfl;have e2:bh hp (.tup (t0::.tup l1::.tup l2::rs)) (.int 2)=some (.tup l2):=bF (i:=2) rfl;open_k with[ue,ik,gS,GJ,qZ (.tup []) h,mG,jv,lO,lh,pr,e1,e2,gD (N:=M+1+1) (k:=k) (hp:=hp) l1 (by apply aI<;>first|assumption|exact rfl),gD (N:=M+1+1) (k:=k) (hp:=hp) l2 (by apply l8<;>first|assumption|exact rfl),h2]
theorem fx (x:Int):∀hp,mD (ag N (k+4) (.fix (.ref 178)) [.str [120],.int x,.int m]) (.bool (inR m x)) hp:=λhp=>⟨hp,VN x,Ext.refl⟩
theorem fn (x:Int):∀hp,mD (ag N (k+4) (.fix (.ref 178)) [.str [110],.int x,.int m]) (.bool true) hp:=λhp=>⟨hp,VO x,Ext.refl⟩
theorem fs:∀hp,mD (ag N (k+4) (.fix (.ref 178)) [.str [115],.str (af "bounds"),.int m]) (.bool true) hp:=λhp=>⟨hp,VQ,Ext.refl⟩
theorem fN (l:List Int)(h:l.length<N)(hl:l.length≤1000):∀hp,mD (ag N (k+4) (.fix (.ref 178)) [.str [78],.tup (l.map .int),.int m]) (.bool true) hp:=λ_=>VP l h hl
theorem fX (l:List Int)(h:l.length<N)(hl:l.length≤1000):∀hp,mD (ag N (k+4) (.fix (.ref 178)) [.str [88],.tup (l.map .int),.int m]) (.bool (l.all (inR m))) hp:=λ_=>VR l h hl
theorem QI (x y:Int)(hN:20≤N):TF N (k+5) m hp (bl 0 x y) (dF 0 x y m):=by
 have:=mF (k:=k) (m:=m) (hp:=hp) (nm:=af "linear_le") (fm:=[78,88,110]) (vs:=[.tup ([1,-2].map .int),.tup ([x,y].map .int),.int 3]) (bs:=[true,[x,y].all (inR m),true]) (r:=true) (by decide +kernel) rfl (by show 3≤5;decide) (by decide) (by decide) hN (.cons (fN [1,-2] (by show 2<N;(apply bR<;>first|assumption|exact rfl)) (by decide)) (.cons (fX [x,y] (by show 2<N;(apply bR<;>first|assumption|exact rfl)) (by show 2≤1000;decide)) (.cons (fn 3) .nil)))
  (λa b hp=>⟨[],hp,by
   rw[yl (k:=k+3) (l1:=[1,-2].map V.int) (l2:=[x,y].map .int) (by kernel_rfl) hN (by decide) rfl _ _ _ _ _ rfl];exact lT (by decide) (by decide) (by decide) (by decide) (by decide) (by decide) _ _ _ _ _ _ _ _,Ext.refl,rfl,rfl⟩)
 simpa [dF,bl]using this
theorem QJ (x y:Int)(hN:20≤N):TF N (k+5) m hp (bl 1 x y) (dF 1 x y m):=by
 have:=mF (k:=k) (m:=m) (hp:=hp) (nm:=af "all_different") (fm:=[88,115]) (vs:=[.tup ([x,y].map .int),.str (af "bounds")]) (bs:=[[x,y].all (inR m),true]) (r:=true) (by decide +kernel) rfl (by show 2≤5;decide) (by decide) (by decide) hN (.cons (fX [x,y] (by show 2<N;(apply bR<;>first|assumption|exact rfl)) (by show 2≤1000;decide)) (.cons (fs) .nil))
  (λa b hp=>⟨[],hp,by
   rw[lU (k:=k+3) (by kernel_rfl) hN _ _ _ _ _ _ rfl];exact lT (by decide) (by decide) (by decide) (by decide) (by decide) (by decide) _ _ _ _ _ _ _ _,Ext.refl,rfl,rfl⟩)
 simpa [dF,bl]using this
theorem QK (x y:Int)(hN:20≤N):TF N (k+5) m hp (bl 2 x y) (dF 2 x y m):=by
 have:=mF (k:=k) (m:=m) (hp:=hp) (nm:=af "clause") (fm:=[88,88]) (vs:=[.tup ([x].map .int),.tup ([y].map .int)]) (bs:=[[x].all (inR m),[y].all (inR m)]) (r:=true) (by decide +kernel) rfl (by show 2≤5;decide) (by decide) (by decide) hN (.cons (fX [x] (by show 1<N;(apply bR<;>first|assumption|exact rfl)) (by show 1≤1000;decide)) (.cons (fX [y] (by show 1<N;(apply bR<;>first|assumption|exact rfl)) (by show 1≤1000;decide)) .nil))
  (λa b hp=>⟨[],hp,by
   rw[lU (k:=k+3) (by kernel_rfl) hN _ _ _ _ _ _ rfl];exact lT (by decide) (by decide) (by decide) (by decide) (by decide) (by decide) _ _ _ _ _ _ _ _,Ext.refl,rfl,rfl⟩)
 simpa [dF,bl]using this
theorem QL (x y:Int)(hN:20≤N):TF N (k+5) m hp (bl 3 x y) (dF 3 x y m):=by
 have:=mF (k:=k) (m:=m) (hp:=hp) (nm:=af "xor") (fm:=[120,120,120]) (vs:=[.int x,.int y,.int x]) (bs:=[inR m x,inR m y,inR m x]) (r:=true) (by decide +kernel) rfl (by show 3≤5;decide) (by decide) (by decide) hN (.cons (fx x) (.cons (fx y) (.cons (fx x) .nil)))
  (λa b hp=>⟨[],hp,by
   rw[lU (k:=k+3) (by kernel_rfl) hN _ _ _ _ _ _ rfl];exact lT (by decide) (by decide) (by decide) (by decide) (by decide) (by decide) _ _ _ _ _ _ _ _,Ext.refl,rfl,rfl⟩)
 have e:(inR m x&&(inR m y&&inR m x))=(inR m x&&inR m y):=by cases inR m x<;>cases inR m y<;>rfl
 simpa [dF,bl,e]using this
theorem XX (a b:List V)(h:a.length+b.length≤100000):jw .Add (.tup a) (.tup b) hp=.ok (.tup (a++b)) hp:=eA (gG (Nat.le_trans h (by decide)))
theorem XY {l:List V}{i:Int}(h:Ks l=some i):ag N (k+1) (bi "min") [.tup l] hp=.ok (.int i) hp:=by
 rw[show bi "min"=.fix (.builtin "min")from rfl,fA (g:=EA) "min" rfl];show bQ (Option.map V.int (Ks l)) hp=_;rw[h];rfl
theorem QM (x y:Int)(hN:20≤N):TF N (k+5) m hp (bl 4 x y) (dF 4 x y m):=by
 have:=mF (k:=k) (m:=m) (hp:=hp) (nm:=af "disjunctive") (fm:=[88,78]) (vs:=[.tup ([x,y].map .int),.tup ([2,0].map .int)]) (bs:=[[x,y].all (inR m),true]) (r:=true) (by decide +kernel) rfl (by show 2≤5;decide) (by decide) (by decide) hN (.cons (fX [x,y] (by show 2<N;(apply bR<;>first|assumption|exact rfl)) (by show 2≤1000;decide)) (.cons (fN [2,0] (by show 2<N;(apply bR<;>first|assumption|exact rfl)) (by decide)) .nil))
  (λa b hp=>⟨[],hp,by
   rw[yl (k:=k+3) (l1:=[x,y].map V.int) (l2:=[2,0].map .int) (rs:=[]) (by kernel_rfl) hN (by show 2≤1000;decide) rfl _ _ _ _ _ rfl];have i2:=jY (hp:=hp) (a:=af "max") (b:=af "min") (x:=af "disjunctive") (by decide) (by decide) (by decide);rw[show(af "max"==af "disjunctive"||af "min"==af "disjunctive")=false by decide]at i2;have e2:bh hp (.tup [.str (af "disjunctive"),.tup ([x,y].map .int),.tup ([2,0].map .int)]) (.int 2)=some (.tup ([2,0].map .int)):=bF (i:=2) rfl;open_k with[mX,aE (kq "disjunctive") (kq "cumulative"),nb "disjunctive" "cumulative",aE (kq "disjunctive") (kq "disjunctive"),yb "disjunctive" "disjunctive",aE (kq "disjunctive") (kq "table"),nb "disjunctive" "table",aE (kq "disjunctive") (kq "regular"),nb "disjunctive" "regular",i2,e2,XX ([2,0].map V.int) [.int 0] (by decide),XY (N:=N) (k:=k+3) (hp:=hp) (l:=[2,0].map V.int++[.int 0]) (i:=0) (by decide +kernel),show decide ((0:Int)<0)=false from rfl,fu],Ext.refl,rfl,rfl⟩)
 simpa [dF,bl]using this
theorem QN (x y:Int)(hN:20≤N):TF N (k+5) m hp (bl 6 x y) (dF 6 x y m):=by
 have:=mF (k:=k) (m:=m) (hp:=hp) (nm:=af "max") (fm:=[88,120]) (vs:=[.tup (([]:List Int).map .int),.int x]) (bs:=[([]:List Int).all (inR m),inR m x]) (r:=false) (by decide +kernel) rfl (by show 2≤5;decide) (by decide) (by decide) hN (.cons (fX [] (by show 0<N;(apply bR<;>first|assumption|exact rfl)) (by decide)) (.cons (fx x) .nil))
  (λa b hp=>⟨af "max"++af ": there is one variable at least",hp,by
   rw[lU (k:=k+3) (by kernel_rfl) hN _ _ _ _ _ _ rfl];have i2:=jY (hp:=hp) (a:=af "max") (b:=af "min") (x:=af "max") (by decide) (by decide) (by decide);rw[show(af "max"==af "max"||af "min"==af "max")=true by decide]at i2;have e2:bh hp (.tup [.str (af "max"),.tup (([]:List Int).map .int),.int x]) (.int 1)=some (.tup []):=bF (i:=1) rfl;open_k with[mX,aE (kq "max") (kq "cumulative"),nb "max" "cumulative",aE (kq "max") (kq "disjunctive"),nb "max" "disjunctive",i2,e2,gD (N:=N) (k:=k+3) (hp:=hp) [] (by decide),show(((([]:List V).length:Nat):Int)==0)=true from rfl,vL (af "max") (by decide),List.nil_append,hR (N:=0) (show([]:List Nat).length+(af "max").length≤100000 by decide),hR (N:=0) (show(af "max").length+(af ": there is one variable at least").length≤100000 by decide)],Ext.refl,by decide,by decide⟩)
 simpa [dF,bl]using this
theorem QO (x y:Int)(hN:20≤N):TF N (k+5) m hp (bl 5 x y) (dF 5 x y m):=by
 have:=mF (k:=k) (m:=m) (hp:=hp) (nm:=af "linear_ne") (fm:=[78,88,110]) (vs:=[.tup ([4].map .int),.tup ([x,y].map .int),.int 0]) (bs:=[true,[x,y].all (inR m),true]) (r:=false) (by decide +kernel) rfl (by show 3≤5;decide) (by decide) (by decide) hN (.cons (fN [4] (by show 1<N;(apply bR<;>first|assumption|exact rfl)) (by decide)) (.cons (fX [x,y] (by show 2<N;(apply bR<;>first|assumption|exact rfl)) (by show 2≤1000;decide)) (.cons (fn 0) .nil)))
  (λa b hp=>⟨af "linear_ne"++af ": arguments "++[49]++af " and "++[50]++af " are of unlike lengths",hp,by
   obtain⟨M,rfl⟩:∃M,N=M+1+1:=⟨N - 2,by apply uj<;>first|assumption|exact rfl⟩;have e1:bh hp (.tup [.str (af "linear_ne"),.tup ([4].map .int),.tup ([x,y].map .int),.int 0]) (.int 1)=some (.tup ([4].map .int)):=bF (i:=1) rfl;have e2:bh hp (.tup [.str (af "linear_ne"),.tup ([4].map .int),.tup ([x,y].map .int),.int 0]) (.int 2)=some (.tup ([x,y].map .int)):=bF (i:=2) rfl;open_k with[ue,ik,gS,GJ,qZ (N:=M+1+1) (k:=k+3) (hp:=hp) (x:=af "linear_ne") (v:=.tup [pr 1 2]) (.tup []) (by kernel_rfl),mG,lO,lh,pr,e1,e2,gD (N:=M+1+1) (k:=k+3) (hp:=hp) ([4].map V.int) (by decide),gD (N:=M+1+1) (k:=k+3) (hp:=hp) ([x,y].map V.int) (by show 2≤1000000;decide),show((([4].map V.int).length:Int)==(([x,y].map V.int).length:Int))=false from rfl,vL (af "linear_ne") (by decide),show lu (.int 1)=some [49]by decide +kernel,show lu (.int 2)=some [50]by decide +kernel,List.nil_append];open_k with[hR (N:=0) (show([]:List Nat).length+(af "linear_ne").length≤100000 by decide),hR (N:=0) (show(af "linear_ne").length+(af ": arguments ").length≤100000 by decide),hR (N:=0) (show(af "linear_ne"++af ": arguments ").length+[49].length≤100000 by decide),hR (N:=0) (show(af "linear_ne"++af ": arguments "++[49]).length+(af " and ").length≤100000 by decide),hR (N:=0) (show(af "linear_ne"++af ": arguments "++[49]++af " and ").length+[50].length≤100000 by decide),hR (N:=0) (show(af "linear_ne"++af ": arguments "++[49]++af " and "++[50]).length+(af " are of unlike lengths").length≤100000 by decide)],Ext.refl,by decide,by decide⟩)
 simpa [dF,bl]using this
theorem VT (w:Nat)(x y:Int)(hN:20≤N):TF N (k+5) m hp (bl w x y) (dF w x y m) :=
 match w with
 |0=>QI x y hN
 |1=>QJ x y hN
 |2=>QK x y hN
 |3=>QL x y hN
 |4=>QM x y hN
 |5=>QO x y hN
 |w+6=>by
  have:=QN (k:=k) (m:=m) (hp:=hp) x y hN;have e:dF (w+6) x y m=dF 6 x y m:=by unfold dF;rw[decide_eq_false (show ¬w+6<5 by lia)];rfl
  rw[e];exact this
end
section
variable {N k n L m:Nat}{hp hp':HP}
noncomputable def cY (w:Nat) (x y:Int):List Int:=match w with
 |2=>[x,y]
 |3=>[x,y,x]
 |_=>[]
theorem Jt (a b:List V)(h:a.length+b.length≤100000):jw .Add (.tup a) (.tup b) hp=.ok (.tup (a++b)) hp:=eA (gG (Nat.le_trans h (by decide)))
theorem iL {nm:List Nat}(vs:List V)(ok:aT nm=true)(h1:(nm==af "clause")=false)(h2:(af "and"==nm||af "or"==nm)=false)(h3:(nm==af "xor")=false)(h4:(af "reif"==nm||af "imp"==nm)=false) :
  ag N (k+1) (.fix (.ref 195)) [.tup (.str nm::vs)] hp=.ok (.tup []) hp:=by
 have i1:=jY (hp:=hp) (a:=af "and") (b:=af "or") (x:=nm) (by decide) (by decide) ok;have i2:=jY (hp:=hp) (a:=af "reif") (b:=af "imp") (x:=nm) (by decide) (by decide) ok;have e0:bh hp (.tup (.str nm::vs)) (.int 0)=some (.str nm):=bF (i:=0) rfl;rw[h2]at i1;rw[h4]at i2;rw[wO];open_k with[FX,e0,aE ok (kq "clause"),h1,i1,aE ok (kq "xor"),h3,i2]
theorem Mz (w:Nat)(x y:Int):ag N (k+1) (.fix (.ref 195)) [bl w x y] hp=.ok (.tup ((cY w x y).map .int)) hp :=
 match w with
 |0=>iL _ (by decide) (by decide) (by decide) (by decide) (by decide)
 |1=>iL _ (by decide) (by decide) (by decide) (by decide) (by decide)
 |2=>by
  have e0:bh hp (bl 2 x y) (.int 0)=some (.str (af "clause")):=bF (i:=0) rfl;have e1:bh hp (bl 2 x y) (.int 1)=some (.tup [.int x]):=bF (i:=1) rfl;have e2:bh hp (bl 2 x y) (.int 2)=some (.tup [.int y]):=bF (i:=2) rfl;rw[wO];open_k with[FX,e0,e1,e2,aE (kq "clause") (kq "clause"),yb "clause" "clause",Jt [V.int x] [.int y] (by show 2≤100000;decide)];rfl
 |3=>by
  have i1:=jY (hp:=hp) (a:=af "and") (b:=af "or") (x:=af "xor") (by decide) (by decide) (by decide);rw[show(af "and"==af "xor"||af "or"==af "xor")=false by decide]at i1;have e0:bh hp (bl 3 x y) (.int 0)=some (.str (af "xor")):=bF (i:=0) rfl;have e1:gX hp (bl 3 x y) (some 1) none=.ok (.tup [.int x,.int y,.int x]) hp:=lX [.str (af "xor"),.int x,.int y,.int x] (some 1) none (by show 4≤1000;decide) (by show 3<4;decide);rw[wO];open_k with[FX,e0,aE (kq "xor") (kq "clause"),nb "xor" "clause",i1,aE (kq "xor") (kq "xor"),yb "xor" "xor",show hW (.int 1)=some (some 1)from rfl,bW,e1];rfl
 |4=>iL _ (by decide) (by decide) (by decide) (by decide) (by decide)
 |5=>iL _ (by decide) (by decide) (by decide) (by decide) (by decide)
 |w+6=>iL _ (by decide) (by decide) (by decide) (by decide) (by decide)
noncomputable def dq (l:List (Int×Int)):Bool:=l.all λp=>decide (0≤p.1)&&decide (p.2≤1)
def N9 (v:V)(j:Nat):Int:=((((wh v).getD [])[j]?).bind vInt).getD 0
theorem aa0 (a b:Int):N9 (.tup [.int a,.int b]) 0=a:=rfl
theorem aa1 (a b:Int):N9 (.tup [.int a,.int b]) 1=b:=rfl
theorem GK (l:List (Int×Int))(h:l.length<N)(hl:l.length≤1000):mD (ag N (k+2) (.fix (.ref 200)) [.tup (l.map pv)]) (.bool (dq l)) hp:=by
 let F:V->V:=λv=>.bool (decide (0≤N9 v 0)&&decide (N9 v 1≤1))
 refine bC λnG=>?_
 obtain⟨ay,e,x⟩:=mE (N:=N) (hp:=hp) (i:=cw (aa 0)) (mp:=[none,none,none]) (tg:=.many [1,2]) (ifs:=aS true []) (elt:=(gj true [(xB (ai (aa 1) [(.ge,(xC (.int 0)))])),(xB (ai (aa 2) [(.le,(xC (.int 1)))]))])) (loc:=[some (.tup (l.map pv))]) (λloc=>∃x y,loc=[none,x,y]) (λ_=>true) F (l:=l.map pv) (it:=.vals (l.map pv)) rfl (.vals _) ⟨none,none,rfl⟩ (by simpa using h) (by simpa using hl) (by
  rintro v hv loc ay ⟨x,y,rfl⟩ _;refine aj (List.mem_map.mp hv) λp _ bH=>?_;subst bH;exact⟨_,ay,rfl,⟨_,_,rfl⟩,rfl,Ext.refl,λ_=>⟨ay,by cases hd:decide (0≤p.1)<;>open_k with[hd,F,pv,aa0,aa1,Bool.true_and,Bool.false_and]<;>exact(congrArg (λb=>R.ok (V.bool (b&&decide (p.2≤1))) ay) hd).symm,Ext.refl⟩⟩)
 refine nG ?_
 have hb:((l.map pv).filter λ_=>true).map F=(l.map λp=>decide (0≤p.1)&&decide (p.2≤1)).map V.bool:=by
  rw[List.filter_eq_self.mpr (λ_ _=>rfl),List.map_map,List.map_map];rfl
 rw[hb]at e;refine⟨ay++[.list ((l.map λp=>decide (0≤p.1)&&decide (p.2≤1)).map .bool)],?_,x.trans (Ext.new _)⟩;rw[PQ];open_k with[U2,e,vT (bK _ _)];rw[List.all_map];rfl
theorem Rw {l:List Nat}(h:l.length≤1000):l.length≤1000000:=Nat.le_trans h (by decide)
theorem bb (b:Bool):(!(!b))=b:=by cases b<;>rfl
def dJ:List Nat:=af "no piece is told so"
theorem Bz {a b x:List Nat}{r:Bool}(ha:aT a=true)(hb:aT b=true)(hx:aT x=true)(h:(a==x||b==x)=r):qf hp (.str x) (.tup [.str a,.str b])=some r:=by rw[jY ha hb hx,h]
theorem ym (nm:List Nat)(hn:nm=af "int"∨nm=af "bool")(x:Int)(w:V):ag N (k+4) (.fix (.ref 207)) [.tup [.str nm,.int x],.int m,w] hp=.ok (.str (if inR m x then[]else dJ)) hp:=by
 have e0:bh hp (.tup [.str nm,.int x]) (.int 0)=some (.str nm):=bF (i:=0) rfl;have e1:bh hp (.tup [.str nm,.int x]) (.int 1)=some (.int x):=bF (i:=1) rfl;have h1:=gD (N:=N) (k:=k+2) (hp:=hp) [.str nm,.int x] (by show 2≤1000000;decide);rw[rF];cases hv:inR m x<;>rcases hn with rfl|rfl
 ·open_k with[oX,fU (N:=N) (k:=k+2) (T:="tuple") (v:=.tup [.str (af "int"),.int x]) (b:=true) rfl rfl,h1,e0,e1,show decide ((([V.str (af "int"),.int x].length:Nat):Int)<2)=false from rfl,show((([V.str (af "int"),.int x].length:Nat):Int)==2)=true from rfl,aE (kq "int") (kq "text"),nb "int" "text",Bz (hp:=hp) (a:=af "int") (b:=af "bool") (x:=af "int") (r:=true) (by decide) (by decide) (by decide) (by decide),lS,hv,aE (kq "int") (kq "list"),nb "int" "list",aE (kq "int") (kq "if"),nb "int" "if",dJ]
 ·open_k with[oX,fU (N:=N) (k:=k+2) (T:="tuple") (v:=.tup [.str (af "bool"),.int x]) (b:=true) rfl rfl,h1,e0,e1,show decide ((([V.str (af "bool"),.int x].length:Nat):Int)<2)=false from rfl,show((([V.str (af "bool"),.int x].length:Nat):Int)==2)=true from rfl,aE (kq "bool") (kq "text"),nb "bool" "text",Bz (hp:=hp) (a:=af "int") (b:=af "bool") (x:=af "bool") (r:=true) (by decide) (by decide) (by decide) (by decide),lS,hv,aE (kq "bool") (kq "list"),nb "bool" "list",aE (kq "bool") (kq "if"),nb "bool" "if",dJ]
 ·open_k with[oX,fU (N:=N) (k:=k+2) (T:="tuple") (v:=.tup [.str (af "int"),.int x]) (b:=true) rfl rfl,h1,e0,e1,show decide ((([V.str (af "int"),.int x].length:Nat):Int)<2)=false from rfl,show((([V.str (af "int"),.int x].length:Nat):Int)==2)=true from rfl,aE (kq "int") (kq "text"),nb "int" "text",Bz (hp:=hp) (a:=af "int") (b:=af "bool") (x:=af "int") (r:=true) (by decide) (by decide) (by decide) (by decide),lS,hv,fu]
 ·open_k with[oX,fU (N:=N) (k:=k+2) (T:="tuple") (v:=.tup [.str (af "bool"),.int x]) (b:=true) rfl rfl,h1,e0,e1,show decide ((([V.str (af "bool"),.int x].length:Nat):Int)<2)=false from rfl,show((([V.str (af "bool"),.int x].length:Nat):Int)==2)=true from rfl,aE (kq "bool") (kq "text"),nb "bool" "text",Bz (hp:=hp) (a:=af "int") (b:=af "bool") (x:=af "bool") (r:=true) (by decide) (by decide) (by decide) (by decide),lS,hv,fu]
theorem GL (l:List Nat)(w:V):ag N (k+4) (.fix (.ref 207)) [.tup [.str (af "text"),.str l],.int m,w] hp=.ok (.str []) hp:=by
 have e0:bh hp (.tup [.str (af "text"),.str l]) (.int 0)=some (.str (af "text")):=bF (i:=0) rfl;have e1:bh hp (.tup [.str (af "text"),.str l]) (.int 1)=some (.str l):=bF (i:=1) rfl;rw[rF];open_k with[oX,fU (N:=N) (k:=k+2) (T:="tuple") (v:=.tup [.str (af "text"),.str l]) (b:=true) rfl rfl,gD (N:=N) (k:=k+2) (hp:=hp) [.str (af "text"),.str l] (by show 2≤1000000;decide),e0,e1,show decide ((([V.str (af "text"),.str l].length:Nat):Int)<2)=false from rfl,show((([V.str (af "text"),.str l].length:Nat):Int)==2)=true from rfl,aE (kq "text") (kq "text"),yb "text" "text",fU (N:=N) (k:=k+2) (T:="str") (v:=.str l) (b:=true) rfl rfl,fu]
theorem GN (v:V){j:Nat}{l:List V}(h:hp[j]?=some (.list l))(hl:l.length≤1000):ag N (k+4) (.fix (.ref 207)) [.tup [.str (af "list"),v],.int m,.ref j] hp=.ok (.str []) (hp.set j (.list (l++[v]))):=by
 have e0:bh hp (.tup [.str (af "list"),v]) (.int 0)=some (.str (af "list")):=bF (i:=0) rfl;have e1:bh hp (.tup [.str (af "list"),v]) (.int 1)=some v:=bF (i:=1) rfl;rw[rF];open_k with[oX,fU (N:=N) (k:=k+2) (T:="tuple") (v:=.tup [.str (af "list"),v]) (b:=true) rfl rfl,gD (N:=N) (k:=k+2) (hp:=hp) [.str (af "list"),v] (by show 2≤1000000;decide),e0,e1,show decide ((([V.str (af "list"),v].length:Nat):Int)<2)=false from rfl,show((([V.str (af "list"),v].length:Nat):Int)==2)=true from rfl,aE (kq "list") (kq "text"),nb "list" "text",Bz (hp:=hp) (a:=af "int") (b:=af "bool") (x:=af "list") (r:=false) (by decide) (by decide) (by decide) (by decide),aE (kq "list") (kq "list"),yb "list" "list",iZ h,iY h (Rw (l:=[]) (Nat.zero_le _)|>λ_=>Nat.le_trans hl (by decide)) v,fu]
theorem XZ {j:Nat}{l a:List V}(h:hp[j]?=some (.list l))(hl:l.length+a.length≤100000):ag N (k+1) (bi "list.extend") [.ref j,.tup a] hp=.ok .none (hp.set j (.list (l++a))):=by
 rw[show bi "list.extend"=.fix (.builtin "list.extend")from rfl,fA (g:=tH) "list.extend" rfl];exact(gk (c9 h)).trans (eA (gG (Nat.le_trans hl (by decide))))
theorem X0 {j:Nat}{x:List V}(h:hp[j]?=some (.list x)):dM hp (.ref j) .extend=some (bi "list.extend"):=cz h
theorem MA (x:Int)(u v:V){j:Nat}{l:List V}(h:hp[j]?=some (.list l))(hl:l.length≤1000):ag N (k+4) (.fix (.ref 207)) [.tup [.str (af "if"),.int x,u,v],.int m,.ref j] hp=if inR m x then .ok (.str []) (hp.set j (.list (l++[u,v])))else .ok (.str dJ) hp:=by
 have e0:bh hp (.tup [.str (af "if"),.int x,u,v]) (.int 0)=some (.str (af "if")):=bF (i:=0) rfl;have e1:bh hp (.tup [.str (af "if"),.int x,u,v]) (.int 1)=some (.int x):=bF (i:=1) rfl;have e2:gX hp (.tup [.str (af "if"),.int x,u,v]) (some 2) none=.ok (.tup [u,v]) hp:=lX [.str (af "if"),.int x,u,v] (some 2) none (by show 4≤1000;decide) (by show 2<4;decide);rw[rF];refine bC λnG=>?_;cases hv:inR m x
 ·refine nG ?_;open_k with[oX,fU (N:=N) (k:=k+2) (T:="tuple") (v:=.tup [.str (af "if"),.int x,u,v]) (b:=true) rfl rfl,gD (N:=N) (k:=k+2) (hp:=hp) [.str (af "if"),.int x,u,v] (by show 4≤1000000;decide),e0,e1,show decide ((([V.str (af "if"),.int x,u,v].length:Nat):Int)<2)=false from rfl,show((([V.str (af "if"),.int x,u,v].length:Nat):Int)==4)=true from rfl,aE (kq "if") (kq "text"),nb "if" "text",Bz (hp:=hp) (a:=af "int") (b:=af "bool") (x:=af "if") (r:=false) (by decide) (by decide) (by decide) (by decide),aE (kq "if") (kq "list"),nb "if" "list",aE (kq "if") (kq "if"),yb "if" "if",lS,hv,dJ]
 ·refine nG ?_;open_k with[oX,fU (N:=N) (k:=k+2) (T:="tuple") (v:=.tup [.str (af "if"),.int x,u,v]) (b:=true) rfl rfl,gD (N:=N) (k:=k+2) (hp:=hp) [.str (af "if"),.int x,u,v] (by show 4≤1000000;decide),e0,e1,show decide ((([V.str (af "if"),.int x,u,v].length:Nat):Int)<2)=false from rfl,show((([V.str (af "if"),.int x,u,v].length:Nat):Int)==4)=true from rfl,aE (kq "if") (kq "text"),nb "if" "text",Bz (hp:=hp) (a:=af "int") (b:=af "bool") (x:=af "if") (r:=false) (by decide) (by decide) (by decide) (by decide),aE (kq "if") (kq "list"),nb "if" "list",aE (kq "if") (kq "if"),yb "if" "if",lS,hv,X0 h,show hW (.int 2)=some (some 2)from rfl,bW,e2,XZ (N:=N) (k:=k+2) h (show l.length+[u,v].length≤100000 by simp;(apply aI<;>trivial)),fu]
end
section
variable {N k n L m:Nat}{hp hp':HP}
def bN (w:Nat)(x y:Int):List V:=match w with
 |0=>[.tup [.str (af "int"),.int x],.tup [.str (af "text"),.str (af ", ")],.tup [.str (af "bool"),.int y]]
 |1=>[.tup [.str (af "list"),.tup [.tup [.str (af "int"),.int x],.tup [.str (af "int"),.int y]]]]
 |_=>[.tup [.str (af "if"),.int x,.tup [],.tup [.tup [.str (af "int"),.int y]]]]
theorem xc (hp:HP)(a b:O):(hp++[a]).set hp.length b=hp++[b]:=by simp
theorem X1 (l:List V)(v:V)(hl:l.length≤1000):ag N (k+1) (bi "list.pop") [.ref hp.length] (hp++[O.list (l++[v])])=.ok v (hp++[O.list l]):=by
 rw[show bi "list.pop"=.fix (.builtin "list.pop")from rfl,fA (g:=yE) "list.pop" rfl];refine(gk (c9 (bK hp _))).trans ((gk List.getLast?_concat).trans ((eA (jm ?_)).trans ?_))
 ·rw[List.length_append];show l.length+1≤_;(apply dh<;>trivial)
 ·rw[List.dropLast_concat,xc]
def SF (N k m:Nat)(hp:HP)(l:List V)(b:Bool):Prop:=xb (ag N k (.fix (.ref 214)) [.tup l,.int m]) b hp
theorem X4 (l:List V):ag N (k+1) (bi "isinstance") [.tup l,.fix (.type "tuple")] hp=.ok (.bool true) hp:=fU rfl rfl
def sT (c:Ca):Tx:=(ai (aD c (xC (bi "len")) [(aa 2)]) [(.gt,(xC (.int 0)))])
def sF (N:Nat)(c:Ca):List Sx:=[(aR 5 (xF c 207 [(aa 4),(aa 1),(aa 2)])),(bc (ai (aa 5) [(.ne,(xS ""))]) [(aW (aa 5))] [])]
def sB (N:Nat)(c:Ca):List Sx:=[(aR 3 (ax c (aa 2) .pop [])),(bc (cV (tX (aD c (xC (bi "isinstance")) [(aa 3),(xC (.fix (.type "tuple")))]))) [(aW (xS "pieces stand in a list"))] []),(hZ N (.one 4) (cw (aa 3)) (sF N c))]
theorem QP (c:Ca)(N:Nat):U3 c N=[(aR 2 (cm [(aa 0)])),(fB N (sT c) (sB N c)),(aW (xS ""))]:=rfl
theorem kF (M:Nat)(l ps:List V)(hl:l.length≤1000)(u x y z:Option V):dH (sT (ag N (k+5))) (aF (sB N (ag N (k+5)))) (M+1) [u,some (.int m),some (.ref hp.length),x,y,z] (hp++[O.list (l++[.tup ps])]) =
  az (cI (.one 4) (aF (sF N (ag N (k+5)))) N (.vals ps) [u,some (.int m),some (.ref hp.length),some (.tup ps),y,z] (hp++[O.list l])) (wU (sT (ag N (k+5))) (aF (sB N (ag N (k+5)))) M):=by
 have hlen:=len_list (N:=N) (k:=k+4) (bK hp (.list (l++[.tup ps]))) (show(l++[V.tup ps]).length≤1000000 by simp;(apply aI<;>trivial));rw[jU];open_k with[sT,sB,ik,hlen,show decide ((0:Int)<((l++[V.tup ps]).length:Int))=true by simp,N6 (bK hp (.list (l++[.tup ps]))),X1 (N:=N) (k:=k+4) l (.tup ps) hl,X4,gS,mG];generalize cI _ _ _ _ _ _=r;cases r with
 |ok p hp=>obtain⟨fl,loc⟩:=p;cases fl<;>rfl
 |gH k=>rfl
 |bad=>rfl
theorem vV (M:Nat)(u x y z:Option V):dH (sT (ag N (k+5))) (aF (sB N (ag N (k+5)))) (M+1) [u,some (.int m),some (.ref hp.length),x,y,z] (hp++[O.list []])=.ok (.next,[u,some (.int m),some (.ref hp.length),x,y,z]) (hp++[O.list []]):=by
 have hlen:=len_list (N:=N) (k:=k+4) (bK hp (.list [])) (show([]:List V).length≤1000000 by decide);rw[jU];open_k with[sT,hlen,show decide ((0:Int)<(([]:List V).length:Int))=false from rfl]
theorem iM (M:Nat)(p:V)(ps:List V)(u x y z:Option V){ay aN:HP}(h:ag N (k+5) (.fix (.ref 207)) [p,.int m,.ref hp.length] ay=.ok (.str []) aN) :
  cI (.one 4) (aF (sF N (ag N (k+5)))) (M+1) (.vals (p::ps)) [u,some (.int m),some (.ref hp.length),x,y,z] ay=cI (.one 4) (aF (sF N (ag N (k+5)))) M (.vals ps) [u,some (.int m),some (.ref hp.length),x,some p,some (.str [])] aN:=by
 open_k with[lO,lP,sF,h,fu,lR (show aT []=true from rfl) (show aT []=true from rfl),Je]
theorem og (M:Nat)(p:V)(ps:List V)(u x y z:Option V){ay aN:HP}(h:ag N (k+5) (.fix (.ref 207)) [p,.int m,.ref hp.length] ay=.ok (.str dJ) aN) :
  cI (.one 4) (aF (sF N (ag N (k+5)))) (M+1) (.vals (p::ps)) [u,some (.int m),some (.ref hp.length),x,y,z] ay=.ok (.ret (.str dJ),[u,some (.int m),some (.ref hp.length),x,some p,some (.str dJ)]) aN:=by
 open_k with[lO,lP,sF,h,fu,lR (show aT dJ=true by decide) (show aT []=true from rfl),show(dJ==[])=false by decide]
theorem jq {loc:Loc}{ay:HP}{s:List Nat}{told:V}{r:Fl}(e:dH (sT (ag N (k+5))) (aF (sB N (ag N (k+5)))) N [some told,some (.int m),some (.ref hp.length),none,none,none] (hp++[O.list ([]++[told])])=.ok (r,loc) ay)(h:r=.ret (.str s)∨(r=.next∧s=[])) :
  ag N (k+6) (.fix (.ref 214)) [told,.int m] hp=.ok (.str s) ay:=by
 rw[List.nil_append]at e;rw[PR];open_k with[QP,e];rcases h with rfl|⟨rfl,rfl⟩<;>open_k with[fu]
theorem He (hN:20≤N):SF N (k+6) m hp [] true:=by
 obtain⟨M,rfl⟩:∃M,N=M+1+1:=⟨N - 2,by apply uj<;>trivial⟩;refine⟨[],_,jq (r:=.next) (loc:=[some (.tup []),some (.int m),some (.ref hp.length),some (.tup []),none,none]) ?_ (.inr ⟨rfl,rfl⟩),Ext.new (.list []),rfl,rfl⟩;rw[kF (N:=M+1+1) (M+1) [] [] (by decide)];simp only[jv,jd,jV,jW,vV]
theorem pn {x:Int}(nm:List Nat)(hn:nm=af "int"∨nm=af "bool")(h:inR m x=true)(w:V):ag N (k+5) (.fix (.ref 207)) [.tup [.str nm,.int x],.int m,w] hp=.ok (.str []) hp:=by
 rw[ym nm hn,h,if_pos rfl]
theorem Ju {x:Int}(nm:List Nat)(hn:nm=af "int"∨nm=af "bool")(h:inR m x=false)(w:V):ag N (k+5) (.fix (.ref 207)) [.tup [.str nm,.int x],.int m,w] hp=.ok (.str dJ) hp:=by
 rw[ym nm hn,h,if_neg Bool.false_ne_true]
theorem MB (x y:Int)(hN:20≤N):SF N (k+6) m hp (bN 0 x y) (inR m x&&inR m y):=by
 obtain⟨M,rfl⟩:∃M,N=M+1+1+1+1:=⟨N - 4,by apply zQ<;>trivial⟩;have st:=kF (N:=M+1+1+1+1) (k:=k) (m:=m) (hp:=hp) (M+1+1+1) [] (bN 0 x y) (by decide) (some (.tup (bN 0 x y))) none none none;cases hx:inR m x with
 |false =>
  rw[bN,og (hp:=hp) _ _ _ _ _ _ _ (Ju _ (.inl rfl) hx _)]at st;exact⟨dJ,_,jq (hp:=hp) st (.inl rfl),Ext.new (.list []),by decide,by rw[Bool.false_and];decide⟩
 |true =>
  rw[bN,iM (hp:=hp) _ _ _ _ _ _ _ (pn _ (.inl rfl) hx _),iM (hp:=hp) _ _ _ _ _ _ _ (GL (k:=k+1) _ _)]at st;cases hy:inR m y with
  |false =>
   rw[og (hp:=hp) _ _ _ _ _ _ _ (Ju _ (.inr rfl) hy _)]at st;exact⟨dJ,_,jq (hp:=hp) st (.inl rfl),Ext.new (.list []),by decide,by decide⟩
  |true =>
   rw[iM (hp:=hp) _ _ _ _ _ _ _ (pn _ (.inr rfl) hy _),jv]at st;simp only[jd,jV,jW,vV]at st;exact⟨[],_,jq (hp:=hp) st (.inr ⟨rfl,rfl⟩),Ext.new (.list []),by decide,by decide⟩
theorem MC (x y:Int)(hN:20≤N):SF N (k+6) m hp (bN 1 x y) (inR m x&&inR m y):=by
 obtain⟨M,rfl⟩:∃M,N=M+1+1+1+1:=⟨N - 4,by apply zQ<;>trivial⟩;have st:=kF (N:=M+1+1+1+1) (k:=k) (m:=m) (hp:=hp) (M+1+1+1) [] (bN 1 x y) (by decide) (some (.tup (bN 1 x y))) none none none;have pl:=GN (N:=M+1+1+1+1) (k:=k+1) (m:=m) (.tup [.tup [.str (af "int"),.int x],.tup [.str (af "int"),.int y]]) (bK hp (.list [])) (by decide);rw[xc]at pl;rw[bN,iM (hp:=hp) _ _ _ _ _ _ _ pl,jv]at st;simp only[jd,jV,jW]at st;rw[kF (hp:=hp) (M+1+1) [] _ (by decide)]at st;cases hx:inR m x with
 |false =>
  rw[og (hp:=hp) _ _ _ _ _ _ _ (Ju _ (.inl rfl) hx _)]at st;exact⟨dJ,_,jq (hp:=hp) st (.inl rfl),Ext.new (.list []),by decide,by rw[Bool.false_and];decide⟩
 |true =>
  rw[iM (hp:=hp) _ _ _ _ _ _ _ (pn _ (.inl rfl) hx _)]at st;cases hy:inR m y with
  |false =>
   rw[og (hp:=hp) _ _ _ _ _ _ _ (Ju _ (.inl rfl) hy _)]at st;exact⟨dJ,_,jq (hp:=hp) st (.inl rfl),Ext.new (.list []),by decide,by decide⟩
  |true =>
   rw[iM (hp:=hp) _ _ _ _ _ _ _ (pn _ (.inl rfl) hy _),jv]at st;simp only[jd,jV,jW,vV]at st;exact⟨[],_,jq (hp:=hp) st (.inr ⟨rfl,rfl⟩),Ext.new (.list []),by decide,by decide⟩
theorem DQ (x y:Int):bN 2 x y=[.tup [.str (af "if"),.int x,.tup [],.tup [.tup [.str (af "int"),.int y]]]]:=rfl
theorem MD (x y:Int)(hN:20≤N):SF N (k+6) m hp (bN 2 x y) (inR m x&&inR m y):=by
 obtain⟨M,rfl⟩:∃M,N=M+1+1+1+1:=⟨N - 4,by apply zQ<;>trivial⟩;have st:=kF (N:=M+1+1+1+1) (k:=k) (m:=m) (hp:=hp) (M+1+1+1) [] (bN 2 x y) (by decide) (some (.tup (bN 2 x y))) none none none;have pl:=MA (N:=M+1+1+1+1) (k:=k+1) (m:=m) x (.tup []) (.tup [.tup [.str (af "int"),.int y]]) (bK hp (.list [])) (by decide);rw[xc]at pl;cases hx:inR m x with
 |false =>
  rw[hx,if_neg Bool.false_ne_true]at pl;rw[DQ,og (hp:=hp) _ _ _ _ _ _ _ pl]at st;exact⟨dJ,_,jq (hp:=hp) st (.inl rfl),Ext.new (.list []),by decide,by rw[Bool.false_and];decide⟩
 |true =>
  rw[hx,if_pos rfl]at pl;rw[DQ,iM (hp:=hp) _ _ _ _ _ _ _ pl,jv]at st;simp only[jd,jV,jW]at st;rw[show([]++[V.tup [],V.tup [.tup [.str (af "int"),.int y]]]:List V)=[V.tup []]++[V.tup [.tup [.str (af "int"),.int y]]]from rfl,kF (hp:=hp) (M+1+1) [V.tup []] _ (by show 1≤1000;decide)]at st;cases hy:inR m y with
  |false =>
   rw[og (hp:=hp) _ _ _ _ _ _ _ (Ju _ (.inl rfl) hy _)]at st;exact⟨dJ,_,jq (hp:=hp) st (.inl rfl),Ext.new (.list [V.tup []]),by decide,by decide⟩
  |true =>
   rw[iM (hp:=hp) _ _ _ _ _ _ _ (pn _ (.inl rfl) hy _),jv]at st;simp only[jd,jV,jW]at st;rw[show([V.tup []]:List V)=[]++[V.tup []]from rfl,kF (hp:=hp) (M+1) [] _ (by decide),jv]at st;simp only[jd,jV,jW,vV]at st;exact⟨[],_,jq (hp:=hp) st (.inr ⟨rfl,rfl⟩),Ext.new (.list []),by decide,by decide⟩
theorem QQ (w:Nat)(x y:Int)(hN:20≤N):SF N (k+6) m hp (bN w x y) (inR m x&&inR m y) :=
 match w with
 |0=>MB x y hN
 |1=>MC x y hN
 |_+2=>MD x y hN
end
section
variable {N k n L m:Nat}{hp hp':HP}{x:RS}
theorem Ext.rd (e:Ext hp hp')(R:Rd hp n x):Rd hp' n x:=by obtain⟨l,rfl⟩:=e;exact R.app l
noncomputable abbrev VD:=List Nat×List (Int×Int)
structure TD where
 w:Nat
 x:Int
 y:Int
 s:Nat
abbrev VD.v (d:VD):V:=.tup [.str d.1,.tup (d.2.map pv)]
abbrev TD.v (d:TD):V:=bl d.w d.x d.y
noncomputable def cu (vl:List VD) (i:Int):List (Int×Int):=match vl[i.toNat]? with
 |some d=>d.2
 |none=>[]
def TD.right (vl:List VD)(d:TD):Bool:=dF d.w d.x d.y vl.length&&(cY d.w d.x d.y).all λi=>dq (cu vl i)
def oh (vl:List VD):List TD->Res Unit
 |[]=>some (.ok ())
 |d::r=>if d.right vl then oh vl r else some (.error d.s)
theorem q6 (u:V){s:List Nat}(ok:aT s=true)(p:Int):ag N (k+1) (.fix (.ref 426)) [u,.str s,.int p] hp=if s==[]then .ok .none hp else .gH p:=by
 rw[Qn];cases h:s==[]<;>open_k with[Vj,fu,lR ok (show aT []=true from rfl),h]
theorem X6 (R:Rd hp n x){vl:List VD}(hv:x.vs=vl.map VD.v)(hl:vl.length≤1000){i:Int}(hi:inR vl.length i=true):ag N (k+1) (.fix (.ref 147)) [.ref (n+4),.int i] hp=.ok (.tup ((cu vl i).map pv)) hp:=by
 simp only[inR,Bool.and_eq_true,decide_eq_true_eq]at hi;refine aQ (Int.eq_ofNat_of_zero_le hi.1) λj aC=>?_;subst aC;have hj:j<vl.length:=by apply Ee<;>first|assumption|exact rfl
 have h1:x.vs[j]?=some (VD.v vl[j]):=by rw[hv,List.getElem?_map,List.getElem?_eq_getElem hj];rfl
 have e1:bh hp (.ref (n+6)) (.int (j:Int))=some (VD.v vl[j]):=by
  refine(cz (c9 R.o6)).trans ?_;exact(cz (n7 (show j<x.vs.length by rw[hv,List.length_map];exact hj) (by apply MV<;>first|assumption|exact rfl))).trans h1
 have e2:cu vl (j:Int)=vl[j].2:=by simp only[cu,Int.toNat_natCast,List.getElem?_eq_getElem hj]
 rw[PJ,e2];open_k with[UX,R.fvars,e1,show bh hp (VD.v vl[j]) (.int 1)=some (.tup (vl[j].2.map pv))from bF (i:=1) rfl]
def BA (w:Nat):List Nat:=match w with
 |0=>af "linear_le"
 |1=>af "all_different"
 |2=>af "clause"
 |3=>af "xor"
 |4=>af "disjunctive"
 |5=>af "linear_ne"
 |_=>af "max"
theorem aa2 (w:Nat)(a b:Int):bh hp (bl w a b) (.int 0)=some (.str (BA w))∧(BA w).length≤20 :=
 match w with
 |0=>⟨bF (i:=0) rfl,by decide⟩
 |1=>⟨bF (i:=0) rfl,by decide⟩
 |2=>⟨bF (i:=0) rfl,by decide⟩
 |3=>⟨bF (i:=0) rfl,by decide⟩
 |4=>⟨bF (i:=0) rfl,by decide⟩
 |5=>⟨bF (i:=0) rfl,by decide⟩
 |_+6=>⟨bF (i:=0) rfl,show(af "max").length≤20 by decide⟩
theorem Jv {w:Nat}{a b:Int}(h:dF w a b m=true):∀i∈cY w a b,inR m i=true:=by
 simp only[dF,Bool.and_eq_true,decide_eq_true_eq]at h;intro i hi;unfold cY at hi;split at hi<;>simp at hi
 ·rcases hi with rfl|rfl
  ·exact h.2.1
  ·exact h.2.2
 ·rcases hi with rfl|rfl|rfl
  ·exact h.2.1
  ·exact h.2.2
  ·exact h.2.1
theorem Jw (R:Rd hp n x){vl:List VD}(hv:x.vs=vl.map VD.v)(hl:vl.length≤1000)(hd:∀d∈vl,d.2.length≤10)(hN:60≤N)(d:TD)(ht:dF d.w d.x d.y vl.length=true)(b e:Option V)(u:V) :
  pJ (cp N (cw (aD (ag N (k+3)) (xC (.fix (.ref 195))) [(aa 2)])) [none,none,some 0] (.one 1) (aS true []) (aD (ag N (k+3)) (xC (.fix (.ref 200))) [(ax (ag N (k+3)) (aH (aa 2) .flat) .d7 [(aa 1)])]) [some (.ref n),some u,some d.v,b,e]) (((cY d.w d.x d.y).map λi=>dq (cu vl i)).map .bool) hp:=by
 let F:V->V:=λv=>match v with|.int i=>.bool (dq (cu vl i))|v=>v
 have hlen:(cY d.w d.x d.y).length≤3:=by unfold cY;split<;>simp
 refine bC λnG=>?_
 obtain⟨ay,e1,x1⟩:=mE (N:=N) (hp:=hp) (i:=cw (aD (ag N (k+3)) (xC (.fix (.ref 195))) [(aa 2)])) (mp:=[none,none,some 0]) (tg:=.one 1) (ifs:=aS true []) (elt:=(aD (ag N (k+3)) (xC (.fix (.ref 200))) [(ax (ag N (k+3)) (aH (aa 2) .flat) .d7 [(aa 1)])])) (loc:=[some (.ref n),some u,some d.v,b,e]) (λloc=>∃y,loc=[none,y,some (.ref n)]) (λ_=>true) F (l:=(cY d.w d.x d.y).map .int) (it:=.vals ((cY d.w d.x d.y).map .int)) (by
   open_k with[gS,Mz,mG]) (.vals _) ⟨none,rfl⟩ (by rw[List.length_map];(apply ie<;>first|assumption|exact rfl)) (by rw[List.length_map];(apply aI<;>first|assumption|exact rfl)) (by
  rintro v hv' loc ay ⟨y,rfl⟩ xx;refine aj (List.mem_map.mp hv') λi hi bH=>?_;subst bH;have R1:=xx.rd R
  have hlen2:(cu vl i).length≤10:=by
   unfold cu;cases hg:vl[i.toNat]? with
   |none=>decide
   |some d=>exact hd d (List.mem_of_getElem? hg)
  obtain⟨aN,e2,x2⟩:=GK (N:=N) (k:=k+1) (hp:=ay) (cu vl i) (by apply ie<;>first|assumption|exact rfl) (by apply aI<;>first|assumption|exact rfl);exact⟨_,ay,rfl,⟨_,rfl⟩,rfl,Ext.refl,λ_=>⟨aN,by open_k with[R1.flat,R1.sD (k:=.d7) rfl rfl,X6 (N:=N) (k:=k+2) R1 hv hl (Jv ht i hi),e2];rfl,x2⟩⟩)
 refine nG ?_
 have hb:(((cY d.w d.x d.y).map V.int).filter λ_=>true).map F=((cY d.w d.x d.y).map λi=>dq (cu vl i)).map V.bool:=by
  rw[List.filter_eq_self.mpr (λ_ _=>rfl),List.map_map,List.map_map];rfl
 rw[hb]at e1;exact⟨ay,e1,x1⟩
def tB (c:Ca)(N:Nat):List Sx:=[(bo (ax c (aa 0) .look [(xF c 188 [(aa 2),(aa 1)]),(aa 3)])),(bc (cV (tX (aD c (xC (bi "all")) [(cp N (cw (xF c 195 [(aa 2)])) [none,none,some 0] (.one 1) (aS true []) (xF c 200 [(ax c (aH (aa 2) .flat) .d7 [(aa 1)])]))]))) [(c7 (eO [(c5 (aq (aa 2) (xC (.int 0)))),(xS ": a truth has the values 0 and 1 alone")]) (aa 3))] [])]
theorem X7 {i j:Nat}{a b:List V}(h1:hp[i]?=some (.list a))(h2:hp[j]?=some (.list b)):Er (.ref i) (.ref j) hp=.ok (.zip i j 0) hp:=(gk (c9 h1)).trans (gk (c9 h2))
theorem BB {i j q:Nat}{a b:List V}(h1:hp[i]?=some (.list a))(h2:hp[j]?=some (.list b)):It.next (.zip i j q) hp=M4 i j q a[q]? b[q]?:=(cz (c9 h1)).trans (cz (c9 h2))
noncomputable abbrev tL (n m:Nat) (a b:Option V):Loc:=[some (.ref n),some (.int m),a,b,none]
inductive GO (f:HP->R (Fl×Loc))(loc:Loc)(s:Int)(hp:HP):Bool->Prop
 |good (hp':HP) (x:Ext hp hp') (e:f hp=.ok (.next,loc) hp'):GO f loc s hp true
 |bad (e:f hp=.gH s):GO f loc s hp false
section
variable {s:List Nat}{d:TD}{ay aN:HP}{l:List Bool}
theorem QR (R:Rd hp n x)(e1:ag N (k+6) (.fix (.ref 188)) [d.v,.int m] hp=.ok (.str s) ay)(lk:ag N (k+6) (.fix (.ref 426)) [.ref n,.str s,.int d.s] ay=.gH d.s) :
  aF (tB (ag N (k+6)) N) (tL n m (some d.v) (some (.int d.s))) hp=.gH d.s:=by
 open_k with[tB,R.bA (k:=.look) rfl rfl,e1,lk]
theorem QS (R:Rd hp n x)(e1:ag N (k+6) (.fix (.ref 188)) [d.v,.int m] hp=.ok (.str s) ay)(lk:ag N (k+6) (.fix (.ref 426)) [.ref n,.str s,.int d.s] ay=.ok .none ay)
  (e2:cp N (cw (aD (ag N (k+6)) (xC (.fix (.ref 195))) [(aa 2)])) [none,none,some 0] (.one 1) (aS true []) (aD (ag N (k+6)) (xC (.fix (.ref 200))) [(ax (ag N (k+6)) (aH (aa 2) .flat) .d7 [(aa 1)])]) (tL n m (some d.v) (some (.int d.s))) ay=.ok (.ref aN.length) (aN++[.list (l.map .bool)])) (hr:l.all id=false) :
  aF (tB (ag N (k+6)) N) (tL n m (some d.v) (some (.int d.s))) hp=.gH d.s:=by
 have ea:=vT (N:=N) (k:=k+5) (bK aN (.list (l.map .bool)));rw[hr]at ea;have nl:=aa2 (hp:=aN++[O.list (l.map .bool)]) d.w d.x d.y;have q1:fq ([]:List Nat).length (BA d.w).length=true:=By (n:=0) (Nat.le_refl _) nl.2 (by decide);have q2:fq (BA d.w).length (af ": a truth has the values 0 and 1 alone").length=true:=By (m:=38) nl.2 (by decide) (by decide);open_k with[tB,R.bA (k:=.look) rfl rfl,e1,lk,e2,ea,nl.1,vL (BA d.w) (Nat.le_trans nl.2 (by decide)),q1,q2,List.nil_append]
theorem VU (R:Rd hp n x)(e1:ag N (k+6) (.fix (.ref 188)) [d.v,.int m] hp=.ok (.str s) ay)(lk:ag N (k+6) (.fix (.ref 426)) [.ref n,.str s,.int d.s] ay=.ok .none ay)
  (e2:cp N (cw (aD (ag N (k+6)) (xC (.fix (.ref 195))) [(aa 2)])) [none,none,some 0] (.one 1) (aS true []) (aD (ag N (k+6)) (xC (.fix (.ref 200))) [(ax (ag N (k+6)) (aH (aa 2) .flat) .d7 [(aa 1)])]) (tL n m (some d.v) (some (.int d.s))) ay=.ok (.ref aN.length) (aN++[.list (l.map .bool)])) (hr:l.all id=true) :
  aF (tB (ag N (k+6)) N) (tL n m (some d.v) (some (.int d.s))) hp=.ok (.next,tL n m (some d.v) (some (.int d.s))) (aN++[.list (l.map .bool)]):=by
 have ea:=vT (N:=N) (k:=k+5) (bK aN (.list (l.map .bool)));rw[hr]at ea;open_k with[tB,R.bA (k:=.look) rfl rfl,e1,lk,e2,ea]
end
theorem Jx (R:Rd hp n x){vl:List VD}(hl:vl.length≤1000)(hd:∀d∈vl,d.2.length≤10)(hN:60≤N)(hv:x.vs=vl.map VD.v)(d:TD) :
  GO (aF (tB (ag N (k+6)) N) (tL n vl.length (some d.v) (some (.int d.s)))) (tL n vl.length (some d.v) (some (.int d.s))) d.s hp (d.right vl):=by
 cases VT (N:=N) (k:=k+1) (m:=vl.length) (hp:=hp) d.w d.x d.y (by apply bR<;>first|assumption|exact rfl)with
 |mk s ay e1 x1 ok es =>
 have lk:=q6 (N:=N) (k:=k+5) (hp:=ay) (.ref n) ok d.s;rw[es]at lk;unfold TD.right;cases hf:dF d.w d.x d.y vl.length with
 |false =>
  rw[hf,if_neg Bool.false_ne_true]at lk;exact .bad (QR R e1 lk)
 |true =>
  rw[hf,if_pos rfl]at lk;cases Jw (k:=k+3) (x1.rd R) hv hl hd hN d hf (some (.int d.s)) none (.int vl.length)with
  |mk aN e2 x2 =>
  have ha:((cY d.w d.x d.y).map λi=>dq (cu vl i)).all id=(cY d.w d.x d.y).all λi=>dq (cu vl i):=List.all_map;cases hr:(cY d.w d.x d.y).all λi=>dq (cu vl i)with
  |false=>exact .bad (QS R e1 lk e2 (ha.trans hr))
  |true=>exact .good _ ((x1.trans x2).trans (Ext.new _)) (VU R e1 lk e2 (ha.trans hr))
inductive aa3 (n m:Nat)(hp:HP)(p:Fl×Loc)(hp':HP)(_:Unit):Prop
 |mk (a b:Option V) (e:p=(.next,tL n m a b)) (x:Ext hp hp')
theorem Jy {vl:List VD}(hl:vl.length≤1000)(hd:∀d∈vl,d.2.length≤10)(hN:60≤N)(hv:x.vs=vl.map VD.v)(tl:List TD)(ht:x.ts=tl.map TD.v)(hq:x.qs=tl.map λd=>.int d.s)(r:List TD):∀(pre:List TD) (M:Nat) (a b:Option V) {hp:HP},Rd hp n x->tl=pre++r->r.length<M ->
  Wq (cI (.many [2,3]) (aF (tB (ag N (k+6)) N)) M (.zip (n+7) (n+8) pre.length) (tL n vl.length a b) hp) (oh vl r) (aa3 n vl.length hp):=by
 induction r with
 |nil =>
  intro pre M a b hp R e hM;cases M with
  |zero=>cases hM
  |succ M =>
  have h1:x.ts[pre.length]?=none:=by rw[ht,e];simp
  have h2:x.qs[pre.length]?=none:=by rw[hq,e];simp
  rw[NQ,BB R.o7 R.o8,h1,h2];exact .ok ⟨_,_,rfl,Ext.refl⟩
 |cons d r ih =>
  intro pre M a b hp R e hM;cases M with
  |zero=>cases hM
  |succ M =>
  have h1:x.ts[pre.length]?=some d.v:=by rw[ht,e];simp
  have h2:x.qs[pre.length]?=some (.int d.s):=by rw[hq,e];simp
  have tt:=Jx (N:=N) (k:=k) R hl hd hN hv d;rw[NQ,BB R.o7 R.o8,h1,h2];show Wq (az (aF (tB (ag N (k+6)) N) (tL n vl.length (some d.v) (some (.int d.s))) hp) (Bc (.many [2,3]) (aF (tB (ag N (k+6)) N)) M (.zip (n+7) (n+8) (pre.length+1)))) (if d.right vl then oh vl r else some (.error d.s)) _
  revert tt
  cases d.right vl with
  |false =>
   intro tt;cases tt with
   |bad e=>rw[e];rfl
  |true =>
   intro tt;cases tt with
   |good hp' xx e' =>
    rw[e'];have:=ih (pre++[d]) M (some d.v) (some (.int d.s)) (xx.rd R) (by rw[e,List.append_assoc];rfl) (Nat.lt_of_succ_lt_succ hM);rw[List.length_append]at this
    exact this.mono λ_ _ _ q=>by
     cases q with
     |mk a b e x2=>exact⟨a,b,e,xx.trans x2⟩
def vW (c:Ca)(N:Nat):List Sx:=[(bo (ax c (aa 0) .look [(xF c 214 [(aH (aH (aa 0) .flat) .shown),(aa 1)]),(aH (aa 0) .bZ)])),(aW (aH (aa 0) .flat))]
def GP (c:Ca)(N:Nat):List Sx:=(aR 1 (ax c (aH (aa 0) .flat) .size []))::(hZ N (.many [2,3]) (wj (aH (aH (aa 0) .flat) .bY) (aH (aa 0) .eM)) [(bo (ax c (aa 0) .look [(xF c 188 [(aa 2),(aa 1)]),(aa 3)])),(bc (cV (tX (aD c (xC (bi "all")) [(cp N (cw (xF c 195 [(aa 2)])) [none,none,some 0] (.one 1) (aS true []) (xF c 200 [(ax c (aH (aa 2) .flat) .d7 [(aa 1)])]))]))) [(c7 (eO [(c5 (aq (aa 2) (xC (.int 0)))),(xS ": a truth has the values 0 and 1 alone")]) (aa 3))] [])])::(aR 4 (aq (aH (aH (aa 0) .flat) .goal) (xC (.int 1))))::(bo (ax c (aa 0) .look [(ig (aS false [(ai (aa 4) [(.sX,(xC .none))]),(tX (xF c 173 [(aa 4),(aa 1)]))]) (xS "") (xS "the goal is no variable")),(aH (aa 0) .b9)]))::vW c N
theorem QT (c:Ca)(N:Nat):Vk c N=(fB N (ai (aq (aH (aa 0) .ahead) (xC (.int 0))) [(.ne,(xS "end"))]) [(bo (ax c (aa 0) .item []))])::GP c N:=rfl
noncomputable abbrev eK:Option Int->V
 |none=>.none
 |some i=>.int i
def gZ (m:Nat):Option Int->Bool
 |none=>true
 |some i=>inR m i
noncomputable abbrev BC:=Option (Nat×Int×Int)
abbrev Jz:BC->List V
 |none=>[]
 |some d=>bN d.1 d.2.1 d.2.2
def BD (m:Nat):BC->Bool
 |none=>true
 |some d=>inR m d.2.1&&inR m d.2.2
def rh (vl:List VD)(tl:List TD)(g:Option Int)(gs:Int)(sh:BC)(ss:Int):Res Unit:=ob (oh vl tl) λ_=>if gZ vl.length g then(if BD vl.length sh then some (.ok ())else some (.error ss))else some (.error gs)
theorem JA (sh:BC)(hN:60≤N):SF N (k+6) m hp (Jz sh) (BD m sh):=match sh with
 |none=>He (by apply bR<;>first|assumption|exact rfl)
 |some d=>QQ d.1 d.2.1 d.2.2 (by apply bR<;>first|assumption|exact rfl)
theorem ME (c:Ca)(N:Nat):GP c N=(aR 1 (ax c (aH (aa 0) .flat) .size []))::(hZ N (.many [2,3]) (wj (aH (aH (aa 0) .flat) .bY) (aH (aa 0) .eM)) [(bo (ax c (aa 0) .look [(xF c 188 [(aa 2),(aa 1)]),(aa 3)])),(bc (cV (tX (aD c (xC (bi "all")) [(cp N (cw (xF c 195 [(aa 2)])) [none,none,some 0] (.one 1) (aS true []) (xF c 200 [(ax c (aH (aa 2) .flat) .d7 [(aa 1)])]))]))) [(c7 (eO [(c5 (aq (aa 2) (xC (.int 0)))),(xS ": a truth has the values 0 and 1 alone")]) (aa 3))] [])])::(aR 4 (aq (aH (aH (aa 0) .flat) .goal) (xC (.int 1))))::(bo (ax c (aa 0) .look [(ig (aS false [(ai (aa 4) [(.sX,(xC .none))]),(tX (xF c 173 [(aa 4),(aa 1)]))]) (xS "") (xS "the goal is no variable")),(aH (aa 0) .b9)]))::vW c N:=rfl
theorem CD (R:Rd hp n x)(hN:60≤N)(sh:BC)(hs:x.shown=Jz sh)(a b c:Option V) :
  Wq (bj (aF (vW (ag N (k+7)) N)) [some (.ref n),some (.int m),a,b,c] hp) (if BD m sh then some (.ok ())else some (.error x.ss)) λa hp' _=>a=.ref (n+4)∧Ext hp hp':=by
 refine bC λnG=>?_;obtain⟨s,aN,e2,x2,Zz,es⟩:=JA (N:=N) (k:=k+1) (m:=m) (hp:=hp) sh hN;refine nG ?_;rw[<- hs]at e2;have lk:=q6 (N:=N) (k:=k+6) (hp:=aN) (.ref n) Zz x.ss;rw[es]at lk;have R2:=x2.rd R;cases h:BD m sh with
 |true =>
  rw[h,if_pos rfl]at lk;open_k with[vW,R.bA (k:=.look) rfl rfl,R.flat,R.Bk,e2,R2.zu,lk,R2.flat];exact .ok ⟨rfl,x2⟩
 |false =>
  rw[h,if_neg Bool.false_ne_true]at lk;open_k with[vW,R.bA (k:=.look) rfl rfl,R.flat,R.Bk,e2,R2.zu,lk];rfl
theorem GQ (R:Rd hp n x){vl:List VD}(hl:vl.length≤1000)(hd:∀d∈vl,d.2.length≤10)(hN:60≤N)(hv:x.vs=vl.map VD.v)(tl:List TD)(SW:tl.length<N)(ht:x.ts=tl.map TD.v)(hq:x.qs=tl.map λd=>.int d.s)(kd:V)(g:Option Int)(hg:x.goal=[kd,eK g])(sh:BC)(hs:x.shown=Jz sh) :
  Wq (bj (aF (GP (ag N (k+7)) N)) [some (.ref n),none,none,none,none] hp) (rh vl tl g x.gs sh x.ss) λa hp' _=>a=.ref (n+4)∧Ext hp hp':=by
 have DR:x.vs.length=vl.length:=by rw[hv,List.length_map]
 have CV:ag N (k+7) (.fix (.ref 140)) [.ref (n+4)] hp=.ok (.int vl.length) hp:=by
  rw[PI];open_k with[UW,R.fvars,len_list (N:=N) (k:=k+5) R.o6 (show x.vs.length≤1000000 by apply l8<;>first|assumption|exact rfl),DR]
 open_k with[ME,ik,R.flat,R.sD (k:=.size) rfl rfl,CV,R.Bj,R.eM,X7 R.o7 R.o8];refine(Jy (k:=k+1) hl hd hN hv tl ht hq tl [] N none none R rfl SW).bind ?_;rintro _ ay _ ⟨a,b,rfl,x1⟩;have R1:=x1.rd R;have eg:bh ay (.tup x.goal) (.int 1)=some (eK g):=by rw[hg];exact bF (i:=1) rfl
 have ms:=(CD (k:=k) (m:=vl.length) R1 hN sh hs a b (some (eK g))).mono (Q':=λa hp' _=>a=.ref (n+4)∧Ext hp hp') λ_ _ _ q=>⟨q.1,x1.trans q.2⟩;rw[fM]at ms;cases g with
 |none =>
  have lk:=q6 (N:=N) (k:=k+6) (hp:=ay) (.ref n) (s:=af "") (by decide) x.gs;rw[show(af ""==[])=true by decide,if_pos rfl]at lk;open_k with[R1.flat,R1.zw,eg,eK,R1.vJ,R1.bA (k:=.look) rfl rfl,lk,gZ];exact ms
 |some i =>
  have hv:=lS (N:=N) (k:=k+4) (hp:=ay) (m:=vl.length) i;refine bC λnG=>?_;cases h:inR vl.length i with
  |true =>
   refine nG ?_;have lk:=q6 (N:=N) (k:=k+6) (hp:=ay) (.ref n) (s:=af "") (by decide) x.gs;rw[show(af ""==[])=true by decide,if_pos rfl]at lk;rw[h]at hv;open_k with[R1.flat,R1.zw,eg,eK,R1.vJ,R1.bA (k:=.look) rfl rfl,lk,gZ,h,hv];exact ms
  |false =>
   refine nG ?_;have lk:=q6 (N:=N) (k:=k+6) (hp:=ay) (.ref n) (s:=af "the goal is no variable") (by decide) x.gs;rw[show(af "the goal is no variable"==[])=false by decide,if_neg Bool.false_ne_true]at lk;rw[h]at hv;open_k with[R1.flat,R1.zw,eg,eK,R1.vJ,R1.bA (k:=.look) rfl rfl,lk,gZ,h,hv];rfl
theorem RT.ex {T:List Nat}{ts:TS}{F:FD}(h:RT N hp n T ts F):∃t p q,Rd hp n (qU T p t q F):=by
 cases h.rd with
 |mk t q r p ok R=>exact⟨t,p,q,R⟩
theorem DS {T:List Nat}{ts:TS}{F:FD}(h:RT N hp n T ts F)(hN:60≤N)(j:Nat)(hj:j≤N)(post:TS×FD->Res Unit)
  (X8:∀b,kE j ts F=some (.ok b)->∃(vl:List VD) (tl:List TD) (kd:V) (g:Option Int) (sh:BC),vl.length≤1000∧(∀d∈vl,d.2.length≤10)∧b.2.vs=vl.map VD.v∧tl.length<N∧b.2.ts=tl.map TD.v∧(b.2.qs=tl.map λd=>.int d.s)∧b.2.goal=[kd,eK g]∧b.2.shown=Jz sh∧post b=rh vl tl g b.2.gs sh b.2.ss) :
  Wq (ag N (k+12) (.fix (.ref 431)) [.ref n] hp) (ob (kE j ts F) λb=>ob (post b) λ_=>some (.ok b)) λa hp' b=>a=.ref (n+4)∧(∃t p q,Rd hp' n (qU T p t q b.2))∧Fr n hp hp':=by
 rw[Qo];open_k with[QT];have rl:=Jq (k:=k) hN [none,none,none,none] j N h hj;cases e:kE j ts F with
 |none=>trivial
 |some r =>
  rw[e]at rl;cases r with
  |error k' =>
   have:dH sJ (aF [(bo (ax (ag N (k+11)) (aa 0) .item []))]) N (some (.ref n)::[none,none,none,none]) hp=.gH k':=rl;rw[sJ]at this;rw[this];rfl
  |ok b =>
   refine bC λnG=>?_;obtain⟨_,ay,e1,rfl,h1,f1⟩:=rl;refine nG ?_;rw[sJ]at e1;rw[e1];refine bC λnG=>?_;refine ZV (X8 b e) λvl tl kd g sh a1 a2 a3 a4 a5 a6 a7 a8 a9=>?_;refine ot (h1.ex) λt p q R1=>?_;refine nG ?_;have mt:=GQ (k:=k+4) R1 a1 a2 hN a3 tl a4 a5 a6 kd g a7 sh a8;rw[fM]at mt;open_k with[ob,a9];have:rh vl tl g b.2.gs sh b.2.ss=rh vl tl g (qU T p t q b.2).gs sh (qU T p t q b.2).ss:=rfl;rw[<- this]at mt
   revert mt
   generalize rh vl tl g b.2.gs sh b.2.ss=pe;intro mt;rcases pe with _|k'|u
   ·trivial
   ·exact mt
   ·refine bC λnG=>?_;refine cb mt λa aN e2 eP x2=>?_;subst eP;refine nG ?_;exact⟨_,aN,e2,rfl,⟨t,p,q,x2.rd R1⟩,f1.trans x2.fr⟩
end
section
variable {N k n L m:Nat}{hp hp':HP}{T:List Nat}
theorem pA {a d:Nat}{C:Addr}{es:List (Key×V)}(h1:hp[a]?=some (.inst C d))(h2:hp[d]?=some (.dict es))(key:Key)(v:V)(ok:attrOk C key=true)(hl:es.length≤100):dj hp (.ref a) key v=some (hp.set d (.dict (dput es key v))):=by
 exact Obj.put ⟨h1,h2⟩ (by rw[ok,decide_eq_true hl];rfl) rfl
theorem aA {a d:Nat}{C:Addr}{es:List (Key×V)}{v:V}(h1:hp[a]?=some (.inst C d))(h2:hp[d]?=some (.dict es))(key:Key)(ok:attrOk C key=true)(hv:ej es key=some v)(hf:∀f,v≠.fix f):ew hp (.ref a) key=some v:=by
 refine Obj.attr ⟨h1,h2⟩ ?_;rw[ok,hv];cases v with
 |fix f=>exact absurd rfl (hf f)
 |_=>rfl
theorem gA (i:Nat)(hp l:HP):(hp++l)[hp.length+i]?=l[i]?:=by rw[List.getElem?_append_right (Nat.le_add_right _ _),Nat.add_sub_cancel_left]
theorem DT (hp l:HP):(hp++l)[hp.length]?=l[0]?:=gA 0 hp l
theorem sA (i:Nat)(hp l:HP)(o:O):(hp++l).set (hp.length+i) o=hp++l.set i o:=by rw[List.set_append_right _ _ (Nat.le_add_right _ _),Nat.add_sub_cancel_left]
theorem QU (v:V):ag N (k+1) (.fix (.ref 273)) [v] hp=az (ag N k (.fix (.ref 228)) [.ref hp.length,v] (hp++[.inst 273 (hp.length+1),.dict []])) λr hp'=>match r with
  |.none=>.ok (.ref hp.length) hp'
  |_=>.bad:=rfl
theorem QV:ag N (k+1) (.fix (.ref 150)) [] hp=az (ag N k (.fix (.ref 119)) [.ref hp.length] (hp++[.inst 150 (hp.length+1),.dict []])) λr hp'=>match r with
  |.none=>.ok (.ref hp.length) hp'
  |_=>.bad:=rfl
theorem QW (v:V):ag N (k+1) (.fix (.ref 434)) [v] hp=az (ag N k (.fix (.ref 370)) [.ref hp.length,v] (hp++[.inst 434 (hp.length+1),.dict []])) λr hp'=>match r with
  |.none=>.ok (.ref hp.length) hp'
  |_=>.bad:=rfl
theorem CE:ag N (k+2) (.fix (.ref 273)) [.str T] hp=.ok (.ref hp.length) (hp++[.inst 273 (hp.length+1),SD T 0]):=by
 have p1:=pA (hp:=hp++[.inst 273 (hp.length+1),.dict []]) (a:=hp.length) (d:=hp.length+1) (C:=273) (es:=[]) (DT _ _) (gA 1 _ _) .text (.str T) rfl (by decide);rw[sA]at p1;have p2:=pA (hp:=hp++[.inst 273 (hp.length+1),.dict [(.text,.str T)]]) (a:=hp.length) (d:=hp.length+1) (C:=273) (es:=[(.text,.str T)]) (DT _ _) (gA 1 _ _) .bG (.int 0) rfl (by show 1≤100;decide);rw[sA]at p2;rw[QU,PT];open_k with[U4,p1,show(List.set [O.inst 273 (hp.length+1),O.dict []] 1 (O.dict (dput [] .text (.str T))))=[.inst 273 (hp.length+1),.dict [(.text,.str T)]]from rfl,p2];rfl
def F0:FD:=⟨[],[],[.str (af "satisfy"),.none],[],[],-1,-1⟩
theorem MF:ag N (k+2) (.fix (.ref 150)) [] hp=.ok (.ref hp.length) (hp++[.inst 150 (hp.length+1),.dict [(.vars,.ref (hp.length+2)),(.bY,.ref (hp.length+3)),(.goal,.tup F0.goal),(.shown,.tup [])],.list [],.list []]):=by
 have st:∀(es:List (Key×V)) (l:HP) key v,attrOk 150 key=true->es.length≤100->dj (hp++(.inst 150 (hp.length+1)::.dict es::l)) (.ref hp.length) key v=some (hp++(.inst 150 (hp.length+1)::.dict (dput es key v)::l)):=λes l key v h1 h2=>by
  rw[pA (d:=hp.length+1) (C:=150) (es:=es) (DT _ _) (gA 1 _ _) key v h1 h2,sA];rfl
 have ln:∀(l:HP),(hp++l).length=hp.length+l.length:=λl=>List.length_append;rw[QV,PF];open_k with[US,ln,List.append_assoc,List.cons_append,List.nil_append,List.length_cons,List.length_nil,Nat.zero_add,Nat.reduceAdd,st [] _ .vars _ rfl (by decide)];open_k with[show ∀v,dput [] Key.vars v=[(Key.vars,v)]from λ_=>rfl,ln,List.append_assoc,List.cons_append,List.nil_append,List.length_cons,List.length_nil,Nat.zero_add,Nat.reduceAdd,st [(.vars,.ref (hp.length+2))] _ .bY _ rfl (by show 1≤100;decide)];open_k with[show ∀u v,dput [(Key.vars,u)] Key.bY v=[(Key.vars,u),(Key.bY,v)]from λ_ _=>rfl,st [(.vars,.ref (hp.length+2)),(.bY,.ref (hp.length+3))] _ .goal _ rfl (by show 2≤100;decide)];open_k with[show ∀u v w,dput [(Key.vars,u),(Key.bY,v)] Key.goal w=[(Key.vars,u),(Key.bY,v),(Key.goal,w)]from λ_ _ _=>rfl,st [(.vars,.ref (hp.length+2)),(.bY,.ref (hp.length+3)),(.goal,.tup [.str (af "satisfy"),.none])] _ .shown _ rfl (by show 3≤100;decide)];rfl
theorem BE:-(1:Int)=-1:=rfl
theorem QX {a d:Nat}(c:Ca)(as:List Ex)(loc:Loc)(h:hp[a]?=some (.inst 434 d)):jg c as (some (.ref a)::loc) hp=az (xs as (some (.ref a)::loc) hp) λvs hp=>c (.fix (.ref 291)) (.ref a::vs) hp:=by
 show rI (md hp a) _=_;refine eA ?_;unfold md;rw[Bd h];rfl
theorem Rd.lay {x:RS}(hT:x.T.length≤1000000)(hC:aT x.T=true):Rd (hp++cells hp.length x) hp.length x:=⟨λj _ e=>(gA j _ _).trans e,hT,hC⟩
theorem GR {t:Tok}{b q:Nat}(nx:Bo N T 0 t b q)(hT:T.length≤1000000)(hC:aT T=true)(hN:T.length<N)(ht:t.g=[]) :
  ∃hp',ag N (k+7) (.fix (.ref 434)) [.str T] hp=.ok (.ref hp.length) hp'∧Ext hp hp'∧Rd hp' hp.length (qU T q t b F0):=by
 refine bC λnG=>?_;obtain⟨m,nn,len,sk,hl,hm,rfl,rfl,lx⟩:=nx;refine nG ?_
 have st:∀(es:List (Key×V)) (l:HP) key v,attrOk 434 key=true->es.length≤100->dj (hp++(.inst 434 (hp.length+1)::.dict es::l)) (.ref hp.length) key v=some (hp++(.inst 434 (hp.length+1)::.dict (dput es key v)::l)):=λes l key v h1 h2=>by
  rw[pA (d:=hp.length+1) (C:=434) (es:=es) (DT _ _) (gA 1 _ _) key v h1 h2,sA];rfl
 have ln:∀(l:HP),(hp++l).length=hp.length+l.length:=λl=>List.length_append;have S0:dw (hp++[.inst 434 (hp.length+1),.dict [(.bM,.ref (hp.length+2))],.inst 273 (hp.length+3),SD T 0]) (hp.length+2) (hp.length+3) T 0:=⟨gA 2 _ _,gA 3 _ _,hT,hC⟩;have tc:=DH (k:=k) (N:=N) S0 sk hl hN hm rfl lx;rw[ht,List.append_nil,sA]at tc
 have sn:ag N (k+4) (.fix (.ref 273)) [.str T] (hp++[.inst 434 (hp.length+1),.dict []])=.ok (.ref (hp.length+2)) (hp++[.inst 434 (hp.length+1),.dict [],.inst 273 (hp.length+3),SD T 0]):=by
  have sn:=CE (N:=N) (k:=k+2) (T:=T) (hp:=hp++[.inst 434 (hp.length+1),.dict []]);rw[ln,List.append_assoc]at sn;exact sn
 have j7:∀l,ew (hp++(.inst 434 (hp.length+1)::.dict [(.bM,.ref (hp.length+2))]::l)) (.ref hp.length) .bM=some (.ref (hp.length+2)):=λl=>aA (DT _ _) (gA 1 _ _) .bM rfl rfl (λ_ h=>by cases h)
 have aa4:ag N (k+5) (.fix (.ref 291)) [.ref hp.length,.str T] (hp++[.inst 434 (hp.length+1),.dict []])=.ok .none (hp++[.inst 434 (hp.length+1),.dict [(.bM,.ref (hp.length+2)),(.ahead,t.v (0+nn))],.inst 273 (hp.length+3),SD T (0+nn+len)]):=by
  rw[P0];have p1:=st [] [.inst 273 (hp.length+3),SD T 0] .bM (.ref (hp.length+2)) rfl (by decide);rw[show dput [] Key.bM (.ref (hp.length+2))=[(Key.bM,.ref (hp.length+2))]from rfl]at p1;have p2:=st [(.bM,.ref (hp.length+2))] [.inst 273 (hp.length+3),SD T (0+nn+len)] .ahead (t.v (0+nn)) rfl (by show 1≤100;decide);simp only[List.set_cons_succ,List.set_cons_zero]at tc;open_k with[Va,sn,p1,j7,S0.mt,tc,p2];rfl
 have VV:=MF (N:=N) (k:=k+3) (hp:=hp++[.inst 434 (hp.length+1),.dict [(.bM,.ref (hp.length+2)),(.ahead,t.v (0+nn))],.inst 273 (hp.length+3),SD T (0+nn+len)]);rw[ln,List.append_assoc]at VV
 let D1 (es:List (Key×V)):O:=.dict ([(.bM,.ref (hp.length+2)),(.ahead,t.v (0+nn))]++es)
 let H (es:List (Key×V)) (l:HP):HP:=hp++(.inst 434 (hp.length+1)::.dict ([(.bM,.ref (hp.length+2)),(.ahead,t.v (0+nn))]++es)::[.inst 273 (hp.length+3),SD T (0+nn+len),.inst 150 (hp.length+5),.dict [(.vars,.ref (hp.length+6)),(.bY,.ref (hp.length+7)),(.goal,.tup F0.goal),(.shown,.tup [])],.list [],.list []]++l)
 have X9:ag N (k+5) (.fix (.ref 150)) [] (hp++[.inst 434 (hp.length+1),.dict [(.bM,.ref (hp.length+2)),(.ahead,t.v (0+nn))],.inst 273 (hp.length+3),SD T (0+nn+len)])=.ok (.ref (hp.length+4)) (H [] []):=VV
 have sp (es:List (Key×V)) (l:HP) (key:Key) (v:V) (h1:attrOk 434 key=true) (h2:es.length≤50) (h3:dput ([(.bM,.ref (hp.length+2)),(.ahead,t.v (0+nn))]++es) key v=[(.bM,.ref (hp.length+2)),(.ahead,t.v (0+nn))]++(es++[(key,v)])):dj (H es l) (.ref hp.length) key v=some (H (es++[(key,v)]) l):=by
  have:=st ([(.bM,.ref (hp.length+2)),(.ahead,t.v (0+nn))]++es) ([.inst 273 (hp.length+3),SD T (0+nn+len),.inst 150 (hp.length+5),.dict [(.vars,.ref (hp.length+6)),(.bY,.ref (hp.length+7)),(.goal,.tup F0.goal),(.shown,.tup [])],.list [],.list []]++l) key v h1 (by simp;(apply aI<;>trivial));rw[h3]at this;exact this
 have hl:∀es,(H es []).length=hp.length+8:=λes=>by simp[H]
 have aa5:∀es,H es []++[O.list []]=H es [.list []]:=λes=>by simp[H]
 let E4:List (Key×V):=[(.flat,.ref (hp.length+4)),(.eM,.ref (hp.length+8)),(.b9,.int (-1)),(.bZ,.int (-1))]
 have hE:H E4 [.list []]=hp++cells hp.length (qU T (0+nn+len) t (0+nn) F0):=by
  show hp++(O.inst 434 (hp.length+1)::O.dict ([(.bM,.ref (hp.length+2)),(.ahead,t.v (0+nn))]++E4)::_)=_;rw[N0];rfl
 refine⟨H E4 [.list []],?_,⟨_,rfl⟩,hE▸Rd.lay hT hC⟩
 ·rw[QW,Qf];open_k with[Ve,QX (hp:=hp++[O.inst 434 (hp.length+1),O.dict []]) (d:=hp.length+1) _ _ _ (DT _ _),aa4,X9,sp [] [] .flat _ rfl (by decide) rfl,List.nil_append,hl,aa5];open_k with[sp [(.flat,.ref (hp.length+4))] [.list []] .eM _ rfl (by show 1≤50;decide) rfl,List.cons_append,List.nil_append,BE];open_k with[sp [(.flat,.ref (hp.length+4)),(.eM,.ref (hp.length+8))] [.list []] .b9 _ rfl (by show 2≤50;decide) rfl,List.cons_append,List.nil_append];open_k with[sp [(.flat,.ref (hp.length+4)),(.eM,.ref (hp.length+8)),(.b9,.int (-1))] [.list []] .bZ _ rfl (by show 3≤50;decide) rfl,List.cons_append,List.nil_append];rfl
end
section
variable {N k n L m:Nat}{hp hp':HP}{T:List Nat}
deriving instance DecidableEq for Tok
def Bl (B:List Nat):Prop:=∃c B',B=c::B'∧(c=32∨c=10∨c=9)
theorem Bl.not {B:List Nat}(h:Bl B)(g:List Nat)(h1:g.contains 32=false)(h2:g.contains 10=false)(h3:g.contains 9=false):runN g B=0:=by
 obtain⟨c,B',rfl,rfl|rfl|rfl⟩:=h<;>simp only[runN,h1,h2,h3,Bool.false_eq_true,if_false]
theorem pL {g B:List Nat}(h:runN g B=0):∀l,runN g (l++B)=runN g l
 |[]=>h
 |c::r=>by simp only[List.cons_append,runN,pL h r]
theorem je.app {l B:List Nat}{t:Tok}{q:Nat}(x:je l t q)(hl:l≠[])(hB:Bl B):je (l++B) t q:=by
 cases x with
 |fin=>exact absurd rfl hl
 |word c r h _ e =>
  have h1:=pL (hB.not (LT++DG) (by decide) (by decide) (by decide)) (c::r);have h2:((c::r)++B).take q=(c::r).take q:=List.take_append_of_le_length (e▸hO _ _);rw[<- h2];exact .word c (r++B) h q (e.trans h1.symm)
 |num c r h _ e hn i hi =>
  have h1:=pL (hB.not DG (by decide) (by decide) (by decide)) (c::r);have h2:((c::r)++B).take q=(c::r).take q:=List.take_append_of_le_length (e▸hO _ _);exact .num c (r++B) h q (e.trans h1.symm) hn i (by rw[<- h2]at hi;exact hi)
 |neg r n' e h0 hn i hi =>
  have h1:=pL (hB.not DG (by decide) (by decide) (by decide)) r;have h2:(r++B).take n'=r.take n':=List.take_append_of_le_length (e▸hO _ _);exact .neg (r++B) n' (e.trans h1.symm) h0 hn i (by rw[<- h2]at hi;exact hi)
 |text w r h =>
  have:=je.text w (r++B) h
  simpa using this
 |Gw r=>exact .Gw _
 |sign c r h=>exact .sign c _ h
noncomputable def quoted:List Nat->List Nat
 |[]=>[]
 |c::r=>if c=34∨c=10∨c=92 then[]else c::quoted r
theorem yn:∀l,∀c∈quoted l,c≠34∧c≠10∧c≠92
 |[],c,h=>by cases h
 |d::r,c,h=>by
  unfold quoted at h;split at h
  ·cases h
  ·rename_i hd;rcases List.mem_cons.mp h with rfl|h
   ·exact⟨λe=>hd (.inl e),λe=>hd (.inr (.inl e)),λe=>hd (.inr (.inr e))⟩
   ·exact yn r c h
theorem vX:∀l,l=quoted l++l.drop (quoted l).length
 |[]=>rfl
 |d::r=>by
  unfold quoted;split
  ·rfl
  ·exact congrArg (d::·) (vX r)
def GS (l:List Nat):Option (Tok×Nat):=match l with
 |[]=>none
 |c::r=>if LT.contains c then some (.word ((c::r).take (runN (LT++DG) (c::r))),runN (LT++DG) (c::r))
  else if DG.contains c then(if runN DG (c::r)≤640 then(PySem.intText? (S ((c::r).take (runN DG (c::r))))).map λi=>(.number i,runN DG (c::r))else none)
  else if c=45 then(if 0<runN DG r∧runN DG r≤640 then(PySem.intText? (S (r.take (runN DG r)))).map λi=>(.number (-i),runN DG r+1)else none)
  else if c=34 then(if(r.drop (quoted r).length).head?=some 34 then some (.text (quoted r),(quoted r).length+2)else none)
  else if c=46 then(if r.head?=some 46 then some (.sign [46,46],2)else none)
  else if SG.contains c then some (.sign [c],1)else none
theorem kN {A:Type}{c:Prop}[Decidable c]{a b x:A}{G:Prop}(h:(if c then a else b)=x)(k1:c->a=x->G)(k2:¬c->b=x->G):G:=by
 by_cases hc:c
 ·exact k1 hc ((if_pos hc).symm.trans h)
 ·exact k2 hc ((if_neg hc).symm.trans h)
theorem DU {A:Type}{x:A}{P:Prop}(h:none=some x):P:=by cases h
theorem zC {A B:Type}{a a':A}{b b':B}{G:Prop}(h:some (a,b)=some (a',b'))(k:a=a'->b=b'->G):G:=by
 cases h;exact k rfl rfl
theorem Oa {r:List Nat}{c:Nat}(h:r.head?=some c):r=c::r.tail:=by
 cases r with
 |nil=>cases h
 |cons x y=>cases h;rfl
theorem QY {l:List Nat}{t:Tok}{q:Nat}(h:GS l=some (t,q)):je l t q:=by
 cases l with
 |nil=>exact DU h
 |cons c r =>
  unfold GS at h;refine kN h (λh1 h=>zC h λe1 e2=>e1▸e2▸.word c r h1 _ rfl) λ_ h=>?_;refine kN h (λh2 h=>kN h (λh3 h=>?_) λ_ h=>DU h) λ_ h=>?_
  ·refine aj (Option.map_eq_some_iff.mp h) λi hi e=>?_;cases e
   exact .num c r h2 _ rfl h3 i hi
  refine kN h (λh4 h=>kN h (λh3 h=>?_) λ_ h=>DU h) λ_ h=>?_
  ·refine aj (Option.map_eq_some_iff.mp h) λi hi e=>?_;cases e
   exact h4▸.neg r _ rfl h3.1 h3.2 i hi
  refine kN h (λh5 h=>kN h (λh6 h=>zC h λe1 e2=>?_) λ_ h=>DU h) λ_ h=>?_
  ·have e:r=quoted r++34::(r.drop (quoted r).length).tail:=(vX r).trans (congrArg (quoted r++·) (Oa h6));have:=je.text (quoted r) (r.drop (quoted r).length).tail (yn r);rw[<- e]at this;exact e1▸e2▸h5▸this
  refine kN h (λh6 h=>kN h (λh7 h=>zC h λe1 e2=>?_) λ_ h=>DU h) λ_ h=>kN h (λh7 h=>zC h λe1 e2=>e1▸e2▸.sign c r h7) λ_ h=>DU h
  ·rw[Oa h7,h6,<- e1,<- e2];exact .Gw r.tail
def nt:Nat->Nat->List Nat->Option TS
 |0,_,_=>none
 |j+1,o,l=>match l.drop (runN BL l)with
  |[]=>if runN BL l=0 then some []else none
  |c::r=>if c=37 then none else match GS (c::r)with
   |none=>none
   |some (t,n)=>if j0 t=true∧n≤(c::r).length then(nt j (o+runN BL l+n) ((c::r).drop n)).map ((t,o+runN BL l)::·)else none
def Row (N:Nat)(U:List Nat):Nat->TS->Nat->Prop
 |p,[],q=>p=q
 |p,(t,b)::r,q=>j0 t=true∧∃q',Bo N U p t b q'∧Row N U q' r q
theorem Row.append {U:List Nat}:∀{p:Nat} {a:TS} {q:Nat} {b:TS} {r:Nat},Row N U p a q->Row N U q b r->Row N U p (a++b) r:=by
 intro p a q b r
 induction a generalizing p with
 |nil=>exact λh h'=>(show p=q from h)▸h'
 |cons x a ih=>exact λh h'=>⟨h.1,h.2.elim λq' h2=>⟨q',h2.1,ih h2.2 h'⟩⟩
theorem Row.toks {U:List Nat}{t:Tok}{b q':Nat}(ok:j0 t=true):∀{p:Nat} {a:TS} {q:Nat},Row N U p a q->Bo N U q t b q'->BY N U p (a++[(t,b)]):=by
 intro p a q
 induction a generalizing p with
 |nil=>exact λh h'=>⟨ok,q',(show p=q from h)▸h',trivial⟩
 |cons x a ih=>exact λh h'=>⟨h.1,h.2.elim λq h2=>⟨q,h2.1,ih h2.2 h'⟩⟩
noncomputable abbrev de (a:Nat) (ts:TS):TS:=ts.map λx=>(x.1,a+x.2)
theorem QZ {l B:List Nat}{c:Nat}{r:List Nat}(e:l.drop (runN BL l)=c::r)(hc:c≠37):jX 0 (l++B) (runN BL l):=by
 have iD:runN BL l<l.length:=by
  have:=congrArg List.length e;simp at this;(apply Hk<;>trivial)
 have h1:∀(l:List Nat),runN BL l<l.length->runN BL (l++B)=runN BL l:=by
  intro l
  induction l with
  |nil=>intro h;exact absurd h (Nat.not_lt_zero _)
  |cons c r ih =>
   intro h;simp only[List.cons_append,runN]at h ⊢;by_cases hb:BL.contains c=true
   ·simp only[hb,if_true,List.length_cons]at h ⊢;rw[ih (by apply Ed<;>trivial)]
   ·simp only[if_neg hb]
 have h2:(l++B).drop (runN BL l)=c::(r++B):=by rw[List.drop_append_of_le_length (Nat.le_of_lt iD),e];rfl
 have:=jX.stop (l++B) (by rw[h1 l iD,h2];simpa using hc)
 rwa [h1 l iD]at this
theorem MG {U B:List Nat}(hB:Bl B)(a:Nat)(hN:0<N):∀(j o:Nat) (l:List Nat) {ts:TS},nt j o l=some ts->U.drop (a+o)=l++B->Row N U (a+o) (de a ts) (a+o+l.length):=by
 intro j
 induction j with
 |zero=>exact λo l ts h=>by cases h
 |succ j Jb =>
  intro o l ts h hU;unfold nt at h;cases e:l.drop (runN BL l)with
  |nil =>
   rw[e]at h;simp only at h;by_cases h0:runN BL l=0
   ·rw[if_pos h0]at h;cases h
    rw[h0,List.drop_zero]at e;subst e;exact rfl
   ·rw[if_neg h0]at h;cases h
  |cons c r =>
   rw[e]at h;simp only at h;by_cases hc:c=37
   ·rw[if_pos hc]at h;cases h
   ·rw[if_neg hc]at h;cases hx:GS (c::r)with
    |none=>rw[hx]at h;cases h
    |some x =>
     obtain⟨t,n⟩:=x;rw[hx]at h;simp only at h;by_cases i9:j0 t=true∧n≤(c::r).length
     ·rw[if_pos i9]at h;refine aj (Option.map_eq_some_iff.mp h) λiq h' bH=>?_;subst bH;have hlen:=congrArg List.length e;rw[List.length_drop]at hlen;have hr:=hO BL l;have VW:=congrArg List.length hU;rw[List.length_drop,List.length_append]at VW;have hb:0<B.length:=by obtain⟨c,B',rfl,_⟩:=hB;simp
      have d1:U.drop (a+(o+runN BL l))=(c::r)++B:=by
       rw[<- Nat.add_assoc,<- List.drop_drop,hU,List.drop_append_of_le_length hr,e]
      have d2:U.drop (a+(o+runN BL l+n))=(c::r).drop n++B:=by
       rw[<- Nat.add_assoc,<- List.drop_drop,d1,List.drop_append_of_le_length i9.2]
      have ih:=Jb (o+runN BL l+n) ((c::r).drop n) h' d2;have el:a+(o+runN BL l+n)+((c::r).drop n).length=a+o+l.length:=by rw[List.length_drop,Nat.add_assoc a,Nat.add_assoc (o+runN BL l),Nat.add_sub_cancel' i9.2,<- hlen,Nat.add_assoc o,Nat.add_sub_cancel' hr,<- Nat.add_assoc]
      rw[el]at ih;refine⟨i9.1,a+(o+runN BL l+n),⟨0,runN BL l,n,?_,?_,hN,?_,?_,?_⟩,ih⟩
      ·rw[hU];exact QZ e hc
      ·exact MY (Nat.le_of_lt (Nat.lt_of_sub_pos (VW▸Nat.lt_of_lt_of_le hb (Nat.le_add_left _ _)))) (VW▸Nat.le_trans hr (Nat.le_add_right _ _))
      ·exact(Nat.add_assoc _ _ _).symm
      ·exact(Nat.add_assoc _ _ _).symm
      ·rw[d1];exact(QY hx).app (by simp) hB
     ·rw[if_neg i9]at h;cases h
end
section
variable {N k n L m:Nat}{hp hp':HP}{T:List Nat}
noncomputable def bu:Nat->List Nat
 |0=>[32]
 |1=>[10]
 |2=>[32,37,32,118,97,114,59,10]
 |_=>[9]
theorem VX (d:Nat)(l:List Nat):Bl (bu d++l):=match d with
 |0=>⟨32,l,rfl,.inl rfl⟩
 |1=>⟨10,l,rfl,.inr (.inl rfl)⟩
 |2=>⟨32,37::32::118::97::114::59::10::l,rfl,.inl rfl⟩
 |_+3=>⟨9,l,rfl,.inr (.inr rfl)⟩
theorem pM {g c:Nat}{r:List Nat}(hg:BL.contains g=true)(hc:BL.contains c=false)(pY:c≠37):jX 0 (g::c::r) 1:=by
 have h:runN BL (g::c::r)=1:=by simp only[runN,hg,hc,if_true,Bool.false_eq_true,if_false]
 have:=jX.stop (g::c::r) (by rw[h];simpa using pY)
 rwa [h]at this
theorem MH (d:Nat){c:Nat}{r:List Nat}(hc:BL.contains c=false)(pY:c≠37):∃m,m<2∧jX m (bu d++c::r) (bu d).length:=match d with
 |0=>⟨0,by decide,pM (by decide) hc pY⟩
 |1=>⟨0,by decide,pM (by decide) hc pY⟩
 |2=>⟨1,by decide,by
  have h1:runN BL (bu 2++c::r)=1:=rfl;have:=jX.rem (bu 2++c::r) [32,118,97,114,59] (c::r) 1 (by rw[h1];rfl) (by decide) (pM (by decide) hc pY);rw[h1]at this;exact this⟩
 |_+3=>⟨0,by decide,pM (by decide) hc pY⟩
def Lx (T:List Nat)(ts:TS):Prop:=∀N B,2≤N->Bl B->Row N (T++B) 0 ts T.length
theorem Lx.nil:Lx [] []:=λ_ _ _ _=>rfl
theorem JB {j:Nat}{l:List Nat}{t:Tok}{ts:TS}(h:nt j 0 l=some ((t,0)::ts)):∃c r,l=c::r∧BL.contains c=false∧c≠37:=by
 cases j with
 |zero=>cases h
 |succ j =>
  unfold nt at h;cases e:l.drop (runN BL l)with
  |nil =>
   rw[e]at h;simp only at h;split at h<;>cases h
  |cons c r =>
   rw[e]at h;simp only at h;split at h
   ·cases h
   ·rename_i hc;split at h
    ·cases h
    ·split at h
     ·refine aj (Option.map_eq_some_iff.mp h) λiq _ e'=>?_
      have e0:runN BL l=0:=by
       have:=congrArg (λx=>(x.head?.map (·.2))) e'
       simpa using this
      rw[e0,List.drop_zero]at e;subst e;refine⟨c,r,rfl,?_,hc⟩;cases hb:BL.contains c with
      |false=>rfl
      |true =>
       simp only[runN,hb,if_true]at e0;exact absurd e0 (Nat.succ_ne_zero _)
     ·cases h
theorem Lx.put {ts:TS}(h:Lx T ts)(d:Nat){j:Nat}{l:List Nat}{t:Tok}{iq:TS}(hl:nt j 0 l=some ((t,0)::iq)):Lx (T++bu d++l) (ts++de (T.length+(bu d).length) ((t,0)::iq)):=by
 intro N B hN hB;refine bC λnG=>?_;refine cb (JB hl) λc r bH hc pY=>?_;subst bH;have r1:=h N (bu d++(c::r)++B) hN (by rw[List.append_assoc];exact VX d _);have eU:T++(bu d++(c::r)++B)=T++bu d++(c::r)++B:=by simp
 rw[eU]at r1
 have dU:(T++bu d++(c::r)++B).drop (T.length+(bu d).length+0)=(c::r)++B:=by
  rw[Nat.add_zero,<- List.length_append,List.append_assoc];simp
 obtain⟨ok,q',⟨_,n',len,_,hle,_,hb,hq,lx⟩,rest⟩:=MG (N:=N) hB (T.length+(bu d).length) (by apply bR<;>trivial) j 0 (c::r) hl dU;refine aj (MH d (r:=r++B) hc pY) λm hm sk=>?_;refine nG ?_;refine r1.append ⟨ok,q',⟨m,(bu d).length,len,?_,?_,by apply Nat.le_trans<;>trivial,rfl,hq,lx⟩,?_⟩
 ·have:(T++bu d++(c::r)++B).drop T.length=bu d++c::(r++B):=by simp
  rw[this];exact sk
 ·simp
 ·have e2:T.length+(bu d).length+0+(c::r).length=(T++bu d++(c::r)).length:=by simp;(apply Nat.add_assoc<;>trivial)
  rw[e2]at rest;exact rest
theorem Lx.end {ts:TS}(h:Lx T ts)(hN:2≤N):BY N (T++[10]) 0 (ts++[(.fin,T.length+1)]):=by
 refine(h N [10] hN ⟨10,[],rfl,.inr (.inl rfl)⟩).toks (q':=T.length+1) rfl ⟨0,1,0,?_,by simp,by apply bR<;>trivial,rfl,rfl,?_⟩
 ·have:(T++[10]).drop T.length=[10]:=by simp
  rw[this];exact jX.stop [10] (by decide)
 ·have:(T++[10]).drop (T.length+1)=[]:=by simp
  rw[this];exact .fin
end
section
variable {N k n L m:Nat}{hp hp':HP}{T:List Nat}
structure FS where
 cells:List Int
 p:Nat
 T:List Nat
 br:Int
 vs:List V
 ts:List V
 goal:V
 shown:V
noncomputable abbrev gE (st:FS):List (Key×V):=[(.cells,.ref 1),(.place,.int st.p),(.text,.str st.T),(.iy,.int st.br),(.vars,.ref 2),(.bY,.ref 3),(.goal,st.goal),(.shown,st.shown)]
structure Fd (hp:HP)(st:FS):Prop where
 o1:hp[1]?=some (.list (st.cells.map .int))
 o2:hp[2]?=some (.list st.vs)
 o3:hp[3]?=some (.list st.ts)
 o4:hp[4]?=some (.dict (gE st))
structure FF (hp hp':HP):Prop where
 len:hp.length≤hp'.length
 same:∀j,5≤j->j<hp.length->hp'[j]?=hp[j]?
theorem FF.refl:FF hp hp:=⟨Nat.le_refl _,λ_ _ _=>rfl⟩
theorem FF.trans {au bJ:HP}(a:FF hp au)(b:FF au bJ):FF hp bJ:=⟨Nat.le_trans a.len b.len,λj h1 h2=>(b.same j h1 (Nat.lt_of_lt_of_le h2 a.len)).trans (a.same j h1 h2)⟩
theorem FF.set {j:Nat}(h:j<5)(o:O):FF hp (hp.set j o):=⟨Nat.le_of_eq List.length_set.symm,λi h1 _=>List.getElem?_set_ne (by apply RE<;>trivial)⟩
theorem FF.app (l:List O):FF hp (hp++l):=⟨by simp,λi _ h=>List.getElem?_append_left h⟩
theorem FF.at {j:Nat}{o:O}(f:FF hp hp')(h5:5≤j)(h:hp[j]?=some o):hp'[j]?=some o:=(f.same j h5 (List.getElem?_eq_some_iff.mp h).1).trans h
theorem bU (u:V)(k:Key)(hp:HP):Ej k u hp=zS hp u k:=rfl
theorem aU (hp:HP)(a b:O):(hp.set 4 a).set 4 b=hp.set 4 b:=List.set_set _
theorem eB {a:Nat}{es:List (Key×V)}{v:V}(h:hp[a]?=some (.dict es))(k:Key)(hv:ej es k=some v):zS hp (.ref a) k=.ok v hp:=(gk (qQ h)).trans (congrArg (bQ · hp) hv)
theorem mY {a:Nat}{es:List (Key×V)}(h:hp[a]?=some (.dict es))(hl:es.length≤100)(k:Key)(v:V):sR hp (.ref a) k v=some (hp.set a (.dict (dput es k v))):=by
 refine(cz (qQ h)).trans ?_;rw[decide_eq_true (Nat.le_trans hl (show 100≤sizeLine by rw[sizeLine_eq];decide))];rfl
variable {st:FS}
theorem Fd.len (F:Fd hp st):4<hp.length:=(List.getElem?_eq_some_iff.mp F.o4).1
theorem Fd.set (F:Fd hp st)(bz:FS)(h1:bz.cells=st.cells)(h2:bz.vs=st.vs)(h3:bz.ts=st.ts):Fd (hp.set 4 (.dict (gE bz))) bz :=
 ⟨by rw[List.getElem?_set_ne (by decide),h1];exact F.o1,by rw[List.getElem?_set_ne (by decide),h2];exact F.o2,by rw[List.getElem?_set_ne (by decide),h3];exact F.o3,List.getElem?_set_self F.len⟩
theorem Fd.app (F:Fd hp st)(l:List O):Fd (hp++l) st:=by
 have g:∀j,j<5->(hp++l)[j]?=hp[j]?:=λj hj=>List.getElem?_append_left (Nat.lt_of_lt_of_le hj F.len);exact⟨(g _ (by decide)).trans F.o1,(g _ (by decide)).trans F.o2,(g _ (by decide)).trans F.o3,(g _ (by decide)).trans F.o4⟩
theorem Fd.qS (F:Fd hp st){j:Nat}(hj:5≤j)(o:O):Fd (hp.set j o) st :=
 have g:∀i,i<5->(hp.set j o)[i]?=hp[i]?:=λi hi=>List.getElem?_set_ne (Nat.ne_of_gt (Nat.lt_of_lt_of_le hi hj))
 ⟨(g _ (by decide)).trans F.o1,(g _ (by decide)).trans F.o2,(g _ (by decide)).trans F.o3,(g _ (by decide)).trans F.o4⟩
noncomputable def GU (cells:List Int) (p:Nat):Int:=match cells[p]? with
 |some i=>i
 |none=>(5*(p:Int)*p+11*p+3*cells.length+4) % 89
noncomputable def fe (cells:List Int) (p many:Nat):Nat:=(GU cells p % (many:Int)).toNat
theorem BF (cells:List Int)(p:Nat){many:Nat}(h:0<many):fe cells p many<many:=by
 unfold fe;generalize GU cells p=z;have h1:=Int.emod_nonneg z (show(many:Int)≠0 by apply Ef<;>trivial);have h2:=Int.emod_lt_of_pos z (show(0:Int)<many by apply J2<;>trivial);lia
theorem GV {i:Int}{j:Nat}(h:0<j):jw .Mod (.int i) (.int j) hp=.ok (.int (i % j)) hp:=eA (decide_eq_true (show(0:Int)<j by apply J2<;>trivial))
theorem zD {i j:Int}(h1:dy i=true)(h2:dy j=true):jw .Mult (.int i) (.int j) hp=.ok (.int (i*j)) hp:=eA (by rw[h1,h2];rfl)
theorem jH {i:Int}(h0:0≤i)(h:i≤1000000000):dy i=true:=decide_eq_true (Int.ofNat_lt.mp (Int.lt_of_le_of_lt (Int.natAbs_of_nonneg h0▸h:((i.natAbs:Nat):Int)≤1000000000) (by decide)))
theorem Ob (F:Fd hp st)(bL:st.p≤3000)(hc:st.cells.length≤100){many:Nat}(hm:0<many) :
  ag N (k+2) (.fix (.ref 443)) [.ref 4,.int many] hp=.ok (.int (fe st.cells st.p many)) (hp.set 4 (.dict (gE {st with p:=st.p+1}))):=by
 have g1:=eB F.o4 .cells (v:=.ref 1) rfl;have g2:=eB F.o4 .place (v:=.int st.p) rfl;have p1:=mY F.o4 (show(gE st).length≤100 by show 8≤100;decide) .place (.int ((st.p+1:Nat):Int));have F1:=F.set {st with p:=st.p+1} rfl rfl rfl
 have e0:∀z:Int,(V.int ((z % (many:Int)).toNat:Int))=.int (z % many):=λz=>by
  have h1:=Int.emod_nonneg z (show(many:Int)≠0 by apply Ef<;>trivial);rw[Int.toNat_of_nonneg h1]
 have ep:(dput (gE st) Key.place (.int ((st.p+1:Nat):Int)))=gE {st with p:=st.p+1}:=rfl;rw[ep]at p1;have ll:=len_list (N:=N) (k:=k) F1.o1 (show(st.cells.map V.int).length≤1000000 by rw[List.length_map];(apply aI<;>trivial));rw[List.length_map]at ll;rw[Qp];refine bC λnG=>?_;cases hd:decide ((st.p:Int)<(st.cells.length:Int))with
 |true =>
  refine nG ?_;have iD:st.p<st.cells.length:=by simpa using hd
  have hs:bh (hp.set 4 (.dict (gE {st with p:=st.p+1}))) (.ref 1) (.int st.p)=some (.int st.cells[st.p]):=by
   refine(cz (c9 F1.o1)).trans ((cz (n7 (show st.p<(st.cells.map V.int).length by rw[List.length_map];exact iD) (by apply aI<;>trivial))).trans ?_);rw[List.getElem?_map,List.getElem?_eq_getElem iD];rfl
  open_k with[Md,g1,g2,nk,p1,ll,hd,hs,GV hm,fe,GU,List.getElem?_eq_getElem iD,e0,aX,bU,aY,aL,aM,aU]
 |false =>
  refine nG ?_;have hle:st.cells.length≤st.p:=by simpa using hd
  have s1:(5*(st.p:Int))≤15000:=Int.ofNat_le.mpr (Nat.mul_le_mul_left 5 bL);have s2:(5*(st.p:Int)*st.p)≤1000000000:=Int.le_trans (Int.mul_le_mul s1 (show(st.p:Int)≤3000 by apply ZY<;>trivial) (by apply Int.natCast_nonneg<;>trivial) (by apply Int.natCast_nonneg<;>trivial)) (by decide);open_k with[Md,g1,g2,nk,p1,ll,hd,zD (hp:=hp.set 4 (.dict (gE {st with p:=st.p+1}))) (jH (i:=5) (by decide) (by decide)) (jH (i:=st.p) (by apply Int.natCast_nonneg<;>trivial) (by apply Ec<;>trivial)),zD (hp:=hp.set 4 (.dict (gE {st with p:=st.p+1}))) (jH (i:=5*(st.p:Int)) (by apply Int.natCast_nonneg<;>trivial) (by omega)) (jH (i:=st.p) (by apply Int.natCast_nonneg<;>trivial) (by apply Ec<;>trivial)),zD (hp:=hp.set 4 (.dict (gE {st with p:=st.p+1}))) (jH (i:=11) (by decide) (by decide)) (jH (i:=st.p) (by apply Int.natCast_nonneg<;>trivial) (by apply Ec<;>trivial)),zD (hp:=hp.set 4 (.dict (gE {st with p:=st.p+1}))) (jH (i:=3) (by decide) (by decide)) (jH (i:=st.cells.length) (by apply Int.natCast_nonneg<;>trivial) (by omega)),show jw .Mod (.int (5*(st.p:Int)*st.p+11*st.p+3*st.cells.length+4)) (.int 89) (hp.set 4 (.dict (gE {st with p:=st.p+1})))=.ok (.int ((5*(st.p:Int)*st.p+11*st.p+3*st.cells.length+4) % 89)) _ from GV (j:=89) (by decide),GV hm,fe,GU,List.getElem?_eq_none_iff.mpr hle,e0,aX,bU,aY,aL,aM,aU]
inductive VY (N k:Nat)(hp:HP)(st:FS)(many:Nat):Prop
 |mk (hp':HP) (h1:ag N (k+2) (.fix (.ref 443)) [.ref 4,.int many] hp=.ok (.int (fe st.cells st.p many)) hp') (h2:Fd hp' {st with p:=st.p+1}) (h3:FF hp hp')
theorem Oc (F:Fd hp st)(bL:st.p≤3000)(hc:st.cells.length≤100)(many:Nat)(hm:0<many):VY N k hp st many :=
 ⟨_,Ob F bL hc hm,F.set _ rfl rfl rfl,FF.set (by decide) _⟩
theorem Yb (d:Nat)(h:d<4):bh hp (.tup [.str (af " "),.str (af "\n"),.str (af " % var;\n"),.str (af "\t")]) (.int d)=some (.str (bu d)):=by
 have h2:af " % var;\n"=bu 2:=by decide
 have h0:af " "=bu 0:=by decide
 have h1:af "\n"=bu 1:=by decide
 have h3:af "\t"=bu 3:=by decide
 rw[h2,h1,h3,h0];exact aaR (P:=λd=>bh hp (.tup [.str (bu 0),.str (bu 1),.str (bu 2),.str (bu 3)]) (.int d)=some (.str (bu d))) (bF (i:=0) rfl) (bF (i:=1) rfl) (bF (i:=2) rfl) (bF (i:=3) rfl) d h
theorem xd (d:Nat):0<(bu d).length∧(bu d).length≤8:=match d with
 |0=>by decide
 |1=>by decide
 |2=>by decide
 |_+3=>⟨by show 0<1;decide,by show 1≤8;decide⟩
inductive VZ (N k:Nat)(hp:HP)(st:FS)(l:List Nat):Prop
 |mk (hp':HP) (d:Nat) (h1:ag N (k+3) (.fix (.ref 450)) [.ref 4,.str l] hp=.ok (.int ((st.T.length+(bu d).length:Nat):Int)) hp') (h2:d<4) (h3:Fd hp' {st with p:=st.p+1,T:=st.T++bu d++l}) (h4:FF hp hp')
theorem Od (F:Fd hp st)(bL:st.p≤3000)(hc:st.cells.length≤100)(hT:st.T.length≤100*st.p)(l:List Nat)(hl:l.length≤60):VZ N k hp st l:=by
 have hd:=BF st.cells st.p (many:=4) (by decide);have gl:=xd (fe st.cells st.p 4);have dc:=Ob (N:=N) (k:=k) F bL hc (many:=4) (by decide);have F1:=F.set {st with p:=st.p+1} rfl rfl rfl;have g1:=eB F.o4 .text (v:=.str st.T) rfl;have p1:=mY F1.o4 (show(gE {st with p:=st.p+1}).length≤100 by show 8≤100;decide) .text (.str (st.T++bu (fe st.cells st.p 4)));have F2:=F1.set {st with p:=st.p+1,T:=st.T++bu (fe st.cells st.p 4)} rfl rfl rfl;rw[show(dput (gE {st with p:=st.p+1}) Key.text (.str (st.T++bu (fe st.cells st.p 4))))=gE {st with p:=st.p+1,T:=st.T++bu (fe st.cells st.p 4)}from rfl,aU]at p1;rw[aU]at F2;have g2:=eB F2.o4 .text (v:=.str (st.T++bu (fe st.cells st.p 4))) rfl;have p2:=mY F2.o4 (show(gE {st with p:=st.p+1,T:=st.T++bu (fe st.cells st.p 4)}).length≤100 by show 8≤100;decide) .text (.str (st.T++bu (fe st.cells st.p 4)++l));rw[show(dput (gE {st with p:=st.p+1,T:=st.T++bu (fe st.cells st.p 4)}) Key.text (.str (st.T++bu (fe st.cells st.p 4)++l)))=gE {st with p:=st.p+1,T:=st.T++bu (fe st.cells st.p 4)++l}from rfl,aU]at p2;have F3:=F2.set {st with p:=st.p+1,T:=st.T++bu (fe st.cells st.p 4)++l} rfl rfl rfl;rw[aU]at F3;have ls:=len_str (N:=N) (k:=k+1) (hp:=hp.set 4 (.dict (gE {st with p:=st.p+1,T:=st.T++bu (fe st.cells st.p 4)}))) (st.T++bu (fe st.cells st.p 4)) (by rw[List.length_append];omega);rw[List.length_append]at ls;refine⟨_,fe st.cells st.p 4,?_,hd,F3,FF.set (by decide) _⟩;have dc':ag N (k+2) (.fix (.ref 443)) [.ref 4,.int 4] hp=_:=dc;rw[Qq];open_k with[Vl,g1,dc',Yb _ hd,sC _ st.T (bu (fe st.cells st.p 4)) (by omega),p1,g2,ls,sC _ (st.T++bu (fe st.cells st.p 4)) l (by rw[List.length_append];lia),p2,aX,bU,aY,aL,aM,aU]
inductive yo (N k:Nat)(hp:HP)(st:FS)(s:Nat):Prop
 |mk (hp':HP) (h1:ag N (k+1) (.fix (.ref 457)) [.ref 4,.int s] hp=.ok .none hp') (h2:Fd hp' {st with br:=if st.br<0 then(s:Int)else st.br}) (h3:FF hp hp')
theorem uf (F:Fd hp st)(s:Nat):yo N k hp st s:=by
 have g1:=eB F.o4 .iy (v:=.int st.br) rfl;by_cases h:st.br<0
 ·have p1:=mY F.o4 (show(gE st).length≤100 by show 8≤100;decide) .iy (.int s);refine⟨_,?_,F.set {st with br:=if st.br<0 then(s:Int)else st.br} rfl rfl rfl,FF.set (by decide) _⟩
  rw[Dx,if_pos h];open_k with[Me,g1,decide_eq_true h,p1,aX,bU,aY,aL,aM,aU];rfl
 ·refine⟨hp,?_,?_,FF.refl⟩
  ·rw[Dx];open_k with[Me,g1,decide_eq_false h,aX,bU,aY,aL,aM,aU]
  ·rw[if_neg h];exact F
noncomputable def zE (d:Nat):Int:=[0,1,0,2,0,1,0,0,1,0,3,-1].getD d 0
theorem vY {l:List Int}{d:Nat}(h:d<l.length)(hd:d≤1000):bh hp (.tup (l.map .int)) (.int d)=some (.int (l.getD d 0)):=by
 refine GH ?_ (by apply aI<;>trivial);rw[List.getElem?_map,List.getD_eq_getElem?_getD,List.getElem?_eq_getElem h];rfl
inductive Q1 (N k:Nat)(hp:HP)(st:FS):Prop
 |mk (hp':HP) (d:Nat) (h1:ag N (k+3) (.fix (.ref 471)) [.ref 4] hp=.ok (.int (zE d)) hp') (h2:d<12) (h3:Fd hp' {st with p:=st.p+1}) (h4:FF hp hp')
theorem V0 (F:Fd hp st)(bL:st.p≤3000)(hc:st.cells.length≤100):Q1 N k hp st:=by
 refine bC λnG=>?_;obtain⟨ay,e1,F1,f1⟩:=Oc (N:=N) (k:=k) F bL hc 12 (by decide);refine nG ?_;have hd:=BF st.cells st.p (many:=12) (by decide);have fV:ag N (k+2) (.fix (.ref 443)) [.ref 4,.int 12] hp=_:=e1;have cJ:bh ay (.tup [.int 0,.int 1,.int 0,.int 2,.int 0,.int 1,.int 0,.int 0,.int 1,.int 0,.int 3,.int (-1)]) (.int (fe st.cells st.p 12))=some (.int (zE (fe st.cells st.p 12))):=vY (l:=[0,1,0,2,0,1,0,0,1,0,3,-1]) hd (by apply lF<;>trivial);refine⟨ay,_,?_,hd,F1,f1⟩;rw[Qr];open_k with[Vn,fV,BE,cJ,aX,bU,aY,aL,aM,aU]
end
section
variable {N k n L m:Nat}{hp hp':HP}{T:List Nat}
theorem pN (last:Option Int)(lo hi:Int)(b1 b2 b3:Nat)(x:Tok×Nat)(r:TS):iJ last ((.number lo,b1)::(.sign (af ".."),b2)::(.number hi,b3)::x::r)=if aZ lo hi last then some (.error (b1:Int))else some (.ok ((lo,hi),x::r)):=by kernel_rfl
theorem BG (t:Tok)(b:Nat)(x:Tok×Nat)(r:TS)(F:FD):cQ ((t,b)::x::r) F=ob (mW t b (x::r) F) λx=>ob (gp (af ";") x.1) λy=>some (.ok (y.2,x.2)):=rfl
theorem ug (b:Nat)(ts:TS)(F:FD):mW (.word (af "var")) b ts F=fT ts F:=by kernel_rfl
theorem uh (b:Nat)(ts:TS)(F:FD):mW (.word (af "constraint")) b ts F=fZ ts F:=by kernel_rfl
theorem pO (b:Nat)(ts:TS)(F:FD):mW (.word (af "solve")) b ts F=mV b ts F:=by kernel_rfl
theorem BH (b:Nat)(ts:TS)(F:FD):mW (.word (af "output")) b ts F=lZ b ts F:=by kernel_rfl
def hV:Nat->Tok
 |0=>.word (af "x")
 |1=>.word (af "B_1")
 |2=>.text (af "a b")
 |3=>.text (af "")
 |_=>.word (af "var")
def ir:Nat->List Nat
 |0=>af "x"
 |1=>af "B_1"
 |2=>af "a b"
 |3=>af ""
 |_=>af "var"
def GW:Nat->List Nat
 |0=>af "x"
 |1=>af "B_1"
 |2=>af "\"a b\""
 |3=>af "\"\""
 |_=>af "var"
theorem Q2 (i:Nat):(hV i).name=some (ir i):=match i with
 |0=>rfl
 |1=>rfl
 |2=>rfl
 |3=>rfl
 |_+4=>rfl
theorem aa6 (lo hi:Int)(b1 b2 b3:Nat)(x:Tok×Nat)(r:TS):jG ((.number lo,b1)::(.sign (af ".."),b2)::(.number hi,b3)::x::r)=if aZ lo hi none then some (.error (b1:Int))else some (.ok ([(lo,hi)],x::r)):=by
 show ob (iJ none _) _=_;rw[pN];cases aZ lo hi none<;>rfl
theorem aa7 (lo hi qt lC:Int)(b0 b1 b2 b3 b4 b5 b6 b7 b8:Nat)(x:Tok×Nat)(r:TS):jG ((.sign (af "{"),b0)::(.number lo,b1)::(.sign (af ".."),b2)::(.number hi,b3)::(.sign (af ","),b4)::(.number qt,b5)::(.sign (af ".."),b6)::(.number lC,b7)::(.sign (af "}"),b8)::x::r) =
  if aZ lo hi none then some (.error (b1:Int))else if aZ qt lC (some hi)then some (.error (b5:Int))else some (.ok ([(lo,hi),(qt,lC)],x::r)):=by
 have e1:∀ts,jG ((.sign (af "{"),b0)::(.number lo,b1)::ts)=ob (ob (iJ none ((.number lo,b1)::ts)) λx=>gU 8 [x.1] x.2) λy=>ob (zx y.2) λz=>some (.ok (y.1,z.2)):=λts=>by kernel_rfl
 have e2:∀(q:Int×Int) (t:Tok×Nat) ts,gU 8 [q] ((.sign (af ","),b4)::t::ts)=ob (iJ (some q.2) (t::ts)) λx=>gU 7 [q,x.1] x.2:=λq t ts=>by kernel_rfl
 have e3:∀(f:List (Int×Int)) ts,gU 7 f ((.sign (af "}"),b8)::ts)=some (.ok (f,(.sign (af "}"),b8)::ts)):=λf ts=>by kernel_rfl
 rw[e1,pN];cases aZ lo hi none with
 |true=>rfl
 |false =>
  simp only[Bool.false_eq_true,if_false,ob,e2,pN];cases aZ qt lC (some hi)with
  |true=>rfl
  |false=>simp only[Bool.false_eq_true,if_false,ob,e3];rfl
theorem BI (d:List (Int×Int))(i:Nat)(b b1 b2:Nat)(x:Tok×Nat)(r ts:TS)(F:FD)(hF:F.vs.length≤1000)(hd:jG ts=some (.ok (d,(.sign (af ":"),b)::(hV i,b1)::(.sign (af ";"),b2)::x::r))) :
  (ob (fT ts F) λx=>ob (gp (af ";") x.1) λy=>some (.ok (y.2,x.2)))=some (.ok (x::r,{F with vs:=F.vs++[VD.v (ir i,d)]})):=by
 have e1:∀t,gp (af ":") ((.sign (af ":"),b)::t::(.sign (af ";"),b2)::x::r)=some (.ok ((),t::(.sign (af ";"),b2)::x::r)):=λt=>by kernel_rfl
 have e2:gp (af ";") ((.sign (af ";"),b2)::x::r)=some (.ok ((),x::r)):=by kernel_rfl
 simp only[fT,hd,ob,e1,Q2,nz,if_pos hF,e2]
theorem JC (lo hi:Int)(i b0 b1 b2 b3 b4 b5 b6:Nat)(x:Tok×Nat)(r:TS)(F:FD)(hF:F.vs.length≤1000):cQ ((.word (af "var"),b0)::(.number lo,b1)::(.sign (af ".."),b2)::(.number hi,b3)::(.sign (af ":"),b4)::(hV i,b5)::(.sign (af ";"),b6)::x::r) F =
  if aZ lo hi none then some (.error (b1:Int))else some (.ok (x::r,{F with vs:=F.vs++[VD.v (ir i,[(lo,hi)])]})):=by
 rw[BG,ug];have e:=aa6 lo hi b1 b2 b3 (.sign (af ":"),b4) ((hV i,b5)::(.sign (af ";"),b6)::x::r);cases h:aZ lo hi none with
 |true =>
  rw[h,if_pos rfl]at e;simp only[fT,e,ob,if_true]
 |false =>
  rw[h,if_neg Bool.false_ne_true]at e;rw[if_neg Bool.false_ne_true];exact BI _ i b4 b5 b6 x r _ F hF e
theorem JD (lo hi qt lC:Int)(i c b0 b1 b2 b3 b4 b5 b6 b7 b8 c1 c2 c3:Nat)(x:Tok×Nat)(r:TS)(F:FD)(hF:F.vs.length≤1000):cQ ((.word (af "var"),c)::(.sign (af "{"),b0)::(.number lo,b1)::(.sign (af ".."),b2)::(.number hi,b3)::(.sign (af ","),b4)::(.number qt,b5)::(.sign (af ".."),b6)::(.number lC,b7)::(.sign (af "}"),b8)::(.sign (af ":"),c1)::(hV i,c2)::(.sign (af ";"),c3)::x::r) F =
  if aZ lo hi none then some (.error (b1:Int))else if aZ qt lC (some hi)then some (.error (b5:Int))else some (.ok (x::r,{F with vs:=F.vs++[VD.v (ir i,[(lo,hi),(qt,lC)])]})):=by
 rw[BG,ug];have e:=aa7 lo hi qt lC b0 b1 b2 b3 b4 b5 b6 b7 b8 (.sign (af ":"),c1) ((hV i,c2)::(.sign (af ";"),c3)::x::r);cases h:aZ lo hi none with
 |true =>
  rw[h,if_pos rfl]at e;simp only[fT,e,ob,if_true]
 |false =>
  rw[h,if_neg Bool.false_ne_true]at e;rw[if_neg Bool.false_ne_true];cases h':aZ qt lC (some hi)with
  |true =>
   rw[h',if_pos rfl]at e;simp only[fT,e,ob,if_true]
  |false =>
   rw[h',if_neg Bool.false_ne_true]at e;rw[if_neg Bool.false_ne_true];exact BI _ i c1 c2 c3 x r _ F hF e
def j1:Nat->List Nat
 |0=>af "linear_le([1, -2], [X, Y], 3)"
 |1=>af "all_different([X, Y], \"bounds\")"
 |2=>af "clause([X], [Y])"
 |3=>af "xor(X, Y, X)"
 |4=>af "disjunctive([X, Y], [2, 0])"
 |5=>af "linear_ne([4], [X, Y], 0)"
 |_=>af "max([], X)"
def kG:Nat->List Nat
 |0=>af "[int(X), text(\", \"), bool(Y)]"
 |1=>af "[list([int(X), int(Y)])]"
 |_=>af "[if(X, [], [int(Y)])]"
def wr (l:List Nat)(x y:Int):List Nat:=ia 89 (bS y) (ia 88 (bS x) l)
def bD (l:List Nat):TS:=(nt 40 0 l).getD []
def dX (l:List Nat):Bool:=decide (l.length≤60)&&aT l&&(match nt 40 0 l with|some ((_,o)::_)=>o==0|_=>false)
def RD (l:List Nat)(v:V):Prop:=∀a t more,sS (de a (bD l)++t::more)=some (.ok (v,t::more))
noncomputable def dK:List Int:=[0,1,2,3,-1]
theorem V1 {d:Nat}(h:d<12):zE d∈dK:=by
 have:∀d<12,zE d∈dK:=by decide
 exact this d h
theorem Q3:∀w<7,∀x∈dK,∀y∈dK,dX (wr (j1 w) x y)=true:=by decide +kernel
theorem DV:∀w<3,∀x∈dK,∀y∈dK,dX (wr (kG w) x y)=true:=by decide +kernel
theorem gF {P:Int->Prop}(h1:P 0)(h2:P 1)(h3:P 2)(h4:P 3)(h5:P (-1)):∀x∈dK,P x:=by
 intro x hx;unfold dK at hx;simp at hx;rcases hx with rfl|rfl|rfl|rfl|rfl<;>assumption
theorem V2:∀x∈dK,∀y∈dK,RD (wr (j1 0) x y) (bl 0 x y):=by
 apply gF<;>apply gF<;>(intro a t more;kernel_rfl)
theorem V3:∀x∈dK,∀y∈dK,RD (wr (j1 1) x y) (bl 1 x y):=by
 apply gF<;>apply gF<;>(intro a t more;kernel_rfl)
theorem V4:∀x∈dK,∀y∈dK,RD (wr (j1 2) x y) (bl 2 x y):=by
 apply gF<;>apply gF<;>(intro a t more;kernel_rfl)
theorem V5:∀x∈dK,∀y∈dK,RD (wr (j1 3) x y) (bl 3 x y):=by
 apply gF<;>apply gF<;>(intro a t more;kernel_rfl)
theorem V6:∀x∈dK,∀y∈dK,RD (wr (j1 4) x y) (bl 4 x y):=by
 apply gF<;>apply gF<;>(intro a t more;kernel_rfl)
theorem V7:∀x∈dK,∀y∈dK,RD (wr (j1 5) x y) (bl 5 x y):=by
 apply gF<;>apply gF<;>(intro a t more;kernel_rfl)
theorem V8:∀x∈dK,∀y∈dK,RD (wr (j1 6) x y) (bl 6 x y):=by
 apply gF<;>apply gF<;>(intro a t more;kernel_rfl)
theorem V9:∀x∈dK,∀y∈dK,RD (wr (kG 0) x y) (.tup (bN 0 x y)):=by
 apply gF<;>apply gF<;>(intro a t more;kernel_rfl)
theorem Wa:∀x∈dK,∀y∈dK,RD (wr (kG 1) x y) (.tup (bN 1 x y)):=by
 apply gF<;>apply gF<;>(intro a t more;kernel_rfl)
theorem Wb:∀x∈dK,∀y∈dK,RD (wr (kG 2) x y) (.tup (bN 2 x y)):=by
 apply gF<;>apply gF<;>(intro a t more;kernel_rfl)
end
section
variable {N k n L m:Nat}{hp hp':HP}{T:List Nat}
structure eF (st:FS)(b:Nat):Prop where
 p:st.p≤b
 c:st.cells.length≤100
 t:st.T.length≤100*st.p
 o:aT st.T=true
structure W (st bz:FS)(its:TS)(c:Nat):Prop where
 e1:bz.cells=st.cells
 e2:bz.br=st.br
 e3:bz.vs=st.vs
 e4:bz.ts=st.ts
 e5:bz.goal=st.goal
 e6:bz.shown=st.shown
 b:∀b,eF st b->eF bz (b+c)
 lx:∀ts,Lx st.T ts->Lx bz.T (ts++its)
variable {st bz pP:FS}{i1 i2:TS}{c1 c2 b:Nat}
theorem W.trans (x:W st bz i1 c1)(y:W bz pP i2 c2):W st pP (i1++i2) (c1+c2) :=
 ⟨y.e1.trans x.e1,y.e2.trans x.e2,y.e3.trans x.e3,y.e4.trans x.e4,y.e5.trans x.e5,y.e6.trans x.e6,λb h=>Nat.add_assoc b c1 c2▸y.b _ (x.b b h),λts h=>List.append_assoc ts i1 i2▸y.lx _ (x.lx ts h)⟩
theorem W.ZE (st:FS):W st {st with p:=st.p+1} [] 1 :=
 ⟨rfl,rfl,rfl,rfl,rfl,rfl,λb h=>⟨Nat.succ_le_succ h.p,h.c,Nat.le_trans h.t (Nat.mul_le_mul_left 100 (Nat.le_succ st.p)),h.o⟩,λts h=>(List.append_nil ts).symm▸h⟩
theorem q7 {l:List Nat}(h:dX l=true):l.length≤60∧aT l=true∧∃t ts,nt 40 0 l=some ((t,0)::ts)∧bD l=(t,0)::ts:=by
 unfold dX at h;simp only[Bool.and_eq_true,decide_eq_true_eq]at h;refine⟨h.1.1,h.1.2,?_⟩;have h2:=h.2;unfold bD;cases e:nt 40 0 l with
 |none=>rw[e]at h2;cases h2
 |some ts =>
  rw[e]at h2;cases ts with
  |nil=>cases h2
  |cons x ts =>
   obtain⟨t,o⟩:=x;have:o=0:=by simpa using h2
   subst this;exact⟨t,ts,rfl,rfl⟩
theorem Wc (d:Nat):aT (bu d)=true:=match d with
 |0=>rfl
 |1=>rfl
 |2=>rfl
 |_+3=>rfl
theorem W.put (st:FS){l:List Nat}(hl:dX l=true)(d:Nat):W st {st with p:=st.p+1,T:=st.T++bu d++l} (de (st.T.length+(bu d).length) (bD l)) 1:=by
 refine bC λnG=>?_;obtain⟨h1,h2,t,ts,e1,e2⟩:=q7 hl;refine nG ?_;have g:=(xd d).2;refine⟨rfl,rfl,rfl,rfl,rfl,rfl,λb h=>⟨Nat.succ_le_succ h.p,h.c,?_,l0 (l0 h.o (Wc d)) h2⟩,λiq h=>?_⟩
 ·have:=h.t;simp only[List.length_append];lia
 ·rw[e2];exact h.put d e1
inductive JE (N k:Nat)(hp:HP)(st:FS)(many:Nat):Prop
 |mk (hp':HP) (bz:FS) (d:Nat) (h1:ag N (k+2) (.fix (.ref 443)) [.ref 4,.int many] hp=.ok (.int (d:Nat)) hp') (h2:d<many) (h3:Fd hp' bz) (h4:FF hp hp') (h5:W st bz [] 1)
theorem j2 (F:Fd hp st)(B:eF st b)(hb:b≤3000)(many:Nat)(hm:0<many):JE N k hp st many:=by
 refine bC λnG=>?_;obtain⟨hp',e,F',f⟩:=Oc (N:=N) (k:=k) F (Nat.le_trans B.p hb) B.c many hm;refine nG ?_;exact⟨hp',_,_,e,BF _ _ hm,F',f,W.ZE st⟩
inductive Wd (N k:Nat)(hp:HP)(st:FS)(l:List Nat):Prop
 |mk (hp':HP) (bz:FS) (s:Nat) (h1:ag N (k+3) (.fix (.ref 450)) [.ref 4,.str l] hp=.ok (.int (s:Nat)) hp') (h2:Fd hp' bz) (h3:FF hp hp') (h4:W st bz (de s (bD l)) 1)
theorem gq (F:Fd hp st)(B:eF st b)(hb:b≤3000){l:List Nat}(hl:dX l=true):Wd N k hp st l:=by
 refine bC λnG=>?_;obtain⟨hp',d,e,hd,F',f⟩:=Od (N:=N) (k:=k) F (Nat.le_trans B.p hb) B.c B.t l (q7 hl).1;refine nG ?_;exact⟨hp',_,_,e,F',f,W.put st hl d⟩
inductive Q4 (N k:Nat)(hp:HP)(st:FS):Prop
 |mk (hp':HP) (bz:FS) (x:Int) (h1:ag N (k+3) (.fix (.ref 471)) [.ref 4] hp=.ok (.int x) hp') (h2:x∈dK) (h3:Fd hp' bz) (h4:FF hp hp') (h5:W st bz [] 1)
theorem q8 (F:Fd hp st)(B:eF st b)(hb:b≤3000):Q4 N k hp st:=by
 refine bC λnG=>?_;obtain⟨hp',d,e,hd,F',f⟩:=V0 (N:=N) (k:=k) F (Nat.le_trans B.p hb) B.c;refine nG ?_;exact⟨hp',_,_,e,V1 hd,F',f,W.ZE st⟩
theorem vZ {i:Int}(h:dy i=true):ag N (k+1) (.fix (.type "str")) [.int i] hp=.ok (.str (bS i)) hp:=by
 rw[wW (g:=ED) "str" rfl];show bQ (Option.map V.str (if dy i=true then some (bS i)else none)) hp=_
 rw[if_pos h];rfl
def BJ (lo hi:Int):List Nat:=bS lo++af ".."++bS hi
abbrev j6 (i:Int):Prop:=-3≤i∧i≤13
noncomputable def v3:List Int:=(List.range 17).map λ(j:Nat)=>(j:Int) - 3
theorem xe {i:Int}(h:j6 i):i∈v3:=by
 unfold v3;have h0:0≤i+3:=Int.add_le_add_right h.1 3;exact List.mem_map.mpr ⟨(i+3).toNat,List.mem_range.mpr ((Int.toNat_lt h0).mpr (Int.add_lt_add_right (Int.lt_of_le_of_lt h.2 (by decide:(13:Int)<14)) 3)),by rw[Int.toNat_of_nonneg h0];exact Int.add_sub_cancel i 3⟩
theorem Q5:∀lo∈v3,∀hi∈v3,dX (BJ lo hi)=true∧bD (BJ lo hi)=[(.number lo,0),(.sign (af ".."),(bS lo).length),(.number hi,(bS lo).length+2)]∧(bS lo).length≤10:=by decide +kernel
theorem MI:∀i<5,dX (GW i)=true∧bD (GW i)=[(hV i,0)]:=by decide +kernel
theorem Q6:∀x∈dK,dX (bS x)=true∧bD (bS x)=[(.number x,0)]:=by decide +kernel
inductive We (N k:Nat)(hp:HP)(st:FS)(lo hi:Int):Prop
 |mk (ay aN:HP) (cq:FS) (T1 T2 T3:List Nat) (s a c:Nat) (h1:ag N (k+3) (.fix (.ref 450)) [.ref 4,.str (bS lo)] hp=.ok (.int (s:Nat)) ay) (h2:FF hp ay) (h3:zS ay (.ref 4) .text=.ok (.str T1) ay) (h4:jw .Add (.str T1) (.str (af "..")) ay=.ok (.str T2) ay) (h5:jw .Add (.str T2) (.str (bS hi)) ay=.ok (.str T3) ay) (h6:sR ay (.ref 4) .text (.str T3)=some aN) (h7:Fd aN cq) (h8:FF hp aN) (h9:W st cq [(.number lo,s),(.sign (af ".."),a),(.number hi,c)] 1)
theorem Oe (F:Fd hp st)(B:eF st b)(hb:b≤3000){lo hi:Int}(h1:j6 lo)(h2:j6 hi):We N k hp st lo hi:=by
 refine bC λnG=>?_;refine j9 (Q5 lo (xe h1) hi (xe h2)) λo t l10=>?_;obtain⟨hp',d,e,hd,F',f⟩:=Od (N:=N) (k:=k) F (Nat.le_trans B.p hb) B.c B.t (bS lo) (by apply aI<;>trivial);refine nG ?_;have w:=W.put st o d;have l60:=(q7 o).1;have g:=(xd d).2;have ht:=B.t;have hpb:=B.p;have l2:(af "..").length=2:=by decide
 simp only[BJ,List.length_append,l2]at l60;rw[t]at w;have e2:st.T++bu d++BJ lo hi=st.T++bu d++bS lo++af ".."++bS hi:=by simp[BJ]
 rw[e2]at w;have p2:=mY F'.o4 (show(gE {st with p:=st.p+1,T:=st.T++bu d++bS lo}).length≤100 by show 8≤100;decide) .text (.str (st.T++bu d++bS lo++af ".."++bS hi));exact⟨hp',_,{st with p:=st.p+1,T:=st.T++bu d++bS lo++af ".."++bS hi},st.T++bu d++bS lo,st.T++bu d++bS lo++af "..",st.T++bu d++bS lo++af ".."++bS hi,st.T.length+(bu d).length,_,_,e,f,eB F'.o4 .text rfl,sC _ _ _ (by simp only[List.length_append];lia),sC _ _ _ (by simp only[List.length_append];lia),p2,F'.set {st with p:=st.p+1,T:=st.T++bu d++bS lo++af ".."++bS hi} rfl rfl rfl,f.trans (FF.set (by decide) _),w⟩
end
section
variable {N k n L m:Nat}{hp hp':HP}{T:List Nat}
structure Rec where
 vl:List VD
 tl:List TD
 g:Option (Nat×Option Int×Nat)
 sh:Option (Nat×Int×Int×Nat×Nat)
def cA:Nat->List Nat
 |0=>af "satisfy"
 |1=>af "minimize"
 |_=>af "maximize"
abbrev Rec.F (r:Rec):FD:=⟨r.vl.map VD.v,r.tl.map TD.v,(match r.g with|none=>F0.goal|some d=>[.str (cA d.1),eK d.2.1]),(match r.sh with|none=>[]|some d=>bN d.1 d.2.1 d.2.2.1),r.tl.map λd=>.int d.s,(match r.g with|none=>-1|some d=>d.2.2),(match r.sh with|none=>-1|some d=>d.2.2.2.1)⟩
structure eC (hp:HP)(st:FS)(r:Rec):Prop where
 hv:st.vs=r.vl.map VD.v
 ht:st.ts=r.tl.map λd=>.tup [d.v,.int d.s]
 hg:st.goal=match r.g with|none=>.none|some d=>.tup [.str (cA d.1),eK d.2.1,.int d.2.2]
 hs:st.shown=match r.sh with|none=>.none|some d=>.tup [.tup (bN d.1 d.2.1 d.2.2.1),.ref d.2.2.2.2,.int d.2.2.2.1]
 ha:∀d,r.sh=some d->5≤d.2.2.2.2∧hp[d.2.2.2.2]?=some (.list [.int d.2.1,.int d.2.2.1])
 dm:∀d∈r.vl,d.2.length≤10∧aT d.1=true
 lv:r.vl.length≤100
 lt:r.tl.length≤100
noncomputable def dY (b:Int):Option Nat->Int
 |none=>b
 |some s=>if b<0 then(s:Int)else b
structure nu (st:FS)(r:Rec)(hp':HP)(bz:FS)(r':Rec)(its:TS)(brk:Option Nat)(hp:HP)(c:Nat):Prop where
 F:Fd hp' bz
 f:FF hp hp'
 R:r'.vl.length≤100->r'.tl.length≤100->eC hp' bz r'
 e1:bz.cells=st.cells
 br:bz.br=dY st.br brk
 b:∀b,eF st b->eF bz (b+c)
 lx:∀ts,Lx st.T ts->Lx bz.T (ts++its)
 lv:r'.vl.length≤r.vl.length+1
 lt:r'.tl.length≤r.tl.length+1
 hd:∀t b l,its=(t,b)::l->t.g=[]
 item:∀b x more,cQ (its++(.sign (af ";"),b)::x::more) r.F=match brk with|none=>some (.ok (x::more,r'.F))|some s=>some (.error (s:Int))
inductive zF {α:Type}(f:HP->R α)(v:α)(st:FS)(r:Rec)(hp:HP)(c:Nat):Prop
 |mk (hp':HP) (bz:FS) (r':Rec) (its:TS) (brk:Option Nat) (e:f hp=.ok v hp') (H:nu st r hp' bz r' its brk hp c)
variable {st bz pP:FS}{i1 i2:TS}{c1 c2 b:Nat}{r:Rec}
theorem eC.w (R:eC hp st r)(f:FF hp hp'){its:TS}{c:Nat}(w:W st bz its c):eC hp' bz r :=
 ⟨w.e3.trans R.hv,w.e4.trans R.ht,w.e5.trans R.hg,w.e6.trans R.hs,λd h=>⟨(R.ha d h).1,f.at (R.ha d h).1 (R.ha d h).2⟩,R.dm,R.lv,R.lt⟩
theorem i5 {l:List Nat}{t:Tok}(h:bD l=[(t,0)])(s:Nat):de s (bD l)=[(t,s)]:=by rw[h];rfl
theorem q9:(dX (af "var")=true∧bD (af "var")=[(.word (af "var"),0)])∧(dX (af "{")=true∧bD (af "{")=[(.sign (af "{"),0)])∧(dX (af "}")=true∧bD (af "}")=[(.sign (af "}"),0)])∧(dX (af ",")=true∧bD (af ",")=[(.sign (af ","),0)])∧(dX (af ":")=true∧bD (af ":")=[(.sign (af ":"),0)])∧(dX (af ";")=true∧bD (af ";")=[(.sign (af ";"),0)]):=by decide +kernel
theorem sN:(dX (af "constraint")=true∧bD (af "constraint")=[(.word (af "constraint"),0)])∧(dX (af "solve")=true∧bD (af "solve")=[(.word (af "solve"),0)])∧(dX (af "output")=true∧bD (af "output")=[(.word (af "output"),0)])∧(∀w<3,dX (cA w)=true∧bD (cA w)=[(.word (cA w),0)]):=by decide +kernel
def zG (c:Ca)(N:Nat):List Sx:=[(bo (xF c 450 [(aa 0),(xS ":")])),(eH [5,6] (aq (ao [(ao [(xS "x"),(xS "x")]),(ao [(xS "B_1"),(xS "B_1")]),(ao [(xS "a b"),(xS "\"a b\"")]),(ao [(xS ""),(xS "\"\"")]),(ao [(xS "var"),(xS "var")])]) (xF c 443 [(aa 0),(xC (.int 5))]))),(bo (xF c 450 [(aa 0),(aa 6)])),(bo (ax c (bO (aa 0) .vars) .append [(ao [(aa 5),(aD c (xC (.fix (.type "tuple"))) [(aa 2)])])]))]
def v5 (c:Ca)(N:Nat):List Sx:=[(bc (ai (aa 3) [(.eq,(xC (.int 1)))]) [(bo (xF c 450 [(aa 0),(xS ",")]))] []),(aR 4 (xF c 450 [(aa 0),(aD c (xC (.fix (.type "str"))) [(aq (aq (aa 2) (aa 3)) (xC (.int 0)))])])),(iQ (aa 0) .text (bw .Add (bw .Add (bO (aa 0) .text) (xS "..")) (aD c (xC (.fix (.type "str"))) [(aq (aq (aa 2) (aa 3)) (xC (.int 1)))]))),(bc (aS false [(ai (aq (aq (aa 2) (aa 3)) (xC (.int 1))) [(.lt,(aq (aq (aa 2) (aa 3)) (xC (.int 0))))]),(aS true [(ai (aa 3) [(.eq,(xC (.int 1)))]),(ai (aq (aq (aa 2) (xC (.int 1))) (xC (.int 0))) [(.lt,(bw .Add (aq (aq (aa 2) (xC (.int 0))) (xC (.int 1))) (xC (.int 2))))])])]) [(bo (xF c 457 [(aa 0),(aa 4)]))] [])]
def zH (c:Ca)(N:Nat):List Sx:=(bc (ai (aD c (xC (bi "len")) [(aa 2)]) [(.eq,(xC (.int 2)))]) [(bo (xF c 450 [(aa 0),(xS "{")]))] [])::hZ N (.one 3) (me (aD c (xC (bi "len")) [(aa 2)])) (v5 c N)::(bc (ai (aD c (xC (bi "len")) [(aa 2)]) [(.eq,(xC (.int 2)))]) [(bo (xF c 450 [(aa 0),(xS "}")]))] [])::zG c N
theorem DW (c:Ca)(N:Nat):Vm c N=(bo (xF c 450 [(aa 0),(xS "var")]))::(aR 1 (bw .Sub (xF c 443 [(aa 0),(xC (.int 3))]) (xC (.int 1))))::(aR 2 (cm [(ao [(aa 1),(bw .Add (aa 1) (aq (ao [(xC (.int 0)),(xC (.int 1)),(xC (.int 1)),(xC (.int 2)),(xC (.int 0)),(xC (.int 1)),(xC (.int 1)),(xC (.int 3)),(gN (xC (.int 1)))]) (xF c 443 [(aa 0),(xC (.int 9))])))])]))::(bc (ai (xF c 443 [(aa 0),(xC (.int 3))]) [(.eq,(xC (.int 2)))]) [(aR 1 (bw .Add (aq (aq (aa 2) (xC (.int 0))) (xC (.int 1))) (aq (ao [(xC (.int 2)),(xC (.int 3)),(xC (.int 2)),(xC (.int 4)),(xC (.int 2)),(xC (.int 3)),(xC (.int 2)),(xC (.int 1)),(xC (.int 0))]) (xF c 443 [(aa 0),(xC (.int 9))])))),(bo (ax c (aa 2) .append [(ao [(aa 1),(bw .Add (aa 1) (xC (.int 1)))])]))] [])::zH c N:=rfl
theorem Wf:∀i:Nat,i<5->bh hp (.tup [.tup [.str (af "x"),.str (af "x")],.tup [.str (af "B_1"),.str (af "B_1")],.tup [.str (af "a b"),.str (af "\"a b\"")],.tup [.str (af ""),.str (af "\"\"")],.tup [.str (af "var"),.str (af "var")]]) (.int i)=some (.tup [.str (ir i),.str (GW i)]):=aaS (bF (i:=0) rfl) (bF (i:=1) rfl) (bF (i:=2) rfl) (bF (i:=3) rfl) (bF (i:=4) rfl)
inductive MJ (N k:Nat)(hp:HP)(st:FS)(a:Nat)(rs:List (Int×Int))(l1 x y z:Option V):Prop
 |mk (hp':HP) (cJ:FS) (i b1 b2:Nat) (h1:bj (aF (zG (ag N (k+3)) N)) [some (.ref 4),l1,some (.ref a),x,y,z,none] hp=.ok .none hp') (h2:i<5) (h3:W st cJ [(.sign (af ":"),b1),(hV i,b2)] 3) (h4:Fd hp' {cJ with vs:=st.vs++[VD.v (ir i,rs)]}) (h5:FF hp hp')
theorem DX (F:Fd hp st)(B:eF st b)(hb:b≤2900){a:Nat}(ha:5≤a){rs:List (Int×Int)}(h:hp[a]?=some (.list (rs.map pv)))(hr:rs.length≤2)(hv:st.vs.length≤1000)(l1 x y z:Option V):MJ N k hp st a rs l1 x y z:=by
 refine bC λnG=>?_;obtain⟨_,_,_,_,⟨k1,k2⟩,_⟩:=q9;obtain⟨ay,cJ,s1,e1,F1,f1,w1⟩:=gq (N:=N) (k:=k) F B (by apply aI<;>trivial) k1;rw[i5 k2]at w1;have B1:=w1.b _ B;obtain⟨aN,cq,i,e2,hi,F2,f2,w2⟩:=j2 (N:=N) (k:=k+1) F1 B1 (by apply dh<;>trivial) 5 (by decide);have lD:ag N (k+3) (.fix (.ref 443)) [.ref 4,.int 5] ay=_:=e2;have B2:=w2.b _ B1;refine bp (MI i hi) λn1 n2=>?_;obtain⟨bL,jl,s3,e3,F3,f3,w3⟩:=gq (N:=N) (k:=k) F2 B2 (by apply jy<;>trivial) n1;refine nG ?_;rw[i5 n2]at w3;have w:=(w1.trans w2).trans w3;have ZF:jl.vs=st.vs:=w.e3;have g1:=eB F3.o4 .vars (v:=.ref 2) rfl;have h3:=((f1.trans f2).trans f3).at ha h;have ap:=iY (N:=N) (k:=k+2) F3.o2 (by rw[ZF];(apply aI<;>trivial)) (.tup [.str (ir i),.tup (rs.map pv)]);refine⟨bL.set 2 (.list (jl.vs++[V.tup [.str (ir i),.tup (rs.map pv)]])),jl,i,s1,s3,?_,hi,w,⟨?_,?_,?_,?_⟩,((f1.trans f2).trans f3).trans (FF.set (j:=2) (by decide) _)⟩
 ·open_k with[zG,e1,lD,Wf i hi,e3,g1,iZ F3.o2,w7 h3 (show(rs.map pv).length≤1000000 by rw[List.length_map];(apply aI<;>trivial)),ap,aX,bU,aY,aL,aM,aU]
 ·rw[List.getElem?_set_ne (by decide)];exact F3.o1
 ·rw[kC F3.o2,ZF]
 ·rw[List.getElem?_set_ne (by decide)];exact F3.o3
 ·rw[List.getElem?_set_ne (by decide)];exact F3.o4
theorem pQ {i:Int}(h:j6 i):dy i=true:=(show ∀i∈v3,dy i=true by decide +kernel) i (xe h)
theorem oj (q:Int×Int):bh hp (pv q) (.int 0)=some (.int q.1):=bF (i:=0) rfl
theorem l6 (q:Int×Int):bh hp (pv q) (.int 1)=some (.int q.2):=bF (i:=1) rfl
theorem sO {a i:Nat}{l:List V}{v:V}(h:hp[a]?=some (.list l))(hi:l[i]?=some v)(h2:i≤2000000):bh hp (.ref a) (.int i)=some v:=by
 exact(cz (c9 h)).trans ((cz (n7 (List.getElem?_eq_some_iff.mp hi).1 h2)).trans hi)
theorem yp (c:Ca)(N:Nat):zH c N=(bc (ai (aD c (xC (bi "len")) [(aa 2)]) [(.eq,(xC (.int 2)))]) [(bo (xF c 450 [(aa 0),(xS "{")]))] [])::hZ N (.one 3) (me (aD c (xC (bi "len")) [(aa 2)])) (v5 c N)::(bc (ai (aD c (xC (bi "len")) [(aa 2)]) [(.eq,(xC (.int 2)))]) [(bo (xF c 450 [(aa 0),(xS "}")]))] [])::zG c N:=rfl
inductive Wg (N k:Nat)(hp:HP)(st:FS)(a:Nat)(q:Int×Int)(l1 o:Option V):Prop
 |mk (hp':HP) (bz:FS) (s a' c:Nat) (h1:aF (v5 (ag N (k+3)) N) [some (.ref 4),l1,some (.ref a),some (.int 0),o,none,none] hp=.ok (.next,[some (.ref 4),l1,some (.ref a),some (.int 0),some (.int (s:Nat)),none,none]) hp') (h2:Fd hp' {bz with br:=dY st.br (if aZ q.1 q.2 none then some s else none)}) (h3:FF hp hp') (h4:W st bz [(.number q.1,s),(.sign (af ".."),a'),(.number q.2,c)] 1)
theorem Of (F:Fd hp st)(B:eF st b)(hb:b≤2900){a:Nat}(ha:5≤a){q:Int×Int}{rs:List (Int×Int)}(h:hp[a]?=some (.list ((q::rs).map pv)))(h1:j6 q.1)(h2:j6 q.2)(l1 o:Option V):Wg N k hp st a q l1 o:=by
 refine bC λnG=>?_;obtain⟨ay,aN,cq,T1,T2,T3,s,a',c,e1,f1,g1,DY,DZ,p1,F2,f2,w2⟩:=Oe (N:=N) (k:=k) F B (by apply aI<;>trivial) h1 h2;have sb:∀{hp'},FF hp hp'->bh hp' (.ref a) (.int 0)=some (pv q):=λf=>sO (i:=0) (f.at ha h) rfl (by decide);obtain⟨bL,e3,F3,f3⟩:=uf (N:=N) (k:=k+2) F2 s;refine nG ?_;rw[show cq.br=st.br from w2.e2]at F3;have D0:=vZ (N:=N) (k:=k+2) (hp:=hp) (pQ h1);have D2:=vZ (N:=N) (k:=k+2) (hp:=ay) (pQ h2);refine bC λnG=>?_;cases hd:decide (q.2<q.1)with
 |true =>
  refine nG ?_;refine⟨bL,cq,s,a',c,?_,?_,f2.trans f3,w2⟩
  ·open_k with[v5,show((0:Int)==1)=false from rfl,sb FF.refl,oj,l6,D0,e1,g1,DY,sb f1,D2,DZ,p1,sb f2,hd,e3,aX,bU,aY,aL,aM,aU]
  ·rw[show aZ q.1 q.2 none=true from hd,if_pos rfl];exact F3
 |false =>
  refine nG ?_;refine⟨aN,cq,s,a',c,?_,?_,f2,w2⟩
  ·open_k with[v5,show((0:Int)==1)=false from rfl,sb FF.refl,oj,l6,D0,e1,g1,DY,sb f1,D2,DZ,p1,sb f2,hd,aX,bU,aY,aL,aM,aU]
  ·rw[show aZ q.1 q.2 none=false from hd,if_neg Bool.false_ne_true];show Fd aN {cq with br:=st.br};rw[<- show cq.br=st.br from w2.e2];exact F2
inductive Wh (N k:Nat)(hp:HP)(st:FS)(a:Nat)(q0 q:Int×Int)(l1 o:Option V):Prop
 |mk (hp':HP) (bz:FS) (s a' c b':Nat) (h1:aF (v5 (ag N (k+3)) N) [some (.ref 4),l1,some (.ref a),some (.int 1),o,none,none] hp=.ok (.next,[some (.ref 4),l1,some (.ref a),some (.int 1),some (.int (s:Nat)),none,none]) hp') (h2:Fd hp' {bz with br:=dY st.br (if aZ q.1 q.2 (some q0.2)then some s else none)}) (h3:FF hp hp') (h4:W st bz [(.sign (af ","),b'),(.number q.1,s),(.sign (af ".."),a'),(.number q.2,c)] 2)
theorem Yc (F:Fd hp st)(B:eF st b)(hb:b≤2900){a:Nat}(ha:5≤a){q0 q:Int×Int}(h:hp[a]?=some (.list ([q0,q].map pv)))(h1:j6 q.1)(h2:j6 q.2)(l1 o:Option V):Wh N k hp st a q0 q l1 o:=by
 refine bC λnG=>?_;obtain⟨_,_,_,⟨k1,k2⟩,_⟩:=q9;obtain⟨iK,lE,b',e0,F0,f0,w0⟩:=gq (N:=N) (k:=k) F B (by apply aI<;>trivial) k1;rw[i5 k2]at w0;have B0:=w0.b _ B;obtain⟨ay,aN,cq,T1,T2,T3,s,a',c,e1,f1,g1,DY,DZ,p1,F2,f2,w2⟩:=Oe (N:=N) (k:=k) F0 B0 (by apply dh<;>trivial) h1 h2;have w:=w0.trans w2;have sb:∀{hp'},FF hp hp'->bh hp' (.ref a) (.int 1)=some (pv q):=λf=>sO (i:=1) (f.at ha h) rfl (by decide);have ZG:∀{hp'},FF hp hp'->bh hp' (.ref a) (.int 0)=some (pv q0):=λf=>sO (i:=0) (f.at ha h) rfl (by decide);obtain⟨bL,e3,F3,f3⟩:=uf (N:=N) (k:=k+2) F2 s;refine nG ?_;rw[show cq.br=st.br from w.e2]at F3;have D0:=vZ (N:=N) (k:=k+2) (hp:=iK) (pQ h1);have D2:=vZ (N:=N) (k:=k+2) (hp:=ay) (pQ h2);have yq:=f0.trans f2;have Wi:=f0.trans f1
 have UL:decide (q.1<q0.2+2)=decide (q.1≤q0.2+1):=by
  by_cases h:q.1≤q0.2+1
  ·rw[decide_eq_true h,decide_eq_true (by omega)]
  ·rw[decide_eq_false h,decide_eq_false (by omega)]
 cases hd:decide (q.2<q.1)with
 |true =>
  refine⟨bL,cq,s,a',c,b',?_,?_,yq.trans f3,w⟩
  ·open_k with[v5,show((1:Int)==1)=true from rfl,e0,sb f0,oj,l6,D0,e1,g1,DY,sb Wi,D2,DZ,p1,sb yq,hd,e3,aX,bU,aY,aL,aM,aU]
  ·rw[show aZ q.1 q.2 (some q0.2)=true from by simp only[aZ,hd,Bool.true_or],if_pos rfl];exact F3
 |false =>
  cases hd2:decide (q.1≤q0.2+1)with
  |true =>
   refine⟨bL,cq,s,a',c,b',?_,?_,yq.trans f3,w⟩
   ·open_k with[v5,show((1:Int)==1)=true from rfl,e0,sb f0,oj,l6,D0,e1,g1,DY,sb Wi,D2,DZ,p1,sb yq,ZG yq,hd,UL,hd2,e3,aX,bU,aY,aL,aM,aU]
   ·rw[show aZ q.1 q.2 (some q0.2)=true from by simp only[aZ,hd,hd2,Bool.false_or],if_pos rfl];exact F3
  |false =>
   refine⟨aN,cq,s,a',c,b',?_,?_,yq,w⟩
   ·open_k with[v5,show((1:Int)==1)=true from rfl,e0,sb f0,oj,l6,D0,e1,g1,DY,sb Wi,D2,DZ,p1,sb yq,ZG yq,hd,UL,hd2,aX,bU,aY,aL,aM,aU]
   ·rw[show aZ q.1 q.2 (some q0.2)=false from by simp only[aZ,hd,hd2,Bool.false_or],if_neg Bool.false_ne_true];show Fd aN {cq with br:=st.br};rw[<- show cq.br=st.br from w.e2];exact F2
end
section
variable {N k n L m:Nat}{hp hp':HP}{T:List Nat}
variable {st bz pP:FS}{i1 i2:TS}{c1 c2 b:Nat}{r:Rec}
theorem W.br {its:TS}{c:Nat}(w:W st bz its c)(x:Int):W {st with br:=x} {bz with br:=x} its c :=
 ⟨w.e1,rfl,w.e3,w.e4,w.e5,w.e6,λb h=>⟨(w.b b ⟨h.p,h.c,h.t,h.o⟩).p,(w.b b ⟨h.p,h.c,h.t,h.o⟩).c,(w.b b ⟨h.p,h.c,h.t,h.o⟩).t,(w.b b ⟨h.p,h.c,h.t,h.o⟩).o⟩,w.lx⟩
theorem eF.br (h:eF st b)(x:Int):eF {st with br:=x} b:=⟨h.p,h.c,h.t,h.o⟩
theorem eF.vs (h:eF st b)(x:List V):eF {st with vs:=x} b:=⟨h.p,h.c,h.t,h.o⟩
noncomputable def JF:List Int:=[0,1,1,2,0,1,1,3,-1]
noncomputable def JG:List Int:=[2,3,2,4,2,3,2,1,0]
theorem Wj:∀d<9,-1≤JF.getD d 0∧JF.getD d 0≤3:=by decide
theorem Wk:∀d<9,0≤JG.getD d 0∧JG.getD d 0≤4:=by decide
theorem v7 {a:Nat}{l:List V}(h:hp[a]?=some (.list l))(j:Nat)(hj:l.length=j)(hl:j≤1000):ag N (k+1) (bi "len") [.ref a] hp=.ok (.int (j:Nat)) hp:=by
 rw[len_list h (by apply l8<;>first|assumption|exact rfl),hj]
theorem D3:∀i,aT (ir i)=true
 |0=>by decide
 |1=>by decide
 |2=>by decide
 |3=>by decide
 |_+4=>show aT (af "var")=true by decide
theorem Og (R:eC hp st r)(f:FF hp hp')(d:VD)(hd:d.2.length≤10∧aT d.1=true)(e1:bz.vs=st.vs++[VD.v d])(e2:bz.ts=st.ts)(e3:bz.goal=st.goal)(e4:bz.shown=st.shown)(l1:(r.vl++[d]).length≤100):eC hp' bz {r with vl:=r.vl++[d]} :=
 ⟨by rw[e1,R.hv,List.map_append];rfl,e2.trans R.ht,e3.trans R.hg,e4.trans R.hs,λd h=>⟨(R.ha d h).1,f.at (R.ha d h).1 (R.ha d h).2⟩,λd' h=>by
  rcases List.mem_append.mp h with h|h
  ·exact R.dm d' h
  ·rw[List.mem_singleton.mp h];exact hd,l1,R.lt⟩
theorem JH (F:Fd hp st)(B:eF st b)(hb:b≤2800)(R:eC hp st r){a:Nat}(ha:5≤a){q:Int×Int}(h:hp[a]?=some (.list [pv q]))(h1:j6 q.1)(h2:j6 q.2)(hN:20≤N)(l1:Option V)(b0:Nat){lE:FS}{c0:Nat}(w0:W lE st [(.word (af "var"),b0)] c0) :
  zF (bj (aF (zH (ag N (k+3)) N)) [some (.ref 4),l1,some (.ref a),none,none,none,none]) .none lE r hp (c0+4):=by
 refine bC λnG=>?_;obtain⟨M,rfl⟩:∃M,N=M+1+1:=⟨N - 2,by apply uj<;>first|with_reducible assumption|exact rfl⟩;have ll:=v7 (N:=M+1+1) (k:=k+2) h 1 rfl (by decide);obtain⟨ay,cJ,s,a',c,e1,F1,f1,w1⟩:=Of (N:=M+1+1) (k:=k) F B (by apply aI<;>first|with_reducible assumption|exact rfl) ha (q:=q) (rs:=[]) h h1 h2 l1 none;have h':=f1.at ha h;have ll1:=v7 (N:=M+1+1) (k:=k+2) h' 1 rfl (by decide);have B1:=(w1.b _ B).br (dY st.br (if aZ q.1 q.2 none then some s else none))
 obtain⟨aN,cq,i,b1,b2,e2,hi,w2,F2,f2⟩:=DX (N:=M+1+1) (k:=k) F1 B1 (by apply dh<;>first|with_reducible assumption|exact rfl) ha (rs:=[q]) h' (by show 1≤2;decide) (by show cJ.vs.length≤1000;rw[w1.e3,R.hv,List.length_map];have:=R.lv;(apply aI<;>first|with_reducible assumption|exact rfl)) l1 (some (.int 0)) (some (.int s)) none;refine nG ?_;rw[fM]at e2;have e5:cq.br=dY lE.br (if aZ q.1 q.2 none then some s else none):=by rw[w2.e2,<- w0.e2]
 refine⟨aN,_,{r with vl:=r.vl++[(ir i,[q])]},[(.word (af "var"),b0),(.number q.1,s),(.sign (af ".."),a'),(.number q.2,c),(.sign (af ":"),b1),(hV i,b2)],if aZ q.1 q.2 none then some s else none,?_,F2,f1.trans f2,?_,?_,e5,?_,?_,?_,?_,λ_ _ _ e=>by cases e;rfl,?_⟩
 ·have Wl:(List.range ((1:Nat):Int).toNat).map (λ(k:Nat)=>V.int k)=[.int 0]:=rfl;open_k with[yp,ik,ll,ll1,show(((1:Nat):Int)==2)=false from rfl,kz,show(decide (((1:Nat):Int)≤1000)&&dy ((1:Nat):Int))=true by decide +kernel,Wl,lO,jv,lP,e1,e2,aX,bU,aY,aL,aM,aU]
 ·exact λDN qb=>Og R (f1.trans f2) (ir i,[q]) ⟨by show 1≤10;decide,D3 i⟩ (by show cJ.vs++_=_;rw[w1.e3]) (w2.e4.trans w1.e4) (w2.e5.trans w1.e5) (w2.e6.trans w1.e6) DN
 ·exact w2.e1.trans (w1.e1.trans w0.e1)
 ·intro b hB;exact(Nat.add_assoc b c0 (1+3)▸Nat.add_assoc (b+c0) 1 3▸(w2.b _ ((w1.b _ (w0.b _ hB)).br _)).vs _)
 ·intro ts hx;have:=w2.lx _ (w1.lx _ (w0.lx ts hx))
  simpa using this
 ·simp
 ·exact Nat.le_succ _
 ·intro b x more;have:=JC q.1 q.2 i b0 s a' c b1 b2 b x more r.F (by rw[List.length_map];have:=R.lv;(apply aI<;>first|with_reducible assumption|exact rfl));refine this.trans ?_;cases aZ q.1 q.2 none with
  |true=>rfl
  |false=>simp[Rec.F]
theorem JI (F:Fd hp st)(B:eF st b)(hb:b≤2800)(R:eC hp st r){a:Nat}(ha:5≤a){q0 q:Int×Int}(h:hp[a]?=some (.list [pv q0,pv q]))(g1:j6 q0.1)(g2:j6 q0.2)(h1:j6 q.1)(h2:j6 q.2)(hN:20≤N)(l1:Option V)(b0:Nat){lE:FS}{c0:Nat}(w0:W lE st [(.word (af "var"),b0)] c0) :
  zF (bj (aF (zH (ag N (k+3)) N)) [some (.ref 4),l1,some (.ref a),none,none,none,none]) .none lE r hp (c0+8):=by
 refine bC λnG=>?_;obtain⟨_,⟨k1,k2⟩,⟨k3,k4⟩,_⟩:=q9;obtain⟨M,rfl⟩:∃M,N=M+1+1+1:=⟨N - 3,by apply RA<;>first|with_reducible assumption|exact rfl⟩;obtain⟨hpa,JJ,ba,ea,Fa,fa,wa⟩:=gq (N:=M+1+1+1) (k:=k) F B (by apply aI<;>first|with_reducible assumption|exact rfl) k1;rw[i5 k2]at wa;have Ba:=wa.b _ B;have hA:=fa.at ha h;obtain⟨ay,cJ,s,a',c,e1,F1,f1,w1⟩:=Of (N:=M+1+1+1) (k:=k) Fa Ba (by apply dh<;>first|with_reducible assumption|exact rfl) ha (q:=q0) (rs:=[q]) hA g1 g2 l1 none;have h':=f1.at ha hA;have B1:=(w1.b _ Ba).br (dY JJ.br (if aZ q0.1 q0.2 none then some s else none))
 obtain⟨aN,cq,s',a2,c2,b',e2,F2,f2,w2⟩:=Yc (N:=M+1+1+1) (k:=k) F1 B1 (by apply jy<;>first|with_reducible assumption|exact rfl) ha (q0:=q0) (q:=q) h' h1 h2 l1 (some (.int s));have dG:=f2.at ha h';have B2:=(w2.b _ B1).br (dY (dY JJ.br (if aZ q0.1 q0.2 none then some s else none)) (if aZ q.1 q.2 (some q0.2)then some s' else none))
 obtain⟨bL,jl,b3,e3,F3,f3,w3⟩:=gq (N:=M+1+1+1) (k:=k) F2 B2 (by apply nA<;>first|with_reducible assumption|exact rfl) k3;rw[i5 k4]at w3;have h3:=f3.at ha dG;have B3:=w3.b _ B2;obtain⟨lg,om,i,b4,b5,e4,hi,w4,F4,f4⟩:=DX (N:=M+1+1+1) (k:=k) F3 B3 (by apply nB<;>first|with_reducible assumption|exact rfl) ha (rs:=[q0,q]) h3 (by show 2≤2;decide) (by show jl.vs.length≤1000;rw[w3.e3];show cq.vs.length≤1000;rw[w2.e3];show cJ.vs.length≤1000;rw[w1.e3,wa.e3,R.hv,List.length_map];have:=R.lv;(apply aI<;>first|with_reducible assumption|exact rfl)) l1 (some (.int 1)) (some (.int s')) none;refine nG ?_;rw[fM]at e4
 have e5:om.br=dY lE.br (if aZ q0.1 q0.2 none then some s else if aZ q.1 q.2 (some q0.2)then some s' else none):=by
  rw[w4.e2,w3.e2];show dY (dY JJ.br _) _=_;rw[wa.e2,w0.e2];cases aZ q0.1 q0.2 none<;>cases aZ q.1 q.2 (some q0.2)<;>simp only[if_true,if_false,Bool.false_eq_true,dY]
  split<;>simp[*]<;>(apply zR<;>first|with_reducible assumption|exact rfl)
 have ll:=v7 (N:=M+1+1+1) (k:=k+2) h 2 rfl (by decide);have llA:=v7 (N:=M+1+1+1) (k:=k+2) hA 2 rfl (by decide);have ll2:=v7 (N:=M+1+1+1) (k:=k+2) dG 2 rfl (by decide);have ft:=(((fa.trans f1).trans f2).trans f3).trans f4;refine⟨lg,_,{r with vl:=r.vl++[(ir i,[q0,q])]},[(.word (af "var"),b0),(.sign (af "{"),ba),(.number q0.1,s),(.sign (af ".."),a'),(.number q0.2,c),(.sign (af ","),b'),(.number q.1,s'),(.sign (af ".."),a2),(.number q.2,c2),(.sign (af "}"),b3),(.sign (af ":"),b4),(hV i,b5)],if aZ q0.1 q0.2 none then some s else if aZ q.1 q.2 (some q0.2)then some s' else none,?_,F4,ft,?_,?_,e5,?_,?_,?_,?_,λ_ _ _ e=>by cases e;rfl,?_⟩
 ·have Wl:(List.range ((2:Nat):Int).toNat).map (λ(k:Nat)=>V.int k)=[.int 0,.int 1]:=rfl;open_k with[yp,ik,ll,llA,ll2,show(((2:Nat):Int)==2)=true from rfl,ea,kz,show(decide (((2:Nat):Int)≤1000)&&dy ((2:Nat):Int))=true by decide +kernel,Wl,lO,jv,lP,e1,e2,e3,e4,aX,bU,aY,aL,aM,aU]
 ·exact λDN qb=>Og R ft (ir i,[q0,q]) ⟨by show 2≤10;decide,D3 i⟩ (by show jl.vs++_=_;rw[w3.e3];show cq.vs++_=_;rw[w2.e3];show cJ.vs++_=_;rw[w1.e3,wa.e3]) (w4.e4.trans (w3.e4.trans (w2.e4.trans (w1.e4.trans wa.e4)))) (w4.e5.trans (w3.e5.trans (w2.e5.trans (w1.e5.trans wa.e5)))) (w4.e6.trans (w3.e6.trans (w2.e6.trans (w1.e6.trans wa.e6)))) DN
 ·exact w4.e1.trans (w3.e1.trans (w2.e1.trans (w1.e1.trans (wa.e1.trans w0.e1))))
 ·intro b hB;have:=(w4.b _ (w3.b _ ((w2.b _ ((w1.b _ (wa.b _ (w0.b _ hB))).br (dY JJ.br (if aZ q0.1 q0.2 none then some s else none)))).br (dY (dY JJ.br (if aZ q0.1 q0.2 none then some s else none)) (if aZ q.1 q.2 (some q0.2)then some s' else none))))).vs (jl.vs++[VD.v (ir i,[q0,q])])
  have e:b+c0+1+1+2+1+3=b+(c0+8):=by apply Nat.add_right_comm<;>first|with_reducible assumption|exact rfl
  rw[e]at this;exact this
 ·intro ts hx;have:=w4.lx _ (w3.lx _ (w2.lx _ (w1.lx _ (wa.lx _ (w0.lx ts hx)))))
  simpa using this
 ·simp
 ·exact Nat.le_succ _
 ·intro b x more;have:=JD q0.1 q0.2 q.1 q.2 i b0 ba s a' c b' s' a2 c2 b3 b4 b5 b x more r.F (by rw[List.length_map];have:=R.lv;(apply aI<;>first|with_reducible assumption|exact rfl));refine this.trans ?_;cases aZ q0.1 q0.2 none with
  |true=>rfl
  |false =>
   cases aZ q.1 q.2 (some q0.2)with
   |true=>rfl
   |false=>simp[Rec.F]
end
section
variable {N k n L m:Nat}{hp hp':HP}{T:List Nat}
variable {st bz pP:FS}{i1 i2:TS}{c1 c2 b:Nat}{r:Rec}
theorem FF.qS (f:FF hp hp'){a:Nat}(h:hp.length≤a)(o:O):FF hp (hp'.set a o):=⟨by rw[List.length_set];exact f.len,λj h1 h2=>by rw[List.getElem?_set_ne (by apply MU<;>trivial)];exact f.same j h1 h2⟩
theorem nu.base {iK:HP}{r':Rec}{its:TS}{brk:Option Nat}{c:Nat}(h:nu st r hp' bz r' its brk hp c)(f:FF iK hp):nu st r hp' bz r' its brk iK c :=
 ⟨h.F,f.trans h.f,h.R,h.e1,h.br,h.b,h.lx,h.lv,h.lt,h.hd,h.item⟩
theorem nu.le {r':Rec}{its:TS}{brk:Option Nat}{c c':Nat}(h:nu st r hp' bz r' its brk hp c)(hc:c≤c'):nu st r hp' bz r' its brk hp c' :=
 ⟨h.F,h.f,h.R,h.e1,h.br,λb hB=>⟨Nat.le_trans (h.b b hB).p (Nat.add_le_add_left hc b),(h.b b hB).c,(h.b b hB).t,(h.b b hB).o⟩,h.lx,h.lv,h.lt,h.hd,h.item⟩
def rf (N k:Nat)(a:Addr)(hp:HP)(st:FS)(r:Rec):Prop:=zF (ag N (k+4) (.fix (.ref a)) [.ref 4]) .none st r hp 20
theorem JK (F:Fd hp st)(B:eF st b)(hb:b≤2700)(R:eC hp st r)(hN:20≤N):rf N k 464 hp st r:=by
 refine bC λnG=>?_;obtain⟨⟨k1,k2⟩,_⟩:=q9;obtain⟨ay,cJ,b0,e1,F1,f1,w1⟩:=gq (N:=N) (k:=k) F B (by apply aI<;>trivial) k1;rw[i5 k2]at w1;have B1:=w1.b _ B;obtain⟨aN,cq,d1,e2,DK,F2,f2,w2⟩:=j2 (N:=N) (k:=k+1) F1 B1 (by apply dh<;>trivial) 3 (by decide);have lD:ag N (k+3) (.fix (.ref 443)) [.ref 4,.int 3] ay=_:=e2;have B2:=w2.b _ B1;obtain⟨bL,jl,d2,e3,hd2,F3,f3,w3⟩:=j2 (N:=N) (k:=k+1) F2 B2 (by apply jy<;>trivial) 9 (by decide);refine nG ?_;have Oh:ag N (k+3) (.fix (.ref 443)) [.ref 4,.int 9] aN=_:=e3;have B3:=w3.b _ B2;have t0:∀hp,bh hp (.tup [.int 0,.int 1,.int 1,.int 2,.int 0,.int 1,.int 1,.int 3,.int (-1)]) (.int d2)=some (.int (JF.getD d2 0)):=λhp=>vY (l:=JF) hd2 (by apply lF<;>trivial);have r0:=Wj d2 hd2;generalize ht0:JF.getD d2 0=x0 at t0 r0;have l5:=F3.len;have F4:=F3.app [.list [pv ((d1:Int) - 1,(d1:Int) - 1+x0)]];refine bC λnG=>?_;obtain⟨JL,mR,d3,e5,hd3,F5,f5,w5⟩:=j2 (N:=N) (k:=k+1) F4 B3 (by apply nA<;>trivial) 3 (by decide);refine nG ?_;have ZH:ag N (k+3) (.fix (.ref 443)) [.ref 4,.int 3] (bL++[.list [pv ((d1:Int) - 1,(d1:Int) - 1+x0)]])=_:=e5;have B5:=w5.b _ B3;have f4:FF bL (bL++[.list [pv ((d1:Int) - 1,(d1:Int) - 1+x0)]]):=FF.app _;have h5:=f5.at (j:=bL.length) (by assumption) (bK bL (.list [pv ((d1:Int) - 1,(d1:Int) - 1+x0)]));have Wm:=((w1.trans w2).trans w3).trans w5;have ZI:=(f1.trans f2).trans f3;have Wn:=(ZI.trans f4).trans f5;cases hd:((d3:Int)==2)with
 |false =>
  obtain⟨hp',bz,r',its,brk,e,H⟩:=JH (N:=N) (k:=k) F5 B5 (by apply nB<;>trivial) (R.w Wn Wm) (a:=bL.length) (by assumption) h5 (by constructor<;>show _≤_<;>simp only<;>lia) (by constructor<;>show _≤_<;>simp only<;>omega) hN (some (.int ((d1:Int) - 1))) b0 Wm;rw[fM]at e;refine⟨hp',bz,r',its,brk,?_,(H.base Wn).le (by decide)⟩;rw[Dy];open_k with[DW,e1,lD,Oh,BE,t0,ZH,hd,e,aX,bU,aY,aL,aM,aU]
 |true =>
  obtain⟨ZJ,Zi,d4,e6,ZK,F6,f6,w6⟩:=j2 (N:=N) (k:=k+1) F5 B5 (by apply nB<;>trivial) 9 (by decide);have e6':ag N (k+3) (.fix (.ref 443)) [.ref 4,.int 9] JL=_:=e6;have B6:=w6.b _ B5;have t1:∀hp,bh hp (.tup [.int 2,.int 3,.int 2,.int 4,.int 2,.int 3,.int 2,.int 1,.int 0]) (.int d4)=some (.int (JG.getD d4 0)):=λhp=>vY (l:=JG) ZK (by apply lF<;>trivial);have r1:=Wk d4 ZK;generalize ht1:JG.getD d4 0=x1 at t1 r1;have s0:bh JL (.ref bL.length) (.int 0)=some (pv ((d1:Int) - 1,(d1:Int) - 1+x0)):=sO (i:=0) h5 rfl (by decide);have h6:=f6.at (j:=bL.length) (by assumption) h5;have ap:=iY (N:=N) (k:=k+2) h6 (show([pv ((d1:Int) - 1,(d1:Int) - 1+x0)]:List V).length≤1000000 by show 1≤1000000;decide) (pv ((d1:Int) - 1+x0+x1,(d1:Int) - 1+x0+x1+1));have F7:=F6.qS (j:=bL.length) (by assumption) (.list [pv ((d1:Int) - 1,(d1:Int) - 1+x0),pv ((d1:Int) - 1+x0+x1,(d1:Int) - 1+x0+x1+1)]);have ZL:=(Wn.trans f6).qS ZI.len (.list [pv ((d1:Int) - 1,(d1:Int) - 1+x0),pv ((d1:Int) - 1+x0+x1,(d1:Int) - 1+x0+x1+1)]);have ZM:=Wm.trans w6;refine bC λnG=>?_;obtain⟨hp',bz,r',its,brk,e,H⟩:=JI (N:=N) (k:=k) F7 B6 (by apply OC<;>trivial) (R.w ZL ZM) (a:=bL.length) (by assumption) (kC h6) (by constructor<;>show _≤_<;>simp only<;>omega) (by constructor<;>show _≤_<;>simp only<;>omega) (by constructor<;>show _≤_<;>simp only<;>omega) (by constructor<;>show _≤_<;>simp only<;>omega) hN (some (.int ((d1:Int) - 1+x0+x1))) b0 ZM;refine nG ?_;rw[fM]at e;refine⟨hp',bz,r',its,brk,?_,(H.base ZL).le (by decide)⟩;rw[Dy];open_k with[DW,e1,lD,Oh,BE,t0,ZH,hd,s0,l6,e6',t1,iZ h6,aX,bU,aY,aL,aM,aU];rw[ap];open_k with[aX,bU,aY,aL,aM,aU];exact e
end
section
variable {N k n L m:Nat}{hp hp':HP}{T:List Nat}
variable {st bz pP:FS}{i1 i2:TS}{c1 c2 b:Nat}{r:Rec}
noncomputable def zI (d:Nat):Nat:=[0,1,2,3,4,0,1,2,3,4,5,6].getD d 0
theorem Wo:∀d<12,zI d<7:=by decide
theorem Yd (d:Nat)(h:d<12):bh hp (.tup [.int 0,.int 1,.int 2,.int 3,.int 4,.int 0,.int 1,.int 2,.int 3,.int 4,.int 5,.int 6]) (.int d)=some (.int (zI d:Nat)):=by
 have h1:=vY (hp:=hp) (l:=[0,1,2,3,4,0,1,2,3,4,5,6]) (d:=d) h (by apply lF<;>trivial);have h2:∀d<12,([0,1,2,3,4,0,1,2,3,4,5,6]:List Int).getD d 0=(zI d:Nat):=by decide
 rw[h2 d h]at h1;exact h1
def D4 (x y:Int):List V:=[.tup [.str (af "linear_le"),.tup [.int 1,.int (-2)],.tup [.int x,.int y],.int 3],.tup [.str (af "all_different"),.tup [.int x,.int y],.str (af "bounds")],.tup [.str (af "clause"),.tup [.int x],.tup [.int y]],.tup [.str (af "xor"),.int x,.int y,.int x],.tup [.str (af "disjunctive"),.tup [.int x,.int y],.tup [.int 2,.int 0]],.tup [.str (af "linear_ne"),.tup [.int 4],.tup [.int x,.int y],.int 0],.tup [.str (af "max"),.tup [],.int x]]
def JM:List V:=[.str (af "linear_le([1, -2], [X, Y], 3)"),.str (af "all_different([X, Y], \"bounds\")"),.str (af "clause([X], [Y])"),.str (af "xor(X, Y, X)"),.str (af "disjunctive([X, Y], [2, 0])"),.str (af "linear_ne([4], [X, Y], 0)"),.str (af "max([], X)")]
theorem Wr (x y:Int):∀w:Nat,w<7->bh hp (.tup (D4 x y)) (.int w)=some (bl w x y):=Mi (bF (i:=0) rfl) (bF (i:=1) rfl) (bF (i:=2) rfl) (bF (i:=3) rfl) (bF (i:=4) rfl) (bF (i:=5) rfl) (bF (i:=6) rfl)
theorem Ye:∀w:Nat,w<7->bh hp (.tup JM) (.int w)=some (.str (j1 w)):=Mi (bF (i:=0) rfl) (bF (i:=1) rfl) (bF (i:=2) rfl) (bF (i:=3) rfl) (bF (i:=4) rfl) (bF (i:=5) rfl) (bF (i:=6) rfl)
def Oj (x y:Int):List V:=[.tup [.tup [.str (af "int"),.int x],.tup [.str (af "text"),.str (af ", ")],.tup [.str (af "bool"),.int y]],.tup [.tup [.str (af "list"),.tup [.tup [.str (af "int"),.int x],.tup [.str (af "int"),.int y]]]],.tup [.tup [.str (af "if"),.int x,.tup [],.tup [.tup [.str (af "int"),.int y]]]]]
def JN:List V:=[.str (af "[int(X), text(\", \"), bool(Y)]"),.str (af "[list([int(X), int(Y)])]"),.str (af "[if(X, [], [int(Y)])]")]
theorem aa8 (x y:Int):∀w:Nat,w<3->bh hp (.tup (Oj x y)) (.int w)=some (.tup (bN w x y)):=Gv (bF (i:=0) rfl) (bF (i:=1) rfl) (bF (i:=2) rfl)
theorem Yg:∀w:Nat,w<3->bh hp (.tup JN) (.int w)=some (.str (kG w)):=Gv (bF (i:=0) rfl) (bF (i:=1) rfl) (bF (i:=2) rfl)
theorem JO (c:Nat)(o x:Ex)(loc:Loc)(hp:HP):jL c o x loc hp=az (o loc hp) (Kt c x loc):=rfl
theorem D5 (c:Nat)(x:Ex)(loc:Loc)(l:List Nat)(hp:HP):Kt c x loc (.str l) hp=az (x loc hp) (EB c l):=rfl
theorem v8 (c:Nat)(hc:c=88∨c=89){l:List Nat}(hl:l.length≤1000){x:Int}(hx:x∈dK):EB c l (.int x) hp=.ok (.str (ia c (bS x) l)) hp:=by
 have h:∀x∈dK,dy x=true∧(bS x).length≤20∧(bS x==[88])=false∧(bS x==[89])=false:=by decide +kernel
 refine zO (h x hx) λh1 h2 h3 h4=>?_;refine eA ?_;unfold Hs;rw[h1,decide_eq_true h2,decide_eq_true hl];rcases hc with rfl|rfl
 ·rw[h3];rfl
 ·rw[h4];rfl
theorem D6:∀w<7,(j1 w).length≤1000∧∀x∈dK,(ia 88 (bS x) (j1 w)).length≤1000:=by decide +kernel
theorem D7:∀w<3,(kG w).length≤1000∧∀x∈dK,(ia 88 (bS x) (kG w)).length≤1000:=by decide +kernel
theorem Yh:∀w<7,∀x∈dK,∀y∈dK,RD (wr (j1 w) x y) (bl w x y):=Mi V2 V3 V4 V5 V6 V7 V8
theorem Yi:∀w<3,∀x∈dK,∀y∈dK,RD (wr (kG w) x y) (.tup (bN w x y)):=Gv V9 Wa Wb
theorem f7 {t:Tok}{b:Nat}{ts:TS}(h:ts≠[])(F:FD):cQ ((t,b)::ts) F=ob (mW t b ts F) λx=>ob (gp (af ";") x.1) λy=>some (.ok (y.2,x.2)):=by
 cases ts with
 |nil=>exact absurd rfl h
 |cons x r=>rfl
theorem mZ (b:Nat)(x:Tok×Nat)(r:TS):gp (af ";") ((.sign (af ";"),b)::x::r)=some (.ok ((),x::r)):=by kernel_rfl
theorem MK {l:List Nat}(hl:dX l=true){v:V}(hd:RD l v)(b0 s b:Nat)(x:Tok×Nat)(more:TS)(F:FD)(h1:F.qs.length≤1000)(h2:F.ts.length≤1000):cQ ((.word (af "constraint"),b0)::de s (bD l)++(.sign (af ";"),b)::x::more) F=some (.ok (x::more,{F with qs:=F.qs++[.int s],ts:=F.ts++[v]})):=by
 refine bC λnG=>?_;obtain⟨_,_,t,ts,_,e⟩:=q7 hl;have hd:=hd s (.sign (af ";"),b) (x::more);refine nG ?_;rw[List.cons_append,f7 (by simp),uh];rw[e]at hd ⊢;simp only[List.map_cons,List.cons_append,Nat.add_zero]at hd ⊢;simp only[fZ,h1,h2,and_self,if_true,hd,ob,mZ]
theorem aa9 (c:Ca)(N:Nat):Vo c N=[(bo (xF c 450 [(aa 0),(xS "constraint")])),(aR 1 (aq (ao [(xC (.int 0)),(xC (.int 1)),(xC (.int 2)),(xC (.int 3)),(xC (.int 4)),(xC (.int 0)),(xC (.int 1)),(xC (.int 2)),(xC (.int 3)),(xC (.int 4)),(xC (.int 5)),(xC (.int 6))]) (xF c 443 [(aa 0),(xC (.int 12))]))),(eH [2,3] (ao [(xF c 471 [(aa 0)]),(xF c 471 [(aa 0)])])),(aR 4 (aq (ao [(ao [(xS "linear_le"),(ao [(xC (.int 1)),(gN (xC (.int 2)))]),(ao [(aa 2),(aa 3)]),(xC (.int 3))]),(ao [(xS "all_different"),(ao [(aa 2),(aa 3)]),(xS "bounds")]),(ao [(xS "clause"),(ao [(aa 2)]),(ao [(aa 3)])]),(ao [(xS "xor"),(aa 2),(aa 3),(aa 2)]),(ao [(xS "disjunctive"),(ao [(aa 2),(aa 3)]),(ao [(xC (.int 2)),(xC (.int 0))])]),(ao [(xS "linear_ne"),(ao [(xC (.int 4))]),(ao [(aa 2),(aa 3)]),(xC (.int 0))]),(ao [(xS "max"),(ao []),(aa 2)])]) (aa 1))),(aR 5 (aq (ao [(xS "linear_le([1, -2], [X, Y], 3)"),(xS "all_different([X, Y], \"bounds\")"),(xS "clause([X], [Y])"),(xS "xor(X, Y, X)"),(xS "disjunctive([X, Y], [2, 0])"),(xS "linear_ne([4], [X, Y], 0)"),(xS "max([], X)")]) (aa 1))),(bo (ax c (bO (aa 0) .bY) .append [(ao [(aa 4),(xF c 450 [(aa 0),(jL 89 (jL 88 (aa 5) (aa 2)) (aa 3))])])]))]:=rfl
theorem Ws (F:Fd hp st)(B:eF st b)(hb:b≤2700)(R:eC hp st r)(hN:20≤N):rf N k 478 hp st r:=by
 refine bC λnG=>?_;obtain⟨⟨k1,k2⟩,_⟩:=sN;obtain⟨ay,cJ,b0,e1,F1,f1,w1⟩:=gq (N:=N) (k:=k) F B (by apply aI<;>trivial) k1;rw[i5 k2]at w1;have B1:=w1.b _ B;obtain⟨aN,cq,d,e2,hd,F2,f2,w2⟩:=j2 (N:=N) (k:=k+1) F1 B1 (by apply dh<;>trivial) 12 (by decide);refine nG ?_;have lD:ag N (k+3) (.fix (.ref 443)) [.ref 4,.int 12] ay=_:=e2;have B2:=w2.b _ B1;have hw:=Wo d hd;have wv:=λhp=>Yd (hp:=hp) d hd;generalize zI d=w at hw wv;refine bC λnG=>?_;obtain⟨bL,jl,x,e3,hx,F3,f3,w3⟩:=q8 (N:=N) (k:=k) F2 B2 (by apply jy<;>trivial);have B3:=w3.b _ B2;obtain⟨lg,om,y,e4,hy,F4,f4,w4⟩:=q8 (N:=N) (k:=k) F3 B3 (by apply nA<;>trivial);have B4:=w4.b _ B3;have lx:=Q3 w hw x hx y hy;obtain⟨JL,mR,s,e5,F5,f5,w5⟩:=gq (N:=N) (k:=k) F4 B4 (by apply nB<;>trivial) lx;refine nG ?_;have v9:=(((w1.trans w2).trans w3).trans w4).trans w5;have ZN:=(((f1.trans f2).trans f3).trans f4).trans f5;have g4:=eB F4.o4 .bY (v:=.ref 3) rfl
 have JP:mR.ts.length≤1000000:=by
  rw[v9.e4,R.ht,List.length_map];have:=R.lt;(apply aI<;>trivial)
 have hts':=F5.o3;have ap:=iY (N:=N) (k:=k+2) F5.o3 JP (.tup [bl w x y,.int s]);have tv:=Wr (hp:=lg) x y w hw;have cv:=Ye (hp:=lg) w hw;simp only[D4]at tv;simp only[JM]at cv;have Wt:=v8 (hp:=lg) 88 (.inl rfl) (D6 w hw).1 hx;have Wu:=v8 (hp:=lg) 89 (.inr rfl) ((D6 w hw).2 x hx) hy;refine⟨JL.set 3 (.list (mR.ts++[.tup [bl w x y,.int s]])),{mR with ts:=mR.ts++[.tup [bl w x y,.int s]]},{r with tl:=r.tl++[⟨w,x,y,s⟩]},_,none,?_,⟨⟨?_,?_,?_,?_⟩,ZN.trans (FF.set (by decide) _),?_,v9.e1,v9.e2,?_,v9.lx,Nat.le_succ _,?_,λ_ _ _ e=>by cases e;rfl,?_⟩⟩
 ·rw[Qs];open_k with[aa9,JO,D5,e1,lD,wv,e3,e4,BE,tv,cv,g4,iZ F4.o3,Wt,Wu,aX,bU,aY,aL,aM,aU];rw[show ia 89 (bS y) (ia 88 (bS x) (j1 w))=wr (j1 w) x y from rfl,e5];open_k with[ap,aX,bU,aY,aL,aM,aU]
 ·rw[List.getElem?_set_ne (by decide)];exact F5.o1
 ·rw[List.getElem?_set_ne (by decide)];exact F5.o2
 ·exact kC F5.o3
 ·rw[List.getElem?_set_ne (by decide)];exact F5.o4
 ·intro h1 h2;exact⟨v9.e3.trans R.hv,by show mR.ts++_=_;rw[v9.e4,R.ht,List.map_append];rfl,v9.e5.trans R.hg,v9.e6.trans R.hs,λd h=>⟨(R.ha d h).1,(ZN.trans (FF.set (by decide) _)).at (R.ha d h).1 (R.ha d h).2⟩,R.dm,h1,h2⟩
 ·intro b hB;have:=v9.b b hB;exact⟨Nat.le_trans this.p (by apply dz<;>trivial),this.c,this.t,this.o⟩
 ·show(r.tl++[_]).length≤_;simp
 ·intro b x' more;have:=MK lx (Yh w hw x hx y hy) b0 s b x' more r.F (by rw[List.length_map];have:=R.lt;(apply aI<;>trivial)) (by rw[List.length_map];have:=R.lt;(apply aI<;>trivial));refine(Eq.trans ?_ this).trans ?_
  ·congr 1
  ·simp[Rec.F]
end
section
variable {N k n L m:Nat}{hp hp':HP}{T:List Nat}
variable {st bz pP:FS}{i1 i2:TS}{c1 c2 b:Nat}{r:Rec}
theorem JQ:∀w:Nat,w<3->bh hp (.tup [.str (af "satisfy"),.str (af "minimize"),.str (af "maximize")]) (.int w)=some (.str (cA w)):=Gv (bF (i:=0) rfl) (bF (i:=1) rfl) (bF (i:=2) rfl)
theorem zJ (F:Fd hp st)(s:Nat):yo N k hp st s:=uf F s
theorem BK (s0 b w:Nat)(gi:Option Int)(g:Nat)(ts:TS)(JP:ts≠[])(F:FD)(hg:F.gs=(g:Int)):cQ ((.word (af "solve"),s0)::ts) F=some (.error (s0:Int)):=by
 rw[f7 JP,pO];simp only[mV,hg,decide_eq_true (Int.natCast_nonneg g),if_true,ob]
theorem JR (s0 g:Nat)(ts:TS)(JP:ts≠[])(F:FD)(hg:F.ss=(g:Int)):cQ ((.word (af "output"),s0)::ts) F=some (.error (s0:Int)):=by
 rw[f7 JP,BH];simp only[lZ,hg,decide_eq_true (Int.natCast_nonneg g),if_true,ob]
theorem JS (s0 s b:Nat)(x:Tok×Nat)(more:TS)(F:FD)(hg:F.gs=-1):cQ ((.word (af "solve"),s0)::(.word (cA 0),s)::(.sign (af ";"),b)::x::more) F=some (.ok (x::more,{F with gs:=s,goal:=[.str (cA 0),.none]})):=by
 rw[f7 (by simp),pO];simp only[mV,hg,show decide ((0:Int)≤-1)=false from rfl,Bool.false_eq_true,if_false,nz,ob,show([af "satisfy",af "minimize",af "maximize"].any (·==cA 0))=true by decide,show(cA 0==af "satisfy")=true by decide,if_true,mZ]
theorem JT (w:Nat)(hw:w=1∨w=2)(i:Int)(s0 s s1 b:Nat)(x:Tok×Nat)(more:TS)(F:FD)(hg:F.gs=-1):cQ ((.word (af "solve"),s0)::(.word (cA w),s)::(.number i,s1)::(.sign (af ";"),b)::x::more) F=some (.ok (x::more,{F with gs:=s,goal:=[.str (cA w),.int i]})):=by
 have h1:([af "satisfy",af "minimize",af "maximize"].any (·==cA w))=true∧(cA w==af "satisfy")=false:=by rcases hw with rfl|rfl<;>decide
 rw[f7 (by simp),pO];simp only[mV,hg,show decide ((0:Int)≤-1)=false from rfl,Bool.false_eq_true,if_false,nz,ob,h1.1,h1.2,if_true,B7,mZ]
def zK (c:Ca)(N:Nat):List Sx:=[(aR 2 (xF c 443 [(aa 0),(xC (.int 3))])),(eH [1,3] (ao [(xF c 450 [(aa 0),(aq (ao [(xS "satisfy"),(xS "minimize"),(xS "maximize")]) (aa 2))]),(xC .none)])),(bc (ai (aa 2) [(.gt,(xC (.int 0)))]) [(aR 3 (xF c 471 [(aa 0)])),(bo (xF c 450 [(aa 0),(aD c (xC (.fix (.type "str"))) [(aa 3)])]))] []),(iQ (aa 0) .goal (ao [(aq (ao [(xS "satisfy"),(xS "minimize"),(xS "maximize")]) (aa 2)),(aa 3),(aa 1)]))]
theorem D8 (c:Ca)(N:Nat):Vp c N=(aR 1 (xF c 450 [(aa 0),(xS "solve")]))::(bc (ai (bO (aa 0) .goal) [(.gO,(xC .none))]) [(bo (xF c 457 [(aa 0),(aa 1)]))] [])::zK c N:=rfl
theorem eF.g (h:eF st b)(x y:V):eF {st with goal:=x,shown:=y} b:=⟨h.p,h.c,h.t,h.o⟩
inductive GX (N k:Nat)(hp:HP)(st:FS)(s0:Nat):Prop
 |mk (hp':HP) (cJ:FS) (w:Nat) (gi:Option Int) (s:Nat) (its:TS) (h1:bj (aF (zK (ag N (k+3)) N)) [some (.ref 4),some (.int (s0:Nat)),none,none] hp=.ok .none hp') (h2:FF hp hp') (h3:W st cJ its 4) (h4:Fd hp' {cJ with goal:=.tup [.str (cA w),eK gi,.int (s:Nat)]}) (h5:(∀b x more F,F.gs=-1->cQ ((.word (af "solve"),s0)::its++(.sign (af ";"),b)::x::more) F=some (.ok (x::more,{F with gs:=s,goal:=[.str (cA w),eK gi]}))))
theorem yr (F:Fd hp st)(B:eF st b)(hb:b≤2800)(s0:Nat):GX N k hp st s0:=by
 refine bC λnG=>?_;refine zO sN λ_ _ _ kk=>?_;obtain⟨ay,cJ,w,e1,hw,F1,f1,w1⟩:=j2 (N:=N) (k:=k+1) F B (by apply aI<;>trivial) 3 (by decide);have fV:ag N (k+3) (.fix (.ref 443)) [.ref 4,.int 3] hp=_:=e1;have B1:=w1.b _ B;refine bp (kk w hw) λk1 k2=>?_;obtain⟨aN,cq,s,e2,F2,f2,w2⟩:=gq (N:=N) (k:=k) F1 B1 (by apply dh<;>trivial) k1;refine nG ?_;rw[i5 k2]at w2;have B2:=w2.b _ B1;cases hd:decide ((0:Int)<(w:Int))with
 |false =>
  obtain rfl:w=0:=by simpa using hd
  have p1:=mY F2.o4 (show(gE cq).length≤100 by show 8≤100;decide) .goal (.tup [.str (cA 0),.none,.int s]);refine⟨_,cq,0,none,s,[(.word (cA 0),s)],?_,(f1.trans f2).trans (FF.set (by decide) _),⟨w2.e1.trans w1.e1,w2.e2.trans w1.e2,w2.e3.trans w1.e3,w2.e4.trans w1.e4,w2.e5.trans w1.e5,w2.e6.trans w1.e6,?_,(w1.trans w2).lx⟩,F2.set {cq with goal:=.tup [.str (cA 0),.none,.int s]} rfl rfl rfl,?_⟩
  ·open_k with[zK,fV,JQ 0 hw,e2,hd,p1,aX,bU,aY,aL,aM,aU];rfl
  ·intro b hB;have:=(w1.trans w2).b b hB;exact⟨Nat.le_trans this.p (by apply dz<;>trivial),this.c,this.t,this.o⟩
  ·exact λb x more F hg=>JS s0 s b x more F hg
 |true =>
  have hw':w=1∨w=2:=by
   have:=of_decide_eq_true hd;lia
  refine bC λnG=>?_;obtain⟨bL,jl,x,e3,hx,F3,f3,w3⟩:=q8 (N:=N) (k:=k) F2 B2 (by apply jy<;>trivial);have B3:=w3.b _ B2;refine bp (Q6 x hx) λn1 n2=>?_;obtain⟨lg,om,s1,e4,F4,f4,w4⟩:=gq (N:=N) (k:=k) F3 B3 (by apply nA<;>trivial) n1;refine nG ?_;rw[i5 n2]at w4
  have hs:dy x=true:=by
   have:∀x∈dK,dy x=true:=by decide +kernel
   exact this x hx
  have p1:=mY F4.o4 (show(gE om).length≤100 by show 8≤100;decide) .goal (.tup [.str (cA w),.int x,.int s]);refine⟨_,om,w,some x,s,[(.word (cA w),s),(.number x,s1)],?_,(((f1.trans f2).trans f3).trans f4).trans (FF.set (by decide) _),((w1.trans w2).trans w3).trans w4,F4.set {om with goal:=.tup [.str (cA w),.int x,.int s]} rfl rfl rfl,?_⟩
  ·open_k with[zK,fV,JQ w hw,e2,hd,e3,vZ hs,e4,p1,aX,bU,aY,aL,aM,aU];rfl
  ·exact λb x more F hg=>JT w hw' _ s0 s s1 b x more F hg
theorem Q7 (F:Fd hp st)(B:eF st b)(hb:b≤2700)(R:eC hp st r)(hN:20≤N):rf N k 485 hp st r:=by
 refine bC λnG=>?_;obtain⟨_,⟨k1,k2⟩,_⟩:=sN;obtain⟨ay,cJ,s0,e1,F1,f1,w1⟩:=gq (N:=N) (k:=k) F B (by apply aI<;>trivial) k1;refine nG ?_;rw[i5 k2]at w1;have B1:=w1.b _ B;have g1:=eB F1.o4 .goal (v:=cJ.goal) rfl;have i6:cJ.goal=_:=w1.e5.trans R.hg;cases hr:r.g with
 |none =>
  rw[hr]at i6;simp only at i6;rw[i6]at g1;refine bC λnG=>?_;obtain⟨aN,cq,w,gi,s,its,e2,f2,w2,F2,it⟩:=yr (N:=N) (k:=k) F1 B1 (by apply dh<;>trivial) s0;refine nG ?_;rw[fM]at e2;refine⟨aN,_,{r with g:=some (w,gi,s)},(.word (af "solve"),s0)::its,none,?_,⟨F2,f1.trans f2,?_,w2.e1.trans w1.e1,w2.e2.trans w1.e2,?_,?_,Nat.le_succ _,Nat.le_succ _,λ_ _ _ e=>by cases e;rfl,?_⟩⟩
  ·rw[Dz];open_k with[D8,e1,g1,Option.map_some,Option.map,Bool.not_true,e2,aX,bU,aY,aL,aM,aU]
  ·exact λh1 h2=>⟨w2.e3.trans (w1.e3.trans R.hv),w2.e4.trans (w1.e4.trans R.ht),rfl,w2.e6.trans (w1.e6.trans R.hs),λd h=>⟨(R.ha d h).1,(f1.trans f2).at (R.ha d h).1 (R.ha d h).2⟩,R.dm,h1,h2⟩
  ·intro b hB;have:=w2.b _ (w1.b b hB);exact⟨Nat.le_trans this.p (by apply dz<;>trivial),this.c,this.t,this.o⟩
  ·intro ts h;have:=w2.lx _ (w1.lx ts h)
   simpa using this
  ·intro b x more;exact it b x more r.F (by show(match r.g with|none=>(-1:Int)|some d=>d.2.2)=_;rw[hr])
 |some d =>
  rw[hr]at i6;simp only at i6;rw[i6]at g1;refine bC λnG=>?_;obtain⟨aba,fV,Wv,Ol⟩:=zJ (N:=N) (k:=k+2) F1 s0;obtain⟨aN,cq,w,gi,s,its,e2,f2,w2,F2,it⟩:=yr (N:=N) (k:=k) Wv (B1.br _) (by apply dh<;>trivial) s0;refine nG ?_;rw[fM]at e2;refine⟨aN,_,{r with g:=some (w,gi,s)},(.word (af "solve"),s0)::its,some s0,?_,⟨F2,(f1.trans Ol).trans f2,?_,w2.e1.trans w1.e1,?_,?_,?_,Nat.le_succ _,Nat.le_succ _,λ_ _ _ e=>by cases e;rfl,?_⟩⟩
  ·rw[Dz];open_k with[D8,e1,g1,Option.map_some,Option.map,Bool.not_false,fV,e2,aX,bU,aY,aL,aM,aU]
  ·exact λh1 h2=>⟨w2.e3.trans (w1.e3.trans R.hv),w2.e4.trans (w1.e4.trans R.ht),rfl,w2.e6.trans (w1.e6.trans R.hs),λd h=>⟨(R.ha d h).1,((f1.trans Ol).trans f2).at (R.ha d h).1 (R.ha d h).2⟩,R.dm,h1,h2⟩
  ·show cq.br=_;rw[w2.e2];show dY cJ.br (some s0)=dY st.br (some s0);rw[w1.e2]
  ·intro b hB;have:=w2.b _ ((w1.b b hB).br (dY cJ.br (some s0)));exact⟨Nat.le_trans this.p (by apply dz<;>trivial),this.c,this.t,this.o⟩
  ·intro ts h;have:=w2.lx _ (w1.lx ts h)
   simpa using this
  ·intro b x more;exact BK s0 b w gi d.2.2 _ (by simp) r.F (by show(match r.g with|none=>(-1:Int)|some d=>d.2.2)=_;rw[hr])
def GY (c:Ca)(N:Nat):List Sx:=[(eH [2,3] (ao [(xF c 471 [(aa 0)]),(xF c 471 [(aa 0)])])),(aR 4 (xF c 443 [(aa 0),(xC (.int 3))])),(aR 5 (aq (ao [(ao [(ao [(xS "int"),(aa 2)]),(ao [(xS "text"),(xS ", ")]),(ao [(xS "bool"),(aa 3)])]),(ao [(ao [(xS "list"),(ao [(ao [(xS "int"),(aa 2)]),(ao [(xS "int"),(aa 3)])])])]),(ao [(ao [(xS "if"),(aa 2),(ao []),(ao [(ao [(xS "int"),(aa 3)])])])])]) (aa 4))),(aR 6 (aq (ao [(xS "[int(X), text(\", \"), bool(Y)]"),(xS "[list([int(X), int(Y)])]"),(xS "[if(X, [], [int(Y)])]")]) (aa 4))),(aR 6 (jL 89 (jL 88 (aa 6) (aa 2)) (aa 3))),(iQ (aa 0) .shown (ao [(aa 5),(cm [(aa 2),(aa 3)]),(xF c 450 [(aa 0),(aa 6)])]))]
theorem D9 (c:Ca)(N:Nat):Vq c N=(aR 1 (xF c 450 [(aa 0),(xS "output")]))::(bc (ai (bO (aa 0) .shown) [(.gO,(xC .none))]) [(bo (xF c 457 [(aa 0),(aa 1)]))] [])::GY c N:=rfl
theorem Q8 {l:List Nat}(hl:dX l=true){v:List V}(hd:RD l (.tup v))(b0 s b:Nat)(x:Tok×Nat)(more:TS)(F:FD)(hs:F.ss=-1):cQ ((.word (af "output"),b0)::de s (bD l)++(.sign (af ";"),b)::x::more) F=some (.ok (x::more,{F with ss:=s,shown:=v})):=by
 refine bC λnG=>?_;obtain⟨_,_,t,ts,_,e⟩:=q7 hl;have hd:=hd s (.sign (af ";"),b) (x::more);refine nG ?_;rw[List.cons_append,f7 (by simp),BH];rw[e]at hd ⊢;simp only[List.map_cons,List.cons_append,Nat.add_zero]at hd ⊢;simp only[lZ,hs,show decide ((0:Int)≤-1)=false from rfl,Bool.false_eq_true,if_false,hd,ob,mZ]
inductive JU (N k:Nat)(hp:HP)(st:FS)(s0:Nat):Prop
 |mk (hp':HP) (cJ:FS) (w:Nat) (x y:Int) (s a:Nat) (h1:bj (aF (GY (ag N (k+3)) N)) [some (.ref 4),some (.int (s0:Nat)),none,none,none,none,none] hp=.ok .none hp') (h2:FF hp hp') (h3:w<3) (h4:x∈dK) (h5:y∈dK) (h6:W st cJ (de s (bD (wr (kG w) x y))) 4) (h7:Fd hp' {cJ with shown:=.tup [.tup (bN w x y),.ref a,.int (s:Nat)]}) (h8:5≤a) (h9:hp'[a]?=some (.list [.int x,.int y]))
theorem BM (F:Fd hp st)(B:eF st b)(hb:b≤2800)(s0:Nat):JU N k hp st s0:=by
 refine bC λnG=>?_;obtain⟨ay,cJ,x,e1,hx,F1,f1,w1⟩:=q8 (N:=N) (k:=k) F B (by apply aI<;>trivial);have B1:=w1.b _ B;obtain⟨aN,cq,y,e2,hy,F2,f2,w2⟩:=q8 (N:=N) (k:=k) F1 B1 (by apply dh<;>trivial);have B2:=w2.b _ B1;obtain⟨bL,jl,w,e3,hw,F3,f3,w3⟩:=j2 (N:=N) (k:=k+1) F2 B2 (by apply jy<;>trivial) 3 (by decide);have Oh:ag N (k+3) (.fix (.ref 443)) [.ref 4,.int 3] aN=_:=e3;have B3:=w3.b _ B2;have F3':=F3.app [.list [.int x,.int y]];have lx:=DV w hw x hx y hy;obtain⟨lg,om,s,e4,F4,f4,w4⟩:=gq (N:=N) (k:=k) F3' B3 (by apply nA<;>trivial) lx;refine nG ?_;have l5:=F3.len;have h4:=f4.at (j:=bL.length) (by assumption) (bK bL (.list [.int x,.int y]));have p1:=mY F4.o4 (show(gE om).length≤100 by show 8≤100;decide) .shown (.tup [.tup (bN w x y),.ref bL.length,.int s]);have sv:=aa8 (hp:=bL) x y w hw;have ov:=Yg (hp:=bL) w hw;simp only[Oj]at sv;simp only[JN]at ov;have Wt:=v8 (hp:=bL) 88 (.inl rfl) (D7 w hw).1 hx;have Wu:=v8 (hp:=bL) 89 (.inr rfl) ((D7 w hw).2 x hx) hy;have f04:=(((f1.trans f2).trans f3).trans (FF.app [.list [.int x,.int y]])).trans f4;refine⟨_,om,w,x,y,s,bL.length,?_,f04.trans (FF.set (j:=4) (by decide) (.dict (gE {om with shown:=.tup [.tup (bN w x y),.ref bL.length,.int s]}))),hw,hx,hy,((w1.trans w2).trans w3).trans w4,F4.set {om with shown:=.tup [.tup (bN w x y),.ref bL.length,.int s]} rfl rfl rfl,by assumption,?_⟩
 ·open_k with[GY,JO,D5,e1,e2,Oh,sv,ov,Wt,Wu,aX,bU,aY,aL,aM,aU];rw[show ia 89 (bS y) (ia 88 (bS x) (kG w))=wr (kG w) x y from rfl,e4];open_k with[p1,aX,bU,aY,aL,aM,aU];rfl
 ·rw[List.getElem?_set_ne (by apply WY<;>trivial)];exact h4
theorem JV (F:Fd hp st)(B:eF st b)(hb:b≤2700)(R:eC hp st r)(hN:20≤N):rf N k 492 hp st r:=by
 refine bC λnG=>?_;obtain⟨_,_,⟨k1,k2⟩,_⟩:=sN;obtain⟨ay,cJ,s0,e1,F1,f1,w1⟩:=gq (N:=N) (k:=k) F B (by apply aI<;>trivial) k1;refine nG ?_;rw[i5 k2]at w1;have B1:=w1.b _ B;have g1:=eB F1.o4 .shown (v:=cJ.shown) rfl;have gB:cJ.shown=_:=w1.e6.trans R.hs;cases hr:r.sh with
 |none =>
  rw[hr]at gB;simp only at gB;rw[gB]at g1;refine bC λnG=>?_;obtain⟨aN,cq,w,x,y,s,a,e2,f2,hw,hx,hy,w2,F2,ha,h2⟩:=BM (N:=N) (k:=k) F1 B1 (by apply dh<;>trivial) s0;refine nG ?_;rw[fM]at e2;refine⟨aN,_,{r with sh:=some (w,x,y,s,a)},(.word (af "output"),s0)::de s (bD (wr (kG w) x y)),none,?_,⟨F2,f1.trans f2,?_,w2.e1.trans w1.e1,w2.e2.trans w1.e2,?_,?_,Nat.le_succ _,Nat.le_succ _,λ_ _ _ e=>by cases e;rfl,?_⟩⟩
  ·rw[DA];open_k with[D9,e1,g1,Option.map_some,Option.map,Bool.not_true,e2,aX,bU,aY,aL,aM,aU]
  ·exact λh1 qb=>⟨w2.e3.trans (w1.e3.trans R.hv),w2.e4.trans (w1.e4.trans R.ht),w2.e5.trans (w1.e5.trans R.hg),rfl,λd h=>by cases h;exact⟨ha,h2⟩,R.dm,h1,qb⟩
  ·intro b hB;have:=w2.b _ (w1.b b hB);exact⟨Nat.le_trans this.p (by apply dz<;>trivial),this.c,this.t,this.o⟩
  ·intro ts h;have:=w2.lx _ (w1.lx ts h)
   simpa using this
  ·intro b x' more;exact Q8 (DV w hw x hx y hy) (Yi w hw x hx y hy) s0 s b x' more r.F (by show(match r.sh with|none=>(-1:Int)|some d=>d.2.2.2.1)=_;rw[hr])
 |some d =>
  rw[hr]at gB;simp only at gB;rw[gB]at g1;refine bC λnG=>?_;obtain⟨aba,fV,Wv,Ol⟩:=zJ (N:=N) (k:=k+2) F1 s0;obtain⟨aN,cq,w,x,y,s,a,e2,f2,hw,hx,hy,w2,F2,ha,h2⟩:=BM (N:=N) (k:=k) Wv (B1.br _) (by apply dh<;>trivial) s0;refine nG ?_;rw[fM]at e2;refine⟨aN,_,{r with sh:=some (w,x,y,s,a)},(.word (af "output"),s0)::de s (bD (wr (kG w) x y)),some s0,?_,⟨F2,(f1.trans Ol).trans f2,?_,w2.e1.trans w1.e1,?_,?_,?_,Nat.le_succ _,Nat.le_succ _,λ_ _ _ e=>by cases e;rfl,?_⟩⟩
  ·rw[DA];open_k with[D9,e1,g1,Option.map_some,Option.map,Bool.not_false,fV,e2,aX,bU,aY,aL,aM,aU]
  ·exact λh1 qb=>⟨w2.e3.trans (w1.e3.trans R.hv),w2.e4.trans (w1.e4.trans R.ht),w2.e5.trans (w1.e5.trans R.hg),rfl,λd h=>by cases h;exact⟨ha,h2⟩,R.dm,h1,qb⟩
  ·show cq.br=_;rw[w2.e2];show dY cJ.br (some s0)=dY st.br (some s0);rw[w1.e2]
  ·intro b hB;have:=w2.b _ ((w1.b b hB).br (dY cJ.br (some s0)));exact⟨Nat.le_trans this.p (by apply dz<;>trivial),this.c,this.t,this.o⟩
  ·intro ts h;have:=w2.lx _ (w1.lx ts h)
   simpa using this
  ·intro b x' more;exact JR s0 d.2.2.2.1 _ (by simp) r.F (by show(match r.sh with|none=>(-1:Int)|some d=>d.2.2.2.1)=_;rw[hr])
end
section
variable {N k n L m:Nat}{hp hp':HP}{T:List Nat}
variable {st bz pP:FS}{i1 i2:TS}{c1 c2 b:Nat}{r:Rec}
def gb:Nat->List Nat
 |0=>af ""
 |1=>af "var 0..1"
 |2=>af "var 0..1 : x"
 |3=>af "solve"
 |4=>af "constraint max ( [ 0 ] , 0"
 |5=>af "constraint"
 |6=>af "var 0 .."
 |_=>af "var 0..1 :"
def Om:Nat->List Nat
 |0=>af "find"
 |1=>af "x"
 |2=>af "y"
 |3=>af "least"
 |4=>af "]"
 |5=>af ":"
 |6=>af ":"
 |_=>af "7"
def gf:Nat->Tok
 |0=>.word (af "find")
 |1=>.word (af "x")
 |2=>.word (af "y")
 |3=>.word (af "least")
 |4=>.sign (af "]")
 |5=>.sign (af ":")
 |6=>.sign (af ":")
 |_=>.number 7
theorem JW:∀i<8,(i=0∨dX (gb i)=true)∧dX (Om i)=true∧bD (Om i)=[(gf i,0)]∧aT (gb i)=true∧((gb i==af "")=decide (i=0))∧((gb i==af "solve")=decide (i=3)):=by decide +kernel
theorem GZ:∀i:Nat,i<8->bh hp (.tup [.tup [.str (af ""),.str (af "find")],.tup [.str (af "var 0..1"),.str (af "x")],.tup [.str (af "var 0..1 : x"),.str (af "y")],.tup [.str (af "solve"),.str (af "least")],.tup [.str (af "constraint max ( [ 0 ] , 0"),.str (af "]")],.tup [.str (af "constraint"),.str (af ":")],.tup [.str (af "var 0 .."),.str (af ":")],.tup [.str (af "var 0..1 :"),.str (af "7")]]) (.int i)=some (.tup [.str (gb i),.str (Om i)]):=Vz (bF (i:=0) rfl) (bF (i:=1) rfl) (bF (i:=2) rfl) (bF (i:=3) rfl) (bF (i:=4) rfl) (bF (i:=5) rfl) (bF (i:=6) rfl) (bF (i:=7) rfl)
theorem un0 (s2:Nat)(x:Tok×Nat)(ts:TS)(F:FD):cQ ((gf 0,s2)::x::ts) F=some (.error (s2:Int)):=by kernel_rfl
theorem un1 (s s2:Nat)(x:Tok×Nat)(ts:TS)(F:FD):cQ (de s (bD (gb 1))++(gf 1,s2)::x::ts) F=some (.error (s2:Int)):=by kernel_rfl
theorem un6 (s s2:Nat)(x:Tok×Nat)(ts:TS)(F:FD):cQ (de s (bD (gb 6))++(gf 6,s2)::x::ts) F=some (.error (s2:Int)):=by kernel_rfl
theorem un7 (s s2:Nat)(x:Tok×Nat)(ts:TS)(F:FD):cQ (de s (bD (gb 7))++(gf 7,s2)::x::ts) F=some (.error (s2:Int)):=by kernel_rfl
theorem un2 (s s2:Nat)(x:Tok×Nat)(ts:TS)(F:FD)(h:F.vs.length≤1000):cQ (de s (bD (gb 2))++(gf 2,s2)::x::ts) F=some (.error (s2:Int)):=by
 have e:bD (gb 2)=[(.word (af "var"),0),(.number 0,4),(.sign (af ".."),5),(.number 1,7),(.sign (af ":"),9),(.word (af "x"),11)]:=by decide +kernel
 rw[e];show cQ ((.word (af "var"),s+0)::(.number 0,s+4)::(.sign (af ".."),s+5)::(.number 1,s+7)::(.sign (af ":"),s+9)::(.word (af "x"),s+11)::(gf 2,s2)::x::ts) F=_;have hd:jG ((.number 0,s+4)::(.sign (af ".."),s+5)::(.number 1,s+7)::(.sign (af ":"),s+9)::(.word (af "x"),s+11)::(gf 2,s2)::x::ts)=some (.ok ([(0,1)],(.sign (af ":"),s+9)::(.word (af "x"),s+11)::(gf 2,s2)::x::ts)):=by kernel_rfl
 have hw:gp (af ":") ((.sign (af ":"),s+9)::(.word (af "x"),s+11)::(gf 2,s2)::x::ts)=some (.ok ((),(.word (af "x"),s+11)::(gf 2,s2)::x::ts)):=by kernel_rfl
 have h2:gp (af ";") ((gf 2,s2)::x::ts)=some (.error (s2:Int)):=by kernel_rfl
 rw[f7 (by simp),ug];simp only[fT,hd,ob,hw,Tok.name,nz,if_pos h,h2]
theorem un3 (s s2:Nat)(x:Tok×Nat)(ts:TS)(F:FD)(h:F.gs=-1):cQ (de s (bD (gb 3))++(gf 3,s2)::x::ts) F=some (.error (s2:Int)):=by
 have e:bD (gb 3)=[(.word (af "solve"),0)]:=by decide +kernel
 rw[e];show cQ ((.word (af "solve"),s+0)::(.word (af "least"),s2)::x::ts) F=_;rw[f7 (by simp),pO];simp only[mV,h,show decide ((0:Int)≤-1)=false from rfl,Bool.false_eq_true,if_false,nz,ob,show([af "satisfy",af "minimize",af "maximize"].any (·==af "least"))=false by decide]
theorem un4 (s s2:Nat)(x:Tok×Nat)(ts:TS)(F:FD)(h:F.qs.length≤1000)(h':F.ts.length≤1000):cQ (de s (bD (gb 4))++(gf 4,s2)::x::ts) F=some (.error (s2:Int)):=by
 have e:bD (gb 4)=[(.word (af "constraint"),0),(.word (af "max"),11),(.sign (af "("),15),(.sign (af "["),17),(.number 0,19),(.sign (af "]"),21),(.sign (af ","),23),(.number 0,25)]:=by decide +kernel
 rw[e];show cQ ((.word (af "constraint"),s+0)::(.word (af "max"),s+11)::(.sign (af "("),s+15)::(.sign (af "["),s+17)::(.number 0,s+19)::(.sign (af "]"),s+21)::(.sign (af ","),s+23)::(.number 0,s+25)::(gf 4,s2)::x::ts) F=_;have hd:sS ((.word (af "max"),s+11)::(.sign (af "("),s+15)::(.sign (af "["),s+17)::(.number 0,s+19)::(.sign (af "]"),s+21)::(.sign (af ","),s+23)::(.number 0,s+25)::(gf 4,s2)::x::ts)=some (.error (s2:Int)):=by kernel_rfl
 rw[f7 (by simp),uh];simp only[fZ,h,h',and_self,if_true,hd,ob]
theorem un5 (s s2:Nat)(x:Tok×Nat)(ts:TS)(F:FD)(h:F.qs.length≤1000)(h':F.ts.length≤1000):cQ (de s (bD (gb 5))++(gf 5,s2)::x::ts) F=some (.error (s2:Int)):=by
 have e:bD (gb 5)=[(.word (af "constraint"),0)]:=by decide +kernel
 rw[e];show cQ ((.word (af "constraint"),s+0)::(gf 5,s2)::x::ts) F=_;have hd:sS ((gf 5,s2)::x::ts)=some (.error (s2:Int)):=by kernel_rfl
 rw[f7 (by simp),uh];simp only[fZ,h,h',and_self,if_true,hd,ob]
theorem Ww (i:Nat)(hi:i<8)(h0:i≠0)(s s2:Nat)(x:Tok×Nat)(ts:TS)(F:FD)(h1:F.vs.length≤1000)(h2:F.qs.length≤1000)(h3:F.ts.length≤1000)(h4:i=3->F.gs=-1):cQ (de s (bD (gb i))++(gf i,s2)::x::ts) F=some (.error (s2:Int)) :=
 Vz (P:=λi=>i≠0->(i=3->F.gs=-1)->cQ (de s (bD (gb i))++(gf i,s2)::x::ts) F=some (.error (s2:Int))) (λq _=>(q rfl).elim) (λ_ _=>un1 s s2 x ts F) (λ_ _=>un2 s s2 x ts F h1) (λ_ h=>un3 s s2 x ts F (h rfl)) (λ_ _=>un4 s s2 x ts F h2 h3) (λ_ _=>un5 s s2 x ts F h2 h3) (λ_ _=>un6 s s2 x ts F) (λ_ _=>un7 s s2 x ts F) i hi h0 h4
def G0 (c:Ca)(N:Nat):List Sx:=[(bo (xF c 457 [(aa 0),(xF c 450 [(aa 0),(aa 2)])]))]
theorem sP (c:Ca)(N:Nat):Vr c N=(eH [1,2] (aq (ao [(ao [(xS ""),(xS "find")]),(ao [(xS "var 0..1"),(xS "x")]),(ao [(xS "var 0..1 : x"),(xS "y")]),(ao [(xS "solve"),(xS "least")]),(ao [(xS "constraint max ( [ 0 ] , 0"),(xS "]")]),(ao [(xS "constraint"),(xS ":")]),(ao [(xS "var 0 .."),(xS ":")]),(ao [(xS "var 0..1 :"),(xS "7")])]) (xF c 443 [(aa 0),(xC (.int 8))])))::(bc (ai (aa 1) [(.ne,(xS ""))]) [(aR 3 (xF c 450 [(aa 0),(aa 1)])),(bc (aS true [(ai (aa 1) [(.eq,(xS "solve"))]),(ai (bO (aa 0) .goal) [(.gO,(xC .none))])]) [(bo (xF c 457 [(aa 0),(aa 3)]))] [])] [])::G0 c N:=rfl
inductive ML (N k:Nat)(hp:HP)(st:FS)(i:Nat)(h:V)(sp:Option V):Prop
 |mk (hp':HP) (cJ:FS) (s2:Nat) (h1:bj (aF (G0 (ag N (k+3)) N)) [some (.ref 4),some h,some (.str (Om i)),sp] hp=.ok .none hp') (h2:FF hp hp') (h3:W st cJ [(gf i,s2)] 1) (h4:Fd hp' {cJ with br:=dY st.br (some s2)})
theorem xf (F:Fd hp st)(B:eF st b)(hb:b≤2900)(i:Nat)(hi:i<8)(h:V)(sp:Option V):ML N k hp st i h sp:=by
 refine bC λnG=>?_;refine zO (JW i hi) λ_ k1 k2 _=>?_;obtain⟨ay,cJ,s2,e1,F1,f1,w1⟩:=gq (N:=N) (k:=k) F B (by apply aI<;>trivial) k1;rw[i5 k2]at w1;obtain⟨aN,e2,F2,f2⟩:=zJ (N:=N) (k:=k+2) F1 s2;refine nG ?_;rw[w1.e2]at F2;refine⟨aN,cJ,s2,?_,f1.trans f2,w1,F2⟩;open_k with[G0,e1,e2,aX,bU,aY,aL,aM,aU]
theorem G1 (R:eC hp st r)(f:FF hp hp')(e3:bz.vs=st.vs)(e4:bz.ts=st.ts)(e5:bz.goal=st.goal)(e6:bz.shown=st.shown):eC hp' bz r :=
 ⟨e3.trans R.hv,e4.trans R.ht,e5.trans R.hg,e6.trans R.hs,λd h=>⟨(R.ha d h).1,f.at (R.ha d h).1 (R.ha d h).2⟩,R.dm,R.lv,R.lt⟩
theorem Oo:∀i<8,((bD (gb i)).all λx=>x.1.g.isEmpty)=true∧(gf i).g=[]:=by
 have h:∀i<8,((bD (gb i)).all λx=>x.1.g.isEmpty)=true∧(gf i).g.isEmpty=true:=by decide +kernel
 exact λi hi=>⟨(h i hi).1,List.isEmpty_iff.mp (h i hi).2⟩
theorem Oq (i:Nat)(hi:i<8)(s s2:Nat)(t:Tok)(b:Nat)(l:TS)(e:de s (bD (gb i))++[(gf i,s2)]=(t,b)::l):t.g=[]:=by
 refine bp (Oo i hi) λh1 h2=>?_;cases h:bD (gb i)with
 |nil=>rw[h]at e;cases e;exact h2
 |cons x r =>
  rw[h]at e h1;cases e
  exact List.isEmpty_iff.mp (List.all_eq_true.mp h1 x List.mem_cons_self)
theorem Yj (F:Fd hp st)(B:eF st b)(hb:b≤2700)(R:eC hp st r)(hN:20≤N):rf N k 499 hp st r:=by
 have l1:r.F.vs.length≤1000:=by rw[List.length_map];have:=R.lv;(apply aI<;>trivial)
 have l2:r.F.qs.length≤1000:=by rw[List.length_map];have:=R.lt;(apply aI<;>trivial)
 have l3:r.F.ts.length≤1000:=by rw[List.length_map];have:=R.lt;(apply aI<;>trivial)
 refine bC λnG=>?_;obtain⟨ay,cJ,i,e1,hi,F1,f1,w1⟩:=j2 (N:=N) (k:=k+1) F B (by apply aI<;>trivial) 8 (by decide);have fV:ag N (k+3) (.fix (.ref 443)) [.ref 4,.int 8] hp=_:=e1;have B1:=w1.b _ B;refine ZR (JW i hi) λk0 _ _ ko kn ks=>?_;refine nG ?_;have cn:=lR ko (kq "") ay;rw[kn]at cn;by_cases h0:i=0
 ·refine bC λnG=>?_;obtain⟨aN,cq,s2,e2,f2,w2,F2⟩:=xf (N:=N) (k:=k) F1 B1 (by apply dh<;>trivial) i hi (.str (gb i)) none;refine nG ?_;rw[fM]at e2;have w:=w1.trans w2;refine⟨aN,_,r,[(gf i,s2)],some s2,?_,⟨F2,f1.trans f2,?_,w.e1,?_,?_,w.lx,Nat.le_succ _,Nat.le_succ _,λ_ _ _ e=>by cases e;exact(Oo i hi).2,?_⟩⟩
  ·rw[wR];open_k with[sP,fV,GZ i hi,cn,decide_eq_true h0,e2,aX,bU,aY,aL,aM,aU]
  ·exact λ_ _=>G1 R (f1.trans f2) w.e3 w.e4 w.e5 w.e6
  ·show dY cJ.br (some s2)=_;rw[w1.e2]
  ·intro b hB;have:=w.b b hB;exact⟨Nat.le_trans this.p (by apply dz<;>trivial),this.c,this.t,this.o⟩
  ·intro b x more;subst h0;exact un0 s2 (.sign (af ";"),b) (x::more) r.F
 ·have kh:=k0.resolve_left h0;refine bC λnG=>?_;obtain⟨aN,cq,s,e2,F2,f2,w2⟩:=gq (N:=N) (k:=k) F1 B1 (by apply dh<;>trivial) kh;refine nG ?_;have B2:=w2.b _ B1;have cs:=aE ko (kq "solve") aN;rw[ks]at cs;have g1:=eB F2.o4 .goal (v:=cq.goal) rfl;have i6:cq.goal=_:=w2.e5.trans (w1.e5.trans R.hg);by_cases h3:i=3∧r.g.isSome=true
  ·refine bp h3 λh3 hg=>?_;cases hr:r.g with
   |none=>rw[hr]at hg;cases hg
   |some d =>
    rw[hr]at i6;simp only at i6;rw[i6]at g1;refine bC λnG=>?_;obtain⟨bL,e3,F3,f3⟩:=zJ (N:=N) (k:=k+2) F2 s;obtain⟨lg,om,s2,e4,f4,w4,F4⟩:=xf (N:=N) (k:=k) F3 (B2.br _) (by apply jy<;>trivial) i hi (.str (gb i)) (some (.int s));refine nG ?_;rw[fM]at e4;refine⟨lg,_,r,de s (bD (gb i))++[(gf i,s2)],some s,?_,⟨F4,((f1.trans f2).trans f3).trans f4,?_,w4.e1.trans (w2.e1.trans w1.e1),?_,?_,?_,Nat.le_succ _,Nat.le_succ _,Oq i hi s s2,?_⟩⟩
    ·rw[wR];open_k with[sP,fV,GZ i hi,cn,decide_eq_false h0,e2,cs,decide_eq_true h3,g1,Option.map_some,Option.map,e3,e4,aX,bU,aY,aL,aM,aU]
    ·exact λ_ _=>G1 R (((f1.trans f2).trans f3).trans f4) (w4.e3.trans (w2.e3.trans w1.e3)) (w4.e4.trans (w2.e4.trans w1.e4)) (w4.e5.trans (w2.e5.trans w1.e5)) (w4.e6.trans (w2.e6.trans w1.e6))
    ·show dY (dY cq.br (some s)) (some s2)=_;rw[w2.e2,w1.e2];simp only[dY];split<;>simp[*]<;>(apply zR<;>trivial)
    ·intro b hB;have:=w4.b _ ((w2.b _ (w1.b b hB)).br (dY cq.br (some s)));exact⟨Nat.le_trans this.p (by apply dz<;>trivial),this.c,this.t,this.o⟩
    ·intro ts h;have:=w4.lx _ (w2.lx _ (w1.lx ts h))
     simpa using this
    ·intro b x more;subst h3;have e:bD (gb 3)=[(.word (af "solve"),0)]:=by decide +kernel
     rw[e];exact BK s b 0 none d.2.2 _ (by simp) r.F (by show(match r.g with|none=>(-1:Int)|some d=>d.2.2)=_;rw[hr])
  ·refine bC λnG=>?_;obtain⟨lg,om,s2,e4,f4,w4,F4⟩:=xf (N:=N) (k:=k) F2 B2 (by apply jy<;>trivial) i hi (.str (gb i)) (some (.int s));refine nG ?_;rw[fM]at e4;have w:=(w1.trans w2).trans w4;refine⟨lg,_,r,de s (bD (gb i))++[(gf i,s2)],some s2,?_,⟨F4,(f1.trans f2).trans f4,?_,w.e1,?_,?_,w.lx,Nat.le_succ _,Nat.le_succ _,Oq i hi s s2,?_⟩⟩
   ·rw[wR];refine bC λnG=>?_;by_cases Wx:i=3
    ·refine nG ?_
     have IW:r.g=none:=by
      cases hr:r.g with
      |none=>rfl
      |some d=>exact absurd ⟨Wx,by rw[hr];rfl⟩ h3
     rw[IW]at i6;simp only at i6;rw[i6]at g1;open_k with[sP,fV,GZ i hi,cn,decide_eq_false h0,e2,cs,decide_eq_true Wx,g1,Option.map_some,Option.map,e4,aX,bU,aY,aL,aM,aU]
    ·refine nG ?_;open_k with[sP,fV,GZ i hi,cn,decide_eq_false h0,e2,cs,decide_eq_false Wx,e4,aX,bU,aY,aL,aM,aU]
   ·exact λ_ _=>G1 R ((f1.trans f2).trans f4) w.e3 w.e4 w.e5 w.e6
   ·show dY cq.br (some s2)=_;rw[w2.e2,w1.e2]
   ·intro b hB;have:=w.b b hB;exact⟨Nat.le_trans this.p (by apply dz<;>trivial),this.c,this.t,this.o⟩
   ·intro b x more
    have:=Ww i hi h0 s s2 (.sign (af ";"),b) (x::more) r.F l1 l2 l3 (λh=>by
     have IW:r.g=none:=by
      cases hr:r.g with
      |none=>rfl
      |some d=>exact absurd ⟨h,by rw[hr];rfl⟩ h3
     show(match r.g with|none=>(-1:Int)|some d=>d.2.2)=_;rw[IW])
    rw[List.append_assoc];exact this
end
section
variable {N k n L m:Nat}{hp hp':HP}{T:List Nat}
variable {st bz pP:FS}{i1 i2:TS}{c1 c2 b:Nat}{r:Rec}
theorem Row.le {U:List Nat}:∀{p:Nat} {a:TS} {q:Nat},Row N U p a q->p≤q:=by
 intro p a q
 induction a generalizing p with
 |nil=>exact Nat.le_of_eq
 |cons x a ih=>exact λh=>h.2.elim λq' h=>h.1.is.elim λ_ h0=>h0.elim λn h0=>h0.elim λl h0=>Nat.le_trans (h0.2.2.2.2.1▸h0.2.2.2.1▸Nat.le_trans (Nat.le_add_right p n) (Nat.le_add_right _ l)) (ih h.2)
theorem Q9 {u:List Nat}{n:Nat}(h:je u .fin n):u=[]:=by cases h;rfl
theorem Row.G2 {U:List Nat}:∀{p:Nat} {a:TS} {q:Nat},Row N U p a q->q<U.length->∀x∈a,(x.1.kind==af "end")=false:=by
 intro p a q
 induction a generalizing p with
 |nil=>exact λ_ _ x hx=>nomatch hx
 |cons tb a ih =>
  intro h hq x hx;refine aj h.2 λq' nx hr=>?_;refine(List.mem_cons.mp hx).elim (λe=>?_) (ih hr hq x);rw[e];obtain⟨t,b⟩:=tb
  ·cases t with
   |fin =>
    refine nx.is.elim λ_ h0=>h0.elim λn h0=>h0.elim λl h0=>absurd (List.drop_eq_nil_iff.mp (Q9 h0.2.2.2.2.2)) (Nat.not_le.mpr (Nat.lt_of_le_of_lt ?_ hq));exact Nat.le_trans (Nat.le_trans (Nat.le_add_right b l) (Nat.le_of_eq h0.2.2.2.2.1.symm)) (Row.le hr)
   |text l=>exact(nb "text" "end")
   |number i=>exact(nb "number" "end")
   |word l=>exact(nb "word" "end")
   |sign l=>exact(nb "sign" "end")
theorem Lx.G2 {ts:TS}(h:Lx T ts):∀x∈ts,(x.1.kind==af "end")=false :=
 Row.G2 (h 2 [10] (by decide) ⟨10,[],rfl,.inr (.inl rfl)⟩) (by simp)
def G3 (st:FS)(r:Rec)(ts:TS)(j:Nat):Prop:=(st.br=-1∧∀k x more,kE (j+k) (ts++x::more) F0=kE k (x::more) r.F)∨(∃s:Nat,st.br=(s:Int)∧∀k x more,kE (j+k) (ts++x::more) F0=some (.error (s:Int)))
structure BZ (hp:HP)(st:FS)(r:Rec)(ts:TS)(j:Nat):Prop where
 F:Fd hp st
 R:eC hp st r
 lx:Lx st.T ts
 B:eF st (1+60*j)
 lv:r.vl.length≤j
 lt:r.tl.length≤j
 run:G3 st r ts j
 hd:∀t b l,ts=(t,b)::l->t.g=[]
theorem MM {ts its:TS}{r':Rec}{brk:Option Nat}{j b0:Nat}(h:G3 st r ts j)(hf:∀x∈its,(x.1.kind==af "end")=false)(Wy:bz.br=dY st.br brk)
  (item:∀b x more,cQ (its++(.sign (af ";"),b)::x::more) r.F=match brk with|none=>some (.ok (x::more,r'.F))|some s=>some (.error (s:Int))):G3 bz r' (ts++its++[(.sign (af ";"),b0)]) (j+1):=by
 have e0:∀x more,ts++its++[(Tok.sign (af ";"),b0)]++x::more=ts++(its++(Tok.sign (af ";"),b0)::x::more):=λx more=>by simp
 rcases h with⟨h1,h2⟩|⟨s,h1,h2⟩
 ·have hd:∀k x more,kE (j+1+k) (ts++(its++(Tok.sign (af ";"),b0)::x::more)) F0=ob (cQ (its++(Tok.sign (af ";"),b0)::x::more) r.F) λx=>kE k x.1 x.2:=λk x more=>by
   obtain⟨⟨t,b⟩,l,e,ht⟩:∃y l,its++(Tok.sign (af ";"),b0)::x::more=y::l∧(y.1.kind==af "end")=false:=by
    cases its with
    |nil=>exact⟨_,_,rfl,nb "sign" "end"⟩
    |cons y l=>exact⟨y,_,rfl,hf y List.mem_cons_self⟩
   rw[e,show j+1+k=j+(k+1)by apply Nat.add_right_comm<;>trivial,h2];simp only[kE,ht,Bool.false_eq_true,if_false]
  refine bC λnG=>?_;cases brk with
  |none =>
   refine nG ?_;refine .inl ⟨by rw[Wy];exact h1,λk x more=>?_⟩;rw[e0,hd,item];rfl
  |some s =>
   refine nG ?_;refine .inr ⟨s,by rw[Wy,h1];rfl,λk x more=>?_⟩;rw[e0,hd,item];rfl
 ·refine .inr ⟨s,?_,λk x more=>?_⟩
  ·rw[Wy,h1];cases brk with
   |none=>rfl
   |some s' =>
    show(if(s:Int)<0 then(s':Int)else(s:Int))=s
    exact if_neg (by apply zR<;>trivial)
  ·obtain⟨y,l,e⟩:∃y l,its++(Tok.sign (af ";"),b0)::x::more=y::l:=by cases its<;>exact⟨_,_,rfl⟩
   rw[e0,e,show j+1+k=j+(1+k)by apply Nat.add_assoc<;>trivial,h2]
def I8 (c:Ca):Sx:=(bc (aS true [(ai (aa 3) [(.eq,(xC (.int 8)))]),(ai (xF c 443 [(aa 1),(xC (.int 3))]) [(.eq,(xC (.int 2)))])]) [(bo (xF c 499 [(aa 1)]))] [(bo (xF c 464 [(aa 1)]))])
def I7 (c:Ca):Sx:=(bc (aS true [(ai (aa 3) [(.eq,(xC (.int 7)))]),(aS false [(ai (bO (aa 1) .shown) [(.sX,(xC .none))]),(ai (xF c 443 [(aa 1),(xC (.int 2))]) [(.eq,(xC (.int 1)))])])]) [(bo (xF c 492 [(aa 1)]))] [I8 c])
def I5 (c:Ca):Sx:=(bc (aS false [(ai (aa 3) [(.eq,(xC (.int 5)))]),(aS true [(ai (aa 3) [(.eq,(xC (.int 6)))]),(ai (bO (aa 1) .goal) [(.sX,(xC .none))])])]) [(bo (xF c 485 [(aa 1)]))] [I7 c])
def I3 (c:Ca):Sx:=(bc (aS false [(ai (aa 3) [(.eq,(xC (.int 3)))]),(ai (aa 3) [(.eq,(xC (.int 4)))])]) [(bo (xF c 478 [(aa 1)]))] [I5 c])
def BN (c:Ca):List Sx:=[(aR 3 (xF c 443 [(aa 1),(xC (.int 9))])),I3 c,(bo (xF c 450 [(aa 1),(xS ";")]))]
def G4 (N k:Nat)(I:Ca->Sx)(hp:HP)(st:FS)(r:Rec)(c:Nat):Prop:=∀(d:Nat) (s l:Option V) (rest:Loc),zF (I (ag N (k+4)) (s::some (.ref 4)::l::some (.int d)::rest)) (.next,s::some (.ref 4)::l::some (.int d)::rest) st r hp c
theorem nu.pre {iK:HP}{lE:FS}{r':Rec}{its:TS}{brk:Option Nat}{c:Nat}(h:nu st r hp' bz r' its brk hp c)(f:FF iK hp)(w:W lE st [] 1):nu lE r hp' bz r' its brk iK (c+1) :=
 ⟨h.F,f.trans h.f,h.R,h.e1.trans w.e1,by rw[h.br,w.e2],λb hB=>by have:=h.b _ (w.b b hB);exact⟨Nat.le_trans this.p (by apply ZZ<;>trivial),this.c,this.t,this.o⟩,λts hx=>by have:=h.lx _ (w.lx ts hx);rwa [List.append_nil]at this,h.lv,h.lt,h.hd,h.item⟩
theorem BO (F:Fd hp st)(B:eF st b)(hb:b≤3000)(many:Nat)(hm:0<many) :
  JE N (k+2) hp st many:=j2 (k:=k+2) F B hb many hm
theorem Ot (F:Fd hp st)(B:eF st b)(hb:b≤2600)(R:eC hp st r)(hN:20≤N):G4 N k I8 hp st r 21:=by
 intro d s l rest;cases e8:((d:Int)==8)with
 |false =>
  obtain⟨hp',bz,r',its,brk,e,H⟩:=JK (N:=N) (k:=k) F B (by apply aI<;>trivial) R hN;exact⟨hp',bz,r',its,brk,by open_k with[I8,e8,e,aX,bU,aY,aL,aM,aU],H.le (by decide)⟩
 |true =>
  refine bC λnG=>?_;obtain⟨ay,cJ,d1,e1,_,F1,f1,w1⟩:=BO (N:=N) (k:=k) F B (by apply aI<;>trivial) 3 (by decide);have fV:ag N (k+4) (.fix (.ref 443)) [.ref 4,.int 3] hp=_:=e1;cases e2:((d1:Int)==2)with
  |true =>
   refine nG ?_;obtain⟨hp',bz,r',its,brk,e,H⟩:=Yj (N:=N) (k:=k) F1 (w1.b _ B) (by apply dh<;>trivial) (R.w f1 w1) hN;exact⟨hp',bz,r',its,brk,by open_k with[I8,e8,fV,e2,e,aX,bU,aY,aL,aM,aU],H.pre f1 w1⟩
  |false =>
   refine nG ?_;obtain⟨hp',bz,r',its,brk,e,H⟩:=JK (N:=N) (k:=k) F1 (w1.b _ B) (by apply dh<;>trivial) (R.w f1 w1) hN;exact⟨hp',bz,r',its,brk,by open_k with[I8,e8,fV,e2,e,aX,bU,aY,aL,aM,aU],H.pre f1 w1⟩
theorem Yk (F:Fd hp st)(B:eF st b)(hb:b≤2500)(R:eC hp st r)(hN:20≤N):G4 N k I7 hp st r 22:=by
 intro d s l rest;cases e7:((d:Int)==7)with
 |false =>
  obtain⟨hp',bz,r',its,brk,e,H⟩:=Ot (k:=k) F B (by apply aI<;>trivial) R hN d s l rest;exact⟨hp',bz,r',its,brk,by open_k with[I7,e7,e,aX,bU,aY,aL,aM,aU],H.le (by decide)⟩
 |true =>
  have g1:=eB F.o4 .shown (v:=st.shown) rfl;have gB:=R.hs;cases hr:r.sh with
  |none =>
   rw[hr]at gB;simp only at gB;rw[gB]at g1;refine bC λnG=>?_;obtain⟨hp',bz,r',its,brk,e,H⟩:=JV (N:=N) (k:=k) F B (by apply aI<;>trivial) R hN;refine nG ?_;exact⟨hp',bz,r',its,brk,by open_k with[I7,e7,g1,e,aX,bU,aY,aL,aM,aU],H.le (by decide)⟩
  |some q =>
   rw[hr]at gB;simp only at gB;rw[gB]at g1;refine bC λnG=>?_;obtain⟨ay,cJ,d1,e1,_,F1,f1,w1⟩:=BO (N:=N) (k:=k) F B (by apply aI<;>trivial) 2 (by decide);refine nG ?_;have fV:ag N (k+4) (.fix (.ref 443)) [.ref 4,.int 2] hp=_:=e1;cases e2:((d1:Int)==1)with
   |true =>
    obtain⟨hp',bz,r',its,brk,e,H⟩:=JV (N:=N) (k:=k) F1 (w1.b _ B) (by apply dh<;>trivial) (R.w f1 w1) hN;exact⟨hp',bz,r',its,brk,by open_k with[I7,e7,g1,fV,e2,e,aX,bU,aY,aL,aM,aU],(H.pre f1 w1).le (by decide)⟩
   |false =>
    obtain⟨hp',bz,r',its,brk,e,H⟩:=Ot (k:=k) F1 (w1.b _ B) (by apply dh<;>trivial) (R.w f1 w1) hN d s l rest;exact⟨hp',bz,r',its,brk,by open_k with[I7,e7,g1,fV,e2,e,aX,bU,aY,aL,aM,aU],H.pre f1 w1⟩
theorem Yl (F:Fd hp st)(B:eF st b)(hb:b≤2500)(R:eC hp st r)(hN:20≤N):G4 N k I5 hp st r 22:=by
 intro d s l rest;obtain⟨hp',bz,r',its,brk,e,H⟩:=Q7 (N:=N) (k:=k) F B (by apply aI<;>trivial) R hN;obtain⟨aN,cq,r2,jb,G5,e',H2⟩:=Yk (k:=k) F B (by assumption) R hN d s l rest;cases e5:((d:Int)==5)with
 |true=>exact⟨hp',bz,r',its,brk,by open_k with[I5,e5,e,aX,bU,aY,aL,aM,aU],H.le (by decide)⟩
 |false =>
  cases e6:((d:Int)==6)with
  |false=>exact⟨aN,cq,r2,jb,G5,by open_k with[I5,e5,e6,e',aX,bU,aY,aL,aM,aU],H2⟩
  |true =>
   have g1:=eB F.o4 .goal (v:=st.goal) rfl;have gB:=R.hg;cases hr:r.g with
   |none =>
    rw[hr]at gB;simp only at gB;rw[gB]at g1;exact⟨hp',bz,r',its,brk,by open_k with[I5,e5,e6,g1,e,aX,bU,aY,aL,aM,aU],H.le (by decide)⟩
   |some q =>
    rw[hr]at gB;simp only at gB;rw[gB]at g1;exact⟨aN,cq,r2,jb,G5,by open_k with[I5,e5,e6,g1,e',aX,bU,aY,aL,aM,aU],H2⟩
theorem Ym (F:Fd hp st)(B:eF st b)(hb:b≤2500)(R:eC hp st r)(hN:20≤N):G4 N k I3 hp st r 22:=by
 intro d s l rest;obtain⟨hp',bz,r',its,brk,e,H⟩:=Ws (N:=N) (k:=k) F B (by apply aI<;>trivial) R hN;obtain⟨aN,cq,r2,jb,G5,e',H2⟩:=Yl (k:=k) F B (by assumption) R hN d s l rest;cases e3:((d:Int)==3)with
 |true=>exact⟨hp',bz,r',its,brk,by open_k with[I3,e3,e,aX,bU,aY,aL,aM,aU],H.le (by decide)⟩
 |false =>
  cases e4:((d:Int)==4)with
  |false=>exact⟨aN,cq,r2,jb,G5,by open_k with[I3,e3,e4,e',aX,bU,aY,aL,aM,aU],H2⟩
  |true=>exact⟨hp',bz,r',its,brk,by open_k with[I3,e3,e4,e,aX,bU,aY,aL,aM,aU],H.le (by decide)⟩
inductive Wz (N k:Nat)(hp:HP)(j:Nat)(s l w:Option V)(rest:Loc):Prop
 |mk (hp':HP) (bz:FS) (r':Rec) (iq:TS) (w':Option V) (h1:aF (BN (ag N (k+4))) (s::some (.ref 4)::l::w::rest) hp=.ok (.next,s::some (.ref 4)::l::w'::rest) hp') (h2:BZ hp' bz r' iq (j+1))
theorem Yn {ts:TS}{j:Nat}(I:BZ hp st r ts j)(hj:j≤30)(hN:20≤N)(s l w:Option V)(rest:Loc):Wz N k hp j s l w rest:=by
 refine bC λnG=>?_;obtain⟨ay,cJ,d,e1,_,F1,f1,w1⟩:=BO (N:=N) (k:=k) I.F I.B (by apply ml1<;>trivial) 9 (by decide);have fV:ag N (k+4) (.fix (.ref 443)) [.ref 4,.int 9] hp=_:=e1;obtain⟨aN,cq,r2,its,brk,e2,H⟩:=Ym (k:=k) F1 (w1.b _ I.B) (by apply Yu<;>trivial) (I.R.w f1 w1) hN d s l rest;have H:=H.pre f1 w1;have B2:=H.b _ I.B;refine ZS q9 λ_ _ _ _ _ k1 k2=>?_;obtain⟨bL,jl,b0,e3,F3,f3,w3⟩:=gq (N:=N) (k:=k+1) H.F B2 (by apply Yu<;>trivial) k1;refine nG ?_;rw[i5 k2]at w3;have lx:=w3.lx _ (H.lx _ I.lx);have lvv:=H.lv;have ltt:=H.lt;have i1:=I.lv;have i2:=I.lt;refine⟨bL,jl,r2,ts++its++[(.sign (af ";"),b0)],some (.int d),?_,F3,(H.R (by lia) (by lia)).w f3 w3,lx,?_,by apply RG<;>trivial,by apply RG<;>trivial,?_,?_⟩
 ·open_k with[BN,fV,e2,e3,aX,bU,aY,aL,aM,aU]
 ·have:=w3.b _ B2;exact⟨Nat.le_trans this.p (by lia),this.c,this.t,this.o⟩
 ·exact MM I.run (λx hx=>(H.lx _ I.lx).G2 x (List.mem_append_right _ hx)) (by rw[w3.e2];exact H.br) H.item
 ·have hI:=I.hd;have hH:=H.hd;intro t b l e;cases ts with
  |cons y ts=>cases e;exact hI _ _ _ rfl
  |nil =>
   cases its with
   |cons y its=>cases e;exact hH _ _ _ rfl
   |nil=>cases e;rfl
theorem WA (hN:20≤N)(s:Option V)(rest:Loc):∀(q M j:Nat) (vs:List V) {hp:HP} {st:FS} {r:Rec} {ts:TS} (l w:Option V),BZ hp st r ts j->vs.length=q->j+q≤30->q<M ->
  ∃hp' bz r' iq l' w',cI (.one 2) (aF (BN (ag N (k+4)))) M (.vals vs) (s::some (.ref 4)::l::w::rest) hp=.ok (.next,s::some (.ref 4)::l'::w'::rest) hp'∧BZ hp' bz r' iq (j+q):=by
 intro q
 induction q with
 |zero =>
  intro M j vs hp st r ts l w I hv _ hM;cases M with
  |zero=>(apply Ef<;>trivial)
  |succ M=>exact⟨hp,st,r,ts,l,w,by rw[List.length_eq_zero_iff.mp hv,jv],I⟩
 |succ q ih =>
  intro M j vs hp st r ts l w I hv hj hM;cases M with
  |zero=>lia
  |succ M =>
  cases vs with
  |nil=>simp at hv
  |cons v vs =>
  refine bC λnG=>?_;obtain⟨ay,cJ,r1,mU,w1,e1,I1⟩:=Yn (k:=k) I (by apply l9<;>trivial) hN s (some v) w rest;refine Ry (ih M (j+1) vs (some v) w1 I1 (by simpa using hv) (by apply MW<;>trivial) (by apply Ed<;>trivial)) λaN cq r2 qX l2 w2 e2 I2=>?_;refine nG ?_;refine⟨aN,cq,r2,qX,l2,w2,?_,by rw[show j+(q+1)=j+1+q by lia];exact I2⟩;rw[lO,lP];open_k with[e1,e2,aX,bU,aY,aL,aM,aU]
end
section
variable {N k n L m:Nat}{hp hp':HP}{T:List Nat}
def Gd (n:Nat)(v:V):Prop:=∃d,g0 v=some d∧d.canLay0=true∧d.depth≤n∧PyData.eqv d d=true
def oo (n:Nat)(vs:List V):Prop:=∃ds,fP vs=some ds∧PyData.canLayAll0 ds=true∧PyData.depthAll ds≤n∧PyData.eqvAll ds ds=true
theorem jr:∀{vs:List V},(∀v∈vs,Gd n v)->oo n vs
 |[],_=>⟨[],by simp only[fP],by simp only[PyData.canLayAll0],by simp[PyData.depthAll],by simp only[PyData.eqvAll]⟩
 |v::vs,h=>by
  refine bC λnG=>?_;refine fi (h v List.mem_cons_self) λd h1 h2 h3 h4=>?_;refine fi (jr λv hv=>h v (List.mem_cons_of_mem _ hv)) λds g1 g2 g3 g4=>?_;refine nG ?_;exact⟨d::ds,by simp only[fP,h1,g1],by simp only[PyData.canLayAll0,h2,g2,Bool.and_self],by simp only[PyData.depthAll];(apply Z2<;>first|assumption|exact rfl),by simp only[PyData.eqvAll,h4,g4,Bool.and_self]⟩
theorem bX {vs:List V}(h:∀v∈vs,Gd n v):Gd (n+1) (.tup vs):=by
 refine bC λnG=>?_;refine fi (jr h) λds g1 g2 g3 g4=>?_;refine nG ?_;exact⟨.tuple ds,by simp only[g0,g1,Option.map_some],by simp only[PyData.canLay0,g2],by simp only[PyData.depth];(apply Z3<;>first|assumption|exact rfl),by simp only[PyData.eqv,g4]⟩
theorem cj (i:Int):Gd n (.int i):=⟨.int i,by simp only[g0],by simp only[PyData.canLay0],by simp[PyData.depth],by simp[PyData.eqv]⟩
theorem Ea:Gd n .none:=⟨.none,by simp only[g0],by simp only[PyData.canLay0],by simp[PyData.depth],by simp[PyData.eqv]⟩
theorem BP {l:List Nat}(h:aT l=true):Gd n (.str l) :=
 ⟨.str (S l),by simp only[g0],by simp only[PyData.canLay0];unfold PyData.strOk aT at *;simpa [S]using h,by simp[PyData.depth],by simp[PyData.eqv]⟩
theorem Ou (q:Int×Int):Gd 1 (pv q):=bX (n:=0) λv hv=>by
 simp at hv;rcases hv with rfl|rfl<;>exact cj _
theorem G6 {v:V}{n':Nat}(h:Gd n v)(hn:n≤n'):Gd n' v:=by
 refine fi h λd h1 h2 h3 h4=>?_;exact⟨d,h1,h2,by apply Nat.le_trans<;>first|assumption|exact rfl,h4⟩
theorem BQ {ds:List PyData}(h:PyData.canLayAll0 ds=true)(hd:PyData.depthAll ds≤20):shaped (.list ds)=true:=by
 have e:PyData.depth (.list ds)=PyData.depthAll ds+1:=by simp[PyData.depth,Nat.add_comm]
 simp only[SeqAt.shaped,PyData.canLay0,h,e,Bool.true_and,decide_eq_true_eq]
 (apply dh<;>first|assumption|exact rfl)
theorem J0 {a b:Nat}{l:List V}(h1:hp[a]?=some (.list l))(h2:hp[b]?=some (.list []))(g:oo 20 l):tE hp (.ref a) (.ref b)=some l.isEmpty:=by
 refine fi g λds g1 g2 g3 g4=>?_;have e2:shaped (.list [])=true:=BQ (by simp only[PyData.canLayAll0]) (by simp[PyData.depthAll])
 have e3:PyData.eqv (.list ds) (.list [])=l.isEmpty:=by
  cases l with
  |nil=>simp only[fP]at g1;cases g1;simp[PyData.eqv,PyData.eqvAll]
  |cons v vs =>
   cases ds with
   |nil=>simp only[fP]at g1;split at g1<;>cases g1
   |cons d ds=>simp[PyData.eqv,PyData.eqvAll]
 exact DB ((cz (c9 h1)).trans (cz g1)) ((cz (c9 h2)).trans (cz (by unfold fP;rfl))) (BQ g2 g3) e2 e3
theorem we {a b:Nat}{l:List V}(h1:hp[a]?=some (.list l))(h2:hp[b]?=some (.list []))(g:oo 20 l):dA .ne (.ref a) (.ref b) hp=some (!l.isEmpty):=by
 simp only[dA,J0 h1 h2 g,Option.map_some]
theorem Rc {a b:Nat}{l:List V}(h1:hp[a]?=some (.list l))(h2:hp[b]?=some (.list []))(g:oo 20 l):dA .eq (.ref a) (.ref b) hp=some l.isEmpty:=by
 simp only[dA,J0 h1 h2 g]
theorem sQ (l:List Int):oo 20 (l.map V.int):=jr λv hv=>by
 refine aj (List.mem_map.mp hv) λi _ bH=>?_;subst bH;exact cj i
theorem WB (l:List (Int×Int)):oo 20 (l.map pv):=jr λv hv=>by
 refine aj (List.mem_map.mp hv) λi _ bH=>?_;subst bH;exact G6 (Ou i) (by decide)
def iN (vl:List VD)(w:Nat)(x y:Int):Bool:=dF w x y vl.length&&(cY w x y).all λi=>dq (cu vl i)
def iO (hp:HP)(a:Nat)(vl:List VD):Prop:=hp[a]?=some (.list (vl.map λd=>.tup (d.2.map pv)))
theorem MN {a:Nat}{vl:List VD}(h:iO hp a vl)(hl:vl.length≤1000){i:Int}(hi:inR vl.length i=true):bh hp (.ref a) (.int i)=some (.tup ((cu vl i).map pv)):=by
 simp only[inR,Bool.and_eq_true,decide_eq_true_eq]at hi;refine aQ (Int.eq_ofNat_of_zero_le hi.1) λj aC=>?_;subst aC;have hj:j<vl.length:=by apply Ee<;>first|assumption|exact rfl
 refine sO h ?_ (by apply MV<;>first|assumption|exact rfl);rw[List.getElem?_map,List.getElem?_eq_getElem hj];simp only[cu,Int.toNat_natCast,List.getElem?_eq_getElem hj,Option.map_some]
theorem BR {c:Ca}{a:Nat}{vl:List VD}(hc:c=ag N (k+1))(h:iO hp a vl)(hl:vl.length≤1000)(l:List Int)(hN:l.length<N)(pX:l.length≤1000){i:Ix}{it:It}{loc:Loc}(ei:i loc hp=.ok it hp)(hi:jf hp it (l.map .int))(j:Nat)(hj:loc[j]?=some (some (.ref a))) :
  pJ (cp N i [none,none,some j] (.one 1) (aS true [(cV (ai (xC (.int 0)) [(.le,(aa 1)),(.lt,(aD c (xC (bi "len")) [(aa 2)]))]))]) (aa 1) loc) ((l.filter λi=>!inR vl.length i).map .int) hp:=by
 let p:V->Bool:=λv=>match v with|.int i=>!inR vl.length i|_=>false
 subst hc
 obtain⟨ay,e1,x1⟩:=mE (N:=N) (hp:=hp) (i:=i) (mp:=[none,none,some j]) (tg:=.one 1) (ifs:=aS true [(cV (ai (xC (.int 0)) [(.le,(aa 1)),(.lt,(aD (ag N (k+1)) (xC (bi "len")) [(aa 2)]))]))]) (elt:=aa 1) (loc:=loc) (λloc=>∃y,loc=[none,y,some (.ref a)]) p (λv=>v) (l:=l.map .int) (it:=it) ei hi ⟨none,by simp only[kJ,List.map_cons,List.map_nil,hj];rfl⟩ (by simpa using hN) (by simpa using pX) (by
  rintro v hv loc ay ⟨y,rfl⟩ xx;refine aj (List.mem_map.mp hv) λi _ bH=>?_;subst bH;have h1:iO ay a vl:=xx.at h;have ll:=len_list (N:=N) (k:=k) h1 (by rw[List.length_map];(apply aI<;>first|assumption|exact rfl));rw[List.length_map]at ll;refine⟨_,ay,rfl,⟨_,rfl⟩,?_,Ext.refl,λ_=>⟨ay,rfl,Ext.refl⟩⟩;cases h0:decide (0≤i)<;>cases h2:decide (i<(vl.length:Int))<;>open_k with[h0,h2,ll,p,inR,Bool.and_true,Bool.and_false,Bool.and_self])
 refine⟨ay,?_,x1⟩;rw[e1];congr 3;rw[List.filter_map];simp only[List.map_map];rfl
end
section
variable {N k n L m:Nat}{hp hp':HP}{T:List Nat}
noncomputable def pR (q:Int×Int):Bool:=decide (q.1<0)||decide (1<q.2)
theorem JX (l:List (Int×Int)):(l.filter pR).isEmpty=dq l:=by
 induction l with
 |nil=>rfl
 |cons q l ih =>
  have:pR q=!(decide (0≤q.1)&&decide (q.2≤1)):=by
   simp only[pR,Bool.not_and,<- decide_not,Int.not_le]
  simp only[dq,List.all_cons,List.filter_cons,this]at ih ⊢;cases h:(decide (0≤q.1)&&decide (q.2≤1))with
  |true=>simpa [h]using ih
  |false=>simp[h]
def Ov (N:Nat):Ex:=cp N (cw (aq (aa 2) (aa 1))) [none,none] (.one 1) (aS true [(aS false [(ai (aq (aa 1) (xC (.int 0))) [(.lt,(xC (.int 0)))]),(ai (aq (aa 1) (xC (.int 1))) [(.gt,(xC (.int 1)))])])]) (aa 1)
theorem abb (q:Int×Int):bh hp (pv q) (.int 0)=some (.int q.1):=bF (i:=0) rfl
theorem abc (q:Int×Int):bh hp (pv q) (.int 1)=some (.int q.2):=bF (i:=1) rfl
theorem Rf {a:Nat}{vl:List VD}{i:Int}(h:iO hp a vl)(hl:vl.length≤1000)(hi:inR vl.length i=true)(hd:(cu vl i).length≤10)(hN:20≤N)(x:Option V) :
  pJ (Ov N [x,some (.int i),some (.ref a)]) (((cu vl i).filter pR).map pv) hp:=by
 let p:V->Bool:=λv=>match v with|.tup [.int a,.int b]=>pR (a,b)|_=>false
 obtain⟨ay,e1,x1⟩:=mE (N:=N) (hp:=hp) (i:=cw (aq (aa 2) (aa 1))) (mp:=[none,none]) (tg:=.one 1) (ifs:=(aS true [(aS false [(ai (aq (aa 1) (xC (.int 0))) [(.lt,(xC (.int 0)))]),(ai (aq (aa 1) (xC (.int 1))) [(.gt,(xC (.int 1)))])])])) (elt:=aa 1) (loc:=[x,some (.int i),some (.ref a)]) (λloc=>∃y,loc=[none,y]) p (λv=>v) (l:=(cu vl i).map pv) (it:=.vals ((cu vl i).map pv)) (by
   open_k with[gS,MN h hl hi,jd,mG,n5]) (.vals _) ⟨none,rfl⟩ (by rw[List.length_map];(apply ie<;>trivial)) (by rw[List.length_map];(apply aI<;>trivial)) (by
  rintro v hv loc ay ⟨y,rfl⟩ xx;refine aj (List.mem_map.mp hv) λq _ bH=>?_;subst bH;refine⟨_,ay,rfl,⟨_,rfl⟩,?_,Ext.refl,λ_=>⟨ay,rfl,Ext.refl⟩⟩;have hp:p (pv q)=(decide (q.1<0)||decide (1<q.2)):=rfl;cases h0:decide (q.1<0)<;>cases h2:decide (1<q.2)<;>open_k with[abb,abc,h0,h2,hp,Bool.or_true,Bool.or_false,Bool.or_self,show decide (q.2>1)=decide (1<q.2)from rfl])
 refine⟨ay,?_,x1⟩;rw[Ov,e1];congr 3;rw[List.filter_map];simp only[List.map_map];rfl
def MO (N:Nat):Ex:=cp N (cw (aa 3)) [none,none,some 1] (.one 1) (aS true [(ai (Ov N) [(.ne,(cm []))])]) (aa 1)
theorem G7 {a:Nat}{vl:List VD}{l:List Int}(h:iO hp a vl)(hl:vl.length≤1000)(hd:∀d∈vl,d.2.length≤10)(hi:l.all (inR vl.length)=true)(pX:l.length≤10)(hN:20≤N)(x y:Option V) :
  pJ (MO N [x,some (.ref a),y,some (.tup (l.map .int))]) ((l.filter λi=>!dq (cu vl i)).map .int) hp:=by
 let p:V->Bool:=λv=>match v with|.int i=>!dq (cu vl i)|_=>false
 obtain⟨ay,e1,x1⟩:=mE (N:=N) (hp:=hp) (i:=cw (aa 3)) (mp:=[none,none,some 1]) (tg:=.one 1) (ifs:=(aS true [(ai (Ov N) [(.ne,(cm []))])])) (elt:=aa 1) (loc:=[x,some (.ref a),y,some (.tup (l.map .int))]) (λloc=>∃y,loc=[none,y,some (.ref a)]) p (λv=>v) (l:=l.map .int) (it:=.vals (l.map .int)) (by
   open_k with[gS,jd,mG,n5]) (.vals _) ⟨none,rfl⟩ (by rw[List.length_map];(apply ie<;>trivial)) (by rw[List.length_map];(apply aI<;>trivial)) (by
  rintro v hv loc ay ⟨y,rfl⟩ xx;refine aj (List.mem_map.mp hv) λi him bH=>?_;subst bH;have lC:=List.all_eq_true.mp hi i him
  have hdi:(cu vl i).length≤10:=by
   simp only[cu];cases hv:vl[i.toNat]? with
   |none=>simp only[hv];decide
   |some d=>exact hd d (List.mem_of_getElem? hv)
  obtain⟨aN,e2,x2⟩:=Rf (N:=N) (xx.at h) hl lC hdi hN none;refine⟨_,aN++[.list (((cu vl i).filter pR).map pv)]++[.list []],rfl,⟨_,rfl⟩,?_,(x2.trans (Ext.new _)).trans (Ext.new _),λ_=>⟨_,rfl,Ext.refl⟩⟩;have g1:=we (hp:=aN++[.list (((cu vl i).filter pR).map pv)]++[.list []]) (a:=aN.length) (b:=(aN++[O.list (((cu vl i).filter pR).map pv)]).length) (l:=((cu vl i).filter pR).map pv) ((Ext.new _).at (bK _ _)) (bK _ _) (WB _);rw[List.isEmpty_map,JX]at g1;have iK:p (V.int i)=!dq (cu vl i):=rfl;open_k with[e2,g1,iK];cases dq (cu vl i)<;>rfl)
 refine⟨ay,?_,x1⟩;rw[MO,e1];congr 3;rw[List.filter_map];simp only[List.map_map];rfl
def WC (c:Ca)(N:Nat):Ex:=cp N (cw (aa 3)) [none,none,some 1] (.one 1) (aS true [(cV (ai (xC (.int 0)) [(.le,(aa 1)),(.lt,(aD c (xC (bi "len")) [(aa 2)]))]))]) (aa 1)
def kP (c:Ca)(N:Nat):List Sx:=[(bc (ai (WC c N) [(.ne,(cm []))]) [(aW (xC (.bool false)))] []),
 (bc (ai (aa 2) [(.gh,(ao [(xS "clause"),(xS "xor")]))]) [(aW (xC (.bool true)))] []),
 (aW (xB (ai (MO N) [(.eq,(cm []))])))]
theorem pT {α:Type}(p:α->Bool)(l:List α):(l.filter λi=>!p i).isEmpty=l.all p:=by
 induction l with
 |nil=>rfl
 |cons a l ih=>cases h:p a<;>simp[h,ih]
theorem j3 {c:Ca}{a:Nat}{vl:List VD}{l:List Int}{nm:List Nat}{tr:Bool}(hc:c=ag N (k+1))(h:iO hp a vl)(hl:vl.length≤1000)(hd:∀d∈vl,d.2.length≤10)(pX:l.length≤10)(hN:20≤N)(hn:aT nm=true)(ht:(af "clause"==nm||af "xor"==nm)=tr)(x:Option V) :
  mD (bj (aF (kP c N)) [x,some (.ref a),some (.str nm),some (.tup (l.map .int))]) (.bool (l.all (inR vl.length)&&(!tr||l.all λi=>dq (cu vl i)))) hp:=by
 obtain⟨ay,e1,x1⟩:=BR (N:=N) (k:=k) hc h hl l (by apply ie<;>trivial) (by apply aI<;>trivial) (i:=cw (aa 3)) (it:=.vals (l.map .int)) (loc:=[x,some (.ref a),some (.str nm),some (.tup (l.map .int))]) rfl (.vals _) 1 rfl;have g1:=we (hp:=ay++[.list ((l.filter λi=>!inR vl.length i).map .int)]++[.list []]) (a:=ay.length) (b:=(ay++[O.list ((l.filter λi=>!inR vl.length i).map .int)]).length) ((Ext.new _).at (bK _ _)) (bK _ _) (sQ _);rw[List.isEmpty_map,pT]at g1;have fV:WC c N [x,some (.ref a),some (.str nm),some (.tup (l.map .int))] hp=.ok (.ref ay.length) (ay++[.list ((l.filter λi=>!inR vl.length i).map .int)]):=e1;have x2:Ext hp (ay++[.list ((l.filter λi=>!inR vl.length i).map .int)]++[.list []]):=(x1.trans (Ext.new _)).trans (Ext.new _);cases ha:l.all (inR vl.length)with
 |false =>
  rw[ha]at g1;exact⟨_,by open_k with[kP,fV,g1,Bool.false_and],x2⟩
 |true =>
  rw[ha]at g1;have i2:=jY (hp:=ay++[.list ((l.filter λi=>!inR vl.length i).map .int)]++[.list []]) (a:=af "clause") (b:=af "xor") (x:=nm) (by decide) (by decide) hn;rw[ht]at i2;cases tr with
  |false=>exact⟨_,by open_k with[kP,fV,g1,i2,Bool.true_and,Bool.true_or],x2⟩
  |true =>
   obtain⟨bL,e3,x3⟩:=G7 (N:=N) (x2.at h) hl hd ha pX hN x (some (.str nm));have g2:=Rc (hp:=bL++[.list ((l.filter λi=>!dq (cu vl i)).map .int)]++[.list []]) (a:=bL.length) (b:=(bL++[O.list ((l.filter λi=>!dq (cu vl i)).map .int)]).length) ((Ext.new _).at (bK _ _)) (bK _ _) (sQ _);rw[List.isEmpty_map,pT]at g2;exact⟨bL++[.list ((l.filter λi=>!dq (cu vl i)).map .int)]++[.list []],by open_k with[kP,fV,g1,i2,e3,g2,Bool.true_and,Bool.false_or],x2.trans ((x3.trans (Ext.new _)).trans (Ext.new _))⟩
end
section
variable {N k n L m:Nat}{hp hp':HP}{T:List Nat}
theorem kH (c:Ca)(N:Nat):Vs c N=(aR 2 (aq (aa 0) (xC (.int 0))))::(bc (aS false [(ai (aa 2) [(.eq,(xS "max"))]),(ai (aa 2) [(.eq,(xS "linear_ne"))])]) [(aW (xC (.bool false)))] [])::(aR 3 (ig (ai (aa 2) [(.eq,(xS "linear_le"))]) (aq (aa 0) (xC (.int 2))) (ig (ai (aa 2) [(.jK,(ao [(xS "all_different"),(xS "disjunctive")]))]) (aq (aa 0) (xC (.int 1))) (cU (aa 0) (xC (.int 1)) (xC .none)))))::(bc (ai (aa 2) [(.eq,(xS "clause"))]) [(aR 3 (bw .Add (aq (aa 0) (xC (.int 1))) (aq (aa 0) (xC (.int 2)))))] [])::kP c N:=rfl
theorem BS {nm:List Nat}(vs:List V)(ok:aT nm=true)(h:(nm==af "max")=true∨(nm==af "max")=false∧(nm==af "linear_ne")=true)(a:V) :
  ag N (k+1) (.fix (.ref 504)) [.tup (.str nm::vs),a] hp=.ok (.bool false) hp:=by
 have e0:bh hp (.tup (.str nm::vs)) (.int 0)=some (.str nm):=bF (i:=0) rfl;rw[lW];refine bC λnG=>?_;rcases h with h|⟨h,h'⟩
 ·refine nG ?_;open_k with[kH,e0,aE ok (kq "max"),h]
 ·refine nG ?_;open_k with[kH,e0,aE ok (kq "max"),h,aE ok (kq "linear_ne"),h']
theorem Rg (x y:Int)(a:V):ag N (k+1) (.fix (.ref 504)) [bl 0 x y,a] hp=bj (aF (kP (ag N k) N)) [some (bl 0 x y),some a,some (.str (af "linear_le")),some (.tup ([x,y].map .int))] hp:=by
 have e0:bh hp (bl 0 x y) (.int 0)=some (.str (af "linear_le")):=bF (i:=0) rfl;have e2:bh hp (bl 0 x y) (.int 2)=some (.tup ([x,y].map .int)):=bF (i:=2) rfl;rw[lW];open_k with[kH,e0,e2,aE (kq "linear_le") (kq "max"),nb "linear_le" "max",aE (kq "linear_le") (kq "linear_ne"),nb "linear_le" "linear_ne",aE (kq "linear_le") (kq "clause"),nb "linear_le" "clause",aE (kq "linear_le") (kq "linear_le"),yb "linear_le" "linear_le"]
theorem Rh (x y:Int)(a:V):ag N (k+1) (.fix (.ref 504)) [bl 1 x y,a] hp=bj (aF (kP (ag N k) N)) [some (bl 1 x y),some a,some (.str (af "all_different")),some (.tup ([x,y].map .int))] hp:=by
 have e0:bh hp (bl 1 x y) (.int 0)=some (.str (af "all_different")):=bF (i:=0) rfl;have e1:bh hp (bl 1 x y) (.int 1)=some (.tup ([x,y].map .int)):=bF (i:=1) rfl;have i1:=jY (hp:=hp) (a:=af "all_different") (b:=af "disjunctive") (x:=af "all_different") (by decide) (by decide) (by decide);rw[show(af "all_different"==af "all_different"||af "disjunctive"==af "all_different")=true by decide]at i1;rw[lW];open_k with[kH,e0,e1,i1,aE (kq "all_different") (kq "max"),nb "all_different" "max",aE (kq "all_different") (kq "linear_ne"),nb "all_different" "linear_ne",aE (kq "all_different") (kq "clause"),nb "all_different" "clause",aE (kq "all_different") (kq "linear_le"),nb "all_different" "linear_le"]
theorem Ri (x y:Int)(a:V):ag N (k+1) (.fix (.ref 504)) [bl 4 x y,a] hp=bj (aF (kP (ag N k) N)) [some (bl 4 x y),some a,some (.str (af "disjunctive")),some (.tup ([x,y].map .int))] hp:=by
 have e0:bh hp (bl 4 x y) (.int 0)=some (.str (af "disjunctive")):=bF (i:=0) rfl;have e1:bh hp (bl 4 x y) (.int 1)=some (.tup ([x,y].map .int)):=bF (i:=1) rfl;have i1:=jY (hp:=hp) (a:=af "all_different") (b:=af "disjunctive") (x:=af "disjunctive") (by decide) (by decide) (by decide);rw[show(af "all_different"==af "disjunctive"||af "disjunctive"==af "disjunctive")=true by decide]at i1;rw[lW];open_k with[kH,e0,e1,i1,aE (kq "disjunctive") (kq "max"),nb "disjunctive" "max",aE (kq "disjunctive") (kq "linear_ne"),nb "disjunctive" "linear_ne",aE (kq "disjunctive") (kq "clause"),nb "disjunctive" "clause",aE (kq "disjunctive") (kq "linear_le"),nb "disjunctive" "linear_le"]
theorem Rj (x y:Int)(a:V):ag N (k+1) (.fix (.ref 504)) [bl 2 x y,a] hp=bj (aF (kP (ag N k) N)) [some (bl 2 x y),some a,some (.str (af "clause")),some (.tup ([x,y].map .int))] hp:=by
 have e0:bh hp (bl 2 x y) (.int 0)=some (.str (af "clause")):=bF (i:=0) rfl;have e1:bh hp (bl 2 x y) (.int 1)=some (.tup [.int x]):=bF (i:=1) rfl;have e2:bh hp (bl 2 x y) (.int 2)=some (.tup [.int y]):=bF (i:=2) rfl;have e3:gX hp (bl 2 x y) (some 1) none=.ok (.tup [.tup [.int x],.tup [.int y]]) hp:=lX [.str (af "clause"),.tup [.int x],.tup [.int y]] (some 1) none (by show 3≤1000;decide) (by show 2<3;decide);have i1:=jY (hp:=hp) (a:=af "all_different") (b:=af "disjunctive") (x:=af "clause") (by decide) (by decide) (by decide);rw[show(af "all_different"==af "clause"||af "disjunctive"==af "clause")=false by decide]at i1;rw[lW];open_k with[kH,e0,e1,e2,e3,i1,aE (kq "clause") (kq "max"),nb "clause" "max",aE (kq "clause") (kq "linear_ne"),nb "clause" "linear_ne",aE (kq "clause") (kq "linear_le"),nb "clause" "linear_le",aE (kq "clause") (kq "clause"),yb "clause" "clause",show hW (.int 1)=some (some 1)from rfl,bW,Jt [V.int x] [.int y] (by show 2≤100000;decide),List.map_cons,List.map_nil,List.cons_append,List.nil_append]
theorem Rk (x y:Int)(a:V):ag N (k+1) (.fix (.ref 504)) [bl 3 x y,a] hp=bj (aF (kP (ag N k) N)) [some (bl 3 x y),some a,some (.str (af "xor")),some (.tup ([x,y,x].map .int))] hp:=by
 have e0:bh hp (bl 3 x y) (.int 0)=some (.str (af "xor")):=bF (i:=0) rfl;have e3:gX hp (bl 3 x y) (some 1) none=.ok (.tup ([x,y,x].map .int)) hp:=lX [.str (af "xor"),.int x,.int y,.int x] (some 1) none (by show 4≤1000;decide) (by show 3<4;decide);have i1:=jY (hp:=hp) (a:=af "all_different") (b:=af "disjunctive") (x:=af "xor") (by decide) (by decide) (by decide);rw[show(af "all_different"==af "xor"||af "disjunctive"==af "xor")=false by decide]at i1;rw[lW];open_k with[kH,e0,e3,i1,aE (kq "xor") (kq "max"),nb "xor" "max",aE (kq "xor") (kq "linear_ne"),nb "xor" "linear_ne",aE (kq "xor") (kq "linear_le"),nb "xor" "linear_le",aE (kq "xor") (kq "clause"),nb "xor" "clause",show hW (.int 1)=some (some 1)from rfl,bW]
theorem G8 {a:Nat}{vl:List VD}(h:iO hp a vl)(hl:vl.length≤1000)(hd:∀d∈vl,d.2.length≤10)(hN:20≤N)(w:Nat)(x y:Int) :
  mD (ag N (k+2) (.fix (.ref 504)) [bl w x y,.ref a]) (.bool (iN vl w x y)) hp:=by
 match w with
 |0 =>
  obtain⟨hp',e,x1⟩:=j3 (N:=N) (k:=k) (tr:=false) rfl h hl hd (show[x,y].length≤10 by show 2≤10;decide) hN (kq "linear_le") (by decide) (some (bl 0 x y));exact⟨hp',by rw[Rg,e];simp[iN,dF,cY],x1⟩
 |1 =>
  obtain⟨hp',e,x1⟩:=j3 (N:=N) (k:=k) (tr:=false) rfl h hl hd (show[x,y].length≤10 by show 2≤10;decide) hN (kq "all_different") (by decide) (some (bl 1 x y));exact⟨hp',by rw[Rh,e];simp[iN,dF,cY],x1⟩
 |2 =>
  obtain⟨hp',e,x1⟩:=j3 (N:=N) (k:=k) (tr:=true) rfl h hl hd (show[x,y].length≤10 by show 2≤10;decide) hN (kq "clause") (by decide) (some (bl 2 x y));exact⟨hp',by rw[Rj,e];simp[iN,dF,cY],x1⟩
 |3 =>
  obtain⟨hp',e,x1⟩:=j3 (N:=N) (k:=k) (tr:=true) rfl h hl hd (show[x,y,x].length≤10 by show 3≤10;decide) hN (kq "xor") (by decide) (some (bl 3 x y))
  exact⟨hp',by
   rw[Rk,e];cases hx:inR vl.length x<;>cases hy:inR vl.length y<;>simp[iN,dF,cY,hx,hy],x1⟩
 |4 =>
  obtain⟨hp',e,x1⟩:=j3 (N:=N) (k:=k) (tr:=false) rfl h hl hd (show[x,y].length≤10 by show 2≤10;decide) hN (kq "disjunctive") (by decide) (some (bl 4 x y));exact⟨hp',by rw[Ri,e];simp[iN,dF,cY],x1⟩
 |5 =>
  refine⟨hp,?_,Ext.refl⟩;rw[show iN vl 5 x y=false by simp[iN,dF]];exact BS _ (by decide) (.inr ⟨by decide,by decide⟩) _
 |w+6 =>
  refine⟨hp,?_,Ext.refl⟩;rw[show iN vl (w+6) x y=false by rw[iN,dF,decide_eq_false (show ¬w+6<5 by lia)];rfl];exact BS _ (by decide) (.inl (by decide)) _
end
section
variable {N k n L m:Nat}{hp hp':HP}{T:List Nat}{st:FS}{r:Rec}
theorem Ow {α:Type}(l:List α):l.filter (λ_=>true)=l:=List.filter_eq_self.mpr λ_ _=>rfl
theorem wb {a:Nat}{l:List V}(h:hp[a]?=some (.list l)):Ep hp (.ref a)=some (.lst a 0):=cz (c9 h)
theorem zL {a:Nat}{l:List V}(h:hp[a]?=some (.list l)):jf hp (.lst a 0) l:=.lst a 0 l h
def Ox (N:Nat):Ex:=cp N (cw (bO (aa 1) .vars)) [none,none,none] (.many [1,2]) (aS true []) (aa 2)
def wc (N:Nat):Ex:=cp N (cw (bO (aa 1) .bY)) [none,none,none] (.many [1,2]) (aS true []) (aa 1)
def rg (c:Ca)(N:Nat):Ex:=cp N (cw (bO (aa 1) .bY)) [none,none,none,some 4] (.many [1,2]) (aS true [(cV (tX (xF c 504 [(aa 1),(aa 3)])))]) (aa 2)
theorem WD (F:Fd hp st){vl:List VD}(hv:st.vs=vl.map VD.v)(hl:vl.length≤100)(hN:200≤N)(s:Option V)(rest:Loc) :
  pJ (Ox N (s::some (.ref 4)::rest)) (vl.map λd=>.tup (d.2.map pv)) hp:=by
 have o2:=F.o2;rw[hv]at o2
 obtain⟨ay,e1,x1⟩:=vS (N:=N) (hp:=hp) (i:=cw (bO (aa 1) .vars)) (mp:=[none,none,none]) (tg:=.many [1,2]) (ifs:=aS true []) (elt:=aa 2) (loc:=s::some (.ref 4)::rest) VD.v (λloc=>∃x y,loc=[none,x,y]) (λ_=>true) (λd=>.tup (d.2.map pv)) (l:=vl) (it:=.lst 2 0) (by
   open_k with[gS,eB F.o4 .vars (v:=.ref 2) rfl,wb o2,aX,bU,aY,aL,aM,aU]) (zL o2) ⟨none,none,rfl⟩ (by apply ie<;>trivial) (by apply aI<;>trivial) (by
  rintro d _ loc ay ⟨x,y,rfl⟩ xx;exact⟨_,ay,rfl,⟨_,_,rfl⟩,rfl,Ext.refl,λ_=>⟨ay,rfl,Ext.refl⟩⟩)
 rw[Ow]at e1;exact⟨ay,e1,x1⟩
theorem Rm (F:Fd hp st){tl:List TD}(ht:st.ts=tl.map λd=>.tup [d.v,.int d.s])(hl:tl.length≤100)(hN:200≤N)(s:Option V)(rest:Loc) :
  pJ (wc N (s::some (.ref 4)::rest)) (tl.map TD.v) hp:=by
 have o3:=F.o3;rw[ht]at o3
 obtain⟨ay,e1,x1⟩:=vS (N:=N) (hp:=hp) (i:=cw (bO (aa 1) .bY)) (mp:=[none,none,none]) (tg:=.many [1,2]) (ifs:=aS true []) (elt:=aa 1) (loc:=s::some (.ref 4)::rest) (λd:TD=>V.tup [d.v,.int d.s]) (λloc=>∃x y,loc=[none,x,y]) (λ_=>true) TD.v (l:=tl) (it:=.lst 3 0) (by
   open_k with[gS,eB F.o4 .bY (v:=.ref 3) rfl,wb o3,aX,bU,aY,aL,aM,aU]) (zL o3) ⟨none,none,rfl⟩ (by apply ie<;>trivial) (by apply aI<;>trivial) (by
  rintro d _ loc ay ⟨x,y,rfl⟩ xx;exact⟨_,ay,rfl,⟨_,_,rfl⟩,rfl,Ext.refl,λ_=>⟨ay,rfl,Ext.refl⟩⟩)
 rw[Ow]at e1;exact⟨ay,e1,x1⟩
theorem Rn {c:Ca}(hc:c=ag N (k+2))(F:Fd hp st){vl:List VD}{tl:List TD}{a:Nat}(h:iO hp a vl)(DR:vl.length≤1000)(hd:∀d∈vl,d.2.length≤10)(ht:st.ts=tl.map λd=>.tup [d.v,.int d.s])(hl:tl.length≤100)(hN:200≤N)(s l w:Option V)(rest:Loc) :
  pJ (rg c N (s::some (.ref 4)::l::w::some (.ref a)::rest)) (((tl.filter λd=>!d.right vl).map λd=>(d.s:Int)).map .int) hp:=by
 have o3:=F.o3;rw[ht]at o3;subst hc
 obtain⟨ay,e1,x1⟩:=vS (N:=N) (hp:=hp) (i:=cw (bO (aa 1) .bY)) (mp:=[none,none,none,some 4]) (tg:=.many [1,2]) (ifs:=(aS true [(cV (tX (aD (ag N (k+2)) (xC (.fix (.ref 504))) [(aa 1),(aa 3)])))])) (elt:=aa 2) (loc:=s::some (.ref 4)::l::w::some (.ref a)::rest) (λd:TD=>V.tup [d.v,.int d.s]) (λloc=>∃x y,loc=[none,x,y,some (.ref a)]) (λd=>!d.right vl) (λd=>.int d.s) (l:=tl) (it:=.lst 3 0) (by
   open_k with[gS,eB F.o4 .bY (v:=.ref 3) rfl,wb o3,aX,bU,aY,aL,aM,aU]) (zL o3) ⟨none,none,rfl⟩ (by apply ie<;>trivial) (by apply aI<;>trivial) (by
  rintro d _ loc ay ⟨x,y,rfl⟩ xx;obtain⟨aN,e2,x2⟩:=G8 (N:=N) (k:=k) (xx.at h) DR hd (by apply bR<;>trivial) d.w d.x d.y;refine⟨_,aN,rfl,⟨_,_,rfl⟩,?_,x2,λ_=>⟨aN,rfl,Ext.refl⟩⟩;open_k with[e2,show iN vl d.w d.x d.y=d.right vl from rfl];cases d.right vl<;>rfl)
 refine⟨ay,?_,x1⟩;rw[rg,e1];simp only[List.map_map];rfl
theorem Yt {a b:Nat}{u v:List V}(h1:hp[a]?=some (.list u))(h2:hp[b]?=some (.list v))(hl:u.length+v.length≤100000):jw .Add (.ref a) (.ref b) hp=.ok (.ref hp.length) (hp++[.list (u++v)]):=by
 exact(gk (c9 h1)).trans ((gk (DM h2)).trans (eA (gG (Nat.le_trans hl (by decide)))))
end
section
variable {N k n L m:Nat}{hp hp':HP}{T:List Nat}{st:FS}{r:Rec}
abbrev gV:Option (Nat×Option Int×Nat)->V
 |none=>.none
 |some d=>.tup [.str (cA d.1),eK d.2.1,.int d.2.2]
abbrev kQ:Option (Nat×Option Int×Nat)->List V
 |none=>F0.goal
 |some d=>[.str (cA d.1),eK d.2.1]
def gL (m:Nat):Option (Nat×Option Int×Nat)->List Int
 |none=>[]
 |some d=>if gZ m d.2.1 then[]else[(d.2.2:Int)]
abbrev sV:Option (Nat×Int×Int×Nat×Nat)->V
 |none=>.none
 |some d=>.tup [.tup (bN d.1 d.2.1 d.2.2.1),.ref d.2.2.2.2,.int d.2.2.2.1]
abbrev i7:Option (Nat×Int×Int×Nat×Nat)->List V
 |none=>[]
 |some d=>bN d.1 d.2.1 d.2.2.1
def sL (m:Nat):Option (Nat×Int×Int×Nat×Nat)->List Int
 |none=>[]
 |some d=>if[d.2.1,d.2.2.1].all (inR m)then[]else[(d.2.2.2.1:Int)]
def L4 (c:Ca):Sx:=(bc (ai (bO (aa 1) .goal) [(.gO,(xC .none))]) [(aR 6 (cU (bO (aa 1) .goal) (xC .none) (xC (.int 2)))),
 (aR 9 (bw .Add (aa 9) (ig (aS true [(ai (aq (aa 6) (xC (.int 1))) [(.gO,(xC .none))]),(cV (ai (xC (.int 0)) [(.le,(aq (aa 6) (xC (.int 1)))),(.lt,(aD c (xC (bi "len")) [(aa 4)]))]))]) (cm [(aq (bO (aa 1) .goal) (xC (.int 2)))]) (cm []))))] [])
theorem pS {b:Nat}{u:List Int}(v:List Int)(h:hp[b]?=some (.list (u.map .int)))(hu:u.length≤1000)(hv:v.length≤1000) :
  jw .Add (.ref b) (.ref hp.length) (hp++[.list (v.map .int)])=.ok (.ref (hp++[O.list (v.map .int)]).length) (hp++[.list (v.map .int)]++[.list ((u++v).map .int)]):=by
 rw[Yt ((Ext.new _).at h) (bK _ _) (by simp only[List.length_map];(apply RF<;>trivial)),List.map_append]
theorem b2:hW (.int 2)=some (some 2):=rfl
inductive MP (c:Ca)(hp:HP)(g:Option (Nat×Option Int×Nat))(a b:Nat)(vl:List VD)(u:List Int)(s l w d5 t7 t8 x y:Option V):Prop
 |mk (hp':HP) (b':Nat) (h1:L4 c [s,some (.ref 4),l,w,some (.ref a),d5,some (.tup F0.goal),t7,t8,some (.ref b),x,y] hp=.ok (.next,[s,some (.ref 4),l,w,some (.ref a),d5,some (.tup (kQ g)),t7,t8,some (.ref b'),x,y]) hp') (h2:Ext hp hp') (h3:hp'[b']?=some (.list ((u++gL vl.length g).map .int)))
theorem Ro {c:Ca}(hc:c=ag N (k+1))(F:Fd hp st)(g:Option (Nat×Option Int×Nat))(hg:st.goal=gV g){a b:Nat}{vl:List VD}(h:iO hp a vl)(DR:vl.length≤1000){u:List Int}(h9:hp[b]?=some (.list (u.map .int)))(hu:u.length≤1000)(s l w d5 t7 t8 x y:Option V):MP c hp g a b vl u s l w d5 t7 t8 x y:=by
 have g1:=eB F.o4 .goal (v:=st.goal) rfl;rw[hg]at g1;subst hc;cases g with
 |none =>
  refine⟨hp,b,?_,Ext.refl,by rw[gL,List.append_nil];exact h9⟩;open_k with[L4,g1,gV,aX,bU,aY,aL,aM,aU]
 |some d =>
  obtain⟨kd,o,q⟩:=d;have e3:gX hp (.tup [.str (cA kd),eK o,.int q]) none (some 2)=.ok (.tup [.str (cA kd),eK o]) hp:=lX [.str (cA kd),eK o,.int q] none (some 2) (by show 3≤1000;decide) (by show 2<3;decide);have e1:bh hp (.tup [.str (cA kd),eK o]) (.int 1)=some (eK o):=bF (i:=1) rfl;have e2:bh hp (.tup [.str (cA kd),eK o,.int q]) (.int 2)=some (.int q):=bF (i:=2) rfl
  have no:gZ vl.length o=true->L4 (ag N (k+1)) [s,some (.ref 4),l,w,some (.ref a),d5,some (.tup F0.goal),t7,t8,some (.ref b),x,y] hp=.ok (.next,[s,some (.ref 4),l,w,some (.ref a),d5,some (.tup [.str (cA kd),eK o]),t7,t8,some (.ref (hp++[O.list (([]:List Int).map .int)]).length),x,y]) (hp++[.list (([]:List Int).map .int)]++[.list ((u++[]).map .int)]):=λok=>by
   have ad:=pS [] h9 hu (by decide);rw[List.map_nil]at ad;refine bC λnG=>?_;cases o with
   |none=>refine nG ?_;open_k with[L4,g1,gV,e3,e1,b2,bW,eK,ad,List.map_nil,aX,bU,aY,aL,aM,aU]
   |some i =>
    refine nG ?_;have ll:=len_list (N:=N) (k:=k) h (by rw[List.length_map];(apply aI<;>trivial));rw[List.length_map]at ll;simp only[gZ,inR,Bool.and_eq_true]at ok;open_k with[L4,g1,gV,e3,e1,b2,bW,eK,ll,ok.1,ok.2,ad,List.map_nil,aX,bU,aY,aL,aM,aU]
  have ye:gZ vl.length o=false->L4 (ag N (k+1)) [s,some (.ref 4),l,w,some (.ref a),d5,some (.tup F0.goal),t7,t8,some (.ref b),x,y] hp=.ok (.next,[s,some (.ref 4),l,w,some (.ref a),d5,some (.tup [.str (cA kd),eK o]),t7,t8,some (.ref (hp++[O.list ([(q:Int)].map .int)]).length),x,y]) (hp++[.list ([(q:Int)].map .int)]++[.list ((u++[(q:Int)]).map .int)]):=λok=>by
   have ad:=pS [(q:Int)] h9 hu (by show 1≤1000;decide);rw[List.map_cons,List.map_nil]at ad;cases o with
   |none=>cases ok
   |some i =>
    have ll:=len_list (N:=N) (k:=k) h (by rw[List.length_map];(apply aI<;>trivial));rw[List.length_map]at ll;have N1:(decide (0≤i)&&decide (i<(vl.length:Int)))=false:=ok;cases h0:decide (0≤i)with
    |false=>open_k with[L4,g1,gV,e3,e1,e2,b2,bW,eK,h0,ad,List.map_nil,List.map_cons,aX,bU,aY,aL,aM,aU]
    |true =>
     rw[h0,Bool.true_and]at N1;open_k with[L4,g1,gV,e3,e1,e2,b2,bW,eK,ll,h0,N1,ad,List.map_nil,List.map_cons,aX,bU,aY,aL,aM,aU]
  cases ok:gZ vl.length o with
  |true=>exact⟨_,_,no ok,(Ext.new _).trans (Ext.new _),by rw[gL,if_pos ok];exact bK _ _⟩
  |false=>exact⟨_,_,ye ok,(Ext.new _).trans (Ext.new _),by rw[gL,if_neg (by rw[ok];decide)];exact bK _ _⟩
def WE (c:Ca)(N:Nat):Ex:=cp N (cw (aq (bO (aa 1) .shown) (xC (.int 1)))) [none,none,some 4] (.one 1) (aS true [(cV (ai (xC (.int 0)) [(.le,(aa 1)),(.lt,(aD c (xC (bi "len")) [(aa 2)]))]))]) (aa 1)
def L5 (c:Ca)(N:Nat):Sx:=(bc (ai (bO (aa 1) .shown) [(.gO,(xC .none))]) [(aR 7 (aq (bO (aa 1) .shown) (xC (.int 0)))),
 (aR 9 (bw .Add (aa 9) (ig (ai (WE c N) [(.ne,(cm []))]) (cm [(aq (bO (aa 1) .shown) (xC (.int 2)))]) (cm []))))] [])
inductive JY (c:Ca)(N:Nat)(hp:HP)(sh:Option (Nat×Int×Int×Nat×Nat))(a b:Nat)(vl:List VD)(u:List Int)(s l w d5 t6 t8 x y:Option V):Prop
 |mk (hp':HP) (b':Nat) (h1:L5 c N [s,some (.ref 4),l,w,some (.ref a),d5,t6,some (.tup []),t8,some (.ref b),x,y] hp=.ok (.next,[s,some (.ref 4),l,w,some (.ref a),d5,t6,some (.tup (i7 sh)),t8,some (.ref b'),x,y]) hp') (h2:Ext hp hp') (h3:hp'[b']?=some (.list ((u++sL vl.length sh).map .int)))
theorem MQ {c:Ca}(hc:c=ag N (k+1))(F:Fd hp st)(sh:Option (Nat×Int×Int×Nat×Nat))(hs:st.shown=sV sh)(ha:∀d,sh=some d->hp[d.2.2.2.2]?=some (.list [.int d.2.1,.int d.2.2.1])){a b:Nat}{vl:List VD}(h:iO hp a vl)(DR:vl.length≤1000){u:List Int}(h9:hp[b]?=some (.list (u.map .int)))(hu:u.length≤1000)(hN:20≤N)(s l w d5 t6 t8 x y:Option V):JY c N hp sh a b vl u s l w d5 t6 t8 x y:=by
 have g1:=eB F.o4 .shown (v:=st.shown) rfl;rw[hs]at g1;cases sh with
 |none =>
  refine⟨hp,b,?_,Ext.refl,by rw[sL,List.append_nil];exact h9⟩;open_k with[L5,g1,sV,aX,bU,aY,aL,aM,aU]
 |some d =>
  obtain⟨kd,o,o',q,z⟩:=d;have hz:hp[z]?=some (.list ([o,o'].map .int)):=ha _ rfl;have e0 (hp:HP):bh hp (.tup [.tup (bN kd o o'),.ref z,.int q]) (.int 0)=some (.tup (bN kd o o')):=bF (i:=0) rfl;have e1 (hp:HP):bh hp (.tup [.tup (bN kd o o'),.ref z,.int q]) (.int 1)=some (.ref z):=bF (i:=1) rfl;have e2 (hp:HP):bh hp (.tup [.tup (bN kd o o'),.ref z,.int q]) (.int 2)=some (.int q):=bF (i:=2) rfl
  obtain⟨ay,o1,x1⟩:=BR (N:=N) (k:=k) hc h DR [o,o'] (by show 2<N;(apply bR<;>trivial)) (by show 2≤1000;decide) (i:=cw (aq (bO (aa 1) .shown) (xC (.int 1)))) (it:=.lst z 0) (loc:=[s,some (.ref 4),l,w,some (.ref a),d5,t6,some (.tup (bN kd o o')),t8,some (.ref b),x,y]) (by
   open_k with[gS,g1,sV,e1,wb hz,aX,bU,aY,aL,aM,aU]) (zL hz) 4 rfl
  have ZO:WE c N [s,some (.ref 4),l,w,some (.ref a),d5,t6,some (.tup (bN kd o o')),t8,some (.ref b),x,y] hp=.ok (.ref ay.length) (ay++[.list (([o,o'].filter λi=>!inR vl.length i).map .int)]):=o1;have gn:=we (hp:=ay++[.list (([o,o'].filter λi=>!inR vl.length i).map .int)]++[.list []]) (a:=ay.length) (b:=(ay++[O.list (([o,o'].filter λi=>!inR vl.length i).map .int)]).length) ((Ext.new _).at (bK _ _)) (bK _ _) (sQ _);rw[List.isEmpty_map,pT]at gn;generalize Oy:(ay++[O.list (([o,o'].filter λi=>!inR vl.length i).map .int)]++[O.list []])=aN at gn;have x2:Ext hp aN:=by rw[<- Oy];exact(x1.trans (Ext.new _)).trans (Ext.new _)
  have g2:zS aN (.ref 4) .shown=.ok (sV (some (kd,o,o',q,z))) aN:=eB (x2.at F.o4) .shown (by rw[<- hs];rfl);cases ok:[o,o'].all (inR vl.length)with
  |true =>
   have ad:=pS (hp:=aN) [] (x2.at h9) hu (by decide);rw[List.map_nil]at ad;rw[ok]at gn;refine⟨aN++[.list []]++[.list ((u++[]).map .int)],(aN++[O.list []]).length,?_,(x2.trans (Ext.new _)).trans (Ext.new _),by rw[sL,if_pos ok];exact bK _ _⟩;open_k with[L5,g1,sV,e0,ZO,Oy,gn,ad,aX,bU,aY,aL,aM,aU]
  |false =>
   have ad:=pS (hp:=aN) [(q:Int)] (x2.at h9) hu (by show 1≤1000;decide);rw[List.map_cons,List.map_nil]at ad;rw[ok]at gn;refine⟨aN++[.list [.int q]]++[.list ((u++[(q:Int)]).map .int)],(aN++[O.list [.int q]]).length,?_,(x2.trans (Ext.new _)).trans (Ext.new _),by rw[sL,if_neg (by rw[ok];decide)];exact bK _ _⟩;open_k with[L5,g1,sV,e0,ZO,Oy,gn,g2,e2,ad,aX,bU,aY,aL,aM,aU]
def L6:Sx:=(bc (aS true [(ai (aa 5) [(.lt,(xC (.int 0)))]),(ai (aa 9) [(.ne,(cm []))])]) [(aR 5 (aq (aa 9) (xC (.int 0))))] [])
noncomputable def j4 (br:Int):List Int->Int
 |[]=>br
 |s::_=>if br<0 then s else br
theorem WG {b:Nat}{u:List Int}(br:Int)(h9:hp[b]?=some (.list (u.map .int)))(hu:u.length≤1000)(s f l w d4 t6 t7 t8 x y:Option V) :
  mD (L6 [s,f,l,w,d4,some (.int br),t6,t7,t8,some (.ref b),x,y]) (.next,[s,f,l,w,d4,some (.int (j4 br u)),t6,t7,t8,some (.ref b),x,y]) hp:=by
 have gn:=we (hp:=hp++[.list []]) (a:=b) (b:=hp.length) ((Ext.new _).at h9) (bK _ _) (sQ u);cases hb:decide (br<0)with
 |false =>
  refine⟨hp,?_,Ext.refl⟩;have:j4 br u=br:=by cases u with|nil=>rfl|cons i u=>rw[j4,if_neg (of_decide_eq_false hb)]
  open_k with[L6,hb,this]
 |true =>
  cases u with
  |nil =>
   refine⟨_,?_,Ext.new (.list [])⟩;simp only[List.map_nil,List.isEmpty_nil]at gn;open_k with[L6,hb,gn,j4]
  |cons i u =>
   refine⟨_,?_,Ext.new (.list [])⟩;simp only[List.map_cons,List.isEmpty_cons]at gn;have e1:bh (hp++[O.list []]) (.ref b) (.int (0:Nat))=some (.int i):=sO ((Ext.new _).at h9) rfl (by decide);have fV:bh (hp++[O.list []]) (.ref b) (.int 0)=some (.int i):=e1;open_k with[L6,hb,gn,fV,j4,if_pos (of_decide_eq_true hb)]
end
section
variable {N k n L m:Nat}{hp hp':HP}{T:List Nat}{st:FS}{r:Rec}
def L1 (N:Nat):Sx:=(eH [4,5,6,7] (ao [Ox N,(bO (aa 1) .iy),(ao [(xS "satisfy"),(xC .none)]),(ao [])]))
def j5 (r:Rec):List Int:=((r.tl.filter λd=>!d.right r.vl).map λd=>(d.s:Int))++gL r.vl.length r.g++sL r.vl.length r.sh
theorem Ext.fd (e:Ext hp hp')(F:Fd hp st):Fd hp' st:=by obtain⟨l,rfl⟩:=e;exact F.app l
theorem Yo (m:Nat)(g:Option (Nat×Option Int×Nat)):(gL m g).length≤1:=by
 cases g with
 |none=>exact Nat.zero_le 1
 |some d=>rw[gL];split<;>simp
inductive WH (c:Ca)(N:Nat)(hp:HP)(st:FS)(r:Rec)(s l w:Option V):Prop
 |mk (hp':HP) (a4 a8 a9:Nat) (h1:aF [L1 N,aR 8 (wc N),aR 9 (rg c N),L4 c,L5 c N,L6] [s,some (.ref 4),l,w,none,none,none,none,none,none,none,none] hp=.ok (.next,[s,some (.ref 4),l,w,some (.ref a4),some (.int (j4 st.br (j5 r))),some (.tup (kQ r.g)),some (.tup (i7 r.sh)),some (.ref a8),some (.ref a9),none,none]) hp') (h2:Ext hp hp') (h3:hp'[a8]?=some (.list (r.tl.map TD.v)))
theorem Yp {c:Ca}(hc:c=ag N (k+2))(F:Fd hp st)(R:eC hp st r)(hN:200≤N)(s l w:Option V):WH c N hp st r s l w:=by
 have lv:=R.lv;have lt:=R.lt;refine bC λnG=>?_;obtain⟨ay,e1,x1⟩:=WD F R.hv lv hN s [l,w,none,none,none,none,none,none,none,none];refine nG ?_;have y1:=x1.trans (Ext.new (.list (r.vl.map λd=>V.tup (d.2.map pv))));have h1:iO (ay++[.list (r.vl.map λd=>V.tup (d.2.map pv))]) ay.length r.vl:=bK _ _;generalize ay++[O.list (r.vl.map λd=>V.tup (d.2.map pv))]=hq1 at e1 y1 h1;generalize ay.length=a4 at e1 h1;refine bC λnG=>?_;obtain⟨aN,e2,x2⟩:=Rm (y1.fd F) R.ht lt hN s [l,w,some (.ref a4),some (.int st.br),some (.tup F0.goal),some (.tup []),none,none,none,none];refine nG ?_;have y2:=x2.trans (Ext.new (.list (r.tl.map TD.v)));have h2:(aN++[.list (r.tl.map TD.v)])[aN.length]?=some (.list (r.tl.map TD.v)):=bK _ _;generalize aN++[O.list (r.tl.map TD.v)]=Oy at e2 y2 h2;generalize aN.length=a8 at e2 h2;have z2:=y1.trans y2;refine bC λnG=>?_;obtain⟨bL,e3,x3⟩:=Rn hc (z2.fd F) (y2.at h1) (by apply aI<;>trivial) (λd h=>(R.dm d h).1) R.ht lt hN s l w [some (.int st.br),some (.tup F0.goal),some (.tup []),some (.ref a8),none,none,none];refine nG ?_
 have hu:(((r.tl.filter λd=>!d.right r.vl).map λd=>(d.s:Int))).length≤100:=by
  rw[List.length_map];exact Nat.le_trans (List.length_filter_le _ _) lt
 have hl:j5 r=((r.tl.filter λd=>!d.right r.vl).map λd=>(d.s:Int))++gL r.vl.length r.g++sL r.vl.length r.sh:=rfl;generalize ((r.tl.filter λd=>!d.right r.vl).map λd=>(d.s:Int))=u at e3 hu hl;have y3:=x3.trans (Ext.new (.list (u.map V.int)));have h3:(bL++[.list (u.map V.int)])[bL.length]?=some (.list (u.map V.int)):=bK _ _;generalize bL++[O.list (u.map V.int)]=hq3 at e3 y3 h3;generalize bL.length=b3 at e3 h3;have z3:=z2.trans y3;refine bC λnG=>?_;obtain⟨lg,b4,e4,y4,h4⟩:=Ro (k:=k+1) hc (z3.fd F) r.g R.hg ((y2.trans y3).at h1) (by apply aI<;>trivial) h3 (by apply aI<;>trivial) s l w (some (.int st.br)) (some (.tup [])) (some (.ref a8)) none none;have z4:=z3.trans y4;have hg:=Yo r.vl.length r.g;obtain⟨JL,b5,e5,y5,h5⟩:=MQ (k:=k+1) hc (z4.fd F) r.sh R.hs (λd hd=>z4.at (R.ha d hd).2) (((y2.trans y3).trans y4).at h1) (by apply aI<;>trivial) h4 (by simp only[List.length_append];(apply RF<;>trivial)) (by apply bR<;>trivial) s l w (some (.int st.br)) (some (.tup (kQ r.g))) (some (.ref a8)) none none;rw[<- hl]at h5
 have hs:(j5 r).length≤1000:=by
  rw[hl]
  have:(sL r.vl.length r.sh).length≤1:=by
   cases r.sh with
   |none=>exact Nat.zero_le 1
   |some d=>rw[sL];split<;>simp
  simp only[List.length_append];(apply WS<;>trivial)
 obtain⟨ZJ,e6,y6⟩:=WG st.br h5 hs s (some (.ref 4)) l w (some (.ref a4)) (some (.tup (kQ r.g))) (some (.tup (i7 r.sh))) (some (.ref a8)) none none;refine nG ?_;refine⟨ZJ,a4,a8,b5,?_,(z4.trans y5).trans y6,(((y3.trans y4).trans y5).trans y6).at h2⟩;have g1:=eB (y1.fd F).o4 .iy (v:=.int st.br) rfl
 have e0:L1 N [s,some (.ref 4),l,w,none,none,none,none,none,none,none,none] hp=.ok (.next,[s,some (.ref 4),l,w,some (.ref a4),some (.int st.br),some (.tup F0.goal),some (.tup []),none,none,none,none]) hq1:=by
  open_k with[L1,e1,g1,aX,bU,aY,aL,aM,aU];rfl
 simp only[n3,qO,qP,qN,rZ,qM,e0,e2,e3,e4,e5,e6,jd,List.set_cons_zero,List.set_cons_succ]
theorem MR (r:Rec)(gs ss:Int)(hg:∀d,r.g=some d->gs=d.2.2)(hs:∀d,r.sh=some d->ss=d.2.2.2.1) :
  rh r.vl r.tl (r.g.bind λd=>d.2.1) gs (r.sh.map λd=>(d.1,d.2.1,d.2.2.1)) ss=match j5 r with
   |[]=>some (.ok ())
   |s::_=>some (.error s):=by
 have ht:∀tl:List TD,(oh r.vl tl)=match ((tl.filter λd=>!d.right r.vl).map λd=>(d.s:Int))with
   |[]=>some (.ok ())
   |s::_=>some (.error s):=by
  intro tl
  induction tl with
  |nil=>rfl
  |cons d tl ih =>
   rw[oh,List.filter_cons];cases h:d.right r.vl with
   |true=>exact ih
   |false=>rfl
 rw[rh,ht,j5];cases ((r.tl.filter λd=>!d.right r.vl).map λd=>(d.s:Int))with
 |cons s u=>rfl
 |nil =>
  have h1:gZ r.vl.length (r.g.bind λd=>d.2.1)=(gL r.vl.length r.g).isEmpty∧∀s u,gL r.vl.length r.g=s::u->gs=s:=by
   cases hr:r.g with
   |none=>exact⟨rfl,λs u e=>by cases e⟩
   |some d =>
    have hgd:=hg d hr;show gZ r.vl.length d.2.1=_∧_;rw[gL];cases gZ r.vl.length d.2.1 with
    |true=>exact⟨rfl,λs u e=>by cases e⟩
    |false=>exact⟨rfl,λs u e=>by cases e;exact hgd⟩
  have h2:BD r.vl.length (r.sh.map λd=>(d.1,d.2.1,d.2.2.1))=(sL r.vl.length r.sh).isEmpty∧∀s u,sL r.vl.length r.sh=s::u->ss=s:=by
   cases hr:r.sh with
   |none=>exact⟨rfl,λs u e=>by cases e⟩
   |some d =>
    have hsd:=hs d hr;show(inR r.vl.length d.2.1&&inR r.vl.length d.2.2.1)=_∧_;rw[sL,show[d.2.1,d.2.2.1].all (inR r.vl.length)=(inR r.vl.length d.2.1&&inR r.vl.length d.2.2.1)by simp];cases (inR r.vl.length d.2.1&&inR r.vl.length d.2.2.1)with
    |true=>exact⟨rfl,λs u e=>by cases e⟩
    |false=>exact⟨rfl,λs u e=>by cases e;exact hsd⟩
  simp only[ob,List.nil_append,h1.1,h2.1];cases hg':gL r.vl.length r.g with
  |cons s u=>simp only[List.isEmpty_cons,Bool.false_eq_true,if_false,List.cons_append,h1.2 s u hg']
  |nil =>
   cases tn:sL r.vl.length r.sh with
   |cons s u=>simp only[List.isEmpty_nil,if_true,List.isEmpty_cons,Bool.false_eq_true,if_false,List.nil_append,h2.2 s u tn]
   |nil=>rfl
end
section
variable {N k n L m:Nat}{hp hp':HP}{T:List Nat}{st:FS}{r:Rec}
theorem BU (c:Ca)(N:Nat):uY.map ((gu c N deep).st cy)=[hZ N (.one 2) (me (xF c 443 [(aa 1),(xC (.int 8))])) (BN c),L1 N,aR 8 (wc N),aR 9 (rg c N),L4 c,L5 c N,L6]:=by kernel_rfl
theorem G9 (c:Ca)(N:Nat)(a0:Addr)(l:List V):wM (gu c N deep) a0 l=aR 1 (lH [(.cells,nV cy a0 l),(.place,(xC (.int 0))),(.text,(xS "")),(.iy,(gN (xC (.int 1)))),(.vars,(cm [])),(.bY,(cm [])),(.goal,(xC .none)),(.shown,(xC .none))]):=by kernel_rfl
theorem BV (c:Ca)(N:Nat):(gu c N deep).ex cy fI=(ax c (xF c 434 [(bw .Add (bO (aa 1) .text) (xS "\n"))]) .model []):=by kernel_rfl
theorem BW (c:Ca)(N:Nat):(gu c N deep).ex cy qK=(gj true [(xB (ai (aa 5) [(.lt,(xC (.int 0)))])),(xB (ai (ao [(aH (aa 10) .vars),(aH (aa 10) .bY),(aH (aa 10) .goal),(aH (aa 10) .shown)]) [(.eq,(ao [(bO (aa 1) .vars),(aa 8),(aa 6),(aa 7)]))]))]):=by kernel_rfl
theorem Rp (a0:Addr):nW a0=[some (.fix (.ref a0)),none,none,none,none,none,none,none,none,none,none,none]:=by kernel_rfl
theorem Ha (a0:Addr)(loc:Loc)(hp:HP):gP cy "script" (some (.fix (.ref a0))::loc) hp=.ok (.fix (.ref a0)) hp:=by kernel_rfl
end
section
variable {N k n L m:Nat}{hp hp':HP}{T:List Nat}{st:FS}{r:Rec}
noncomputable def lE (zs:List Int):FS:=⟨zs,0,[],-1,[],[],.none,.none⟩
def iK (zs:List Int):HP:=[.list (zs.map V.int),.list (zs.map V.int),.list [],.list [],.dict (gE (lE zs))]
theorem fd0 (zs:List Int):Fd (iK zs) (lE zs):=⟨rfl,rfl,rfl,rfl⟩
theorem WI {l:List V}(h:l.length≤63):cut l none (some 63)=l:=by
 show(l.take 63).drop 0=l;rw[List.drop_zero,List.take_of_length_le h]
theorem Rq {l:List V}(h:l.length≤63)(a0:Addr)(loc:Loc):nV cy a0 l (some (.fix (.ref a0))::loc) []=.ok (.ref 1) [.list l,.list l]:=by
 have e:A8 cy a0 l (some (.fix (.ref a0))::loc) []=.ok (.ref 0) [.list l]:=by
  unfold A8;rw[Ha];show(if a0=a0 then _ else _)=_
  rw[if_pos rfl,WI h];rfl
 unfold nV;rw[e];show rI (okN l.length) _=_;exact eA (decide_eq_true (Nat.le_trans h (by rw[sizeLine_eq];decide)))
theorem WJ (c:Ca)(N:Nat)(a0:Addr)(zs:List Int)(h:zs.length≤63):wM (gu c N deep) a0 (zs.map V.int) (nW a0) []=.ok (.next,[some (.fix (.ref a0)),some (.ref 4),none,none,none,none,none,none,none,none,none,none]) (iK zs):=by
 rw[G9,Rp];open_k with[aR,lH,List.map_cons,List.map_nil,Rq (l:=zs.map V.int) (by rw[List.length_map];exact h) a0,aX,bU,aY,aL,aM,aU];rfl
theorem FF.ext (e:Ext hp hp'):FF hp hp':=by obtain⟨l,rfl⟩:=e;exact FF.app l
theorem Yq (zs:List Int):eC (iK zs) (lE zs) ⟨[],[],none,none⟩ :=
 ⟨rfl,rfl,rfl,rfl,λ_ h=>(by cases h),λ_ h=>(by cases h),by decide,by decide⟩
theorem WK (zs:List Int)(a0:Addr)(hz:zs.length≤63)(hN:200≤N):∃ay st r ts q l w a4 a8 a9,
  oV (gu (ag N 20) N deep) a0 (zs.map V.int) (nW a0) []=.ok (.next,[some (.fix (.ref a0)),some (.ref 4),l,w,some (.ref a4),some (.int (j4 st.br (j5 r))),some (.tup (kQ r.g)),some (.tup (i7 r.sh)),some (.ref a8),some (.ref a9),none,none]) ay ∧
   BZ ay st r ts q∧q≤7∧ay[a8]?=some (.list (r.tl.map TD.v)):=by
 have B0:eF (lE zs) 0:=⟨Nat.le_refl 0,Nat.le_trans hz (by decide),Nat.zero_le _,rfl⟩;refine bC λnG=>?_;obtain⟨ay,cJ,d,e1,hd,F1,f1,w1⟩:=j2 (N:=N) (k:=18) (fd0 zs) B0 (by decide) 8 (by decide);have fV:ag N 20 (.fix (.ref 443)) [.ref 4,.int 8] (iK zs)=_:=e1;have I:BZ ay cJ ⟨[],[],none,none⟩ [] 0:=⟨F1,(Yq zs).w f1 w1,w1.lx _ Lx.nil,w1.b _ B0,by decide,by decide,.inl ⟨w1.e2,λk x more=>by rw[Nat.zero_add];rfl⟩,λ_ _ _ e=>by cases e⟩;refine Ry (WA (N:=N) (k:=16) (by apply bR<;>trivial) (some (.fix (.ref a0))) [none,none,none,none,none,none,none,none] d N 0 ((List.range ((d:Nat):Int).toNat).map λ(k:Nat)=>V.int k) none none I (by simp) (by apply WW<;>trivial) (by apply Rz<;>trivial)) λaN cq r2 qX l2 w2 e2 I2=>?_;obtain⟨bL,a4,a8,a9,e3,x3,h8⟩:=Yp (N:=N) (k:=18) (c:=ag N 20) rfl I2.F I2.R hN (some (.fix (.ref a0))) l2 w2;refine nG ?_;refine⟨bL,cq,r2,qX,d,l2,w2,a4,a8,a9,?_,⟨x3.fd I2.F,⟨I2.R.hv,I2.R.ht,I2.R.hg,I2.R.hs,λd h=>⟨(I2.R.ha d h).1,x3.at (I2.R.ha d h).2⟩,I2.R.dm,I2.R.lv,I2.R.lt⟩,I2.lx,?_,?_,?_,?_,I2.hd⟩,by apply lF<;>trivial,h8⟩
 ·unfold oV;rw[WJ _ _ _ _ hz,jd,BU,n3];generalize [L1 N,aR 8 (wc N),aR 9 (rg (ag N 20) N),L4 (ag N 20),L5 (ag N 20) N,L6]=rest at e3 ⊢;have lD:cI (.one 2) (aF (BN (ag N 20))) N (.vals ((List.range ((d:Nat):Int).toNat).map λ(k:Nat)=>V.int k)) [some (.fix (.ref a0)),some (.ref 4),none,none,none,none,none,none,none,none,none,none] ay=_:=e2
  have hs:(decide (((d:Nat):Int)≤1000)&&dy ((d:Nat):Int))=true:=by
   rw[yh (by apply lF<;>trivial),Bool.and_true,decide_eq_true_eq];(apply RC<;>trivial)
  open_k with[ik,kz,fV,hs,lD,e3,aX,bU,aY,aL,aM,aU]
 ·simpa using I2.B
 ·simpa using I2.lv
 ·simpa using I2.lt
 ·simpa using I2.run
theorem gn {n:Nat}:∀v∈([]:List V),Gd n v:=λ_ h=>by cases h
theorem gc {n:Nat}{v:V}{vs:List V}(h:Gd n v)(g:∀v∈vs,Gd n v):∀u∈v::vs,Gd n u:=λu hu=>by
 rcases List.mem_cons.mp hu with rfl|hu
 ·exact h
 ·exact g u hu
theorem ic {s:String}{n:Nat}(h:aT (af s)=true):Gd n (.str (af s)):=BP h
theorem Rr (w:Nat)(x y:Int):Gd 6 (bl w x y):=match w with
 |0=>bX (gc (ic (by decide)) (gc (bX (gc (cj _) (gc (cj _) gn))) (gc (bX (gc (cj _) (gc (cj _) gn))) (gc (cj _) gn))))
 |1=>bX (gc (ic (by decide)) (gc (bX (gc (cj _) (gc (cj _) gn))) (gc (ic (by decide)) gn)))
 |2=>bX (gc (ic (by decide)) (gc (bX (gc (cj _) gn)) (gc (bX (gc (cj _) gn)) gn)))
 |3=>bX (gc (ic (by decide)) (gc (cj _) (gc (cj _) (gc (cj _) gn))))
 |4=>bX (gc (ic (by decide)) (gc (bX (gc (cj _) (gc (cj _) gn))) (gc (bX (gc (cj _) (gc (cj _) gn))) gn)))
 |5=>bX (gc (ic (by decide)) (gc (bX (gc (cj _) gn)) (gc (bX (gc (cj _) (gc (cj _) gn))) (gc (cj _) gn))))
 |_+6=>bX (gc (ic (s:="max") (by decide)) (gc (bX gn) (gc (cj _) gn)))
theorem MS (w:Nat)(x y:Int):∀v∈bN w x y,Gd 9 v:=match w with
 |0=>gc (bX (gc (ic (by decide)) (gc (cj _) gn))) (gc (bX (gc (ic (by decide)) (gc (ic (by decide)) gn))) (gc (bX (gc (ic (by decide)) (gc (cj _) gn))) gn))
 |1=>gc (bX (gc (ic (by decide)) (gc (bX (gc (bX (gc (ic (by decide)) (gc (cj _) gn))) (gc (bX (gc (ic (by decide)) (gc (cj _) gn))) gn))) gn))) gn
 |_+2=>gc (bX (gc (ic (s:="if") (by decide)) (gc (cj _) (gc (bX gn) (gc (bX (gc (bX (gc (ic (by decide)) (gc (cj _) gn))) gn)) gn))))) gn
theorem Rt (g:Option (Nat×Option Int×Nat)):oo 9 (kQ g):=by
 have ho:∀o:Option Int,Gd 9 (eK o):=λo=>by
  cases o with
  |none=>exact Ea
  |some x=>exact cj x
 cases g with
 |none=>exact jr (gc (ic (by decide)) (gc Ea gn))
 |some d =>
  refine jr (gc (BP ?_) (gc (ho d.2.1) gn))
  exact match d.1 with
   |0=>show aT (af "satisfy")=true by decide
   |1=>show aT (af "minimize")=true by decide
   |_+2=>show aT (af "maximize")=true by decide
theorem Ru {vl:List VD}(h:∀d∈vl,d.2.length≤10∧aT d.1=true):oo 9 (vl.map VD.v):=jr λv hv=>by
 refine aj (List.mem_map.mp hv) λd hd bH=>?_;subst bH
 exact bX (gc (BP (h d hd).2) (gc (bX (n:=7) λv hv=>by
  refine aj (List.mem_map.mp hv) λq _ bH=>?_;subst bH;exact G6 (Ou q) (by decide)) gn))
theorem Oz {u v w x:V}{a b c d:PyData}(h1:ma hp u=some a)(h2:ma hp v=some b)(h3:ma hp w=some c)(h4:ma hp x=some d):wd hp (.tup [u,v,w,x])=some (.tuple [a,b,c,d]):=by
 show oB (mc hp [u,v,w,x]) _=_;unfold mc;rw[h1,cz rfl];unfold mc;rw[h2,cz rfl];unfold mc;rw[h3,cz rfl];unfold mc;rw[h4];rfl
theorem zM {a:Nat}{l:List V}{d:List PyData}(h:hp[a]?=some (.list l))(e:fP l=some d):ma hp (.ref a)=some (.list d):=(cz (c9 h)).trans (cz e)
theorem zN {l:List V}{d:List PyData}(e:fP l=some d):ma hp (.tup l)=some (.tuple d):=by
 show g0 _=_;unfold g0;rw[e];rfl
theorem abd {a b a' b':Nat}{l m g s:List V}(h1:hp[a]?=some (.list l))(h2:hp[b]?=some (.list m))(h3:hp[a']?=some (.list l))(h4:hp[b']?=some (.list m))(gl:oo 9 l)(gm:oo 9 m)(gg:oo 9 g)(gs:oo 9 s) :
  dA .eq (.tup [.ref a,.ref b,.tup g,.tup s]) (.tup [.ref a',.ref b',.tup g,.tup s]) hp=some true:=by
 refine bC λnG=>?_;refine fi gl λdl l1 l2 l3 l4=>?_;refine fi gm λdm m1 m2 m3 m4=>?_;refine fi gg λdg g1 g2 g3 g4=>?_;refine fi gs λds s1 s2 s3 s4=>?_;refine nG ?_
 have hs:shaped (.tuple [.list dl,.list dm,.tuple dg,.tuple ds])=true:=by
  simp only[SeqAt.shaped,PyData.canLay0,PyData.canLayAll0,l2,m2,g2,s2,Bool.and_self,Bool.true_and,decide_eq_true_eq,PyData.depth,PyData.depthAll];refine decide_eq_true ?_;exact nv (m:=10) (Nat.max_le.mpr ⟨Nat.succ_le_succ l3,Nat.max_le.mpr ⟨Nat.succ_le_succ m3,Nat.max_le.mpr ⟨Nat.succ_le_succ g3,Nat.max_le.mpr ⟨Nat.succ_le_succ s3,Nat.zero_le _⟩⟩⟩⟩) rfl
 exact DB (Oz (zM h1 l1) (zM h2 m1) (zN g1) (zN s1)) (Oz (zM h3 l1) (zM h4 m1) (zN g1) (zN s1)) hs hs (by simp only[PyData.eqv,PyData.eqvAll,l4,m4,g4,s4,Bool.and_self])
theorem WL:∀r:Rec,r.F.goal=[(match r.g with|none=>V.str (af "satisfy")|some d=>.str (cA d.1)),eK (r.g.bind λd=>d.2.1)]
 |⟨_,_,none,_⟩=>rfl
 |⟨_,_,some _,_⟩=>rfl
theorem Rv:∀r:Rec,r.F.shown=Jz (r.sh.map λd=>(d.1,d.2.1,d.2.2.1))
 |⟨_,_,_,none⟩=>rfl
 |⟨_,_,_,some _⟩=>rfl
theorem WM (hN:50000≤N){ay:HP}{ts:TS}{q a4 a8 a9:Nat}(I:BZ ay st r ts q)(hq:q≤7)(h8:ay[a8]?=some (.list (r.tl.map TD.v)))(s l w:Option V) :
  ∃aN,oW (gu (ag N 20) N deep) [s,some (.ref 4),l,w,some (.ref a4),some (.int (j4 st.br (j5 r))),some (.tup (kQ r.g)),some (.tup (i7 r.sh)),some (.ref a8),some (.ref a9),none,none] ay=.ok (.bool true) aN:=by
 have hT:st.T.length≤42100:=Nat.le_trans I.B.t (by have:=I.B.p;lia);have HZ:(st.T++[10]).length≤42101:=by rw[List.length_append];show st.T.length+1≤_;(apply dh<;>trivial)
 have hC:aT (st.T++[10])=true:=l0 I.B.o (by decide);have tk:=Lx.end (N:=N) I.lx (by apply bR<;>trivial);have g1:=eB I.F.o4 .text (v:=.str st.T) rfl;have ad:=sC ay st.T [10] (by show st.T.length+1≤_;(apply dh<;>trivial));have e0:af "\n"=[10]:=sy;refine bC λnG=>?_
 obtain⟨t,b,iq,e1,ht,ok,p,nx,xG⟩:∃t b iq,ts++[(Tok.fin,st.T.length+1)]=(t,b)::iq∧t.g=[]∧j0 t=true∧∃p,Bo N (st.T++[10]) 0 t b p∧BY N (st.T++[10]) p iq:=by
  cases ts with
  |nil =>
   obtain⟨ok,p,nx,xG⟩:=tk;exact⟨_,_,_,rfl,rfl,ok,p,nx,xG⟩
  |cons x r =>
   obtain⟨ok,p,nx,xG⟩:=tk;exact⟨_,_,_,rfl,I.hd _ _ _ rfl,ok,p,nx,xG⟩
 refine dP (GR (N:=N) (k:=13) (hp:=ay) nx (by apply aI<;>trivial) hC (by apply ie<;>trivial) ht) λaN e2 x2 R2=>?_;refine nG ?_;have lD:ag N 20 (.fix (.ref 434)) [.str (st.T++[10])] ay=_:=e2;have rt:RT N aN ay.length (st.T++[10]) (ts++[(Tok.fin,st.T.length+1)]) F0:=⟨t,b,iq,p,e1,ok,R2,xG,by apply ie<;>trivial⟩;have em:dM aN (.ref ay.length) .model=some (.fix (.ref 431)):=R2.bA rfl rfl
 have et:∀(loc:Loc),loc[1]?=some (some (.ref 4))->(ax (ag N 20) (aD (ag N 20) (xC (.fix (.ref 434))) [(bw .Add (bO (aa 1) .text) (xS "\n"))]) .model []) loc ay=ag N 20 (.fix (.ref 431)) [.ref ay.length] aN:=λloc hl=>by
  open_k with[hl,g1,e0,ad,lD,em,aX,bU,aY,aL,aM,aU]
 have et:=et [s,some (.ref 4),l,w,some (.ref a4),some (.int (j4 st.br (j5 r))),some (.tup (kQ r.g)),some (.tup (i7 r.sh)),some (.ref a8),some (.ref a9),none,none] rfl;unfold oW;rw[BV,BW,rZ,et];refine bC λnG=>?_;rcases I.run with⟨br,run⟩|⟨s1,br,run⟩
 ·refine nG ?_;have run:=run 1 (Tok.fin,st.T.length+1) [];have run:kE (q+1) (ts++[(Tok.fin,st.T.length+1)]) F0=some (.ok ([(Tok.fin,st.T.length+1)],r.F)):=run
  have mp:=DS (k:=8) rt (by apply bR<;>trivial) (q+1) (by apply ie<;>trivial) (λ_=>rh r.vl r.tl (r.g.bind λd=>d.2.1) r.F.gs (r.sh.map λd=>(d.1,d.2.1,d.2.2.1)) r.F.ss) (λb hb=>by
   rw[run]at hb;cases hb
   refine⟨r.vl,r.tl,(match r.g with|none=>.str (af "satisfy")|some d=>.str (cA d.1)),(r.g.bind λd=>d.2.1),(r.sh.map λd=>(d.1,d.2.1,d.2.2.1)),by have:=I.lv;(apply RJ<;>trivial),λd h=>(I.R.dm d h).1,rfl,by have:=I.lt;(apply OD<;>trivial),rfl,rfl,WL r,Rv r,rfl⟩)
  have mp:Wq (ag N 20 (.fix (.ref 431)) [.ref ay.length] aN) _ _:=mp;rw[run,MR r r.F.gs r.F.ss (λd h=>by show(match r.g with|none=>(-1:Int)|some d=>d.2.2)=_;rw[h]) (λd h=>by show(match r.sh with|none=>(-1:Int)|some d=>d.2.2.2.1)=_;rw[h])]at mp
  cases hl:j5 r with
  |cons s1 u =>
   rw[hl]at mp;have mp:ag N 20 (.fix (.ref 431)) [.ref ay.length] aN=.gH s1:=mp;rw[mp,sg,br];exact⟨ay,by show R.ok (V.bool (s1==s1)) ay=_;rw[beq_self_eq_true]⟩
  |nil =>
   rw[hl]at mp;refine bC λnG=>?_;obtain⟨a,bL,e3,rfl,⟨t3,p3,q3,R3⟩,f3⟩:=mp;refine nG ?_;rw[e3,jd,br]
   have h2:bL[2]?=some (.list (r.vl.map VD.v)):=by
    have:=(f3.same 2 (.inl (by have:=I.F.len;(apply bR<;>trivial))) (by have:=I.F.len;have:=R2.lt;(apply bR<;>trivial))).trans (x2.at I.F.o2);rw[I.R.hv]at this;exact this
   have h8':bL[a8]?=some (.list (r.tl.map TD.v)):=by
    have iD:=(List.getElem?_eq_some_iff.mp h8).1;exact(f3.same a8 (.inl iD) (by have:=R2.lt;(apply WT<;>trivial))).trans (x2.at h8)
   have h4:bL[4]?=some (.dict (gE st)):=(f3.same 4 (.inl (by have:=I.F.len;assumption)) (by have:=I.F.len;have:=R2.lt;(apply bR<;>trivial))).trans (x2.at I.F.o4);have g4:=eB h4 .vars (v:=.ref 2) rfl
   have hs:oo 9 (i7 r.sh):=by
    cases r.sh with
    |none=>exact jr gn
    |some d=>exact jr (MS _ _ _)
   have eq:=abd (g:=kQ r.g) (s:=i7 r.sh) R3.o6 R3.o7 h2 h8' (Ru I.R.dm) (jr λv hv=>by
    refine aj (List.mem_map.mp hv) λd _ bH=>?_;subst bH;exact G6 (Rr _ _ _) (by decide)) (Rt _) hs
   refine⟨bL,?_⟩;have hg:ew bL (.ref (ay.length+4)) .goal=some (.tup (kQ r.g)):=R3.zw;have gB:ew bL (.ref (ay.length+4)) .shown=some (.tup (i7 r.sh)):=R3.Bk;open_k with[j4,show decide ((-1:Int)<0)=true from rfl,R3.fvars,R3.Bj,hg,gB,g4,eq,aX,bU,aY,aL,aM,aU]
 ·refine nG ?_;have run:=run 1 (Tok.fin,st.T.length+1) [];have mp:=DS (k:=8) rt (by apply bR<;>trivial) (q+1) (by apply ie<;>trivial) (λ_=>none) (λb hb=>by rw[run]at hb;cases hb)
  have mp:Wq (ag N 20 (.fix (.ref 431)) [.ref ay.length] aN) _ _:=mp;rw[run]at mp;have mp:ag N 20 (.fix (.ref 431)) [.ref ay.length] aN=.gH (s1:Int):=mp
  have hd:j4 st.br (j5 r)=(s1:Int):=by
   rw[br];cases j5 r with
   |nil=>rfl
   |cons x u =>
    show(if(s1:Int)<0 then x else(s1:Int))=s1
    exact if_neg (by apply zR<;>trivial)
  rw[mp,sg,hd];exact⟨ay,by show R.ok (V.bool ((s1:Int)==(s1:Int))) ay=_;rw[beq_self_eq_true]⟩
theorem ZP (zs:List Int)(a0:Addr)(hz:zs.length≤63):∃N jc ay aN,oV (gu (ag N 20) N deep) a0 (zs.map V.int) (nW a0) []=.ok (.next,jc) ay∧oW (gu (ag N 20) N deep) jc ay=.ok (.bool true) aN:=by
 refine bC λnG=>?_;obtain⟨N,hN⟩:∃N:Nat,50000≤N:=⟨50000,Nat.le_refl _⟩;obtain⟨ay,st,r,ts,q,l,w,a4,a8,a9,e1,I,hq,h8⟩:=WK (N:=N) zs a0 hz (by apply bR<;>trivial);refine aQ (WM hN I hq h8 (some (.fix (.ref a0))) l w (a4:=a4) (a9:=a9)) λaN e2=>?_;refine nG ?_;exact⟨N,_,ay,aN,e1,e2⟩
end
end
end Mine.Internal
theorem PySem.Challenge.cw_pq0375_01_holds : PySem.Challenge.rw_pq0375_01.Holds :=
  Mine.Internal.Zp Mine.Internal.ZP
